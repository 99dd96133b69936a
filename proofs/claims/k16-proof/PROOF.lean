import PyProof.Rows.All
import Wide.All
import OpenK.AllK
import Wide.FinOn
import HandS.ForMost
import HandS.Exc
import HandS.TryOnly
import HandS.ExcOwn
import HandS.Wide
import HandS.Gcd
import HandS.TupAny
import HandS.Deep
import HandS.Zip
import HandS.More
import KE.SortData
import KE.KDictCopyH
import HandS.DictComp
import HandS.Star
import PySem.Challenge.RW_termmaps_k16_points_and_planes
set_option Elab.async false
set_option linter.all false
set_option maxRecDepth 100000
set_option maxHeartbeats 4000000
/-! L3: data without addresses, over the hand layer -/
namespace L3
open PySem PySem.Spec PyProof.Rows L2

/-- what a value is, without addresses; pen: the one list that draws -/
inductive D where
  | non | bl (b : Bool) | int (i : Int) | str (x : Str) | ty (n : String) | pen
  | lst (xs : List D) | tup (xs : List D)
  | dT (kvs : List (List Key × D))
  | exc (C : Addr) (fs : List (Str × D))

mutual
/-- plain data; what is none has a dict in it -/
def D.py : D → PyData
  | .non => .none
  | .bl b => .bool b
  | .int i => .int i
  | .str x => .str x
  | .lst xs => .list (pyA xs)
  | .tup xs => .tuple (pyA xs)
  | .ty _ => .dict []
  | .pen => .dict []
  | .dT _ => .dict []
  | .exc _ _ => .dict []
def pyA : List D → List PyData
  | [] => []
  | d :: r => d.py :: pyA r
end

mutual
/-- v is d over the heap H -/
inductive Rep (pn : Option Addr) (H : Hp) : V → D → Prop
  | non : Rep pn H .non .non
  | bl (b : Bool) : Rep pn H (.bl b) (.bl b)
  | int (i : Int) : Rep pn H (.int i) (.int i)
  | str (x : Str) : Rep pn H (.str x) (.str x)
  | ty (n : String) : Rep pn H (.ty n) (.ty n)
  | pen {p : Addr} : pn = some p → Rep pn H (.ref p) .pen
  | lst {a : Addr} {vs : List V} {ds : List D} : H a = some (.lst vs) → RepA pn H vs ds → Rep pn H (.ref a) (.lst ds)
  | tup {a : Addr} {vs : List V} {ds : List D} : H a = some (.tup vs) → RepA pn H vs ds → Rep pn H (.ref a) (.tup ds)
  | dT {a : Addr} {kvs : List (List Key × V)} {kds : List (List Key × D)} : H a = some (.dT kvs) → RepK pn H kvs kds → Rep pn H (.ref a) (.dT kds)
inductive RepA (pn : Option Addr) (H : Hp) : List V → List D → Prop
  | nil : RepA pn H [] []
  | cons {v : V} {vs : List V} {d : D} {ds : List D} : Rep pn H v d → RepA pn H vs ds → RepA pn H (v :: vs) (d :: ds)
inductive RepK (pn : Option Addr) (H : Hp) : List (List Key × V) → List (List Key × D) → Prop
  | nil : RepK pn H [] []
  | cons {k : List Key} {v : V} {vs : List (List Key × V)} {d : D} {ds : List (List Key × D)} : Rep pn H v d → RepK pn H vs ds → RepK pn H ((k, v) :: vs) ((k, d) :: ds)
end

section
variable {pn : Option Addr} {H H' : Hp}
mutual
theorem Rep.mono (e : Same H H') : ∀ {v : V} {d : D}, Rep pn H v d → Rep pn H' v d
  | _, _, .non => .non
  | _, _, .bl b => .bl b
  | _, _, .int i => .int i
  | _, _, .str x => .str x
  | _, _, .ty n => .ty n
  | _, _, .pen h => .pen h
  | _, _, .lst h r => .lst (e _ _ h) (RepA.mono e r)
  | _, _, .tup h r => .tup (e _ _ h) (RepA.mono e r)
  | _, _, .dT h r => .dT (e _ _ h) (RepK.mono e r)
theorem RepA.mono (e : Same H H') : ∀ {v : List V} {d : List D}, RepA pn H v d → RepA pn H' v d
  | _, _, .nil => .nil
  | _, _, .cons h r => .cons (Rep.mono e h) (RepA.mono e r)
theorem RepK.mono (e : Same H H') : ∀ {v : List (List Key × V)} {d : List (List Key × D)}, RepK pn H v d → RepK pn H' v d
  | _, _, .nil => .nil
  | _, _, .cons h r => .cons (Rep.mono e h) (RepK.mono e r)
end

theorem RepA.length : ∀ {vs : List V} {ds : List D}, RepA pn H vs ds → vs.length = ds.length
  | _, _, .nil => rfl
  | _, _, .cons _ r => by rw [List.length_cons, List.length_cons, r.length]
theorem RepA.get : ∀ {vs : List V} {ds : List D}, RepA pn H vs ds → ∀ {i : Nat} {d : D}, ds[i]? = some d → ∃ v, vs[i]? = some v ∧ Rep pn H v d
  | _, _, .nil, _, _, e => by simp at e
  | _, _, .cons h _, 0, _, e => by simp at e; subst e; exact ⟨_, rfl, h⟩
  | _, _, .cons _ r, i + 1, d, e => by
    obtain ⟨v, h1, h2⟩ := r.get (i := i) (d := d) (by simpa using e)
    exact ⟨v, by simpa using h1, h2⟩
theorem RepA.getV : ∀ {vs : List V} {ds : List D}, RepA pn H vs ds → ∀ {i : Nat} {v : V}, vs[i]? = some v → ∃ d, ds[i]? = some d ∧ Rep pn H v d
  | _, _, .nil, _, _, e => by simp at e
  | _, _, .cons h _, 0, _, e => by simp at e; subst e; exact ⟨_, rfl, h⟩
  | _, _, .cons _ r, i + 1, d, e => by
    obtain ⟨v, h1, h2⟩ := r.getV (i := i) (v := d) (by simpa using e)
    exact ⟨v, by simpa using h1, h2⟩
theorem RepA.append : ∀ {vs ws : List V} {ds es : List D}, RepA pn H vs ds → RepA pn H ws es → RepA pn H (vs ++ ws) (ds ++ es)
  | _, _, _, _, .nil, q => q
  | _, _, _, _, .cons h r, q => .cons h (r.append q)
theorem RepA.take : ∀ {vs : List V} {ds : List D} (n : Nat), RepA pn H vs ds → RepA pn H (vs.take n) (ds.take n)
  | _, _, 0, _ => .nil
  | _, _, _ + 1, .nil => .nil
  | _, _, n + 1, .cons h r => .cons h (r.take n)
theorem RepA.drop : ∀ {vs : List V} {ds : List D} (n : Nat), RepA pn H vs ds → RepA pn H (vs.drop n) (ds.drop n)
  | _, _, 0, r => r
  | _, _, _ + 1, .nil => .nil
  | _, _, n + 1, .cons _ r => r.drop n
theorem RepA.erase : ∀ {vs : List V} {ds : List D} (n : Nat), RepA pn H vs ds → RepA pn H (vs.eraseIdx n) (ds.eraseIdx n)
  | _, _, _, .nil => .nil
  | _, _, 0, .cons _ r => r
  | _, _, n + 1, .cons h r => .cons h (r.erase n)
theorem RepA.setI {v : V} {d : D} (q : Rep pn H v d) : ∀ {vs : List V} {ds : List D} (n : Nat), RepA pn H vs ds → RepA pn H (vs.set n v) (ds.set n d)
  | _, _, _, .nil => .nil
  | _, _, 0, .cons _ r => .cons q r
  | _, _, n + 1, .cons h r => .cons h (r.setI q n)
theorem RepA.rep {vs : List V} {ds : List D} (r : RepA pn H vs ds) : ∀ n : Nat, RepA pn H (List.replicate n vs).flatten (List.replicate n ds).flatten
  | 0 => .nil
  | n + 1 => by
    rw [List.replicate_succ, List.replicate_succ, List.flatten_cons, List.flatten_cons]
    exact r.append (r.rep n)
theorem RepA.ints : ∀ (ns : List Int), RepA pn H (ns.map V.int) (ns.map D.int)
  | [] => .nil
  | n :: r => .cons (.int n) (RepA.ints r)
theorem RepA.ints_of : ∀ {ns : List Int} {vs : List V}, RepA pn H vs (ns.map D.int) → vs = ns.map V.int
  | [], _, .nil => rfl
  | n :: r, _, .cons h q => by
    cases h
    rw [List.map_cons, RepA.ints_of q]
theorem RepA.bls_of : ∀ {ns : List Bool} {vs : List V}, RepA pn H vs (ns.map D.bl) → vs = ns.map V.bl
  | [], _, .nil => rfl
  | n :: r, _, .cons h q => by
    cases h
    rw [List.map_cons, RepA.bls_of q]
theorem RepA.strs_of : ∀ {ns : List Str} {vs : List V}, RepA pn H vs (ns.map D.str) → vs = ns.map V.str
  | [], _, .nil => rfl
  | n :: r, _, .cons h q => by
    cases h
    rw [List.map_cons, RepA.strs_of q]
/-- plain data, told to the layer below -/
theorem canLay_list {xs : List PyData} (h : (PyData.list xs).canLay0 = true) : PyData.canLayAll0 xs = true := by simpa [PyData.canLay0] using h
theorem canLay_tuple {xs : List PyData} (h : (PyData.tuple xs).canLay0 = true) : PyData.canLayAll0 xs = true := by simpa [PyData.canLay0] using h
theorem canLay_dict {kvs : List (PyData × PyData)} (h : (PyData.dict kvs).canLay0 = true) : False := by simp [PyData.canLay0] at h
theorem canLay_cons {x : PyData} {xs : List PyData} (h : PyData.canLayAll0 (x :: xs) = true) : x.canLay0 = true ∧ PyData.canLayAll0 xs = true := by simpa [PyData.canLayAll0] using h
variable {K : PySem.W.Frag}
mutual
theorem Rep.dp : ∀ {v : V} {d : D}, Rep pn H v d → d.py.canLay0 = true → Dp K H v d.py
  | _, _, .non, _ => .non
  | _, _, .bl b, _ => .bl b
  | _, _, .int i, _ => .int i
  | _, _, .str x, _ => .str x
  | _, _, .ty n, h => (canLay_dict h).elim
  | _, _, .pen _, h => (canLay_dict h).elim
  | _, _, .lst h r, q => .lst (SqL.of h) (RepA.dp r (canLay_list q))
  | _, _, .tup h r, q => .tup (SqT.of h) (RepA.dp r (canLay_tuple q))
  | _, _, .dT h r, q => (canLay_dict q).elim
theorem RepA.dp : ∀ {v : List V} {d : List D}, RepA pn H v d → PyData.canLayAll0 (pyA d) = true → DpAll K H v (pyA d)
  | _, _, .nil, _ => .nil
  | _, _, .cons h r, q => .cons (Rep.dp h (canLay_cons q).1) (RepA.dp r (canLay_cons q).2)
end
end

/-! ### what a frame knows -/
/-- a name: nothing known | a datum | a list or dict of the frame's own, not shared -/
inductive Slot where
  | un | val (d : D) | own (d : D)
structure Env3 where
  sl : List Slot
  T : Nat
/-- the entry: all that is tracked, the known data, the pen -/
structure Ent where
  Hf : Hp
  H0 : Hp
  pn : Option Addr
  ad : Option Addr := none
def Own (pn : Option Addr) (H0 H : Hp) (l : Addr) : D → Prop
  | .lst ds => ∃ vs, H l = some (.lst vs) ∧ RepA pn H0 vs ds
  | .dT kds => ∃ kvs, H l = some (.dT kvs) ∧ RepK pn H0 kvs kds
  | _ => False
def SlotOk (G : Ent) (H0 H : Hp) : Option Slot → Option (Option V) → Prop
  | some (.val d), v => ∃ x, v = some (some x) ∧ Rep G.pn H0 x d
  | some (.own d), v => ∃ l, v = some (some (.ref l)) ∧ Own G.pn H0 H l d ∧ H0 l = none ∧ G.Hf l = none ∧ G.pn ≠ some l
  | _, _ => True
def PenAt (H0 H : Hp) (T : Nat) (p : Addr) : Prop :=
  H0 p = none ∧ ∃ (c : Addr) (cs : List Int) (t r : Int), H p = some (.lst [.ref c, .int t, .int r]) ∧ H0 c = some (.lst (cs.map V.int)) ∧ cs.length ≤ 63 ∧ 0 ≤ t ∧ t ≤ (T : Int) ∧ 0 ≤ r
def OwnS (ρ : Env3) (σ : L2.St) (i : Nat) (l : Addr) : Prop := (∃ d, ρ.sl[i]? = some (.own d)) ∧ σ[i]? = some (some (.ref l))
/-- where the first name's own list stands, if that is said -/
def Fix (G : Ent) (ρ : Env3) (σ : L2.St) : Prop := ∀ l, G.ad = some l → (∃ d, ρ.sl[0]? = some (.own d)) → σ[0]? = some (some (.ref l))
structure Rel (G : Ent) (H0 : Hp) (ρ : Env3) (σ : L2.St) (H : Hp) : Prop where
  ex : Same H0 H
  ex0 : Same G.H0 H0
  keep : ∀ a o, G.Hf a = some o → G.pn ≠ some a → H a = some o
  new : ∀ a o, H0 a = some o → (∃ u, G.H0 a = some u) ∨ G.Hf a = none ∨ ∃ xs, o = .tup xs
  len : σ.length = ρ.sl.length
  slot : ∀ i : Nat, SlotOk G H0 H ρ.sl[i]? σ[i]?
  own : ∀ (i j : Nat) (l : Addr), OwnS ρ σ i l → OwnS ρ σ j l → i = j
  pen : ∀ p, G.pn = some p → PenAt H0 H ρ.T p
  fix : Fix G ρ σ

def Env3.put (ρ : Env3) (i : Nat) (s : Slot) : Env3 := ⟨ρ.sl.set i s, ρ.T⟩
/-- a name read as a datum: what was the frame's own is shared from now on -/
def Env3.rd (ρ : Env3) (i : Nat) : Option (D × Env3) :=
  match ρ.sl[i]? with
  | some (.val d) => some (d, ρ)
  | some (.own d) => some (d, ρ.put i (.val d))
  | _ => none

theorem Fix.put {G : Ent} {ρ : Env3} {σ σ' : L2.St} {i : Nat} {s : Slot} (h : Fix G ρ σ) (hs : ∀ d, s ≠ .own d) (hσ : ∀ j, j ≠ i → σ'[j]? = σ[j]?) : Fix G (ρ.put i s) σ' := fun l hl ⟨d, q⟩ => by
  have q : (ρ.sl.set i s)[0]? = some (.own d) := q
  by_cases hi : 0 = i
  · subst hi
    by_cases hlt : 0 < ρ.sl.length
    · rw [List.getElem?_set_self hlt] at q
      exact (hs d (Option.some.inj q)).elim
    · rw [List.getElem?_eq_none_iff.mpr (by rw [List.length_set]; omega)] at q
      cases q
  · rw [List.getElem?_set_ne (Ne.symm hi)] at q
    rw [hσ 0 hi]
    exact h l hl ⟨d, q⟩
theorem set_off {σ : L2.St} {i : Nat} {x : Option V} : ∀ j, j ≠ i → (σ.set i x)[j]? = σ[j]? := fun j hj => by rw [List.getElem?_set_ne (Ne.symm hj)]
theorem Fix.putOwn {G : Ent} {ρ : Env3} {σ σ' : L2.St} {i : Nat} {s : Slot} (h : Fix G ρ σ) (hi : i ≠ 0) (hσ : ∀ j, j ≠ i → σ'[j]? = σ[j]?) : Fix G (ρ.put i s) σ' := fun l hl ⟨d, q⟩ => by
  have q : (ρ.sl.set i s)[0]? = some (.own d) := q
  rw [List.getElem?_set_ne hi] at q
  rw [hσ 0 (Ne.symm hi)]
  exact h l hl ⟨d, q⟩
theorem Fix.chg {G : Ent} {ρ : Env3} {σ : L2.St} {i : Nat} {s : Slot} {d : D} (h : Fix G ρ σ) (e : ρ.sl[i]? = some (.own d)) : Fix G (ρ.put i s) σ := fun l hl ⟨d', q⟩ => by
  by_cases hi : i = 0
  · subst hi
    exact h l hl ⟨d, e⟩
  · exact Fix.putOwn h hi (fun _ _ => rfl) l hl ⟨d', q⟩
section
variable {G : Ent} {H0 H : Hp} {ρ : Env3} {σ : L2.St}
theorem Own.mono {pn : Option Addr} {H0 H0' H H' : Hp} {l : Addr} {d : D} (h : Own pn H0 H l d) (e : Same H0 H0') (k : H' l = H l) : Own pn H0' H' l d := by
  cases d with
  | lst ds => obtain ⟨vs, h1, h2⟩ := h; exact ⟨vs, k.trans h1, h2.mono e⟩
  | dT ds => obtain ⟨vs, h1, h2⟩ := h; exact ⟨vs, k.trans h1, h2.mono e⟩
  | _ => exact h.elim
theorem Own.there {pn : Option Addr} {H0 H : Hp} {l : Addr} {d : D} (h : Own pn H0 H l d) : ∃ o, H l = some o := by
  cases d with
  | lst ds => obtain ⟨vs, h1, h2⟩ := h; exact ⟨_, h1⟩
  | dT ds => obtain ⟨vs, h1, h2⟩ := h; exact ⟨_, h1⟩
  | _ => exact h.elim
theorem Rel.val (R : Rel G H0 ρ σ H) {i : Nat} {d : D} (e : ρ.sl[i]? = some (.val d)) : ∃ x, σ[i]? = some (some x) ∧ Rep G.pn H0 x d := by
  have h := R.slot i
  rw [e] at h
  exact h
theorem Rel.owned (R : Rel G H0 ρ σ H) {i : Nat} {d : D} (e : ρ.sl[i]? = some (.own d)) : ∃ l, σ[i]? = some (some (.ref l)) ∧ Own G.pn H0 H l d ∧ H0 l = none ∧ G.Hf l = none ∧ G.pn ≠ some l := by
  have h := R.slot i
  rw [e] at h
  exact h
theorem Rel.noHf (R : Rel G H0 ρ σ H) {p : Addr} (hp : H p = none) : G.Hf p = none ∧ G.pn ≠ some p := by
  have hn : G.pn ≠ some p := fun z => by
    obtain ⟨_, c, cs, t, r, h, _⟩ := R.pen p z
    rw [hp] at h
    cases h
  refine ⟨?_, hn⟩
  cases e : G.Hf p with
  | none => rfl
  | some o =>
    have := R.keep p o e hn
    rw [hp] at this
    cases this
/-- a new object, perhaps known from now on -/
theorem Rel.grow (R : Rel G H0 ρ σ H) {p : Addr} {o : HO} (hp : H p = none) : Rel G (upd H0 p o) ρ σ (upd H p o) := by
  have nf := R.noHf hp
  have n0 : ∀ a u, H0 a = some u → a ≠ p := fun a u e => ne_of_none (R.ex a u e) hp
  have s0 : Same H0 (upd H0 p o) := fun a u e => by rw [upd_ne (n0 a u e)]; exact e
  have h0 : H0 p = none := by
    cases e : H0 p with
    | none => rfl
    | some u => exact absurd rfl (n0 p u e)
  refine ⟨fun a u e => ?_, fun a u e => s0 a u (R.ex0 a u e), fun a u e hn => ?_, fun a u e => ?_, R.len, fun i => ?_, R.own, fun q hq => ?_, R.fix⟩
  · by_cases h : a = p
    · subst h; rw [upd_same] at e ⊢; exact e
    · rw [upd_ne h] at e ⊢; exact R.ex a u e
  · rw [upd_ne (ne_of_none (R.keep a u e hn) hp)]; exact R.keep a u e hn
  · by_cases h : a = p
    · subst h; exact .inr (.inl nf.1)
    · rw [upd_ne h] at e; exact R.new a u e
  · have h := R.slot i
    cases e : ρ.sl[i]? with
    | none => exact True.intro
    | some s =>
      rw [e] at h
      cases s with
      | un => exact True.intro
      | val d => obtain ⟨x, h1, h2⟩ := h; exact ⟨x, h1, h2.mono s0⟩
      | own d =>
        obtain ⟨l, h1, h2, h3, h4, h5⟩ := h
        obtain ⟨u, hu⟩ := h2.there
        have hl : l ≠ p := ne_of_none hu hp
        exact ⟨l, h1, h2.mono s0 (upd_ne hl), by rw [upd_ne hl]; exact h3, h4, h5⟩
  · obtain ⟨h1, c, cs, t, r, h2, h3, h4⟩ := R.pen q hq
    have hq' : q ≠ p := ne_of_none h2 hp
    exact ⟨by rw [upd_ne hq']; exact h1, c, cs, t, r, by rw [upd_ne hq']; exact h2, s0 _ _ h3, h4⟩
/-- .. known to nobody -/
theorem Rel.grow' (R : Rel G H0 ρ σ H) {p : Addr} {o : HO} (hp : H p = none) : Rel G H0 ρ σ (upd H p o) := by
  have sp : ∀ {a u}, H a = some u → a ≠ p := fun e => ne_of_none e hp
  refine ⟨fun a u e => by rw [upd_ne (sp (R.ex a u e))]; exact R.ex a u e, R.ex0, fun a u e hn => by rw [upd_ne (sp (R.keep a u e hn))]; exact R.keep a u e hn, R.new, R.len, fun i => ?_, R.own, fun q hq => ?_, R.fix⟩
  · have h := R.slot i
    cases e : ρ.sl[i]? with
    | none => exact True.intro
    | some s =>
      rw [e] at h
      cases s with
      | un => exact True.intro
      | val d => exact h
      | own d =>
        obtain ⟨l, h1, h2, h3, h4, h5⟩ := h
        obtain ⟨u, hu⟩ := h2.there
        exact ⟨l, h1, h2.mono (Same.refl _) (upd_ne (sp hu)), h3, h4, h5⟩
  · obtain ⟨h1, c, cs, t, r, h2, h3, h4⟩ := R.pen q hq
    exact ⟨h1, c, cs, t, r, by rw [upd_ne (sp h2)]; exact h2, h3, h4⟩
/-- a known thing more: one that was the frame's own -/
theorem Rel.know (R : Rel G H0 ρ σ H) {i : Nat} {d : D} (e : ρ.sl[i]? = some (.own d)) : ∃ l H0', σ[i]? = some (some (.ref l)) ∧ Same H0 H0' ∧ Rep G.pn H0' (.ref l) d ∧ Rel G H0' (ρ.put i (.val d)) σ H := by
  obtain ⟨l, h1, h2, h3, h4, h5⟩ := R.owned e
  obtain ⟨o, ho⟩ := h2.there
  have n0 : ∀ a u, H0 a = some u → a ≠ l := fun a u z => ne_of_none z h3
  have s0 : Same H0 (upd H0 l o) := fun a u z => by rw [upd_ne (n0 a u z)]; exact z
  have hrep : Rep G.pn (upd H0 l o) (.ref l) d := by
    cases d with
    | lst ds =>
      obtain ⟨vs, q1, q2⟩ := h2
      rw [q1] at ho
      cases ho
      exact .lst upd_same (q2.mono s0)
    | dT ds =>
      obtain ⟨vs, q1, q2⟩ := h2
      rw [q1] at ho
      cases ho
      exact .dT upd_same (q2.mono s0)
    | _ => exact h2.elim
  have hi : i < ρ.sl.length := (List.getElem?_eq_some_iff.mp e).1
  refine ⟨l, upd H0 l o, h1, s0, hrep, fun a u z => ?_, fun a u z => s0 a u (R.ex0 a u z), R.keep, fun a u z => ?_, ?_, fun j => ?_, fun j k m x y => ?_, fun q hq => ?_, R.fix.put (fun _ z => nomatch z) fun _ _ => rfl⟩
  · by_cases h : a = l
    · subst h; rw [upd_same] at z; rw [ho]; exact z
    · rw [upd_ne h] at z; exact R.ex a u z
  · by_cases h : a = l
    · subst h; exact .inr (.inl h4)
    · rw [upd_ne h] at z; exact R.new a u z
  · show σ.length = (ρ.sl.set i _).length
    rw [List.length_set]; exact R.len
  · by_cases hj : j = i
    · subst hj
      show SlotOk G _ H (ρ.sl.set j (.val d))[j]? _
      rw [List.getElem?_set_self hi]
      exact ⟨_, h1, hrep⟩
    · show SlotOk G _ H (ρ.sl.set i (.val d))[j]? _
      rw [List.getElem?_set_ne (Ne.symm hj)]
      have h := R.slot j
      cases ej : ρ.sl[j]? with
      | none => exact True.intro
      | some s =>
        rw [ej] at h
        cases s with
        | un => exact True.intro
        | val d => obtain ⟨x, q1, q2⟩ := h; exact ⟨x, q1, q2.mono s0⟩
        | own d' =>
          obtain ⟨m, q1, q2, q3, q4, q5⟩ := h
          have hm : m ≠ l := fun z => by
            subst z
            exact hj (R.own j i m ⟨⟨_, ej⟩, q1⟩ ⟨⟨_, e⟩, h1⟩)
          exact ⟨m, q1, q2.mono s0 rfl, by rw [upd_ne hm]; exact q3, q4, q5⟩
  · have ob : ∀ j, OwnS (ρ.put i (.val d)) σ j m → OwnS ρ σ j m := fun j ⟨⟨d', q⟩, q2⟩ => by
      refine ⟨?_, q2⟩
      have q : (ρ.sl.set i (.val d))[j]? = some (.own d') := q
      by_cases hj : j = i
      · subst hj; rw [List.getElem?_set_self hi] at q; cases q
      · rw [List.getElem?_set_ne (Ne.symm hj)] at q; exact ⟨_, q⟩
    exact R.own j k m (ob j x) (ob k y)
  · obtain ⟨q1, c, cs, t, r, q2, q3, q4⟩ := R.pen q hq
    have hql : q ≠ l := fun z => h5 (by rw [← z]; exact hq)
    exact ⟨by rw [upd_ne hql]; exact q1, c, cs, t, r, q2, s0 _ _ q3, q4⟩
/-- a name read -/
theorem Rel.rd (R : Rel G H0 ρ σ H) {i : Nat} {d : D} {ρ' : Env3} (e : ρ.rd i = some (d, ρ')) : ∃ x H0', σ[i]? = some (some x) ∧ Same H0 H0' ∧ Rep G.pn H0' x d ∧ Rel G H0' ρ' σ H := by
  unfold Env3.rd at e
  split at e
  · rename_i d' h
    cases e
    obtain ⟨x, h1, h2⟩ := R.val h
    exact ⟨x, H0, h1, Same.refl _, h2, R⟩
  · rename_i d' h
    cases e
    obtain ⟨l, H0', h1, h2, h3, h4⟩ := R.know h
    exact ⟨_, H0', h1, h2, h3, h4⟩
  · cases e
/-- a name stored -/
theorem Rel.put (R : Rel G H0 ρ σ H) {i : Nat} {x : V} {d : D} (h : Rep G.pn H0 x d) (hi : i < ρ.sl.length) : Rel G H0 (ρ.put i (.val d)) (σ.set i (some x)) H := by
  have hi' : i < σ.length := by rw [R.len]; exact hi
  refine ⟨R.ex, R.ex0, R.keep, R.new, ?_, fun j => ?_, fun j k m a b => ?_, R.pen, R.fix.put (fun _ z => nomatch z) set_off⟩
  · show (σ.set i _).length = (ρ.sl.set i _).length
    rw [List.length_set, List.length_set]; exact R.len
  · by_cases hj : j = i
    · subst hj
      show SlotOk G _ H (ρ.sl.set j (.val d))[j]? (σ.set j (some x))[j]?
      rw [List.getElem?_set_self hi, List.getElem?_set_self hi']
      exact ⟨_, rfl, h⟩
    · show SlotOk G _ H (ρ.sl.set i (.val d))[j]? (σ.set i (some x))[j]?
      rw [List.getElem?_set_ne (Ne.symm hj), List.getElem?_set_ne (Ne.symm hj)]
      exact R.slot j
  · have ob : ∀ j, OwnS (ρ.put i (.val d)) (σ.set i (some x)) j m → OwnS ρ σ j m := fun j ⟨⟨d', q⟩, q2⟩ => by
      have q : (ρ.sl.set i (.val d))[j]? = some (.own d') := q
      by_cases hj : j = i
      · subst hj; rw [List.getElem?_set_self hi] at q; cases q
      · rw [List.getElem?_set_ne (Ne.symm hj)] at q q2; exact ⟨⟨_, q⟩, q2⟩
    exact R.own j k m (ob j a) (ob k b)
/-- a name forgotten -/
theorem Rel.drop (R : Rel G H0 ρ σ H) (i : Nat) (x : Option V) : Rel G H0 (ρ.put i .un) (σ.set i x) H := by
  refine ⟨R.ex, R.ex0, R.keep, R.new, ?_, fun j => ?_, fun j k m a b => ?_, R.pen, R.fix.put (fun _ z => nomatch z) set_off⟩
  · show (σ.set i _).length = (ρ.sl.set i _).length
    rw [List.length_set, List.length_set]; exact R.len
  · by_cases hj : j = i
    · subst hj
      show SlotOk G _ H (ρ.sl.set j .un)[j]? (σ.set j x)[j]?
      by_cases hi : j < ρ.sl.length
      · rw [List.getElem?_set_self hi]; exact True.intro
      · rw [List.getElem?_eq_none_iff.mpr (by rw [List.length_set]; omega)]; exact True.intro
    · show SlotOk G _ H (ρ.sl.set i .un)[j]? (σ.set i x)[j]?
      rw [List.getElem?_set_ne (Ne.symm hj), List.getElem?_set_ne (Ne.symm hj)]
      exact R.slot j
  · have ob : ∀ j, OwnS (ρ.put i .un) (σ.set i x) j m → OwnS ρ σ j m := fun j ⟨⟨d', q⟩, q2⟩ => by
      have q : (ρ.sl.set i .un)[j]? = some (.own d') := q
      by_cases hj : j = i
      · subst hj
        have hi : j < ρ.sl.length := by
          have := (List.getElem?_eq_some_iff.mp q).1
          rw [List.length_set] at this; exact this
        rw [List.getElem?_set_self hi] at q; cases q
      · rw [List.getElem?_set_ne (Ne.symm hj)] at q q2; exact ⟨⟨_, q⟩, q2⟩
    exact R.own j k m (ob j a) (ob k b)
/-- a name gets a new list or dict of its own -/
theorem Rel.putOwn (R : Rel G H0 ρ σ H) {i : Nat} {l : Addr} {d : D} (h : Own G.pn H0 H l d) (h0 : H0 l = none) (hf : G.Hf l = none) (hp : G.pn ≠ some l) (hx : ∀ j, ¬ OwnS ρ σ j l) (hi : i ≠ 0 ∧ i < ρ.sl.length) : Rel G H0 (ρ.put i (.own d)) (σ.set i (some (.ref l))) H := by
  obtain ⟨hi0, hi⟩ := hi
  have hi' : i < σ.length := by rw [R.len]; exact hi
  refine ⟨R.ex, R.ex0, R.keep, R.new, ?_, fun j => ?_, fun j k m a b => ?_, R.pen, R.fix.putOwn hi0 set_off⟩
  · show (σ.set i _).length = (ρ.sl.set i _).length
    rw [List.length_set, List.length_set]; exact R.len
  · by_cases hj : j = i
    · subst hj
      show SlotOk G _ H (ρ.sl.set j (.own d))[j]? (σ.set j (some (.ref l)))[j]?
      rw [List.getElem?_set_self hi, List.getElem?_set_self hi']
      exact ⟨_, rfl, h, h0, hf, hp⟩
    · show SlotOk G _ H (ρ.sl.set i (.own d))[j]? (σ.set i (some (.ref l)))[j]?
      rw [List.getElem?_set_ne (Ne.symm hj), List.getElem?_set_ne (Ne.symm hj)]
      exact R.slot j
  · have ob : ∀ j, OwnS (ρ.put i (.own d)) (σ.set i (some (.ref l))) j m → (j = i ∧ m = l) ∨ (j ≠ i ∧ OwnS ρ σ j m) := fun j ⟨⟨d', q⟩, q2⟩ => by
      have q : (ρ.sl.set i (.own d))[j]? = some (.own d') := q
      by_cases hj : j = i
      · subst hj; rw [List.getElem?_set_self hi'] at q2; cases q2; exact .inl ⟨rfl, rfl⟩
      · rw [List.getElem?_set_ne (Ne.symm hj)] at q q2; exact .inr ⟨hj, ⟨_, q⟩, q2⟩
    rcases ob j a with ⟨rfl, rfl⟩ | ⟨n1, a'⟩
    · rcases ob k b with ⟨e, _⟩ | ⟨_, b'⟩
      · exact e.symm
      · exact (hx k b').elim
    · rcases ob k b with ⟨_, rfl⟩ | ⟨_, b'⟩
      · exact (hx j a').elim
      · exact R.own j k m a' b'
theorem Rel.fresh (R : Rel G H0 ρ σ H) {l : Addr} (h : H l = none) : ∀ j, ¬ OwnS ρ σ j l := fun j ⟨⟨d, q⟩, q2⟩ => by
  obtain ⟨m, h1, h2, _⟩ := R.owned q
  rw [q2] at h1
  cases h1
  obtain ⟨o, ho⟩ := h2.there
  rw [h] at ho
  cases ho
/-- the frame's own list changes -/
theorem Rel.chg (R : Rel G H0 ρ σ H) {i : Nat} {l : Addr} {d d' : D} {o : HO} (e : ρ.sl[i]? = some (.own d)) (hl : σ[i]? = some (some (.ref l))) (h : Own G.pn H0 (upd H l o) l d') : Rel G H0 (ρ.put i (.own d')) σ (upd H l o) := by
  obtain ⟨m, h1, h2, h3, h4, h5⟩ := R.owned e
  rw [hl] at h1
  cases h1
  have hi : i < ρ.sl.length := (List.getElem?_eq_some_iff.mp e).1
  have n0 : ∀ a u, H0 a = some u → a ≠ l := fun a u z => ne_of_none z h3
  refine ⟨fun a u z => by rw [upd_ne (n0 a u z)]; exact R.ex a u z, R.ex0, fun a u z hn => ?_, R.new, ?_, fun j => ?_, fun j k m a b => ?_, fun q hq => ?_, R.fix.chg e⟩
  · rw [upd_ne (ne_of_none z h4)]; exact R.keep a u z hn
  · show σ.length = (ρ.sl.set i _).length
    rw [List.length_set]; exact R.len
  · by_cases hj : j = i
    · subst hj
      show SlotOk G _ _ (ρ.sl.set j (.own d'))[j]? _
      rw [List.getElem?_set_self hi]
      exact ⟨_, hl, h, h3, h4, h5⟩
    · show SlotOk G _ _ (ρ.sl.set i (.own d'))[j]? _
      rw [List.getElem?_set_ne (Ne.symm hj)]
      have q := R.slot j
      cases ej : ρ.sl[j]? with
      | none => exact True.intro
      | some s =>
        rw [ej] at q
        cases s with
        | un => exact True.intro
        | val d => exact q
        | own d2 =>
          obtain ⟨m, q1, q2, q3, q4, q5⟩ := q
          have hm : m ≠ l := fun z => by
            subst z
            exact hj (R.own j i m ⟨⟨_, ej⟩, q1⟩ ⟨⟨_, e⟩, hl⟩)
          exact ⟨m, q1, q2.mono (Same.refl _) (upd_ne hm), q3, q4, q5⟩
  · have ob : ∀ j, OwnS (ρ.put i (.own d')) σ j m → OwnS ρ σ j m := fun j ⟨⟨d2, q⟩, q2⟩ => by
      refine ⟨?_, q2⟩
      have q : (ρ.sl.set i (.own d'))[j]? = some (.own d2) := q
      by_cases hj : j = i
      · subst hj; exact ⟨_, e⟩
      · rw [List.getElem?_set_ne (Ne.symm hj)] at q; exact ⟨_, q⟩
    exact R.own j k m (ob j a) (ob k b)
  · obtain ⟨q1, c, cs, t, r, q2, q3⟩ := R.pen q hq
    have hql : q ≠ l := fun z => h5 (by rw [← z]; exact hq)
    exact ⟨q1, c, cs, t, r, by rw [upd_ne hql]; exact q2, q3⟩
end

/-- a tuple is known from now on -/
theorem Rel.tellT {G : Ent} {H0 H : Hp} {ρ : Env3} {σ : L2.St} {b : Addr} {xs : List V} (R : Rel G H0 ρ σ H) (hb : H b = some (.tup xs)) : Rel G (upd H0 b (.tup xs)) ρ σ H := by
  have s0 : Same H0 (upd H0 b (.tup xs)) := fun a u e => by
    by_cases h : a = b
    · subst h; rw [upd_same]; have := R.ex _ _ e; rw [hb] at this; exact this
    · rw [upd_ne h]; exact e
  refine ⟨fun a u e => ?_, fun a u e => s0 a u (R.ex0 a u e), R.keep, fun a u e => ?_, R.len, fun i => ?_, R.own, fun q hq => ?_, R.fix⟩
  · by_cases h : a = b
    · subst h; rw [upd_same] at e; rw [hb]; exact e
    · rw [upd_ne h] at e; exact R.ex a u e
  · by_cases h : a = b
    · subst h; rw [upd_same] at e; exact .inr (.inr ⟨xs, (Option.some.inj e).symm⟩)
    · rw [upd_ne h] at e; exact R.new a u e
  · have h := R.slot i
    cases e : ρ.sl[i]? with
    | none => exact True.intro
    | some s =>
      rw [e] at h
      cases s with
      | un => exact True.intro
      | val d => obtain ⟨x, h1, h2⟩ := h; exact ⟨x, h1, h2.mono s0⟩
      | own d =>
        obtain ⟨m, h1, h2, h3, h4, h5⟩ := h
        have hm : m ≠ b := fun z => by
          subst z
          cases d with
          | lst ds => obtain ⟨vs, q, _⟩ := h2; rw [hb] at q; cases q
          | dT ds => obtain ⟨vs, q, _⟩ := h2; rw [hb] at q; cases q
          | _ => exact h2.elim
        exact ⟨m, h1, h2.mono s0 rfl, by rw [upd_ne hm]; exact h3, h4, h5⟩
  · obtain ⟨q1, c, cs, t, r, q2, q3, q4⟩ := R.pen q hq
    have hqb : q ≠ b := fun z => by
      subst z
      rw [hb] at q2; cases q2
    exact ⟨by rw [upd_ne hqb]; exact q1, c, cs, t, r, q2, s0 _ _ q3, q4⟩

/-! ### readings over data -/
abbrev K3 := D → Env3 → Prop
/-- an expression: what follows, what follows an exception -/
abbrev E3 := Env3 → K3 → K3 → Prop
abbrev A3 := Env3 → (List D → Env3 → Prop) → K3 → Prop
abbrev T3 := Env3 → (Bool → Env3 → Prop) → K3 → Prop
structure Ends3 where
  nx : Env3 → Prop
  rt : K3
  bk : Env3 → Prop := fun _ => False
  ct : Env3 → Prop := fun _ => False
  xc : K3 := fun _ _ => False
abbrev S3 := Ends3 → Env3 → Prop

def RepX (pn : Option Addr) (H : Hp) (cls : Value) (d : Option Addr) : D → Prop
  | .exc C fs => cls = .ref C ∧ ∃ dx vs, d = some dx ∧ H dx = some (.xd vs) ∧ vs.map (·.1) = fs.map (·.1) ∧ RepA pn H (vs.map (·.2)) (fs.map (·.2))
  | _ => False
theorem RepX.mono {pn : Option Addr} {H H' : Hp} {cls : Value} {d : Option Addr} {x : D} (h : RepX pn H cls d x) (e : Same H H') : RepX pn H' cls d x := by
  cases x with
  | exc C fs => obtain ⟨h1, dx, vs, h2, h3, h4, h5⟩ := h; exact ⟨h1, dx, vs, h2, e _ _ h3, h4, h5.mono e⟩
  | _ => exact h.elim

/-- what follows, over the heaps -/
def KQ (G : Ent) (H0 : Hp) (σ : L2.St) (Q : VK) : K3 := fun d ρ' => ∀ v H' H0', Same H0 H0' → Rel G H0' ρ' σ H' → Rep G.pn H0' v d → Q v H'
def KX (G : Ent) (H0 : Hp) (σ : L2.St) (W : WX) : K3 := fun x ρ' => ∀ cls dx H' H0', Same H0 H0' → Rel G H0' ρ' σ H' → RepX G.pn H0' cls dx x → W cls dx σ H'
def KT (G : Ent) (H0 : Hp) (σ : L2.St) (Q : Bool → Hp → Prop) : Bool → Env3 → Prop := fun b ρ' => ∀ H' H0', Same H0 H0' → Rel G H0' ρ' σ H' → Q b H'
def KA (G : Ent) (H0 : Hp) (σ : L2.St) (Q : List V → Hp → Prop) : List D → Env3 → Prop := fun ds ρ' => ∀ vs H' H0', Same H0 H0' → Rel G H0' ρ' σ H' → RepA G.pn H0' vs ds → Q vs H'
def lE (W : WX) (t : E3) : TE := fun σ H Q => ∃ G ρ H0, Rel G H0 ρ σ H ∧ t ρ (KQ G H0 σ Q) (KX G H0 σ W)
def lT (W : WX) (t : T3) : TT := fun σ H Q => ∃ G ρ H0, Rel G H0 ρ σ H ∧ t ρ (KT G H0 σ Q) (KX G H0 σ W)
def lA (W : WX) (t : A3) : TA := fun σ H Q => ∃ G ρ H0, Rel G H0 ρ σ H ∧ t ρ (KA G H0 σ Q) (KX G H0 σ W)
section
variable {G : Ent} {H0 H0' : Hp} {σ : L2.St} {W : WX} {d : D} {ρ : Env3}
theorem KQ.up {Q : VK} (k : KQ G H0 σ Q d ρ) (e : Same H0 H0') : KQ G H0' σ Q d ρ := fun v H' H1 s R r => k v H' H1 (e.trans s) R r
theorem KX.up (k : KX G H0 σ W d ρ) (e : Same H0 H0') : KX G H0' σ W d ρ := fun v dx H' H1 s R r => k v dx H' H1 (e.trans s) R r
theorem KT.up {Q : Bool → Hp → Prop} {b : Bool} (k : KT G H0 σ Q b ρ) (e : Same H0 H0') : KT G H0' σ Q b ρ := fun H' H1 s R => k H' H1 (e.trans s) R
theorem KA.up {Q : List V → Hp → Prop} {ds : List D} (k : KA G H0 σ Q ds ρ) (e : Same H0 H0') : KA G H0' σ Q ds ρ := fun v H' H1 s R r => k v H' H1 (e.trans s) R r
end

/-- what a reading wants grows with what follows -/
def MonE {α : Type} (t : Env3 → (α → Env3 → Prop) → K3 → Prop) : Prop := ∀ ρ k k' x x', (∀ d ρ', k d ρ' → k' d ρ') → (∀ d ρ', x d ρ' → x' d ρ') → t ρ k x → t ρ k' x'
structure P3 (X : Cx) (W : WX) (e : Expr) (t : E3) : Prop where
  run : PE X e (lE W t)
  mon : MonE t
structure P3T (X : Cx) (W : WX) (e : Expr) (t : T3) : Prop where
  run : PT X e (lT W t)
  mon : MonE t
structure P3A (X : Cx) (W : WX) (es : List Expr) (t : A3) : Prop where
  run : PA X es (lA W t)
  mon : MonE t
theorem PE.imp {X : Cx} {e : Expr} {t t' : TE} (h : PE X e t) (q : ∀ σ H Q, t' σ H Q → t σ H Q) : PE X e t' := ⟨fun pins s σ H Q I z => h.run pins s σ H Q I (q σ H Q z)⟩
theorem PT.imp {X : Cx} {e : Expr} {t t' : TT} (h : PT X e t) (q : ∀ σ H Q, t' σ H Q → t σ H Q) : PT X e t' := ⟨fun pins s σ H Q I z => h.run pins s σ H Q I (q σ H Q z)⟩
theorem PW.imp {X : Cx} {e : Expr} {t t' : TT} (h : PW X e t) (q : ∀ σ H Q, t' σ H Q → t σ H Q) : PW X e t' := ⟨fun wh pins s σ H Q I z => h.run wh pins s σ H Q I (q σ H Q z)⟩
theorem PA.imp {X : Cx} {e : List Expr} {t t' : TA} (h : PA X e t) (q : ∀ σ H Q, t' σ H Q → t σ H Q) : PA X e t' := ⟨fun p pins s σ H Q I z => h.run p pins s σ H Q I (q σ H Q z)⟩
theorem PS.imp {X : Cx} {e : Stmt} {t t' : TS} (h : PS X e t) (q : ∀ D σ H, t' D σ H → t D σ H) : PS X e t' := ⟨fun pins s σ H D I z => h.run pins s σ H D I (q D σ H z)⟩
theorem PSs.imp {X : Cx} {e : List Stmt} {t t' : TS} (h : PSs X e t) (q : ∀ D σ H, t' D σ H → t D σ H) : PSs X e t' := ⟨fun pins s σ H D I z => h.run pins s σ H D I (q D σ H z)⟩

/-! ### objects made on the way -/
inductive Grow : Hp → Hp → Hp → Hp → Prop
  | refl {H0 H : Hp} : Grow H0 H H0 H
  | new {H0 H H0' H' : Hp} {p : Addr} {o : HO} : Grow H0 H H0' H' → H' p = none → Grow H0 H (upd H0' p o) (upd H' p o)
  | told {H0 H H0' H' : Hp} {p : Addr} {xs : List V} : Grow H0 H H0' H' → H' p = some (.tup xs) → Grow H0 H (upd H0' p (.tup xs)) H'
theorem Grow.one {H0 H : Hp} {p : Addr} {o : HO} (h : H p = none) : Grow H0 H (upd H0 p o) (upd H p o) := .new .refl h
theorem Grow.rel {G : Ent} {ρ : Env3} {σ : L2.St} {H0 H H0' H' : Hp} (g : Grow H0 H H0' H') (R : Rel G H0 ρ σ H) : Rel G H0' ρ σ H' := by
  induction g with
  | refl => exact R
  | new g h ih => exact ih.grow h
  | told g h ih => exact ih.tellT h
theorem Grow.same {H0 H H0' H' : Hp} (g : Grow H0 H H0' H') (e : Same H0 H) : Same H0 H0' ∧ Same H0' H' := by
  induction g with
  | refl => exact ⟨Same.refl _, e⟩
  | @new H0' H' p o g h ih =>
    refine ⟨fun a u z => ?_, fun a u z => ?_⟩
    · have q := ih.2 a u (ih.1 a u z)
      rw [upd_ne (ne_of_none q h)]
      exact ih.1 a u z
    · by_cases ha : a = p
      · subst ha; rw [upd_same] at z ⊢; exact z
      · rw [upd_ne ha] at z ⊢; exact ih.2 a u z
  | @told H0' H' p xs g h ih =>
    refine ⟨fun a u z => ?_, fun a u z => ?_⟩
    · have q := ih.1 a u z
      by_cases ha : a = p
      · subst ha
        have q2 := ih.2 a u q
        rw [h] at q2
        rw [upd_same]; exact q2
      · rw [upd_ne ha]; exact q
    · by_cases ha : a = p
      · subst ha; rw [upd_same] at z; rw [h]; exact z
      · rw [upd_ne ha] at z; exact ih.2 a u z
end L3
/-! L3: expressions -/
namespace L3
open PySem PySem.Spec PyProof.Rows L2

section
variable {X : Cx} {W : WX} {a b c e : Expr} {pos : Pos} {ta tb tc te : E3}
/-! ### names, constants -/
def tVar3 (i : Nat) : E3 := fun ρ k _ => match ρ.rd i with | some p => k p.1 p.2 | none => False
def tC3 (d : D) : E3 := fun ρ k _ => k d ρ
theorem monVar {i : Nat} : MonE (tVar3 i) := fun ρ k k' x x' hk _ h => by
  unfold tVar3 at h ⊢
  split
  · rename_i p e; rw [e] at h; exact hk _ _ h
  · rename_i e; rw [e] at h; exact h
theorem monC {d : D} : MonE (tC3 d) := fun ρ k k' x x' hk _ h => hk _ _ h
theorem p3_of {i : Nat} (h : PE X e (tVar i)) : P3 X W e (tVar3 i) := ⟨PE.imp h fun σ H Q ⟨G, ρ, H0, R, q⟩ => by
  unfold tVar3 at q
  split at q
  · rename_i p ep
    obtain ⟨x, H0', h1, h2, h3, h4⟩ := R.rd (d := p.1) (ρ' := p.2) ep
    exact ⟨x, h1, q x H H0' h2 h4 h3⟩
  · exact q.elim, monVar⟩
theorem v3 (i : Nat) {x : Str} (hN : X.N[i]? = some x := by rfl) (hv : Vis X.env.scope x := by first | exact Or.inl rfl | exact Or.inr (Or.inl rfl) | exact Or.inr (Or.inr rfl)) (hd : (x == ("__debug__" : Str)) = false := by decide)
    (hcd : (x == ("__classdict__" : Str)) = false := by decide) : P3 X W (.Name x pos) (tVar3 i) := p3_of (pe_var hN hv hd hcd)
theorem c3_of {v : V} {d : D} (h : PE X e (tC v)) (r : ∀ pn H, Rep pn H v d) : P3 X W e (tC3 d) := ⟨PE.imp h fun σ H Q ⟨G, ρ, H0, R, q⟩ => q v H H0 (Same.refl _) R (r _ _), monC⟩
theorem int3 {i j} : P3 X W (.Constant (.int i) j pos) (tC3 (.int i)) := c3_of pe_int fun _ _ => .int i
theorem bl3 {i j} : P3 X W (.Constant (.bool i) j pos) (tC3 (.bl i)) := c3_of pe_bl fun _ _ => .bl i
theorem str3 {i j} : P3 X W (.Constant (.str i) j pos) (tC3 (.str i)) := c3_of pe_str fun _ _ => .str i
theorem non3 {j} : P3 X W (.Constant .none j pos) (tC3 .non) := c3_of pe_non fun _ _ => .non

/-! ### two-place operations -/
abbrev G2 := D → D → (D → Prop) → Prop
def MonG2 (g : G2) : Prop := ∀ d e k k', (∀ z, k z → k' z) → g d e k → g d e k'
def Op3 (r : R2) (g : G2) : Prop := ∀ (pn : Option Addr) (H0 H : Hp) (x y : V) (d e : D) (k : D → Prop) (Q : VK), Same H0 H → Rep pn H0 x d → Rep pn H0 y e → g d e k →
  (∀ z dz H0' H', Grow H0 H H0' H' → Rep pn H0' z dz → k dz → Q z H') → r x y H Q
def b3 (g : G2) (ta tb : E3) : E3 := fun ρ k x => ta ρ (fun d ρ1 => tb ρ1 (fun e ρ2 => g d e fun z => k z ρ2) x) x
theorem monB {g : G2} (hm : MonG2 g) (ma : MonE ta) (mb : MonE tb) : MonE (b3 g ta tb) := fun ρ k k' x x' hk hx h =>
  ma ρ _ _ _ _ (fun d ρ1 q => mb ρ1 _ _ _ _ (fun e ρ2 q2 => hm d e _ _ (fun z => hk z ρ2) q2) hx q) hx h
theorem two3 {r : R2} {g : G2} (hr : Op3 r g) (pa : P3 X W a ta) (pb : P3 X W b tb) {σ : L2.St} {H : Hp} {Q : VK} (h : lE W (b3 g ta tb) σ H Q) : tOp r (lE W ta) (lE W tb) σ H Q := by
  obtain ⟨G, ρ, H0, R, h⟩ := h
  refine ⟨G, ρ, H0, R, pa.mon ρ _ _ _ _ (fun d ρ1 q => ?_) (fun _ _ z => z) h⟩
  intro x H1 H01 s1 R1 r1
  refine ⟨G, ρ1, H01, R1, pb.mon ρ1 _ _ _ _ (fun e ρ2 q => ?_) (fun _ _ z => KX.up z s1) q⟩
  intro y H2 H02 s2 R2 r2
  exact hr G.pn H02 H2 x y d e _ Q R2.ex (r1.mono s2) r2 q fun z dz H0' H' g rz kz => kz z H' H0' ((s1.trans s2).trans (g.same R2.ex).1) (g.rel R2) rz
theorem bin3 {op : Operator} {r : R2} {g : G2} (ho : OpR X (binaryOp op) r) (hr : Op3 r g) (hm : MonG2 g) (pa : P3 X W a ta) (pb : P3 X W b tb) : P3 X W (.BinOp a op b pos) (b3 g ta tb) :=
  ⟨PE.imp (pe_op ho pa.run pb.run) fun _ _ _ h => two3 hr pa pb h, monB hm pa.mon pb.mon⟩
theorem cmp3 {op : CmpOp} {r : R2} {g : G2} (ho : OpR X (compareOp op) r) (hr : Op3 r g) (hm : MonG2 g) (pa : P3 X W a ta) (pb : P3 X W b tb) (hb : behindInMarks op b = false) : P3 X W (.Compare a [op] [b] pos) (b3 g ta tb) :=
  ⟨PE.imp (pe_cmpR ho pa.run pb.run hb) fun _ _ _ h => two3 hr pa pb h, monB hm pa.mon pb.mon⟩
/-- an expression that gives True or False, as a test -/
def tB3 (t : E3) : T3 := fun ρ k x => t ρ (fun d ρ' => match d with | .bl b => k b ρ' | _ => False) x
theorem monTB {t : E3} (m : MonE t) : MonE (tB3 t) := fun ρ k k' x x' hk hx h => m ρ _ _ _ _ (fun d ρ' q => by cases d <;> first | exact hk _ _ q | exact q) hx h
theorem cmpT3 {op : CmpOp} {r : R2} {g : G2} (ho : OpR X (compareOp op) r) (hr : Op3 r g) (hm : MonG2 g) (pa : P3 X W a ta) (pb : P3 X W b tb) (hb : behindInMarks op b = false) : P3T X W (.Compare a [op] [b] pos) (tB3 (b3 g ta tb)) := by
  refine ⟨PT.imp (pt_cmpR ho pa.run pb.run hb) fun σ H Q h => ?_, monTB (monB hm pa.mon pb.mon)⟩
  obtain ⟨G, ρ, H0, R, h⟩ := h
  refine two3 hr pa pb ⟨G, ρ, H0, R, (monB hm pa.mon pb.mon) ρ _ _ _ _ (fun d ρ' q => ?_) (fun _ _ z => z) h⟩
  intro v H' H0' s R' r
  cases d with
  | bl b => cases r; exact ⟨b, rfl, q H' H0' s R'⟩
  | _ => exact q.elim

def gAdd : G2
  | .int i, .int j, k => k (.int (i + j))
  | .str x, .str y, k => x.length + y.length ≤ sizeLine ∧ k (.str (x ++ y))
  | .lst xs, .lst ys, k => xs.length + ys.length ≤ sizeLine ∧ k (.lst (xs ++ ys))
  | .tup xs, .tup ys, k => xs.length + ys.length ≤ sizeLine ∧ k (.tup (xs ++ ys))
  | _, _, _ => False
def gSub : G2
  | .int i, .int j, k => k (.int (i - j))
  | _, _, _ => False
/-- two ints of together less than a million bits; a list so many times -/
def gMul : G2
  | .int i, .int j, k => (CMulW i j ∨ CMul i j) ∧ k (.int (i * j))
  | .lst xs, .int j, k => (-(2 ^ 63) ≤ j ∧ j < 2 ^ 63 ∧ xs.length * j.toNat ≤ sizeLine) ∧ k (.lst (List.replicate j.toNat xs).flatten)
  | _, _, _ => False
/-- a divisor of less than 9,000 bits -/
def gDiv : G2
  | .int i, .int j, k => (j ≠ 0 ∧ j.natAbs.log2 < 9000) ∧ k (.int (i.fdiv j))
  | _, _, _ => False
def gMod : G2
  | .int i, .int j, k => j ≠ 0 ∧ k (.int (i.fmod j))
  | _, _, _ => False
def gPow : G2
  | .int i, .int j, k => CPow i j ∧ k (.int (i ^ j.toNat))
  | _, _, _ => False
def gLt : G2
  | .int i, .int j, k => k (.bl (decide (i < j)))
  | _, _, _ => False
def gLe : G2
  | .int i, .int j, k => k (.bl (decide (i ≤ j)))
  | _, _, _ => False
def gEq : G2 := fun d e k => SeqAt.shaped d.py = true ∧ SeqAt.shaped e.py = true ∧ k (.bl (PyData.eqv d.py e.py))
def gNe : G2 := fun d e k => SeqAt.shaped d.py = true ∧ SeqAt.shaped e.py = true ∧ k (.bl (!PyData.eqv d.py e.py))
theorem op_fdivZ : OpR X (binaryOp .FloorDiv) (rI (fun _ j => j ≠ 0 ∧ j.natAbs.log2 < 9000) fun i j => .int (i.fdiv j)) := opI fun _ _ _ _ _ _ _ hc q => floordiv_int hc.1 q (.inl (PyProof.noPylong_of_log2 hc.2))

theorem o3_add : Op3 (fun x y H Q => rI0 (fun i j => .int (i + j)) x y H Q ∨ (∃ i j, x = .str i ∧ y = .str j ∧ i.length + j.length ≤ sizeLine ∧ Q (.str (i ++ j)) H) ∨ rCat x y H Q ∨ rCatA X.K x y H Q) gAdd := by
  intro pn H0 H x y d e k Q s rx ry h q
  cases rx with
  | int i =>
    cases ry with
    | int j => exact .inl ⟨i, j, rfl, rfl, q _ _ H0 H .refl (.int _) h⟩
    | _ => exact h.elim
  | str x =>
    cases ry with
    | str y => exact .inr (.inl ⟨x, y, rfl, rfl, h.1, q _ _ H0 H .refl (.str _) h.2⟩)
    | _ => exact h.elim
  | @lst a1 vs1 ds1 ha ra =>
    cases ry with
    | @lst a2 vs2 ds2 hb rb =>
      refine .inr (.inr (.inl ⟨_, _, _, _, rfl, rfl, s _ _ ha, s _ _ hb, by rw [ra.length, rb.length]; exact h.1, fun p hp => ?_⟩))
      have g := Grow.one (H0 := H0) (o := .lst (vs1 ++ vs2)) hp
      exact q _ _ _ _ g (.lst upd_same ((ra.append rb).mono (g.same s).1)) h.2
    | _ => exact h.elim
  | @tup a1 vs1 ds1 ha ra =>
    cases ry with
    | @tup a2 vs2 ds2 hb rb =>
      refine .inr (.inr (.inr ⟨_, _, _, _, rfl, rfl, SqT.of (s _ _ ha), SqT.of (s _ _ hb), by rw [ra.length, rb.length]; exact h.1, fun e => ?_, fun _ e => ?_, fun _ _ p hp => ?_⟩))
      · subst e
        cases ra
        exact q _ _ _ _ .refl (.tup hb rb) h.2
      · subst e
        cases rb
        have h2 := h.2
        rw [List.append_nil] at h2
        exact q _ _ _ _ .refl (.tup ha ra) h2
      · have g := Grow.one (H0 := H0) (o := .tup (vs1 ++ vs2)) hp
        exact q _ _ _ _ g (.tup upd_same ((ra.append rb).mono (g.same s).1)) h.2
    | _ => exact h.elim
  | _ => cases ry <;> exact h.elim
theorem oI3 {C : Int → Int → Prop} {f : Int → Int → Int} {g : G2} (hg : ∀ d e k, g d e k → ∃ i j, d = .int i ∧ e = .int j ∧ C i j ∧ k (.int (f i j))) : Op3 (rI C fun i j => .int (f i j)) g := by
  intro pn H0 H x y d e k Q s rx ry h q
  obtain ⟨i, j, rfl, rfl, hc, hk⟩ := hg d e k h
  cases rx
  cases ry
  exact ⟨i, j, rfl, rfl, hc, q _ _ H0 H .refl (.int _) hk⟩
theorem oB3 {f : Int → Int → Bool} {g : G2} (hg : ∀ d e k, g d e k → ∃ i j, d = .int i ∧ e = .int j ∧ k (.bl (f i j))) : Op3 (rI0 fun i j => .bl (f i j)) g := by
  intro pn H0 H x y d e k Q s rx ry h q
  obtain ⟨i, j, rfl, rfl, hk⟩ := hg d e k h
  cases rx
  cases ry
  exact ⟨i, j, rfl, rfl, q _ _ H0 H .refl (.bl _) hk⟩
theorem o3_sub : Op3 (rI0 fun i j => .int (i - j)) gSub := by
  intro pn H0 H x y d e k Q s rx ry h q
  cases rx <;> first | exact h.elim | (cases ry <;> first | exact h.elim | exact ⟨_, _, rfl, rfl, q _ _ H0 H .refl (.int _) h⟩)
theorem o3_div : Op3 (rI (fun _ j => j ≠ 0 ∧ j.natAbs.log2 < 9000) fun i j => .int (i.fdiv j)) gDiv := oI3 fun d e k h => by
  cases d <;> first | exact h.elim | (cases e <;> first | exact h.elim | exact ⟨_, _, rfl, rfl, h.1, h.2⟩)
theorem o3_mod : Op3 (rI (fun _ j => j ≠ 0) fun i j => .int (i.fmod j)) gMod := oI3 fun d e k h => by
  cases d <;> first | exact h.elim | (cases e <;> first | exact h.elim | exact ⟨_, _, rfl, rfl, h.1, h.2⟩)
theorem o3_pow : Op3 (rI CPow fun i j => .int (i ^ j.toNat)) gPow := oI3 fun d e k h => by
  cases d <;> first | exact h.elim | (cases e <;> first | exact h.elim | exact ⟨_, _, rfl, rfl, h.1, h.2⟩)
theorem o3_mul : Op3 (fun x y H Q => (rI CMulW (fun i j => .int (i * j)) x y H Q ∨ rI CMul (fun i j => .int (i * j)) x y H Q) ∨ rRep x y H Q) gMul := by
  intro pn H0 H x y d e k Q s rx ry h q
  cases rx with
  | int i =>
    cases ry with
    | int j =>
      rcases h.1 with c | c
      · exact .inl (.inl ⟨i, j, rfl, rfl, c, q _ _ H0 H .refl (.int _) h.2⟩)
      · exact .inl (.inr ⟨i, j, rfl, rfl, c, q _ _ H0 H .refl (.int _) h.2⟩)
    | _ => exact h.elim
  | @lst a1 vs1 ds1 ha ra =>
    cases ry with
    | int j =>
      refine .inr ⟨_, _, _, rfl, rfl, s _ _ ha, h.1.1, h.1.2.1, by rw [ra.length]; exact h.1.2.2, fun p hp => ?_⟩
      have g := Grow.one (H0 := H0) (o := .lst (List.replicate j.toNat vs1).flatten) hp
      exact q _ _ _ _ g (.lst upd_same ((ra.rep j.toNat).mono (g.same s).1)) h.2
    | _ => exact h.elim
  | _ => cases ry <;> exact h.elim
theorem o3_lt : Op3 (rI0 fun i j => .bl (decide (i < j))) gLt := oB3 fun d e k h => by
  cases d <;> first | exact h.elim | (cases e <;> first | exact h.elim | exact ⟨_, _, rfl, rfl, h⟩)
theorem o3_le : Op3 (rI0 fun i j => .bl (decide (i ≤ j))) gLe := oB3 fun d e k h => by
  cases d <;> first | exact h.elim | (cases e <;> first | exact h.elim | exact ⟨_, _, rfl, rfl, h⟩)
def gGt : G2 := fun d e k => gLt e d k
def gGe : G2 := fun d e k => gLe e d k
theorem o3_gt : Op3 (rI0 fun i j => .bl (decide (j < i))) gGt := oB3 fun d e k h => by
  unfold gGt at h
  cases e <;> first | exact h.elim | (cases d <;> first | exact h.elim | exact ⟨_, _, rfl, rfl, h⟩)
theorem o3_ge : Op3 (rI0 fun i j => .bl (decide (j ≤ i))) gGe := oB3 fun d e k h => by
  unfold gGe at h
  cases e <;> first | exact h.elim | (cases d <;> first | exact h.elim | exact ⟨_, _, rfl, rfl, h⟩)
theorem lay_of {d : PyData} (h : SeqAt.shaped d = true) : d.canLay0 = true := SeqAt.canLay_of_shaped h
theorem o3_eq : Op3 (rEqD X.K) gEq := fun pn H0 H x y d e k Q s rx ry ⟨h1, h2, h3⟩ q => ⟨d.py, e.py, (rx.mono s).dp (lay_of h1), (ry.mono s).dp (lay_of h2), h1, h2, q _ _ H0 H .refl (.bl _) h3⟩
theorem o3_ne : Op3 (rNeD X.K) gNe := fun pn H0 H x y d e k Q s rx ry ⟨h1, h2, h3⟩ q => ⟨d.py, e.py, (rx.mono s).dp (lay_of h1), (ry.mono s).dp (lay_of h2), h1, h2, q _ _ H0 H .refl (.bl _) h3⟩
theorem mon_and {C A B : Prop} (f : A → B) (h : C ∧ A) : C ∧ B := ⟨h.1, f h.2⟩
theorem m_add : MonG2 gAdd := fun d e k k' f h => by cases d <;> cases e <;> first | exact f _ h | exact mon_and (f _) h | exact h
theorem m_sub : MonG2 gSub := fun d e k k' f h => by cases d <;> cases e <;> first | exact f _ h | exact h
theorem m_mul : MonG2 gMul := fun d e k k' f h => by cases d <;> cases e <;> first | exact mon_and (f _) h | exact h
theorem m_div : MonG2 gDiv := fun d e k k' f h => by cases d <;> cases e <;> first | exact mon_and (f _) h | exact h
theorem m_mod : MonG2 gMod := fun d e k k' f h => by cases d <;> cases e <;> first | exact mon_and (f _) h | exact h
theorem m_pow : MonG2 gPow := fun d e k k' f h => by cases d <;> cases e <;> first | exact mon_and (f _) h | exact h
theorem m_lt : MonG2 gLt := fun d e k k' f h => by cases d <;> cases e <;> first | exact f _ h | exact h
theorem m_le : MonG2 gLe := fun d e k k' f h => by cases d <;> cases e <;> first | exact f _ h | exact h
theorem m_gt : MonG2 gGt := fun d e k k' f h => m_lt e d k k' f h
theorem m_ge : MonG2 gGe := fun d e k k' f h => m_le e d k k' f h
theorem m_eq : MonG2 gEq := fun d e k k' f h => ⟨h.1, h.2.1, f _ h.2.2⟩
theorem m_ne : MonG2 gNe := fun d e k k' f h => ⟨h.1, h.2.1, f _ h.2.2⟩
theorem add3 (pa : P3 X W a ta) (pb : P3 X W b tb) : P3 X W (.BinOp a .Add b pos) (b3 gAdd ta tb) := bin3 (op_add.or (op_add_str.or (op_cat.or op_catA))) o3_add m_add pa pb
theorem sub3 (pa : P3 X W a ta) (pb : P3 X W b tb) : P3 X W (.BinOp a .Sub b pos) (b3 gSub ta tb) := bin3 op_sub o3_sub m_sub pa pb
theorem mul3 (pa : P3 X W a ta) (pb : P3 X W b tb) : P3 X W (.BinOp a .Mult b pos) (b3 gMul ta tb) := bin3 ((op_mulW.or op_mul).or op_rep) o3_mul m_mul pa pb
theorem div3 (pa : P3 X W a ta) (pb : P3 X W b tb) : P3 X W (.BinOp a .FloorDiv b pos) (b3 gDiv ta tb) := bin3 op_fdivZ o3_div m_div pa pb
theorem mod3 (pa : P3 X W a ta) (pb : P3 X W b tb) : P3 X W (.BinOp a .Mod b pos) (b3 gMod ta tb) := bin3 op_modN o3_mod m_mod pa pb
theorem pow3 (pa : P3 X W a ta) (pb : P3 X W b tb) : P3 X W (.BinOp a .Pow b pos) (b3 gPow ta tb) := bin3 op_pow o3_pow m_pow pa pb
theorem lt3 (pa : P3 X W a ta) (pb : P3 X W b tb) : P3 X W (.Compare a [.Lt] [b] pos) (b3 gLt ta tb) := cmp3 op_lt o3_lt m_lt pa pb (nomark _)
theorem le3 (pa : P3 X W a ta) (pb : P3 X W b tb) : P3 X W (.Compare a [.LtE] [b] pos) (b3 gLe ta tb) := cmp3 op_le o3_le m_le pa pb (nomark _)
theorem gt3 (pa : P3 X W a ta) (pb : P3 X W b tb) : P3 X W (.Compare a [.Gt] [b] pos) (b3 gGt ta tb) := cmp3 op_gt o3_gt m_gt pa pb (nomark _)
theorem ge3 (pa : P3 X W a ta) (pb : P3 X W b tb) : P3 X W (.Compare a [.GtE] [b] pos) (b3 gGe ta tb) := cmp3 op_ge o3_ge m_ge pa pb (nomark _)
theorem eq3 (hu : X.A.units + 64 < cLine) (pa : P3 X W a ta) (pb : P3 X W b tb) : P3 X W (.Compare a [.Eq] [b] pos) (b3 gEq ta tb) := cmp3 (op_eqD hu) o3_eq m_eq pa pb (nomark _)
theorem ne3 (hu : X.A.units + 64 < cLine) (pa : P3 X W a ta) (pb : P3 X W b tb) : P3 X W (.Compare a [.NotEq] [b] pos) (b3 gNe ta tb) := cmp3 (op_neD hu) o3_ne m_ne pa pb (nomark _)
theorem ltT3 (pa : P3 X W a ta) (pb : P3 X W b tb) : P3T X W (.Compare a [.Lt] [b] pos) (tB3 (b3 gLt ta tb)) := cmpT3 op_lt o3_lt m_lt pa pb (nomark _)
theorem leT3 (pa : P3 X W a ta) (pb : P3 X W b tb) : P3T X W (.Compare a [.LtE] [b] pos) (tB3 (b3 gLe ta tb)) := cmpT3 op_le o3_le m_le pa pb (nomark _)
theorem gtT3 (pa : P3 X W a ta) (pb : P3 X W b tb) : P3T X W (.Compare a [.Gt] [b] pos) (tB3 (b3 gGt ta tb)) := cmpT3 op_gt o3_gt m_gt pa pb (nomark _)
theorem geT3 (pa : P3 X W a ta) (pb : P3 X W b tb) : P3T X W (.Compare a [.GtE] [b] pos) (tB3 (b3 gGe ta tb)) := cmpT3 op_ge o3_ge m_ge pa pb (nomark _)
theorem eqT3 (hu : X.A.units + 64 < cLine) (pa : P3 X W a ta) (pb : P3 X W b tb) : P3T X W (.Compare a [.Eq] [b] pos) (tB3 (b3 gEq ta tb)) := cmpT3 (op_eqD hu) o3_eq m_eq pa pb (nomark _)
theorem neT3 (hu : X.A.units + 64 < cLine) (pa : P3 X W a ta) (pb : P3 X W b tb) : P3T X W (.Compare a [.NotEq] [b] pos) (tB3 (b3 gNe ta tb)) := cmpT3 (op_neD hu) o3_ne m_ne pa pb (nomark _)

/-! ### minus -/
def tNeg3 (t : E3) : E3 := fun ρ k x => t ρ (fun d ρ' => match d with | .int i => k (.int (-i)) ρ' | _ => False) x
theorem neg3 (pa : P3 X W a ta) : P3 X W (.UnaryOp .USub a pos) (tNeg3 ta) := by
  refine ⟨PE.imp (pe_un un_neg pa.run) fun σ H Q h => ?_, fun ρ k k' x x' hk hx h => pa.mon ρ _ _ _ _ (fun d ρ' q => by cases d <;> first | exact hk _ _ q | exact q) hx h⟩
  obtain ⟨G, ρ, H0, R, h⟩ := h
  refine ⟨G, ρ, H0, R, pa.mon ρ _ _ _ _ (fun d ρ' q => ?_) (fun _ _ z => z) h⟩
  intro v H' H0' s R' r
  cases r <;> first | exact q.elim | exact ⟨_, rfl, q _ H' H0' s R' (.int _)⟩

/-! ### and, or, not, if-else -/
structure P3W (X : Cx) (W : WX) (e : Expr) (t : T3) : Prop where
  run : PW X e (lT W t)
  mon : MonE t
theorem P3W.pt {t : T3} (h : P3W X W e t) : P3T X W e t := ⟨h.run.pt, h.mon⟩
def tAnd3 (t u : T3) : T3 := fun ρ k x => t ρ (fun b ρ' => match b with | true => u ρ' k x | false => k false ρ') x
def tOr3 (t u : T3) : T3 := fun ρ k x => t ρ (fun b ρ' => match b with | true => k true ρ' | false => u ρ' k x) x
def tNot3 (t : T3) : T3 := fun ρ k x => t ρ (fun b ρ' => k (!b) ρ') x
variable {t u : T3} {rest : List Expr}
theorem monAnd (m1 : MonE t) (m2 : MonE u) : MonE (tAnd3 t u) := fun ρ k k' x x' hk hx h => m1 ρ _ _ _ _ (fun b ρ' q => by
  cases b with
  | true => exact m2 ρ' _ _ _ _ hk hx q
  | false => exact hk _ _ q) hx h
theorem monOr (m1 : MonE t) (m2 : MonE u) : MonE (tOr3 t u) := fun ρ k k' x x' hk hx h => m1 ρ _ _ _ _ (fun b ρ' q => by
  cases b with
  | true => exact hk _ _ q
  | false => exact m2 ρ' _ _ _ _ hk hx q) hx h
theorem and1 (h : P3T X W a t) : P3W X W (.BoolOp .And [a] pos) t := ⟨pw_and1 h.run, h.mon⟩
theorem or1 (h : P3T X W a t) : P3W X W (.BoolOp .Or [a] pos) t := ⟨pw_or1 h.run, h.mon⟩
theorem and3 (h1 : P3T X W a t) (h2 : P3W X W (.BoolOp .And (b :: rest) pos) u) : P3W X W (.BoolOp .And (a :: b :: rest) pos) (tAnd3 t u) := by
  refine ⟨PW.imp (pw_and h1.run h2.run) fun σ H Q h => ?_, monAnd h1.mon h2.mon⟩
  obtain ⟨G, ρ, H0, R, h⟩ := h
  refine ⟨G, ρ, H0, R, h1.mon ρ _ _ _ _ (fun b ρ' q => ?_) (fun _ _ z => z) h⟩
  intro H' H0' s R'
  cases b with
  | true => exact iteT ⟨G, ρ', H0', R', h2.mon ρ' _ _ _ _ (fun _ _ z => KT.up z s) (fun _ _ z => KX.up z s) q⟩
  | false => exact iteF (q H' H0' s R')
theorem or3 (h1 : P3T X W a t) (h2 : P3W X W (.BoolOp .Or (b :: rest) pos) u) : P3W X W (.BoolOp .Or (a :: b :: rest) pos) (tOr3 t u) := by
  refine ⟨PW.imp (pw_or h1.run h2.run) fun σ H Q h => ?_, monOr h1.mon h2.mon⟩
  obtain ⟨G, ρ, H0, R, h⟩ := h
  refine ⟨G, ρ, H0, R, h1.mon ρ _ _ _ _ (fun b ρ' q => ?_) (fun _ _ z => z) h⟩
  intro H' H0' s R'
  cases b with
  | true => exact iteT (q H' H0' s R')
  | false => exact iteF ⟨G, ρ', H0', R', h2.mon ρ' _ _ _ _ (fun _ _ z => KT.up z s) (fun _ _ z => KX.up z s) q⟩
theorem not3 (h1 : P3T X W a t) : P3T X W (.UnaryOp .Not a pos) (tNot3 t) := by
  refine ⟨PT.imp (pt_not h1.run) fun σ H Q h => ?_, fun ρ k k' x x' hk hx h => h1.mon ρ _ _ _ _ (fun b ρ' q => hk _ _ q) hx h⟩
  obtain ⟨G, ρ, H0, R, h⟩ := h
  exact ⟨G, ρ, H0, R, h1.mon ρ _ _ _ _ (fun b ρ' q H' H0' s R' => q H' H0' s R') (fun _ _ z => z) h⟩
/-- the same as values -/
def tAndV3 (ta tb : E3) : E3 := fun ρ k x => ta ρ (fun d ρ' => match d with | .bl true => tb ρ' k x | .bl false => k (.bl false) ρ' | _ => False) x
def tOrV3 (ta tb : E3) : E3 := fun ρ k x => ta ρ (fun d ρ' => match d with | .bl true => k (.bl true) ρ' | .bl false => tb ρ' k x | _ => False) x
def tNotV3 (ta : E3) : E3 := fun ρ k x => ta ρ (fun d ρ' => match d with | .bl b => k (.bl (!b)) ρ' | _ => False) x
theorem monAndV (m1 : MonE ta) (m2 : MonE tb) : MonE (tAndV3 ta tb) := fun ρ k k' x x' hk hx h => m1 ρ _ _ _ _ (fun d ρ' q => by
  cases d with
  | bl b => cases b with
    | true => exact m2 ρ' _ _ _ _ hk hx q
    | false => exact hk _ _ q
  | _ => exact q) hx h
theorem monOrV (m1 : MonE ta) (m2 : MonE tb) : MonE (tOrV3 ta tb) := fun ρ k k' x x' hk hx h => m1 ρ _ _ _ _ (fun d ρ' q => by
  cases d with
  | bl b => cases b with
    | true => exact hk _ _ q
    | false => exact m2 ρ' _ _ _ _ hk hx q
  | _ => exact q) hx h
theorem onev {op} (h : P3 X W a ta) : P3 X W (.BoolOp op [a] pos) ta := ⟨pe_one h.run, h.mon⟩
theorem andv3 (h1 : P3 X W a ta) (h2 : P3 X W (.BoolOp .And (b :: rest) pos) tb) : P3 X W (.BoolOp .And (a :: b :: rest) pos) (tAndV3 ta tb) := by
  refine ⟨PE.imp (pe_and h1.run h2.run) fun σ H Q h => ?_, monAndV h1.mon h2.mon⟩
  obtain ⟨G, ρ, H0, R, h⟩ := h
  refine ⟨G, ρ, H0, R, h1.mon ρ _ _ _ _ (fun d ρ' q => ?_) (fun _ _ z => z) h⟩
  intro v H' H0' s R' r
  cases r with
  | bl b =>
    cases b with
    | true => exact ⟨true, rfl, iteT ⟨G, ρ', H0', R', h2.mon ρ' _ _ _ _ (fun _ _ z => KQ.up z s) (fun _ _ z => KX.up z s) q⟩⟩
    | false => exact ⟨false, rfl, iteF (q _ H' H0' s R' (.bl _))⟩
  | _ => exact q.elim
theorem orv3 (h1 : P3 X W a ta) (h2 : P3 X W (.BoolOp .Or (b :: rest) pos) tb) : P3 X W (.BoolOp .Or (a :: b :: rest) pos) (tOrV3 ta tb) := by
  refine ⟨PE.imp (pe_or h1.run h2.run) fun σ H Q h => ?_, monOrV h1.mon h2.mon⟩
  obtain ⟨G, ρ, H0, R, h⟩ := h
  refine ⟨G, ρ, H0, R, h1.mon ρ _ _ _ _ (fun d ρ' q => ?_) (fun _ _ z => z) h⟩
  intro v H' H0' s R' r
  cases r with
  | bl b =>
    cases b with
    | true => exact ⟨true, rfl, iteT (q _ H' H0' s R' (.bl _))⟩
    | false => exact ⟨false, rfl, iteF ⟨G, ρ', H0', R', h2.mon ρ' _ _ _ _ (fun _ _ z => KQ.up z s) (fun _ _ z => KX.up z s) q⟩⟩
  | _ => exact q.elim
theorem notv3 (h1 : P3 X W a ta) : P3 X W (.UnaryOp .Not a pos) (tNotV3 ta) := by
  refine ⟨PE.imp (pe_not h1.run) fun σ H Q h => ?_, fun ρ k k' x x' hk hx h => h1.mon ρ _ _ _ _ (fun d ρ' q => by cases d <;> first | exact hk _ _ q | exact q) hx h⟩
  obtain ⟨G, ρ, H0, R, h⟩ := h
  refine ⟨G, ρ, H0, R, h1.mon ρ _ _ _ _ (fun d ρ' q => ?_) (fun _ _ z => z) h⟩
  intro v H' H0' s R' r
  cases r with
  | bl b => exact ⟨b, rfl, q _ H' H0' s R' (.bl _)⟩
  | _ => exact q.elim
def tIf3 (t : T3) (ta tb : E3) : E3 := fun ρ k x => t ρ (fun b ρ' => match b with | true => ta ρ' k x | false => tb ρ' k x) x
theorem monIf (m : MonE t) (m1 : MonE ta) (m2 : MonE tb) : MonE (tIf3 t ta tb) := fun ρ k k' x x' hk hx h => m ρ _ _ _ _ (fun b ρ' q => by
  cases b with
  | true => exact m1 ρ' _ _ _ _ hk hx q
  | false => exact m2 ρ' _ _ _ _ hk hx q) hx h
theorem if3 (h : P3T X W c t) (h1 : P3 X W a ta) (h2 : P3 X W b tb) : P3 X W (.IfExp c a b pos) (tIf3 t ta tb) := by
  refine ⟨PE.imp (pe_ifExp h.run h1.run h2.run) fun σ H Q q => ?_, monIf h.mon h1.mon h2.mon⟩
  obtain ⟨G, ρ, H0, R, q⟩ := q
  refine ⟨G, ρ, H0, R, h.mon ρ _ _ _ _ (fun b ρ' q => ?_) (fun _ _ z => z) q⟩
  intro H' H0' s R'
  cases b with
  | true => exact iteT ⟨G, ρ', H0', R', h1.mon ρ' _ _ _ _ (fun _ _ z => KQ.up z s) (fun _ _ z => KX.up z s) q⟩
  | false => exact iteF ⟨G, ρ', H0', R', h2.mon ρ' _ _ _ _ (fun _ _ z => KQ.up z s) (fun _ _ z => KX.up z s) q⟩
/-- is None, is not None -/
def isN : D → Bool
  | .non => true
  | _ => false
def tIsN3 (ta : E3) : E3 := fun ρ k x => ta ρ (fun d ρ' => k (.bl (isN d)) ρ') x
def tNotN3 (ta : E3) : E3 := fun ρ k x => ta ρ (fun d ρ' => k (.bl (!isN d)) ρ') x
theorem isN_dec {pn : Option Addr} {H : Hp} {v : V} {d : D} (r : Rep pn H v d) : decide (v = .non) = isN d := by
  cases r <;> first | rfl | exact decide_eq_false (fun z => nomatch z)
theorem isn3 {j p} (h1 : P3 X W a ta) : P3 X W (.Compare a [.Is] [.Constant .none j p] pos) (tIsN3 ta) := by
  refine ⟨PE.imp (pe_cmp (pc_isN h1.run) rfl) fun σ H Q h => ?_, fun ρ k k' x x' hk hx h => h1.mon ρ _ _ _ _ (fun d ρ' q => hk _ _ q) hx h⟩
  obtain ⟨G, ρ, H0, R, h⟩ := h
  refine ⟨G, ρ, H0, R, h1.mon ρ _ _ _ _ (fun d ρ' q => ?_) (fun _ _ z => z) h⟩
  intro v H' H0' s R' r
  rw [isN_dec r]
  exact q _ H' H0' s R' (.bl _)
theorem notn3 {j p} (h1 : P3 X W a ta) : P3 X W (.Compare a [.IsNot] [.Constant .none j p] pos) (tNotN3 ta) := by
  refine ⟨PE.imp (pe_cmp (pc_notN h1.run) rfl) fun σ H Q h => ?_, fun ρ k k' x x' hk hx h => h1.mon ρ _ _ _ _ (fun d ρ' q => hk _ _ q) hx h⟩
  obtain ⟨G, ρ, H0, R, h⟩ := h
  refine ⟨G, ρ, H0, R, h1.mon ρ _ _ _ _ (fun d ρ' q => ?_) (fun _ _ z => z) h⟩
  intro v H' H0' s R' r
  rw [isN_dec r]
  exact q _ H' H0' s R' (.bl _)
theorem isnT3 {j p} (h1 : P3 X W a ta) : P3T X W (.Compare a [.Is] [.Constant .none j p] pos) (tB3 (tIsN3 ta)) := by
  refine ⟨PT.imp (pt_cmp (pc_isN h1.run) rfl) fun σ H Q h => ?_, monTB (isn3 (pos := pos) (j := j) (p := p) h1).mon⟩
  obtain ⟨G, ρ, H0, R, h⟩ := h
  refine ⟨G, ρ, H0, R, h1.mon ρ _ _ _ _ (fun d ρ' q => ?_) (fun _ _ z => z) h⟩
  intro v H' H0' s R' r
  rw [isN_dec r]
  exact ⟨_, rfl, q H' H0' s R'⟩
theorem notnT3 {j p} (h1 : P3 X W a ta) : P3T X W (.Compare a [.IsNot] [.Constant .none j p] pos) (tB3 (tNotN3 ta)) := by
  refine ⟨PT.imp (pt_cmp (pc_notN h1.run) rfl) fun σ H Q h => ?_, monTB (notn3 (pos := pos) (j := j) (p := p) h1).mon⟩
  obtain ⟨G, ρ, H0, R, h⟩ := h
  refine ⟨G, ρ, H0, R, h1.mon ρ _ _ _ _ (fun d ρ' q => ?_) (fun _ _ z => z) h⟩
  intro v H' H0' s R' r
  rw [isN_dec r]
  exact ⟨_, rfl, q H' H0' s R'⟩

/-! ### rows of expressions, displays -/
variable {es : List Expr} {tr : A3}
def tNil3 : A3 := fun ρ k _ => k [] ρ
def tCons3 (ta : E3) (tr : A3) : A3 := fun ρ k x => ta ρ (fun d ρ1 => tr ρ1 (fun ds ρ2 => k (d :: ds) ρ2) x) x
theorem monNil : MonE tNil3 := fun ρ k k' x x' hk hx h => hk _ _ h
theorem monCons (m1 : MonE ta) (m2 : MonE tr) : MonE (tCons3 ta tr) := fun ρ k k' x x' hk hx h => m1 ρ _ _ _ _ (fun d ρ1 q => m2 ρ1 _ _ _ _ (fun ds ρ2 q2 => hk _ _ q2) hx q) hx h
theorem anil : P3A X W [] tNil3 := ⟨PA.imp pa_nil fun σ H Q ⟨G, ρ, H0, R, q⟩ => q [] H H0 (Same.refl _) R .nil, monNil⟩
theorem acons (h1 : P3 X W e te) (h2 : P3A X W es tr) (hs : starEach (e :: es) X.env = (false, eval e X.env) :: starEach es X.env := by rfl) : P3A X W (e :: es) (tCons3 te tr) := by
  refine ⟨PA.imp (pa_cons h1.run h2.run hs) fun σ H Q h => ?_, monCons h1.mon h2.mon⟩
  obtain ⟨G, ρ, H0, R, h⟩ := h
  refine ⟨G, ρ, H0, R, h1.mon ρ _ _ _ _ (fun d ρ1 q => ?_) (fun _ _ z => z) h⟩
  intro v H1 H01 s1 R1 r1
  refine ⟨G, ρ1, H01, R1, h2.mon ρ1 _ _ _ _ (fun ds ρ2 q => ?_) (fun _ _ z => KX.up z s1) q⟩
  intro vs H2 H02 s2 R2 r2
  exact q (v :: vs) H2 H02 (s1.trans s2) R2 (.cons (r1.mono s2) r2)
def tLst3 (tr : A3) : E3 := fun ρ k x => tr ρ (fun ds ρ' => ds.length ≤ sizeLine ∧ k (.lst ds) ρ') x
def tTup3 (tr : A3) : E3 := fun ρ k x => tr ρ (fun ds ρ' => ds.length ≤ sizeLine ∧ k (.tup ds) ρ') x
theorem lst3 (h1 : P3A X W es tr) : P3 X W (.List es pos) (tLst3 tr) := by
  refine ⟨PE.imp (pe_lst h1.run) fun σ H Q h => ?_, fun ρ k k' x x' hk hx h => h1.mon ρ _ _ _ _ (fun d ρ' q => mon_and (hk _ _) q) hx h⟩
  obtain ⟨G, ρ, H0, R, h⟩ := h
  refine ⟨G, ρ, H0, R, h1.mon ρ _ _ _ _ (fun ds ρ' q => ?_) (fun _ _ z => z) h⟩
  intro vs H' H0' s R' r
  refine ⟨by rw [r.length]; exact q.1, fun p hp => ?_⟩
  have g := Grow.one (H0 := H0') (o := .lst vs) hp
  exact q.2 _ _ _ (s.trans (g.same R'.ex).1) (g.rel R') (.lst upd_same (r.mono (g.same R'.ex).1))
theorem tup3 {x1} (h1 : P3A X W es tr) : P3 X W (.Tuple es x1 pos) (tTup3 tr) := by
  refine ⟨PE.imp (pe_tup h1.run) fun σ H Q h => ?_, fun ρ k k' x x' hk hx h => h1.mon ρ _ _ _ _ (fun d ρ' q => mon_and (hk _ _) q) hx h⟩
  obtain ⟨G, ρ, H0, R, h⟩ := h
  refine ⟨G, ρ, H0, R, h1.mon ρ _ _ _ _ (fun ds ρ' q => ?_) (fun _ _ z => z) h⟩
  intro vs H' H0' s R' r
  refine ⟨by rw [r.length]; exact q.1, fun p hp => ?_⟩
  have g := Grow.one (H0 := H0') (o := .tup vs) hp
  exact q.2 _ _ _ (s.trans (g.same R'.ex).1) (g.rel R') (.tup upd_same (r.mono (g.same R'.ex).1))

/-! ### subscripts -/
def optK {α : Type} : Option α → (α → Prop) → Prop
  | some d, k => k d
  | none, _ => False
theorem optK_mono {α : Type} {o : Option α} {k k' : α → Prop} (f : ∀ z, k z → k' z) (h : optK o k) : optK o k' := by
  cases o with
  | none => exact h
  | some d => exact f d h
theorem optK_some {α : Type} {o : Option α} {k : α → Prop} (h : optK o k) : ∃ d, o = some d ∧ k d := by
  cases o with
  | none => exact h.elim
  | some d => exact ⟨d, rfl, h⟩
def gIx : G2
  | .lst xs, .int i, k => optK (atI xs i) k
  | .tup xs, .int i, k => optK (atI xs i) k
  | .str z, .int i, k => z.length ≤ sizeLine ∧ optK (atI z.cps.toList i) fun c => k (.str ⟨#[c]⟩)
  | _, _, _ => False
theorem atI_rep {pn : Option Addr} {H : Hp} {vs : List V} {ds : List D} (r : RepA pn H vs ds) {i : Int} {d : D} (h : atI ds i = some d) : ∃ v, atI vs i = some v ∧ Rep pn H v d := by
  unfold atI at h ⊢
  rw [r.length]
  cases e : ixN ds.length i with
  | none => rw [e] at h; cases h
  | some j =>
    rw [e] at h
    exact r.get h
theorem o3_ix {K : PySem.W.Frag} : Op3 (rIx K) gIx := by
  intro pn H0 H x y d e k Q s rx ry h q
  cases rx with
  | lst ha ra =>
    cases ry with
    | int i =>
      obtain ⟨d, hd, h⟩ := optK_some h
      obtain ⟨v, h1, h2⟩ := atI_rep ra hd
      exact .inl ⟨_, _, i, v, rfl, rfl, SqL.of (s _ _ ha), h1, q _ _ H0 H .refl h2 h⟩
    | _ => exact h.elim
  | tup ha ra =>
    cases ry with
    | int i =>
      obtain ⟨d, hd, h⟩ := optK_some h
      obtain ⟨v, h1, h2⟩ := atI_rep ra hd
      exact .inr (.inl ⟨_, _, i, v, rfl, rfl, SqT.of (s _ _ ha), h1, q _ _ H0 H .refl h2 h⟩)
    | _ => exact h.elim
  | str z =>
    cases ry with
    | int i =>
      obtain ⟨c, hc, h2⟩ := optK_some h.2
      exact .inr (.inr ⟨z, i, c, rfl, rfl, h.1, hc, q _ _ H0 H .refl (.str _) h2⟩)
    | _ => exact h.elim
  | _ => cases ry <;> exact h.elim
theorem m_ix : MonG2 gIx := fun d e k k' f h => by
  cases d <;> cases e <;> first
    | exact optK_mono f h
    | exact ⟨h.1, optK_mono (fun _ => f _) h.2⟩
    | exact h
theorem ix3 (pa : P3 X W a ta) (pb : P3 X W b tb) (hs : PlainIx b := by exact fun _ _ => rfl) : P3 X W (.Subscript a b pos) (b3 gIx ta tb) :=
  ⟨PE.imp (pe_ix ix_seq pa.run pb.run hs) fun _ _ _ h => two3 o3_ix pa pb h, monB m_ix pa.mon pb.mon⟩

/-! ### slices -/
abbrev O3 := Env3 → (Option Int → Env3 → Prop) → K3 → Prop
def lO (W : WX) (t : O3) : TO := fun σ H Q => ∃ G ρ H0, Rel G H0 ρ σ H ∧ t ρ (fun o ρ' => ∀ H' H0', Same H0 H0' → Rel G H0' ρ' σ H' → Q o H') (KX G H0 σ W)
structure P3O (X : Cx) (W : WX) (e : Option Expr) (t : O3) : Prop where
  run : PO X e (lO W t)
  mon : MonE t
def tNoPart3 : O3 := fun ρ k _ => k none ρ
def tPart3 (t : E3) : O3 := fun ρ k x => t ρ (fun d ρ' => match d with | .int i => k (some i) ρ' | _ => False) x
theorem PO.imp {X : Cx} {e : Option Expr} {t t' : TO} (h : PO X e t) (q : ∀ σ H Q, t' σ H Q → t σ H Q) : PO X e t' := ⟨fun pins s σ H Q I z => h.run pins s σ H Q I (q σ H Q z)⟩
theorem onone : P3O X W none tNoPart3 := ⟨PO.imp po_none fun σ H Q ⟨G, ρ, H0, R, q⟩ => q H H0 (Same.refl _) R, fun ρ k k' x x' hk hx h => hk _ _ h⟩
theorem osome (h1 : P3 X W e te) : P3O X W (some e) (tPart3 te) := by
  refine ⟨PO.imp (po_some h1.run) fun σ H Q h => ?_, fun ρ k k' x x' hk hx h => h1.mon ρ _ _ _ _ (fun d ρ' q => by cases d <;> first | exact hk _ _ q | exact q) hx h⟩
  obtain ⟨G, ρ, H0, R, h⟩ := h
  refine ⟨G, ρ, H0, R, h1.mon ρ _ _ _ _ (fun d ρ' q => ?_) (fun _ _ z => z) h⟩
  intro v H' H0' s R' r
  cases r with
  | int i => exact ⟨i, rfl, q H' H0' s R'⟩
  | _ => exact q.elim
def cutL {α : Type} (xs : List α) (lo hi : Option Int) : List α := (xs.drop (HT.sIx xs.length 0 lo)).take (HT.sIx xs.length xs.length hi - HT.sIx xs.length 0 lo)
theorem RepA.cut {pn : Option Addr} {H : Hp} {vs : List V} {ds : List D} (r : RepA pn H vs ds) (lo hi : Option Int) : RepA pn H (cutV vs lo hi) (cutL ds lo hi) := by
  unfold cutV cutL
  rw [r.length]
  exact (r.drop _).take _
def gSl (d : D) (lo hi : Option Int) (k : D → Prop) : Prop :=
  match d with
  | .lst xs => k (.lst (cutL xs lo hi))
  | .tup xs => k (.tup (cutL xs lo hi))
  | .str z => z.length ≤ sizeLine ∧ k (.str (cutS z lo hi))
  | _ => False
theorem m_sl {d : D} {lo hi : Option Int} {k k' : D → Prop} (f : ∀ z, k z → k' z) (h : gSl d lo hi k) : gSl d lo hi k' := by
  cases d <;> first | exact f _ h | exact mon_and (f _) h | exact h
def tSl3 (ta : E3) (tl th : O3) : E3 := fun ρ k x => ta ρ (fun d ρ1 => tl ρ1 (fun lo ρ2 => th ρ2 (fun hi ρ3 => gSl d lo hi fun z => k z ρ3) x) x) x
theorem cut_whole {α : Type} (xs : List α) (lo hi : Option Int) (h : HT.sIx xs.length 0 lo = 0 ∧ HT.sIx xs.length xs.length hi = xs.length) : cutL xs lo hi = xs := by
  unfold cutL
  rw [h.1, h.2]
  simp
theorem sl3 {lo hi : Option Expr} {tl th : O3} {p2 : Pos} (pa : P3 X W a ta) (pl : P3O X W lo tl) (ph : P3O X W hi th) : P3 X W (.Subscript a (.Slice lo hi none p2) pos) (tSl3 ta tl th) := by
  refine ⟨PE.imp (pe_slice (sl_list.or (sl_tupA.or sl_str)) pa.run pl.run ph.run) fun σ H Q h => ?_, fun ρ k k' x x' hk hx h =>
    pa.mon ρ _ _ _ _ (fun d ρ1 q => pl.mon ρ1 _ _ _ _ (fun l ρ2 q => ph.mon ρ2 _ _ _ _ (fun u ρ3 q => m_sl (fun z => hk z ρ3) q) hx q) hx q) hx h⟩
  obtain ⟨G, ρ, H0, R, h⟩ := h
  refine ⟨G, ρ, H0, R, pa.mon ρ _ _ _ _ (fun d ρ1 q => ?_) (fun _ _ z => z) h⟩
  intro v H1 H01 s1 R1 r1
  refine ⟨G, ρ1, H01, R1, pl.mon ρ1 _ _ _ _ (fun l ρ2 q => ?_) (fun _ _ z => KX.up z s1) q⟩
  intro H2 H02 s2 R2
  refine ⟨G, ρ2, H02, R2, ph.mon ρ2 _ _ _ _ (fun u ρ3 q => ?_) (fun _ _ z => KX.up z (s1.trans s2)) q⟩
  intro H3 H03 s3 R3
  have r3 := r1.mono (s2.trans s3)
  have s03 := (s1.trans s2).trans s3
  cases r3 with
  | @lst a vs ds ha ra =>
    refine .inl ⟨_, _, rfl, SqL.of (R3.ex _ _ ha), fun p hp => ?_⟩
    have g := Grow.one (H0 := H03) (o := .lst (cutV vs l u)) hp
    exact q _ _ _ (s03.trans (g.same R3.ex).1) (g.rel R3) (.lst upd_same ((ra.cut l u).mono (g.same R3.ex).1))
  | @tup a vs ds ha ra =>
    refine .inr (.inl ⟨_, _, rfl, SqT.of (R3.ex _ _ ha), fun w => ?_, fun w p hp => ?_⟩)
    · have q : KQ G H0 σ Q (.tup (cutL ds l u)) ρ3 := q
      rw [cut_whole ds l u (by rw [← ra.length]; exact w)] at q
      exact q _ _ _ s03 R3 (.tup ha ra)
    · have g := Grow.one (H0 := H03) (o := .tup (cutV vs l u)) hp
      exact q _ _ _ (s03.trans (g.same R3.ex).1) (g.rel R3) (.tup upd_same ((ra.cut l u).mono (g.same R3.ex).1))
  | str z => exact .inr (.inr ⟨z, rfl, q.1, q.2 _ _ _ s03 R3 (.str _)⟩)
  | _ => exact q.elim

/-! ### calls of built-ins, by values -/
abbrev GC := List D → (D → Prop) → Prop
def MonC3 (g : GC) : Prop := ∀ ds k k', (∀ z, k z → k' z) → g ds k → g ds k'
def C3 (r : List V → Hp → VK → Prop) (g : GC) : Prop := ∀ (pn : Option Addr) (H0 H : Hp) (vs : List V) (ds : List D) (k : D → Prop) (Q : VK), Same H0 H → RepA pn H0 vs ds → g ds k →
  (∀ z dz H0' H', Grow H0 H H0' H' → Rep pn H0' z dz → k dz → Q z H') → r vs H Q
def tCB3 (g : GC) (tr : A3) : E3 := fun ρ k x => tr ρ (fun ds ρ' => g ds fun z => k z ρ') x
theorem monCB {g : GC} (hm : MonC3 g) (m : MonE tr) : MonE (tCB3 g tr) := fun ρ k k' x x' hk hx h => m ρ _ _ _ _ (fun ds ρ' q => hm ds _ _ (fun z => hk z ρ') q) hx h
theorem cb3_of {r : List V → Hp → VK → Prop} {g : GC} (h : PE X e (tCB r (lA W tr))) (hr : C3 r g) (hm : MonC3 g) (m : MonE tr) : P3 X W e (tCB3 g tr) := by
  refine ⟨PE.imp h fun σ H Q h => ?_, monCB hm m⟩
  obtain ⟨G, ρ, H0, R, h⟩ := h
  refine ⟨G, ρ, H0, R, m ρ _ _ _ _ (fun ds ρ' q => ?_) (fun _ _ z => z) h⟩
  intro vs H' H0' s R' r
  exact hr G.pn H0' H' vs ds _ Q R'.ex r q fun z dz H1 H2 g rz kz => kz z H2 H1 (s.trans (g.same R'.ex).1) (g.rel R') rz
section
variable {x : Str} {id T : String} {r : List V → Hp → VK → Prop} {g : GC} {p : Pos}
theorem cb3 (hc : CallR X (.builtin id) r) (hr : C3 r g) (hm : MonC3 g) (hg : Gl X x) (hn : X.mg x = none) (hv : bootBuiltins x = some (.builtin id)) (ha : P3A X W (e :: es) tr) (hnn : x ≠ "__name__" := by decide) (hdb : (x == ("__debug__" : Str)) = false := by decide)
    (he : starEach (e :: es) X.env = (false, eval e X.env) :: starEach es X.env := by rfl) (hpl : (backTo pos (starEach es X.env)).any (·.1) = false := by rfl) : P3 X W (.Call (.Name x p) (e :: es) [] pos) (tCB3 g tr) :=
  cb3_of (pe_callB hc hg hn hv ha.run hnn hdb he hpl) hr hm ha.mon
theorem cty3 (hc : CallR X (.type T) r) (hr : C3 r g) (hm : MonC3 g) (hg : Gl X x) (hn : X.mg x = none) (hv : bootBuiltins x = some (.type T)) (ha : P3A X W (e :: es) tr) (hnn : x ≠ "__name__" := by decide) (hdb : (x == ("__debug__" : Str)) = false := by decide)
    (he : starEach (e :: es) X.env = (false, eval e X.env) :: starEach es X.env := by rfl) (hpl : (backTo pos (starEach es X.env)).any (·.1) = false := by rfl) : P3 X W (.Call (.Name x p) (e :: es) [] pos) (tCB3 g tr) :=
  cb3_of (pe_callTy hc hg hn hv ha.run hnn hdb he hpl) hr hm ha.mon
end
def gLen : GC
  | [.lst xs], k => k (.int xs.length)
  | [.tup xs], k => k (.int xs.length)
  | [.str z], k => z.length ≤ sizeLine ∧ k (.int z.length)
  | _, _ => False
def gAbs : GC
  | [.int i], k => k (.int (if i < 0 then -i else i))
  | _, _ => False
def gInt : GC
  | [.int i], k => k (.int i)
  | [.bl b], k => k (.int (if b then 1 else 0))
  | _, _ => False
def allInts : List D → Option (List Int)
  | [] => some []
  | .int i :: r => (allInts r).map (i :: ·)
  | _ :: _ => none
def gSum : GC
  | [.lst xs], k => optK (allInts xs) fun ns => k (.int ns.sum)
  | [.tup xs], k => optK (allInts xs) fun ns => k (.int ns.sum)
  | _, _ => False
/-- sum of a tuple of ints -/
def rSumT (K : PySem.W.Frag) : List V → Hp → VK → Prop := fun vs H Q => ∃ (a : Addr) (ns : List Int), vs = [V.ref a] ∧ SqT K H a (ns.map V.int) ∧ Q (.int ns.sum) H
theorem ints_getD : ∀ {ns : List Int} {us : List Value} {i : Nat} {v : Value}, Vals (ns.map V.int) us → us[i]? = some v → ∃ t, v = .int (ns.getD i 0) t
  | [], _, i, v, .nil, h => by simp at h
  | n :: r, _, 0, v, .cons h _, e => by
    obtain ⟨t, rfl⟩ := h
    exact ⟨t, (Option.some.inj e).symm⟩
  | n :: r, _, i + 1, v, .cons _ q, e => by
    have := ints_getD (i := i) q (by simpa using e)
    simpa using this
theorem cr_sumT {X : Cx} (hc : X.calm = true) : CallR X (.builtin "sum") (rSumT X.K) := by
  intro pins s σ H vs us Q I r h
  obtain ⟨a, ns, rfl, hs, q⟩ := h
  obtain ⟨its, rv, p, _⟩ := I.tuple hs
  rw [Vals.ref1 r]
  have hT : s.heap.IsTuple a its.toArray := p
  obtain ⟨o, ho, _⟩ := id hT
  have alt : a < s.heap.objs.size := Heap.lt_size ho
  refine PySem.call_sum_walkG (wpAny_pyIter_tuple hT ?_)
  refine ⟨s.heap.objs.size, _, _, _, _, _, fun i => ns.getD i 0, rfl, Walks.tuple (A := X.A.in1) (I.ok.hd hc) s.heap.objs.size a (Nat.ne_of_lt alt) its.toArray, ⟨⟨_, Heap.get?_push_size _ rfl, rfl, rfl⟩, hT.at fun o e => Heap.get?_push_of_some _ e⟩, fun b hb => ?_, fun i v e => ints_getD rv (by simpa using e), fun h' tk t' hk => ?_⟩
  · show b < (s.heap.push _).objs.size
    rw [Heap.size_push]
    rcases List.mem_cons.mp hb with rfl | hb
    · exact Nat.lt_succ_self _
    · rw [List.mem_singleton.mp hb]
      exact Nat.lt_succ_of_lt alt
  · have e : preSum (fun i => ns.getD i 0) its.toArray.size = ns.sum := by
      have hl := rv.length
      rw [List.length_map] at hl
      rw [preSum_getD, List.size_toArray, ← hl, List.take_length]
    rw [e]
    exact ⟨.int _, H, I.kept (t' := tk) fun b u e => hk b u (by simp; exact Nat.ne_of_lt (Heap.lt_size e)) (Heap.get?_push_of_some _ e), ⟨_, rfl⟩, q⟩
def gTuple : GC
  | [.lst xs], k => k (.tup xs)
  | [.tup xs], k => k (.tup xs)
  | _, _ => False
def gList : GC
  | [.lst xs], k => k (.lst xs)
  | [.tup xs], k => k (.lst xs)
  | _, _ => False
def gGcd : GC
  | [.int i, .int j], k => k (.int ((Nat.gcd i.natAbs j.natAbs : Nat) : Int))
  | _, _ => False
theorem rep1 {pn : Option Addr} {H : Hp} {vs : List V} {d : D} (r : RepA pn H vs [d]) : ∃ v, vs = [v] ∧ Rep pn H v d := by
  cases r with
  | cons h t => cases t; exact ⟨_, rfl, h⟩
theorem rep2 {pn : Option Addr} {H : Hp} {vs : List V} {d d' : D} (r : RepA pn H vs [d, d']) : ∃ v w, vs = [v, w] ∧ Rep pn H v d ∧ Rep pn H w d' := by
  cases r with
  | cons h t =>
    obtain ⟨w, rfl, q⟩ := rep1 t
    exact ⟨_, _, rfl, h, q⟩
theorem c3_one {r : List V → Hp → VK → Prop} {g : GC} (hg : ∀ ds k, g ds k → ∃ d, ds = [d]) (h : ∀ (pn : Option Addr) (H0 H : Hp) (v : V) (d : D) (k : D → Prop) (Q : VK), Same H0 H → Rep pn H0 v d → g [d] k →
    (∀ z dz H0' H', Grow H0 H H0' H' → Rep pn H0' z dz → k dz → Q z H') → r [v] H Q) : C3 r g := by
  intro pn H0 H vs ds k Q s ra q f
  obtain ⟨d, rfl⟩ := hg ds k q
  obtain ⟨v, rfl, rv⟩ := rep1 ra
  exact h pn H0 H v d k Q s rv q f
theorem c3_len {K : PySem.W.Frag} : C3 (fun xs H Q => ((∃ p ys, xs = [.ref p] ∧ (SqL K H p ys ∨ SqT K H p ys) ∧ Q (.int ys.length) H) ∨ (∃ z, xs = [.str z] ∧ z.length ≤ sizeLine ∧ Q (.int z.length) H))) gLen := by
  refine c3_one (fun ds k h => ?_) (fun pn H0 H v d k Q s r h q => ?_)
  · rcases ds with _ | ⟨d, _ | ⟨e, l⟩⟩
    · exact h.elim
    · exact ⟨d, rfl⟩
    · cases d <;> exact h.elim
  · cases r with
    | lst ha ra => exact .inl ⟨_, _, rfl, .inl (SqL.of (s _ _ ha)), q _ _ _ _ .refl (by rw [ra.length]; exact .int _) h⟩
    | tup ha ra => exact .inl ⟨_, _, rfl, .inr (SqT.of (s _ _ ha)), q _ _ _ _ .refl (by rw [ra.length]; exact .int _) h⟩
    | str z => exact .inr ⟨z, rfl, h.1, q _ _ _ _ .refl (.int _) h.2⟩
    | _ => exact h.elim
theorem c3_abs : C3 (fun xs H Q => ∃ i, xs = [.int i] ∧ Q (.int (if i < 0 then -i else i)) H) gAbs := by
  refine c3_one (fun ds k h => ?_) (fun pn H0 H v d k Q s r h q => ?_)
  · rcases ds with _ | ⟨d, _ | ⟨e, l⟩⟩
    · exact h.elim
    · exact ⟨d, rfl⟩
    · cases d <;> exact h.elim
  · cases r with
    | int i => exact ⟨_, rfl, q _ _ _ _ .refl (.int _) h⟩
    | _ => exact h.elim
theorem c3_int : C3 (fun xs H Q => (∃ i, xs = [.int i] ∧ Q (.int i) H) ∨ ∃ k, xs = [.bl k] ∧ Q (.int (if k then 1 else 0)) H) gInt := by
  refine c3_one (fun ds k h => ?_) (fun pn H0 H v d k Q s r h q => ?_)
  · rcases ds with _ | ⟨d, _ | ⟨e, l⟩⟩
    · exact h.elim
    · exact ⟨d, rfl⟩
    · cases d <;> exact h.elim
  · cases r with
    | int i => exact .inl ⟨_, rfl, q _ _ _ _ .refl (.int _) h⟩
    | bl b => exact .inr ⟨_, rfl, q _ _ _ _ .refl (.int _) h⟩
    | _ => exact h.elim
theorem allInts_map : ∀ {xs : List D} {ns : List Int}, allInts xs = some ns → xs = ns.map D.int
  | [], ns, h => by cases h; rfl
  | d :: r, ns, h => by
    cases d with
    | int i =>
      simp only [allInts, Option.map_eq_some_iff] at h
      obtain ⟨ms, h1, rfl⟩ := h
      rw [List.map_cons, allInts_map h1]
    | _ => cases h
theorem allInts_of : ∀ (ns : List Int), allInts (ns.map D.int) = some ns
  | [] => rfl
  | n :: r => by simp only [List.map_cons, allInts, allInts_of r, Option.map_some]
theorem c3_sum {K : PySem.W.Frag} : C3 (fun vs H Q => rSum K vs H Q ∨ rSumT K vs H Q) gSum := by
  refine c3_one (fun ds k h => ?_) (fun pn H0 H v d k Q s r h q => ?_)
  · rcases ds with _ | ⟨d, _ | ⟨e, l⟩⟩
    · exact h.elim
    · exact ⟨d, rfl⟩
    · cases d <;> exact h.elim
  · cases r with
    | lst ha ra =>
      obtain ⟨ns, e, h⟩ := optK_some h
      rw [allInts_map e] at ra
      have e2 := ra.ints_of
      subst e2
      exact .inl ⟨_, ns, rfl, SqL.of (s _ _ ha), q _ _ _ _ .refl (.int _) h⟩
    | tup ha ra =>
      obtain ⟨ns, e, h⟩ := optK_some h
      rw [allInts_map e] at ra
      have e2 := ra.ints_of
      subst e2
      exact .inr ⟨_, ns, rfl, SqT.of (s _ _ ha), q _ _ _ _ .refl (.int _) h⟩
    | _ => exact h.elim
theorem c3_tuple {K : PySem.W.Frag} : C3 (fun xs H Q => ∃ p ys, xs = [.ref p] ∧ ((SqL K H p ys ∧ ∀ l, H l = none → Q (.ref l) (upd H l (.tup ys))) ∨ (SqT K H p ys ∧ Q (.ref p) H))) gTuple := by
  refine c3_one (fun ds k h => ?_) (fun pn H0 H v d k Q s r h q => ?_)
  · rcases ds with _ | ⟨d, _ | ⟨e, l⟩⟩
    · exact h.elim
    · exact ⟨d, rfl⟩
    · cases d <;> exact h.elim
  · cases r with
    | @lst a vs ds ha ra =>
      refine ⟨_, _, rfl, .inl ⟨SqL.of (s _ _ ha), fun p hp => ?_⟩⟩
      have g := Grow.one (H0 := H0) (o := .tup vs) hp
      exact q _ _ _ _ g (.tup upd_same (ra.mono (g.same s).1)) h
    | tup ha ra => exact ⟨_, _, rfl, .inr ⟨SqT.of (s _ _ ha), q _ _ _ _ .refl (.tup ha ra) h⟩⟩
    | _ => exact h.elim
theorem c3_list {K : PySem.W.Frag} : C3 (fun xs H Q => ∃ p ys, xs = [.ref p] ∧ (SqL K H p ys ∨ SqT K H p ys) ∧ ∀ l, H l = none → Q (.ref l) (upd H l (.lst ys))) gList := by
  refine c3_one (fun ds k h => ?_) (fun pn H0 H v d k Q s r h q => ?_)
  · rcases ds with _ | ⟨d, _ | ⟨e, l⟩⟩
    · exact h.elim
    · exact ⟨d, rfl⟩
    · cases d <;> exact h.elim
  · cases r with
    | @lst a vs ds ha ra =>
      refine ⟨_, _, rfl, .inl (SqL.of (s _ _ ha)), fun p hp => ?_⟩
      have g := Grow.one (H0 := H0) (o := .lst vs) hp
      exact q _ _ _ _ g (.lst upd_same (ra.mono (g.same s).1)) h
    | @tup a vs ds ha ra =>
      refine ⟨_, _, rfl, .inr (SqT.of (s _ _ ha)), fun p hp => ?_⟩
      have g := Grow.one (H0 := H0) (o := .lst vs) hp
      exact q _ _ _ _ g (.lst upd_same (ra.mono (g.same s).1)) h
    | _ => exact h.elim
theorem c3_gcd : C3 rGcd gGcd := by
  intro pn H0 H vs ds k Q s ra h q
  rcases ds with _ | ⟨d, _ | ⟨e, _ | ⟨f, l⟩⟩⟩
  · exact h.elim
  · cases d <;> exact h.elim
  · obtain ⟨v, w, rfl, r1, r2⟩ := rep2 ra
    cases r1 with
    | int i =>
      cases r2 with
      | int j => exact ⟨i, j, rfl, q _ _ _ _ .refl (.int _) h⟩
      | _ => exact h.elim
    | _ => cases r2 <;> exact h.elim
  · cases d <;> cases e <;> exact h.elim
theorem mc_of {g : GC} (h : ∀ d k k', (∀ z, k z → k' z) → g [d] k → g [d] k') (h0 : ∀ k, ¬ g [] k) (h2 : ∀ d e l k, ¬ g (d :: e :: l) k) : MonC3 g := fun ds k k' f q => by
  rcases ds with _ | ⟨d, _ | ⟨e, l⟩⟩
  · exact (h0 _ q).elim
  · exact h d k k' f q
  · exact (h2 _ _ _ _ q).elim
theorem mc_len : MonC3 gLen := mc_of (fun d k k' f q => by cases d <;> first | exact f _ q | exact mon_and (f _) q | exact q) (fun _ q => q) (fun d e l k q => by cases d <;> exact q)
theorem mc_abs : MonC3 gAbs := mc_of (fun d k k' f q => by cases d <;> first | exact f _ q | exact q) (fun _ q => q) (fun d e l k q => by cases d <;> exact q)
theorem mc_int : MonC3 gInt := mc_of (fun d k k' f q => by cases d <;> first | exact f _ q | exact q) (fun _ q => q) (fun d e l k q => by cases d <;> exact q)
theorem mc_sum : MonC3 gSum := mc_of (fun d k k' f q => by
  cases d <;> first
    | exact optK_mono (fun _ => f _) q
    | exact q) (fun _ q => q) (fun d e l k q => by cases d <;> exact q)
theorem mc_tuple : MonC3 gTuple := mc_of (fun d k k' f q => by cases d <;> first | exact f _ q | exact q) (fun _ q => q) (fun d e l k q => by cases d <;> exact q)
theorem mc_list : MonC3 gList := mc_of (fun d k k' f q => by cases d <;> first | exact f _ q | exact q) (fun _ q => q) (fun d e l k q => by cases d <;> exact q)
theorem mc_gcd : MonC3 gGcd := fun ds k k' f q => by
  rcases ds with _ | ⟨d, _ | ⟨e, _ | ⟨c, l⟩⟩⟩
  · exact q
  · cases d <;> exact q
  · cases d <;> cases e <;> first | exact f _ q | exact q
  · cases d <;> cases e <;> exact q
theorem len3 {p : Pos} (hg : Gl X "len") (hn : X.mg "len" = none) (h : P3 X W a ta) (he : starEach [a] X.env = (false, eval a X.env) :: starEach [] X.env := by rfl) : P3 X W (.Call (.Name "len" p) [a] [] pos) (tCB3 gLen (tCons3 ta tNil3)) :=
  cb3 (CallR.or call_len_seq call_len_str) c3_len mc_len hg hn PySem.boot_len (acons h anil he) (he := he)
theorem abs3 {p : Pos} (hg : Gl X "abs") (hn : X.mg "abs" = none) (h : P3 X W a ta) (he : starEach [a] X.env = (false, eval a X.env) :: starEach [] X.env := by rfl) : P3 X W (.Call (.Name "abs" p) [a] [] pos) (tCB3 gAbs (tCons3 ta tNil3)) :=
  cb3 call_abs c3_abs mc_abs hg hn (by decide +kernel) (acons h anil he) (he := he)
theorem int3c {p : Pos} (hg : Gl X "int") (hn : X.mg "int" = none) (h : P3 X W a ta) (he : starEach [a] X.env = (false, eval a X.env) :: starEach [] X.env := by rfl) : P3 X W (.Call (.Name "int" p) [a] [] pos) (tCB3 gInt (tCons3 ta tNil3)) :=
  cty3 call_int1 c3_int mc_int hg hn (by decide +kernel) (acons h anil he) (he := he)
theorem sum3 {p : Pos} (hc : X.calm = true) (hg : Gl X "sum") (hn : X.mg "sum" = none) (h : P3 X W a ta) (he : starEach [a] X.env = (false, eval a X.env) :: starEach [] X.env := by rfl) : P3 X W (.Call (.Name "sum" p) [a] [] pos) (tCB3 gSum (tCons3 ta tNil3)) :=
  cb3 (CallR.or (cr_sum hc) (cr_sumT hc)) c3_sum mc_sum hg hn (by decide +kernel) (acons h anil he) (he := he)
theorem tuple3 {p : Pos} (hg : Gl X "tuple") (hn : X.mg "tuple" = none) (h : P3 X W a ta) (he : starEach [a] X.env = (false, eval a X.env) :: starEach [] X.env := by rfl) : P3 X W (.Call (.Name "tuple" p) [a] [] pos) (tCB3 gTuple (tCons3 ta tNil3)) :=
  cty3 call_tuple_of c3_tuple mc_tuple hg hn (by decide +kernel) (acons h anil he) (he := he)
theorem list3 {p : Pos} (hg : Gl X "list") (hn : X.mg "list" = none) (h : P3 X W a ta) (he : starEach [a] X.env = (false, eval a X.env) :: starEach [] X.env := by rfl) : P3 X W (.Call (.Name "list" p) [a] [] pos) (tCB3 gList (tCons3 ta tNil3)) :=
  cty3 call_list_of c3_list mc_list hg hn (by decide +kernel) (acons h anil he) (he := he)
theorem gcd3 {p : Pos} (hg : Gl X "gcd") (hn : X.mg "gcd" = some (.builtin "math.gcd")) (h : P3 X W a ta) (h2 : P3 X W b tb) (he : starEach [a, b] X.env = (false, eval a X.env) :: starEach [b] X.env := by rfl) (he2 : starEach [b] X.env = (false, eval b X.env) :: starEach [] X.env := by rfl)
    (hpl : (backTo pos (starEach [b] X.env)).any (·.1) = false := by rfl) : P3 X W (.Call (.Name "gcd" p) [a, b] [] pos) (tCB3 gGcd (tCons3 ta (tCons3 tb tNil3))) :=
  cb3_of (pe_callBfun cr_gcd hg hn (acons h (acons h2 anil he2) he).run (he := he) (hpl := hpl)) c3_gcd mc_gcd (acons h (acons h2 anil he2) he).mon
end
end L3
/-! L3: statements, loops, comprehensions -/
namespace L3
open PySem PySem.Spec PyProof.Rows L2

/-! ### an object that is being built: known to nobody, touched by nobody -/
def Ent.res (G : Ent) (l : Addr) (o : HO) : Ent := ⟨upd G.Hf l o, G.H0, G.pn, G.ad⟩
section
variable {G : Ent} {H0 H : Hp} {ρ : Env3} {σ : L2.St} {l : Addr} {o o' : HO}
theorem Rel.res (R : Rel G H0 ρ σ H) (hl : H l = some o) (h0 : H0 l = none) (hx : ∀ j, ¬ OwnS ρ σ j l) : Rel (G.res l o) H0 ρ σ H := by
  refine ⟨R.ex, R.ex0, fun a u e hn => ?_, fun a u e => ?_, R.len, fun i => ?_, R.own, R.pen, R.fix⟩
  · have e : upd G.Hf l o a = some u := e
    by_cases h : a = l
    · subst h; rw [upd_same] at e; rw [hl]; exact e
    · rw [upd_ne h] at e; exact R.keep a u e hn
  · have ha : a ≠ l := ne_of_none e h0
    rcases R.new a u e with h | h | h
    · exact .inl h
    · refine .inr (.inl ?_)
      show upd G.Hf l o a = none
      rw [upd_ne ha]; exact h
    · exact .inr (.inr h)
  · have h := R.slot i
    cases e : ρ.sl[i]? with
    | none => exact True.intro
    | some s =>
      rw [e] at h
      cases s with
      | un => exact True.intro
      | val d => exact h
      | own d =>
        obtain ⟨m, h1, h2, h3, h4, h5⟩ := h
        refine ⟨m, h1, h2, h3, ?_, h5⟩
        show upd G.Hf l o m = none
        rw [upd_ne (fun z => hx i ⟨⟨d, e⟩, by rw [← z]; exact h1⟩)]; exact h4
theorem Rel.res_no (R : Rel (G.res l o) H0 ρ σ H) (ht : ∀ xs, o ≠ .tup xs) (hg : G.H0 l = none) (hp : G.pn ≠ some l) : H l = some o ∧ H0 l = none ∧ ∀ j, ¬ OwnS ρ σ j l := by
  have hf : (G.res l o).Hf l = some o := upd_same
  refine ⟨R.keep l o hf hp, ?_, fun j ⟨⟨d, q⟩, q2⟩ => ?_⟩
  · cases e : H0 l with
    | none => rfl
    | some u =>
      rcases R.new l u e with ⟨z, h⟩ | h | ⟨xs, h⟩
      · have h : G.H0 l = some z := h
        rw [hg] at h; cases h
      · rw [hf] at h; cases h
      · have q := R.ex l u e
        rw [R.keep l o hf hp, h] at q
        exact (ht xs (Option.some.inj q)).elim
  · obtain ⟨m, h1, _, _, h4, _⟩ := R.owned q
    rw [q2] at h1
    cases h1
    rw [hf] at h4; cases h4
theorem Rel.res_put (R : Rel (G.res l o) H0 ρ σ H) (ht : ∀ xs, o ≠ .tup xs) (hg : G.H0 l = none) (hp : G.pn ≠ some l) : Rel (G.res l o') H0 ρ σ (upd H l o') := by
  obtain ⟨hl, h0, hx⟩ := R.res_no ht hg hp
  refine ⟨fun a u e => ?_, R.ex0, fun a u e hn => ?_, fun a u e => ?_, R.len, fun i => ?_, R.own, fun q hq => ?_, R.fix⟩
  · rw [upd_ne (ne_of_none e h0)]; exact R.ex a u e
  · have e : upd G.Hf l o' a = some u := e
    by_cases h : a = l
    · subst h; rw [upd_same] at e ⊢; exact e
    · rw [upd_ne h] at e ⊢
      exact R.keep a u (by show upd G.Hf l o a = some u; rw [upd_ne h]; exact e) hn
  · rcases R.new a u e with h | h | h
    · exact .inl h
    · have ha : a ≠ l := ne_of_none e h0
      have h : upd G.Hf l o a = none := h
      rw [upd_ne ha] at h
      refine .inr (.inl ?_)
      show upd G.Hf l o' a = none
      rw [upd_ne ha]; exact h
    · exact .inr (.inr h)
  · have h := R.slot i
    cases e : ρ.sl[i]? with
    | none => exact True.intro
    | some s =>
      rw [e] at h
      cases s with
      | un => exact True.intro
      | val d => exact h
      | own d =>
        obtain ⟨m, h1, h2, h3, h4, h5⟩ := h
        have hm : m ≠ l := fun z => hx i ⟨⟨d, e⟩, by rw [← z]; exact h1⟩
        refine ⟨m, h1, h2.mono (Same.refl _) (upd_ne hm), h3, ?_, h5⟩
        have h4 : upd G.Hf l o m = none := h4
        rw [upd_ne hm] at h4
        show upd G.Hf l o' m = none
        rw [upd_ne hm]; exact h4
  · obtain ⟨q1, c, cs, t, r, q2, q3⟩ := R.pen q hq
    have hql : q ≠ l := fun z => hp (by rw [← z]; exact hq)
    exact ⟨q1, c, cs, t, r, by rw [upd_ne hql]; exact q2, q3⟩
theorem Rel.unres (R : Rel (G.res l o) H0 ρ σ H) (hf : G.Hf l = none) : Rel G H0 ρ σ H := by
  have up : ∀ a, (G.res l o).Hf a = none → G.Hf a = none := fun a h => by
    by_cases ha : a = l
    · rw [ha]; exact hf
    · have h : upd G.Hf l o a = none := h
      rw [upd_ne ha] at h; exact h
  refine ⟨R.ex, R.ex0, fun a u e hn => R.keep a u (by show upd G.Hf l o a = some u; rw [upd_ne (ne_of_none e hf)]; exact e) hn, fun a u e => ?_, R.len, fun i => ?_, R.own, R.pen, R.fix⟩
  · rcases R.new a u e with h | h | h
    · exact .inl h
    · exact .inr (.inl (up a h))
    · exact .inr (.inr h)
  · have h := R.slot i
    cases e : ρ.sl[i]? with
    | none => exact True.intro
    | some s =>
      rw [e] at h
      cases s with
      | un => exact True.intro
      | val d => exact h
      | own d =>
        obtain ⟨m, h1, h2, h3, h4, h5⟩ := h
        exact ⟨m, h1, h2, h3, up m h4, h5⟩
/-- known from now on -/
theorem Rel.tell (R : Rel G H0 ρ σ H) (hl : H l = some o) (h0 : H0 l = none) (hf : G.Hf l = none) (hp : G.pn ≠ some l) (hx : ∀ j, ¬ OwnS ρ σ j l) : Same H0 (upd H0 l o) ∧ Rel G (upd H0 l o) ρ σ H := by
  have s0 : Same H0 (upd H0 l o) := fun a u e => by rw [upd_ne (ne_of_none e h0)]; exact e
  refine ⟨s0, fun a u e => ?_, fun a u e => s0 a u (R.ex0 a u e), R.keep, fun a u e => ?_, R.len, fun i => ?_, R.own, fun q hq => ?_, R.fix⟩
  · by_cases h : a = l
    · subst h; rw [upd_same] at e; rw [hl]; exact e
    · rw [upd_ne h] at e; exact R.ex a u e
  · by_cases h : a = l
    · subst h; exact .inr (.inl hf)
    · rw [upd_ne h] at e; exact R.new a u e
  · have h := R.slot i
    cases e : ρ.sl[i]? with
    | none => exact True.intro
    | some s =>
      rw [e] at h
      cases s with
      | un => exact True.intro
      | val d => obtain ⟨x, h1, h2⟩ := h; exact ⟨x, h1, h2.mono s0⟩
      | own d =>
        obtain ⟨m, h1, h2, h3, h4, h5⟩ := h
        have hm : m ≠ l := fun z => hx i ⟨⟨d, e⟩, by rw [← z]; exact h1⟩
        exact ⟨m, h1, h2.mono s0 rfl, by rw [upd_ne hm]; exact h3, h4, h5⟩
  · obtain ⟨q1, c, cs, t, r, q2, q3, q4⟩ := R.pen q hq
    have hql : q ≠ l := fun z => hp (by rw [← z]; exact hq)
    exact ⟨by rw [upd_ne hql]; exact q1, c, cs, t, r, q2, s0 _ _ q3, q4⟩
/-- a slot set to a datum, or forgotten -/
theorem Rel.sett (R : Rel G H0 ρ σ H) {i : Nat} {s : Slot} {x : Option V} (hs : SlotOk G H0 H (some s) (some x)) (hn : ∀ d, s ≠ .own d) : Rel G H0 (ρ.put i s) (σ.set i x) H := by
  refine ⟨R.ex, R.ex0, R.keep, R.new, ?_, fun j => ?_, fun j k m a b => ?_, R.pen, R.fix.put hn set_off⟩
  · show (σ.set i _).length = (ρ.sl.set i _).length
    rw [List.length_set, List.length_set]; exact R.len
  · by_cases hj : j = i
    · subst hj
      show SlotOk G _ H (ρ.sl.set j s)[j]? (σ.set j x)[j]?
      by_cases hi : j < ρ.sl.length
      · rw [List.getElem?_set_self hi, List.getElem?_set_self (by rw [R.len]; exact hi)]; exact hs
      · rw [List.getElem?_eq_none_iff.mpr (by rw [List.length_set]; omega)]; exact True.intro
    · show SlotOk G _ H (ρ.sl.set i s)[j]? (σ.set i x)[j]?
      rw [List.getElem?_set_ne (Ne.symm hj), List.getElem?_set_ne (Ne.symm hj)]
      exact R.slot j
  · have ob : ∀ j, OwnS (ρ.put i s) (σ.set i x) j m → OwnS ρ σ j m := fun j ⟨⟨d', q⟩, q2⟩ => by
      have q : (ρ.sl.set i s)[j]? = some (.own d') := q
      by_cases hj : j = i
      · subst hj
        have hi : j < ρ.sl.length := by
          have := (List.getElem?_eq_some_iff.mp q).1
          rw [List.length_set] at this; exact this
        rw [List.getElem?_set_self hi] at q
        exact (hn d' (Option.some.inj q)).elim
      · rw [List.getElem?_set_ne (Ne.symm hj)] at q q2; exact ⟨⟨_, q⟩, q2⟩
    exact R.own j k m (ob j a) (ob k b)
theorem Rel.setv (R : Rel G H0 ρ σ H) {i : Nat} {x : V} {d : D} (h : Rep G.pn H0 x d) : Rel G H0 (ρ.put i (.val d)) (σ.set i (some x)) H := R.sett (s := .val d) ⟨x, rfl, h⟩ (fun d z => nomatch z)
end

/-! ### the names of a comprehension -/
def Env3.wipe (ρ : Env3) : List Nat → Env3
  | [] => ρ
  | v :: vs => (ρ.wipe vs).put v .un
def backS (ρ : Env3) (v : Nat) : Slot :=
  match ρ.sl[v]? with
  | some (.val d) => .val d
  | _ => .un
/-- behind a comprehension: its own names are again what they were -/
def Env3.back (ρ ρ2 : Env3) : List Nat → Env3
  | [] => ρ2
  | v :: vs => Env3.back ρ (ρ2.put v (backS ρ v)) vs
section
variable {G : Ent} {H0 H : Hp} {ρ : Env3} {σ : L2.St}
theorem Rel.wipe (R : Rel G H0 ρ σ H) : ∀ vs : List Nat, Rel G H0 (ρ.wipe vs) (L2.wipe σ vs) H
  | [] => R
  | v :: vs => (R.wipe vs).drop v none
theorem Rel.back {ρ1 : Env3} {H01 H1 : Hp} (R1 : Rel G H01 ρ1 σ H1) (s : Same H01 H0) : ∀ (vs : List Nat) (ρ2 : Env3), vs.Nodup → Rel G H0 ρ2 (L2.wipe σ vs) H → Rel G H0 (Env3.back ρ1 ρ2 vs) σ H
  | [], ρ2, _, R => R
  | v :: vs, ρ2, nd, R => by
    have hv : v ∉ vs := (List.nodup_cons.mp nd).1
    refine R1.back s vs _ (List.nodup_cons.mp nd).2 ?_
    have hw := wipe_out (σ := σ) hv
    have R : Rel G H0 ρ2 ((L2.wipe σ vs).set v none) H := R
    cases e : σ[v]? with
    | none =>
      have R2 := R.sett (i := v) (s := backS ρ1 v) (x := none) (by
        unfold backS
        split
        · rename_i d q
          obtain ⟨x, h1, h2⟩ := R1.val q
          rw [e] at h1; cases h1
        · exact True.intro) (fun d z => by unfold backS at z; split at z <;> cases z)
      have hl : ¬ v < (L2.wipe σ vs).length := by rw [wipe_length]; exact fun z => by rw [List.getElem?_eq_getElem z] at e; cases e
      rw [List.set_set, List.set_eq_of_length_le (by omega)] at R2
      exact R2
    | some x =>
      have R2 := R.sett (i := v) (s := backS ρ1 v) (x := x) (by
        unfold backS
        split
        · rename_i d q
          obtain ⟨y, h1, h2⟩ := R1.val q
          rw [e] at h1
          exact ⟨y, h1, h2.mono s⟩
        · exact True.intro) (fun d z => by unfold backS at z; split at z <;> cases z)
      rw [List.set_set] at R2
      rw [e] at hw
      have e3 : (L2.wipe σ vs).set v x = L2.wipe σ vs := by
        apply List.ext_getElem?
        intro j
        by_cases hj : j = v
        · subst hj
          rw [List.getElem?_set_self (List.getElem?_eq_some_iff.mp hw).1, hw]
        · rw [List.getElem?_set_ne (Ne.symm hj)]
      rw [e3] at R2
      exact R2
/-- the slots but some are as they were -/
def StO (ws : List Nat) (σ σ' : L2.St) : Prop := σ'.length = σ.length ∧ ∀ i, i ∉ ws → σ'[i]? = σ[i]?
theorem wipe_none {σ : L2.St} {i : Nat} : ∀ {vs : List Nat}, i ∈ vs → i < σ.length → (L2.wipe σ vs)[i]? = some none
  | [], h, _ => absurd h (by simp)
  | v :: vs, h, hl => by
    show ((L2.wipe σ vs).set v none)[i]? = some none
    by_cases e : i = v
    · subst e; rw [List.getElem?_set_self (by rw [wipe_length]; exact hl)]
    · rw [List.getElem?_set_ne (Ne.symm e)]
      rcases List.mem_cons.mp h with h | h
      · exact (e h).elim
      · exact wipe_none h hl
theorem StO.wipe {ws vs : List Nat} {σ σ' : L2.St} (h : StO ws σ σ') (hs : ∀ i ∈ ws, i ∈ vs) : L2.wipe σ' vs = L2.wipe σ vs := by
  apply List.ext_getElem?
  intro i
  by_cases hi : i < σ.length
  · by_cases hv : i ∈ vs
    · rw [wipe_none hv (by rw [h.1]; exact hi), wipe_none hv hi]
    · rw [wipe_out hv, wipe_out hv]
      exact h.2 i fun z => hv (hs i z)
  · rw [List.getElem?_eq_none_iff.mpr (by rw [wipe_length, h.1]; omega), List.getElem?_eq_none_iff.mpr (by rw [wipe_length]; omega)]
theorem wipe_wipe {σ : L2.St} {vs : List Nat} : L2.wipe (L2.wipe σ vs) vs = L2.wipe σ vs := by
  apply List.ext_getElem?
  intro i
  by_cases hi : i < σ.length
  · by_cases hv : i ∈ vs
    · rw [wipe_none hv (by rw [wipe_length]; exact hi), wipe_none hv hi]
    · rw [wipe_out hv]
  · rw [List.getElem?_eq_none_iff.mpr (by rw [wipe_length, wipe_length]; omega), List.getElem?_eq_none_iff.mpr (by rw [wipe_length]; omega)]
end

/-! ### targets -/
abbrev G3 := D → Env3 → (Env3 → Prop) → Prop
abbrev Gs3 := List D → Env3 → (Env3 → Prop) → Prop
structure P3G (X : Cx) (ws : List Nat) (tg : Expr) (g : G3) : Prop where
  run : PG X tg (fun v σ H Q => ∃ G ρ H0 d, Rel G H0 ρ σ H ∧ Rep G.pn H0 v d ∧ g d ρ (fun ρ' => ∀ σ' H' H0', Same H0 H0' → Rel G H0' ρ' σ' H' → StO ws σ σ' → Q σ' H'))
  mon : ∀ d ρ k k', (∀ ρ', k ρ' → k' ρ') → g d ρ k → g d ρ k'
structure P3Gs (X : Cx) (ws : List Nat) (tg : List Expr) (g : Gs3) : Prop where
  run : PGs X tg (fun vs σ H Q => ∃ G ρ H0 ds, Rel G H0 ρ σ H ∧ RepA G.pn H0 vs ds ∧ g ds ρ (fun ρ' => ∀ σ' H' H0', Same H0 H0' → Rel G H0' ρ' σ' H' → StO ws σ σ' → Q σ' H'))
  mon : ∀ d ρ k k', (∀ ρ', k ρ' → k' ρ') → g d ρ k → g d ρ k'
def gName3 (i : Nat) : G3 := fun d ρ k => k (ρ.put i (.val d))
def gTup3 (n : Nat) (g : Gs3) : G3 := fun d ρ k =>
  match d with
  | .tup ds => ds.length = n ∧ g ds ρ k
  | _ => False
def gNil3 : Gs3 := fun ds ρ k =>
  match ds with
  | [] => k ρ
  | _ => False
def gCons3 (g : G3) (gs : Gs3) : Gs3 := fun ds ρ k =>
  match ds with
  | d :: r => g d ρ fun ρ1 => gs r ρ1 k
  | [] => False
theorem PG.imp {X : Cx} {e : Expr} {t t' : TG} (h : PG X e t) (q : ∀ v σ H Q, t' v σ H Q → t v σ H Q) : PG X e t' := ⟨fun pins s σ H v u Q I r z => h.run pins s σ H v u Q I r (q v σ H Q z)⟩
theorem PGs.imp {X : Cx} {e : List Expr} {t t' : TGs} (h : PGs X e t) (q : ∀ v σ H Q, t' v σ H Q → t v σ H Q) : PGs X e t' := ⟨fun pins s σ H v u Q I r z => h.run pins s σ H v u Q I r (q v σ H Q z)⟩
section
variable {X : Cx} {pos : Pos}
theorem StO.refl {ws : List Nat} {σ : L2.St} : StO ws σ σ := ⟨rfl, fun _ _ => rfl⟩
theorem StO.set {σ : L2.St} {i : Nat} {x : Option V} : StO [i] σ (σ.set i x) := ⟨by rw [List.length_set], fun j hj => by rw [List.getElem?_set_ne (fun z => hj (by simp [z]))]⟩
theorem StO.trans {ws vs : List Nat} {σ σ1 σ2 : L2.St} (a : StO ws σ σ1) (b : StO vs σ1 σ2) : StO (ws ++ vs) σ σ2 := ⟨b.1.trans a.1, fun i hi => (b.2 i fun z => hi (List.mem_append_right _ z)).trans (a.2 i fun z => hi (List.mem_append_left _ z))⟩
theorem gn3 (i : Nat) {x : Str} (hN : X.N.Nodup) (hi : X.N[i]? = some x := by rfl) (hx : Loc X.env.scope x := by first | exact .inl rfl | exact .inr rfl) (hf : X.fn x = true ∨ X.env.scope.names.lookup x = some .local := by first | exact .inl rfl | exact .inr rfl | assumption) : P3G X [i] (.Name x pos) (gName3 i) :=
  ⟨PG.imp (pg_name hN hi hx hf) fun v σ H Q ⟨G, ρ, H0, d, R, r, k⟩ => k _ H H0 (Same.refl _) (R.setv r) StO.set, fun d ρ k k' f h => f _ h⟩
theorem gnil3 : P3Gs X [] [] gNil3 := by
  refine ⟨PGs.imp pgs_nil fun v σ H Q ⟨G, ρ, H0, ds, R, r, k⟩ => ?_, fun d ρ k k' f h => by cases d <;> first | exact f _ h | exact h⟩
  cases r with
  | nil => exact ⟨rfl, k σ H H0 (Same.refl _) R StO.refl⟩
  | cons _ _ => exact k.elim
theorem gcons3 {e : Expr} {es : List Expr} {g : G3} {gs : Gs3} {ws vs : List Nat} (h1 : P3G X ws e g) (h2 : P3Gs X vs es gs) (hs : (assignEach (e :: es) X.env).map (·.2) = assign e X.env :: (assignEach es X.env).map (·.2) := by rfl) : P3Gs X (ws ++ vs) (e :: es) (gCons3 g gs) := by
  refine ⟨PGs.imp (pgs_cons h1.run h2.run hs) fun v σ H Q ⟨G, ρ, H0, ds, R, r, k⟩ => ?_, fun d ρ k k' f h => ?_⟩
  · cases r with
    | nil => exact k.elim
    | cons r1 r2 =>
      refine ⟨_, _, rfl, G, ρ, H0, _, R, r1, h1.mon _ _ _ _ (fun ρ1 q σ1 H1 H01 s1 R1 o1 => ?_) k⟩
      exact ⟨G, ρ1, H01, _, R1, r2.mono s1, h2.mon _ _ _ _ (fun ρ2 q2 σ2 H2 H02 s2 R2 o2 => q2 σ2 H2 H02 (s1.trans s2) R2 (o1.trans o2)) q⟩
  · cases d with
    | nil => exact h
    | cons d r => exact h1.mon _ _ _ _ (fun ρ1 q => h2.mon _ _ _ _ f q) h
theorem gtup3 {es : List Expr} {kk n : Nat} {gs : Gs3} {ws : List Nat} (hc : X.calm = true) (h : P3Gs X ws es gs) (hn : (assignEach es X.env).length = n := by rfl) (hst : (assignEach es X.env).findIdx? (·.1) = none := by rfl) : P3G X ws (.Tuple es kk pos) (gTup3 n gs) := by
  refine ⟨PG.imp (pg_tup hc h.run hn hst) fun v σ H Q ⟨G, ρ, H0, d, R, r, k⟩ => ?_, fun d ρ k k' f h' => by cases d <;> first | exact mon_and (h.mon _ _ _ _ f) h' | exact h'⟩
  cases r with
  | tup ha ra => exact ⟨_, _, rfl, SqT.of (R.ex _ _ ha), by rw [ra.length]; exact k.1, G, ρ, H0, _, R, ra, k.2⟩
  | _ => exact k.elim
end

/-! ### statements -/
structure Lk (G : Ent) (H0 : Hp) (W : WX) (Z : Ends) (E : Ends3) : Prop where
  nx : ∀ ρ' σ' H' H0', Same H0 H0' → Rel G H0' ρ' σ' H' → E.nx ρ' → Z.nx σ' H'
  rt : ∀ d ρ' σ' v H' H0', Same H0 H0' → Rel G H0' ρ' σ' H' → Rep G.pn H0' v d → E.rt d ρ' → Z.rt v H'
  bk : ∀ ρ' σ' H' H0', Same H0 H0' → Rel G H0' ρ' σ' H' → E.bk ρ' → Z.bk σ' H'
  ct : ∀ ρ' σ' H' H0', Same H0 H0' → Rel G H0' ρ' σ' H' → E.ct ρ' → Z.ct σ' H'
  xc : ∀ x ρ' σ' cls dx H' H0', Same H0 H0' → Rel G H0' ρ' σ' H' → RepX G.pn H0' cls dx x → E.xc x ρ' → W cls dx σ' H'
theorem Lk.up {G : Ent} {H0 H0' : Hp} {W : WX} {Z : Ends} {E : Ends3} (L : Lk G H0 W Z E) (s : Same H0 H0') : Lk G H0' W Z E :=
  ⟨fun a b c d e => L.nx a b c d (s.trans e), fun a b c d e f g => L.rt a b c d e f (s.trans g), fun a b c d e => L.bk a b c d (s.trans e), fun a b c d e => L.ct a b c d (s.trans e), fun a b c d e f g h => L.xc a b c d e f g (s.trans h)⟩
theorem Lk.kx {G : Ent} {H0 : Hp} {W : WX} {Z : Ends} {E : Ends3} (L : Lk G H0 W Z E) {σ : L2.St} {x : D} {ρ' : Env3} (h : E.xc x ρ') : KX G H0 σ W x ρ' := fun cls dx H' H0' s R r => L.xc x ρ' σ cls dx H' H0' s R r h
def lS (W : WX) (t : S3) : TS := fun D σ H => ∃ G ρ H0 E, Rel G H0 ρ σ H ∧ t E ρ ∧ Lk G H0 W D E
structure LeE (E E' : Ends3) : Prop where
  nx : ∀ ρ, E.nx ρ → E'.nx ρ
  rt : ∀ d ρ, E.rt d ρ → E'.rt d ρ
  bk : ∀ ρ, E.bk ρ → E'.bk ρ
  ct : ∀ ρ, E.ct ρ → E'.ct ρ
  xc : ∀ d ρ, E.xc d ρ → E'.xc d ρ
def MonS (t : S3) : Prop := ∀ E E' ρ, LeE E E' → t E ρ → t E' ρ
structure P3S (X : Cx) (W : WX) (st : Stmt) (t : S3) : Prop where
  run : PS X st (lS W t)
  mon : MonS t
structure P3Ss (X : Cx) (W : WX) (st : List Stmt) (t : S3) : Prop where
  run : PSs X st (lS W t)
  mon : MonS t
section
variable {X : Cx} {W : WX} {st : Stmt} {rest : List Stmt} {t u : S3} {e : Expr} {te : E3} {pos : Pos}
def tNext3 : S3 := fun E ρ => E.nx ρ
def tSeq3 (t u : S3) : S3 := fun E ρ => t { E with nx := u E } ρ
theorem snil : P3Ss X W [] tNext3 := ⟨PSs.imp pss_nil fun D σ H ⟨G, ρ, H0, E, R, h, L⟩ => L.nx ρ σ H H0 (Same.refl _) R h, fun E E' ρ l h => l.nx _ h⟩
theorem scons (h1 : P3S X W st t) (h2 : P3Ss X W rest u) : P3Ss X W (st :: rest) (tSeq3 t u) := by
  refine ⟨PSs.imp (pss_cons h1.run h2.run) fun D σ H ⟨G, ρ, H0, E, R, h, L⟩ => ?_, fun E E' ρ l h => h1.mon { E with nx := u E } { E' with nx := u E' } ρ ⟨fun ρ q => h2.mon _ _ _ l q, l.rt, l.bk, l.ct, l.xc⟩ h⟩
  exact ⟨G, ρ, H0, _, R, h, fun ρ' σ' H' H0' s R' q => ⟨G, ρ', H0', E, R', q, L.up s⟩, L.rt, L.bk, L.ct, L.xc⟩
theorem sone (h1 : P3S X W st t) : P3Ss X W [st] t := ⟨pss_one h1.run, h1.mon⟩
def tBreak3 : S3 := fun E ρ => E.bk ρ
def tCont3 : S3 := fun E ρ => E.ct ρ
theorem sbreak : P3S X W (.Break pos) tBreak3 := ⟨PS.imp ps_break fun D σ H ⟨G, ρ, H0, E, R, h, L⟩ => L.bk ρ σ H H0 (Same.refl _) R h, fun E E' ρ l h => l.bk _ h⟩
theorem scont : P3S X W (.Continue pos) tCont3 := ⟨PS.imp ps_continue fun D σ H ⟨G, ρ, H0, E, R, h, L⟩ => L.ct ρ σ H H0 (Same.refl _) R h, fun E E' ρ l h => l.ct _ h⟩
theorem spass : P3S X W (.Pass pos) tNext3 := ⟨PS.imp ps_pass fun D σ H ⟨G, ρ, H0, E, R, h, L⟩ => L.nx ρ σ H H0 (Same.refl _) R h, fun E E' ρ l h => l.nx _ h⟩
def tRet3 (te : E3) : S3 := fun E ρ => te ρ E.rt E.xc
theorem sret (h1 : P3 X W e te) : P3S X W (.Return (some e) pos) (tRet3 te) := by
  refine ⟨PS.imp (ps_ret h1.run) fun D σ H ⟨G, ρ, H0, E, R, h, L⟩ => ?_, fun E E' ρ l h => h1.mon _ _ _ _ _ l.rt l.xc h⟩
  exact ⟨G, ρ, H0, R, h1.mon _ _ _ _ _ (fun d ρ' q v H' H0' s R' r => L.rt d ρ' σ v H' H0' s R' r q) (fun x ρ' q => L.kx q) h⟩
def tRetN3 : S3 := fun E ρ => E.rt .non ρ
theorem sretN : P3S X W (.Return none pos) tRetN3 := ⟨PS.imp ps_retN fun D σ H ⟨G, ρ, H0, E, R, h, L⟩ => L.rt .non ρ σ .non H H0 (Same.refl _) R .non h, fun E E' ρ l h => l.rt _ _ h⟩
def tDrop3 (te : E3) : S3 := fun E ρ => te ρ (fun _ ρ' => E.nx ρ') E.xc
theorem sexpr (h1 : P3 X W e te) (hs : swapsWith e none pos.line X.env = pure false := by rfl) : P3S X W (.Expr e pos) (tDrop3 te) := by
  refine ⟨PS.imp (ps_expr h1.run hs) fun D σ H ⟨G, ρ, H0, E, R, h, L⟩ => ?_, fun E E' ρ l h => h1.mon _ _ _ _ _ (fun _ _ => l.nx _) l.xc h⟩
  exact ⟨G, ρ, H0, R, h1.mon _ _ _ _ _ (fun d ρ' q v H' H0' s R' r => L.nx ρ' σ H' H0' s R' q) (fun x ρ' q => L.kx q) h⟩
def tAsg3 (te : E3) (g : G3) : S3 := fun E ρ => te ρ (fun d ρ1 => g d ρ1 E.nx) E.xc
theorem asg_mon {g : G3} (m : MonE te) (mg : ∀ d ρ k k', (∀ ρ', k ρ' → k' ρ') → g d ρ k → g d ρ k') : MonS (tAsg3 te g) := fun E E' ρ l h => m _ _ _ _ _ (fun d ρ1 q => mg _ _ _ _ l.nx q) l.xc h
theorem sasg {tg : Expr} {g : G3} {ws : List Nat} (h1 : P3 X W e te) (h2 : P3G X ws tg g) (hs : swapsWithSole [tg] e pos.line X.env = pure false := by rfl) (hw : swappedStores [tg] e X.env = pure none := by rfl)
    (hh : (assignEach [tg] X.env).map (·.2) = [assign tg X.env] := by rfl) : P3S X W (.Assign [tg] e pos) (tAsg3 te g) := by
  refine ⟨PS.imp (ps_asg h1.run h2.run hs hw hh) fun D σ H ⟨G, ρ, H0, E, R, h, L⟩ => ?_, asg_mon h1.mon h2.mon⟩
  refine ⟨G, ρ, H0, R, h1.mon _ _ _ _ _ (fun d ρ1 q v H1 H01 s1 R1 r1 => ?_) (fun x ρ' q => L.kx q) h⟩
  exact ⟨G, ρ1, H01, d, R1, r1, h2.mon _ _ _ _ (fun ρ2 q2 σ2 H2 H02 s2 R2 _ => L.nx ρ2 σ2 H2 H02 (s1.trans s2) R2 q2) q⟩
def tIfS3 (c : T3) (t u : S3) : S3 := fun E ρ => c ρ (fun b ρ' => match b with | true => t E ρ' | false => u E ρ') E.xc
theorem sif {c : Expr} {a b : List Stmt} {tc : T3} (h : P3T X W c tc) (h1 : P3Ss X W a t) (h2 : P3Ss X W b u) : P3S X W (.If c a b pos) (tIfS3 tc t u) := by
  refine ⟨PS.imp (ps_if h.run h1.run h2.run) fun D σ H ⟨G, ρ, H0, E, R, q, L⟩ => ?_, fun E E' ρ l q => h.mon _ _ _ _ _ (fun b ρ' q => ?_) l.xc q⟩
  · refine ⟨G, ρ, H0, R, h.mon _ _ _ _ _ (fun b ρ' q H' H0' s R' => ?_) (fun x ρ' q => L.kx q) q⟩
    cases b with
    | true => exact iteT ⟨G, ρ', H0', E, R', q, L.up s⟩
    | false => exact iteF ⟨G, ρ', H0', E, R', q, L.up s⟩
  · cases b with
    | true => exact h1.mon _ _ _ l q
    | false => exact h2.mon _ _ _ l q
/-- x, y = e, f: both first -/
def tPar3 (i j : Nat) (tr : A3) : S3 := fun E ρ => tr ρ (fun ds ρ' => match ds with | [d, d'] => E.nx ((ρ'.put i (.val d)).put j (.val d')) | _ => False) E.xc
theorem spar {i j : Nat} {x y : Str} {a b : Expr} {tr : A3} {px py pt : Pos} {kt k2 pt2} (hc : X.calm = true) (hN : X.N.Nodup) (hi : X.N[i]? = some x) (hj : X.N[j]? = some y) (hij : i ≠ j)
    (hx : X.env.scope.names.lookup x = some .local) (hy : X.env.scope.names.lookup y = some .local) (h : P3A X W [a, b] tr)
    (hw : swappedStores [.Tuple [.Name x px, .Name y py] kt pt] (.Tuple [a, b] k2 pt2) X.env = pure (some [x, y]))
    (hs : swapsWithSole [.Tuple [.Name x px, .Name y py] kt pt] (.Tuple [a, b] k2 pt2) pos.line X.env = pure false := by rfl) :
    P3S X W (.Assign [.Tuple [.Name x px, .Name y py] kt pt] (.Tuple [a, b] k2 pt2) pos) (tPar3 i j tr) := by
  refine ⟨PS.imp (ps_par hc hN hi hj hij hx hy h.run hw hs) fun D σ H ⟨G, ρ, H0, E, R, q, L⟩ => ?_, fun E E' ρ l q => h.mon _ _ _ _ _ (fun ds ρ' q => ?_) l.xc q⟩
  · refine ⟨G, ρ, H0, R, h.mon _ _ _ _ _ (fun ds ρ' q vs H' H0' s R' r => ?_) (fun x ρ' q => L.kx q) q⟩
    rcases ds with _ | ⟨d, _ | ⟨d', _ | ⟨d2, l⟩⟩⟩
    · exact q.elim
    · exact q.elim
    · obtain ⟨v, w, rfl, r1, r2⟩ := rep2 r
      exact ⟨v, w, rfl, L.nx _ _ H' H0' s ((R'.setv r1).setv r2) q⟩
    · exact q.elim
  · rcases ds with _ | ⟨d, _ | ⟨d', _ | ⟨d2, l⟩⟩⟩
    · exact q
    · exact q
    · exact l.nx _ q
    · exact q

/-! ### what is walked -/
def Walk (pn : Option Addr) (J : It) (H0b : Hp) (ds : List D) : Prop := ∀ (i : Nat) (G : Ent) (H0 : Hp) (ρ : Env3) (σ : L2.St) (H : Hp), G.pn = pn → Same H0b H0 → Rel G H0 ρ σ H →
  (∀ d, ds[i]? = some d → J.go i H ∧ ∀ x H', J.yld i H x H' → ∃ H0', Same H0 H0' ∧ Rel G H0' ρ σ H' ∧ Rep pn H0' x d) ∧ (ds.length ≤ i → J.stop i H)
abbrev I3 := Env3 → (List D → Env3 → Prop) → K3 → Prop
def lI (W : WX) (w : I3) : TI := fun σ H R => ∃ G ρ H0, Rel G H0 ρ σ H ∧ w ρ (fun ds ρ' => ∀ J H' H0', Same H0 H0' → Rel G H0' ρ' σ H' → Walk G.pn J H0' ds → R J H') (KX G H0 σ W)
structure P3I (X : Cx) (W : WX) (tg it : Expr) (w : I3) : Prop where
  run : PI X tg it (lI W w)
  mon : MonE w
theorem PI.imp {X : Cx} {tg e : Expr} {t t' : TI} (h : PI X tg e t) (q : ∀ σ H R, t' σ H R → t σ H R) : PI X tg e t' := ⟨fun pins s σ H R I z => h.run pins s σ H R I (q σ H R z)⟩
theorem PI.or {X : Cx} {tg e : Expr} {t t' : TI} (h : PI X tg e t) (h' : PI X tg e t') : PI X tg e (fun σ H R => t σ H R ∨ t' σ H R) := ⟨fun pins s σ H R I z => z.elim (h.run pins s σ H R I) (h'.run pins s σ H R I)⟩
theorem walk_list {K : PySem.W.Frag} {pn : Option Addr} {H0 : Hp} {a : Addr} {vs : List V} {ds : List D} (h : H0 a = some (.lst vs)) (r : RepA pn H0 vs ds) : Walk pn (Itl K a) H0 ds := fun i G H1 ρ σ H hp s R => by
  have hq : SqL K H a vs := SqL.of (R.ex _ _ (s _ _ h))
  refine ⟨fun d hd => ?_, fun hi => ⟨vs, hq, by rw [r.length]; exact hi⟩⟩
  obtain ⟨v, h1, h2⟩ := r.get hd
  refine ⟨⟨vs, v, hq, h1⟩, fun x H' ⟨e, y⟩ => ?_⟩
  subst e
  have := y vs hq
  rw [h1] at this
  cases this
  exact ⟨H1, Same.refl _, R, h2.mono s⟩
theorem walk_tup {K : PySem.W.Frag} {pn : Option Addr} {H0 : Hp} {a : Addr} {vs : List V} {ds : List D} (h : H0 a = some (.tup vs)) (r : RepA pn H0 vs ds) : Walk pn (Itt K a) H0 ds := fun i G H1 ρ σ H hp s R => by
  have hq : SqT K H a vs := SqT.of (R.ex _ _ (s _ _ h))
  refine ⟨fun d hd => ?_, fun hi => ⟨vs, hq, by rw [r.length]; exact hi⟩⟩
  obtain ⟨v, h1, h2⟩ := r.get hd
  refine ⟨⟨vs, v, hq, h1⟩, fun x H' ⟨e, y⟩ => ?_⟩
  subst e
  have := y vs hq
  rw [h1] at this
  cases this
  exact ⟨H1, Same.refl _, R, h2.mono s⟩
def iSeq3 (te : E3) : I3 := fun ρ k x => te ρ (fun d ρ' => match d with | .lst ds => k ds ρ' | .tup ds => k ds ρ' | _ => False) x
/-- a list or a tuple, whichever comes out -/
def iBoth (K : PySem.W.Frag) (tl : TE) : TI := fun σ H R => tl σ H fun x H1 => ∃ a, x = .ref a ∧ ((∃ xs, SqL K H1 a xs ∧ R (Itl K a) H1) ∨ ∃ xs, SqT K H1 a xs ∧ R (Itt K a) H1)
theorem new_it {pins : List (Addr × Obj)} {σ : L2.St} {H : Hp} {s : Shared} {tg : Expr} {R : It → Hp → Prop} {J : It} {o : Obj} {tn : Nat → Heap → Prop} (I : Inv X pins σ H s) (T : Turn X.prog X.w X.K tg J [s.heap.objs.size] s.heap.objs.size tn)
    (h : tn 0 (s.heap.push o)) (q : R J H) : PIE X pins σ tg R (.ref s.heap.objs.size) { s with heap := s.heap.push o } := by
  have I' := I.kept (h' := s.heap.push o) (t' := s.toks) fun _ _ z => Heap.get?_push_of_some _ z
  refine ⟨_, [s.heap.objs.size], tn, J, H, rfl, I', T, h, fun b hb => ?_, q⟩
  rw [List.mem_singleton.mp hb]
  exact I.fpOk (Nat.le_refl _) (I.hok.fresh (Nat.le_refl _))
theorem pi_both {tg l : Expr} {tl : TE} (hl : PE X l tl) : PI X tg l (iBoth X.K tl) := ⟨fun pins s σ H R I h => by
  refine wpAny_mono (hl.run pins s σ H _ I h) (fun u s1 hu => ?_) fun _ _ z => z
  obtain ⟨x, H1, I1, r, a, rfl, hq⟩ := hu
  cases r
  rcases hq with ⟨xs, hq, q⟩ | ⟨xs, hq, q⟩
  · obtain ⟨its, _, pl, _⟩ := I1.list hq
    exact wpAny_pyIter_list pl.isList (new_it I1 (turn_list a _) ⟨_, Heap.get?_push_size _ rfl, rfl, rfl⟩ q)
  · obtain ⟨its, _, pl, _⟩ := I1.tuple hq
    exact wpAny_pyIter_tuple pl (new_it I1 (turn_tuple a _) ⟨_, Heap.get?_push_size _ rfl, rfl, rfl⟩ q)⟩
theorem iseq {tg : Expr} (h : P3 X W e te) : P3I X W tg e (iSeq3 te) := by
  refine ⟨PI.imp (pi_both h.run) fun σ H R ⟨G, ρ, H0, R0, q⟩ => ?_, fun ρ k k' x x' hk hx q => h.mon _ _ _ _ _ (fun d ρ' q => by cases d <;> first | exact hk _ _ q | exact q) hx q⟩
  refine ⟨G, ρ, H0, R0, h.mon _ _ _ _ _ (fun d ρ' q v H' H0' s R' r => ?_) (fun _ _ z => z) q⟩
  cases r with
  | lst ha ra => exact ⟨_, rfl, .inl ⟨_, SqL.of (R'.ex _ _ ha), q _ H' H0' s R' (walk_list ha ra)⟩⟩
  | tup ha ra => exact ⟨_, rfl, .inr ⟨_, SqT.of (R'.ex _ _ ha), q _ H' H0' s R' (walk_tup ha ra)⟩⟩
  | _ => exact q.elim
/-- range(n), range(a, b) -/
def upto (lo : Int) (n : Nat) : List D := (List.range n).map fun (i : Nat) => D.int (lo + (i : Int))
theorem walk_rng {pn : Option Addr} {H0 : Hp} {lo : Int} {n : Nat} : Walk pn (Itr lo n) H0 (upto lo n) := fun i G H1 ρ σ H hp s R => by
  have hl : (upto lo n).length = n := by unfold upto; rw [List.length_map, List.length_range]
  refine ⟨fun d hd => ?_, fun hi => by rw [hl] at hi; exact hi⟩
  unfold upto at hd
  rw [List.getElem?_map] at hd
  obtain ⟨j, h1, rfl⟩ := Option.map_eq_some_iff.mp hd
  obtain ⟨h2, h3⟩ := List.getElem?_eq_some_iff.mp h1
  rw [List.length_range] at h2
  rw [List.getElem_range] at h3
  subst h3
  exact ⟨h2, fun x H' ⟨e1, e2⟩ => ⟨H1, Same.refl _, by rw [e1]; exact R, by rw [e2]; exact .int _⟩⟩
def iRng3 (te : E3) : I3 := fun ρ k x => te ρ (fun d ρ' => match d with | .int n => (-(2 ^ 62) ≤ n ∧ n < 2 ^ 62) ∧ k (upto 0 n.toNat) ρ' | _ => False) x
theorem irng {tg : Expr} {p : Pos} (hg : Gl X "range") (hm : X.mg "range" = none) (h : P3 X W e te) (hs : starEach [e] X.env = [(false, eval e X.env)] := by rfl) : P3I X W tg (.Call (.Name "range" p) [e] [] pos) (iRng3 te) := by
  refine ⟨PI.imp (pi_range1 hg hm (acons h anil hs).run hs) fun σ H R ⟨G, ρ, H0, R0, q⟩ => ?_, fun ρ k k' x x' hk hx q => h.mon _ _ _ _ _ (fun d ρ' q => by cases d <;> first | exact mon_and (hk _ _) q | exact q) hx q⟩
  refine ⟨G, ρ, H0, R0, h.mon _ _ _ _ _ (fun d ρ' q vs H' H0' s R' r => ?_) (fun _ _ z => z) q⟩
  obtain ⟨v, rfl, rv⟩ := rep1 r
  cases rv with
  | int n => exact ⟨n, rfl, q.1.1, q.1.2, q.2 _ H' H0' s R' walk_rng⟩
  | _ => exact q.elim
def iRng23 (ta tb : E3) : I3 := fun ρ k x => ta ρ (fun d ρ1 => tb ρ1 (fun e ρ2 => match d, e with | .int m, .int n => (-(2 ^ 62) ≤ m ∧ m < 2 ^ 62 ∧ -(2 ^ 62) ≤ n ∧ n < 2 ^ 62) ∧ k (upto m (n - m).toNat) ρ2 | _, _ => False) x) x
theorem irng2 {tg a b : Expr} {ta tb : E3} {p : Pos} (hg : Gl X "range") (hm : X.mg "range" = none) (h : P3 X W a ta) (h2 : P3 X W b tb) (hs : starEach [a, b] X.env = [(false, eval a X.env), (false, eval b X.env)] := by rfl) (hs2 : starEach [b] X.env = [(false, eval b X.env)] := by rfl)
    (hs3 : starEach [a, b] X.env = (false, eval a X.env) :: starEach [b] X.env := by rfl) : P3I X W tg (.Call (.Name "range" p) [a, b] [] pos) (iRng23 ta tb) := by
  refine ⟨PI.imp (pi_range2 hg hm (acons h (acons h2 anil hs2) hs3).run hs hs2) fun σ H R ⟨G, ρ, H0, R0, q⟩ => ?_, fun ρ k k' x x' hk hx q =>
    h.mon _ _ _ _ _ (fun d ρ1 q => h2.mon _ _ _ _ _ (fun e ρ2 q => by cases d <;> cases e <;> first | exact mon_and (hk _ _) q | exact q) hx q) hx q⟩
  refine ⟨G, ρ, H0, R0, h.mon _ _ _ _ _ (fun d ρ' q => h2.mon _ _ _ _ _ (fun e ρ2 q vs H' H0' s R' r => ?_) (fun _ _ z => z) q) (fun _ _ z => z) q⟩
  obtain ⟨v, w, rfl, rv, rw'⟩ := rep2 r
  cases rv with
  | int m =>
    cases rw' with
    | int n => exact ⟨m, n, rfl, q.1, q.2 _ H' H0' s R' walk_rng⟩
    | _ => exact q.elim
  | _ => cases rw' <;> exact q.elim
/-- zip of two lists, of two tuples; the target names both -/
def pairUp : List D → List D → List D
  | x :: xs, y :: ys => .tup [x, y] :: pairUp xs ys
  | _, _ => []
theorem pairUp_get : ∀ {xs ys : List D} {i : Nat} {d : D}, (pairUp xs ys)[i]? = some d → ∃ x y, xs[i]? = some x ∧ ys[i]? = some y ∧ d = .tup [x, y]
  | [], _, _, _, h => by simp [pairUp] at h
  | _ :: _, [], _, _, h => by simp [pairUp] at h
  | x :: xs, y :: ys, 0, d, h => by simp [pairUp] at h; exact ⟨x, y, rfl, rfl, h.symm⟩
  | x :: xs, y :: ys, i + 1, d, h => by
    obtain ⟨a, b, h1, h2, h3⟩ := pairUp_get (i := i) (d := d) (by simpa [pairUp] using h)
    exact ⟨a, b, by simpa using h1, by simpa using h2, h3⟩
theorem pairUp_len : ∀ {xs ys : List D}, (pairUp xs ys).length = min xs.length ys.length
  | [], _ => by simp [pairUp]
  | _ :: _, [] => by simp [pairUp]
  | x :: xs, y :: ys => by simp only [pairUp, List.length_cons, pairUp_len]; omega
theorem grow_pair {G : Ent} {H0 H : Hp} {ρ : Env3} {σ : L2.St} {T : Addr} {x y : V} {dx dy : D} (R : Rel G H0 ρ σ H) (hT : H T = none) (r1 : Rep G.pn H0 x dx) (r2 : Rep G.pn H0 y dy) : ∃ H0', Same H0 H0' ∧ Rel G H0' ρ σ (upd H T (.tup [x, y])) ∧ Rep G.pn H0' (.ref T) (.tup [dx, dy]) := by
  have g := Grow.one (H0 := H0) (o := .tup [x, y]) hT
  have s := (g.same R.ex).1
  exact ⟨_, s, g.rel R, .tup upd_same (.cons (r1.mono s) (.cons (r2.mono s) .nil))⟩
theorem walk_zipL {K : PySem.W.Frag} {pn : Option Addr} {H0 : Hp} {a b : Addr} {vs ws : List V} {ds es : List D} (h : H0 a = some (.lst vs)) (r : RepA pn H0 vs ds) (h' : H0 b = some (.lst ws)) (r' : RepA pn H0 ws es) : Walk pn (Itz K a b) H0 (pairUp ds es) := fun i G H1 ρ σ H hp s R => by
  have hq : SqL K H a vs := SqL.of (R.ex _ _ (s _ _ h))
  have hq' : SqL K H b ws := SqL.of (R.ex _ _ (s _ _ h'))
  refine ⟨fun d hd => ?_, fun hi => ⟨vs, ws, hq, hq', by rw [r.length, r'.length]; rw [pairUp_len] at hi; omega⟩⟩
  obtain ⟨x, y, e1, e2, rfl⟩ := pairUp_get hd
  obtain ⟨v, h1, h2⟩ := r.get e1
  obtain ⟨w, h3, h4⟩ := r'.get e2
  refine ⟨⟨vs, ws, v, w, hq, hq', h1, h3⟩, ?_⟩
  rintro z H' ⟨T, x', y', rfl, hT, rfl, y1, y2⟩
  have z1 := y1 vs hq
  have z2 := y2 ws hq'
  rw [h1] at z1
  rw [h3] at z2
  cases z1
  cases z2
  subst hp
  exact grow_pair R hT (h2.mono s) (h4.mono s)
theorem walk_zipT {K : PySem.W.Frag} {pn : Option Addr} {H0 : Hp} {a b : Addr} {vs ws : List V} {ds es : List D} (h : H0 a = some (.tup vs)) (r : RepA pn H0 vs ds) (h' : H0 b = some (.tup ws)) (r' : RepA pn H0 ws es) : Walk pn (RZ.ItzT K a b) H0 (pairUp ds es) := fun i G H1 ρ σ H hp s R => by
  have hq : SqT K H a vs := SqT.of (R.ex _ _ (s _ _ h))
  have hq' : SqT K H b ws := SqT.of (R.ex _ _ (s _ _ h'))
  refine ⟨fun d hd => ?_, fun hi => ⟨vs, ws, hq, hq', by rw [r.length, r'.length]; rw [pairUp_len] at hi; omega⟩⟩
  obtain ⟨x, y, e1, e2, rfl⟩ := pairUp_get hd
  obtain ⟨v, h1, h2⟩ := r.get e1
  obtain ⟨w, h3, h4⟩ := r'.get e2
  refine ⟨⟨vs, ws, v, w, hq, hq', h1, h3⟩, ?_⟩
  rintro z H' ⟨T, x', y', rfl, hT, rfl, y1, y2⟩
  have z1 := y1 vs hq
  have z2 := y2 ws hq'
  rw [h1] at z1
  rw [h3] at z2
  cases z1
  cases z2
  subst hp
  exact grow_pair R hT (h2.mono s) (h4.mono s)
def iZip3 (ta tb : E3) : I3 := fun ρ k x => ta ρ (fun d ρ1 => tb ρ1 (fun e ρ2 => match d, e with | .lst xs, .lst ys => k (pairUp xs ys) ρ2 | .tup xs, .tup ys => k (pairUp xs ys) ρ2 | _, _ => False) x) x
theorem izip {a b : Expr} {ta tb : E3} {p tpos : Pos} {elts : List Expr} {kk : Nat} (hg : Gl X "zip") (hm : X.mg "zip" = none) (h : P3 X W a ta) (h2 : P3 X W b tb) (hs : starEach [a, b] X.env = (false, eval a X.env) :: starEach [b] X.env := by rfl) (hs2 : starEach [b] X.env = (false, eval b X.env) :: starEach [] X.env := by rfl)
    (hpl : (backTo pos (starEach [b] X.env)).any (·.1) = false := by rfl) : P3I X W (.Tuple elts kk tpos) (.Call (.Name "zip" p) [a, b] [] pos) (iZip3 ta tb) := by
  refine ⟨PI.imp (RZ.pi_zipA hg hm (acons h (acons h2 anil hs2) hs).run hs hpl) fun σ H R ⟨G, ρ, H0, R0, q⟩ => ?_, fun ρ k k' x x' hk hx q =>
    h.mon _ _ _ _ _ (fun d ρ1 q => h2.mon _ _ _ _ _ (fun e ρ2 q => by cases d <;> cases e <;> first | exact hk _ _ q | exact q) hx q) hx q⟩
  refine ⟨G, ρ, H0, R0, h.mon _ _ _ _ _ (fun d ρ' q => h2.mon _ _ _ _ _ (fun e ρ2 q vs H' H0' s R' r => ?_) (fun _ _ z => z) q) (fun _ _ z => z) q⟩
  obtain ⟨v, w, rfl, rv, rw'⟩ := rep2 r
  cases rv with
  | lst ha ra =>
    cases rw' with
    | lst hb rb => exact ⟨_, _, _, _, rfl, .inl ⟨SqL.of (R'.ex _ _ ha), SqL.of (R'.ex _ _ hb), q _ H' H0' s R' (walk_zipL ha ra hb rb)⟩⟩
    | _ => exact q.elim
  | tup ha ra =>
    cases rw' with
    | tup hb rb => exact ⟨_, _, _, _, rfl, .inr ⟨SqT.of (R'.ex _ _ ha), SqT.of (R'.ex _ _ hb), q _ H' H0' s R' (walk_zipT ha ra hb rb)⟩⟩
    | _ => exact q.elim
  | _ => cases rw' <;> exact q.elim

/-! ### for -/
def loop3 (g : G3) (t : S3) : List D → Ends3 → Env3 → Prop
  | [], E, ρ => E.nx ρ
  | d :: r, E, ρ => g d ρ fun ρ1 => t { E with nx := loop3 g t r E, ct := loop3 g t r E, bk := E.nx } ρ1
def tFor3 (w : I3) (g : G3) (t : S3) : S3 := fun E ρ => w ρ (fun ds ρ' => loop3 g t ds E ρ') E.xc
theorem loop_mon {g : G3} (mg : ∀ d ρ k k', (∀ ρ', k ρ' → k' ρ') → g d ρ k → g d ρ k') (m : MonS t) {E E' : Ends3} (l : LeE E E') : ∀ (ds : List D) (ρ : Env3), loop3 g t ds E ρ → loop3 g t ds E' ρ
  | [], ρ, h => l.nx _ h
  | d :: r, ρ, h => mg _ _ _ _ (fun ρ1 q => m { E with nx := loop3 g t r E, ct := loop3 g t r E, bk := E.nx } { E' with nx := loop3 g t r E', ct := loop3 g t r E', bk := E'.nx } ρ1 ⟨loop_mon mg m l r, l.rt, l.nx, loop_mon mg m l r, l.xc⟩ q) h
theorem sfor {tg it : Expr} {body : List Stmt} {w : I3} {g : G3} {ws : List Nat} (hp : PassesOwn (model X.prog X.w) X.A X.env X.xe) (hc : X.calm = true) (hi : P3I X W tg it w) (hg : P3G X ws tg g) (hb : P3Ss X W body t)
    (hs : ∀ x, foldedSetIterable it X.env x = pure x := by intro _; rfl) : P3S X W (.For tg it body [] pos) (tFor3 w g t) := by
  refine ⟨PS.imp (ps_for hp hc hi.run hg.run hb.run hs) fun D σ H ⟨G, ρ, H0, E, R, h, L⟩ => ?_, fun E E' ρ l h => hi.mon _ _ _ _ _ (fun ds ρ' q => loop_mon hg.mon hb.mon l ds ρ' q) l.xc h⟩
  refine ⟨G, ρ, H0, R, hi.mon _ _ _ _ _ (fun ds ρ1 q J H1 H01 s1 R1 Wk => ?_) (fun x ρ' q => L.kx q) h⟩
  refine ⟨fun i m σ' H' => m = ds.length - i ∧ i ≤ ds.length ∧ ∃ ρ' H0', Same H01 H0' ∧ Rel G H0' ρ' σ' H' ∧ loop3 g t (ds.drop i) E ρ', ⟨_, rfl, Nat.zero_le _, ρ1, H01, Same.refl _, R1, q⟩, ?_⟩
  rintro i m σ2 H2 ⟨rfl, hi', ρ2, H02, s2, R2, q2⟩
  by_cases hlt : i < ds.length
  · rw [List.drop_eq_getElem_cons hlt] at q2
    obtain ⟨wg, wy⟩ := (Wk i G H02 ρ2 σ2 H2 rfl s2 R2).1 ds[i] (List.getElem?_eq_getElem hlt)
    refine .inr ⟨wg, fun σ' H' => i + 1 ≤ ds.length ∧ ∃ ρ' H0', Same H01 H0' ∧ Rel G H0' ρ' σ' H' ∧ loop3 g t (ds.drop (i + 1)) E ρ', fun σ' H' z => ⟨_, by omega, rfl, z⟩, fun x H3 y => ?_⟩
    obtain ⟨H03, s3, R3, r3⟩ := wy x H3 y
    refine ⟨G, ρ2, H03, ds[i], R3, r3, hg.mon _ _ _ _ (fun ρ4 q4 σ4 H4 H04 s4 R4 _ => ?_) q2⟩
    have su := (s2.trans s3).trans s4
    refine ⟨G, ρ4, H04, _, R4, q4, fun ρ' σ' H' H0' s' R' z => ⟨by omega, ρ', H0', su.trans s', R', z⟩, fun d ρ' σ' v H' H0' s' R' r z => L.rt d ρ' σ' v H' H0' ((s1.trans su).trans s') R' r z,
      fun ρ' σ' H' H0' s' R' z => L.nx ρ' σ' H' H0' ((s1.trans su).trans s') R' z, fun ρ' σ' H' H0' s' R' z => ⟨by omega, ρ', H0', su.trans s', R', z⟩,
      fun x ρ' σ' cls dx H' H0' s' R' r z => L.xc x ρ' σ' cls dx H' H0' ((s1.trans su).trans s') R' r z⟩
  · have e : i = ds.length := by omega
    subst e
    rw [List.drop_length] at q2
    exact .inl ⟨(Wk ds.length G H02 ρ2 σ2 H2 rfl s2 R2).2 (Nat.le_refl _), L.nx ρ2 σ2 H2 H02 (s1.trans s2) R2 q2⟩

/-! ### while, by a measure and a word of one's own -/
def tWhile3 (c : T3) (t : S3) : S3 := fun E ρ => ∃ Iv : Nat → Env3 → Prop, (∃ m, Iv m ρ) ∧ ∀ m ρ, Iv m ρ → c ρ (fun b ρ' => match b with | true => t { E with nx := fun ρ2 => ∃ m', m' < m ∧ Iv m' ρ2, ct := fun ρ2 => ∃ m', m' < m ∧ Iv m' ρ2, bk := E.nx } ρ' | false => E.nx ρ') E.xc
theorem swhile {c : Expr} {body : List Stmt} {tc : T3} (hp : PassesOwn (model X.prog X.w) X.A X.env X.xe) (hc : P3T X W c tc) (hb : P3Ss X W body t) : P3S X W (.While c body [] pos) (tWhile3 tc t) := by
  refine ⟨PS.imp (ps_while hp hc.run hb.run) fun D σ H ⟨G, ρ, H0, E, R, ⟨Iv, ⟨m0, h0⟩, h⟩, L⟩ => ?_, fun E E' ρ l ⟨Iv, h0, h⟩ => ⟨Iv, h0, fun m ρ hi => hc.mon _ _ _ _ _ (fun b ρ' q => ?_) l.xc (h m ρ hi)⟩⟩
  · refine ⟨fun m σ' H' => ∃ ρ' H0', Same H0 H0' ∧ Rel G H0' ρ' σ' H' ∧ Iv m ρ', ⟨m0, ρ, H0, Same.refl _, R, h0⟩, ?_⟩
    rintro m σ2 H2 ⟨ρ2, H02, s2, R2, i2⟩
    refine ⟨G, ρ2, H02, R2, hc.mon _ _ _ _ _ (fun b ρ' q H' H0' s R' => ?_) (fun x ρ' q => (L.up s2).kx q) (h m ρ2 i2)⟩
    have su := s2.trans s
    cases b with
    | true =>
      refine iteT ⟨fun σ' H' => ∃ m', m' < m ∧ ∃ ρ' H0', Same H0 H0' ∧ Rel G H0' ρ' σ' H' ∧ Iv m' ρ', fun σ' H' z => z, G, ρ', H0', _, R', q, ?_⟩
      exact ⟨fun ρ3 σ' H3 H03 s' R3 ⟨m', z1, z2⟩ => ⟨m', z1, ρ3, H03, su.trans s', R3, z2⟩, fun d ρ3 σ' v H3 H03 s' R3 r z => L.rt d ρ3 σ' v H3 H03 (su.trans s') R3 r z, fun ρ3 σ' H3 H03 s' R3 z => L.nx ρ3 σ' H3 H03 (su.trans s') R3 z,
        fun ρ3 σ' H3 H03 s' R3 ⟨m', z1, z2⟩ => ⟨m', z1, ρ3, H03, su.trans s', R3, z2⟩, fun x ρ3 σ' cls dx H3 H03 s' R3 r z => L.xc x ρ3 σ' cls dx H3 H03 (su.trans s') R3 r z⟩
    | false => exact iteF (L.nx ρ' σ2 H' H0' su R' q)
  · cases b with
    | true => exact hb.mon { E with nx := fun ρ2 => ∃ m', m' < m ∧ Iv m' ρ2, ct := fun ρ2 => ∃ m', m' < m ∧ Iv m' ρ2, bk := E.nx } { E' with nx := fun ρ2 => ∃ m', m' < m ∧ Iv m' ρ2, ct := fun ρ2 => ∃ m', m' < m ∧ Iv m' ρ2, bk := E'.nx } _ ⟨fun _ z => z, l.rt, l.nx, fun _ z => z, l.xc⟩ q
    | false => exact l.nx _ q

/-! ### lists made by a comprehension -/
structure P3Ts (X : Cx) (cs : List Expr) (t : T3) : Prop where
  run : PTs X cs (lT (fun _ _ _ _ => False) t)
  mon : MonE t
def tYes3 : T3 := fun ρ k _ => k true ρ
theorem tsnil : P3Ts X [] tYes3 := ⟨⟨fun pins s σ H Q I ⟨G, ρ, H0, R, q⟩ => pts_nil.run pins s σ H Q I (q H H0 (Same.refl _) R)⟩, fun ρ k k' x x' hk _ h => hk _ _ h⟩
theorem tsone {c : Expr} {t : T3} (h : P3T X (fun _ _ _ _ => False) c t) : P3Ts X [c] t := ⟨pts_one h.run, h.mon⟩
def lcGo (g : G3) (tt : T3) (te : E3) (vs : List Nat) : List D → List D → Env3 → (List D → Env3 → Prop) → Prop
  | [], acc, ρ, k => k acc ρ
  | d :: r, acc, ρ, k => g d ρ fun ρ1 => tt ρ1 (fun b ρ2 => match b with
    | true => te ρ2 (fun y ρ3 => acc.length < sizeLine ∧ lcGo g tt te vs r (acc ++ [y]) (ρ3.wipe vs) k) (fun _ _ => False)
    | false => lcGo g tt te vs r acc (ρ2.wipe vs) k) (fun _ _ => False)
def tLc3 (w : I3) (g : G3) (tt : T3) (te : E3) (vs : List Nat) : E3 := fun ρ k x => w ρ (fun ds ρ1 => lcGo g tt te vs ds [] (ρ1.wipe vs) fun acc ρ2 => k (.lst acc) (Env3.back ρ1 ρ2 vs)) x
theorem lcGo_mon {g : G3} {tt : T3} {te : E3} {vs : List Nat} (mg : ∀ d ρ k k', (∀ ρ', k ρ' → k' ρ') → g d ρ k → g d ρ k') (mt : MonE tt) (me : MonE te) {k k' : List D → Env3 → Prop} (f : ∀ a ρ, k a ρ → k' a ρ) :
    ∀ (ds acc : List D) (ρ : Env3), lcGo g tt te vs ds acc ρ k → lcGo g tt te vs ds acc ρ k'
  | [], acc, ρ, h => f _ _ h
  | d :: r, acc, ρ, h => mg _ _ _ _ (fun ρ1 q => mt _ _ _ _ _ (fun b ρ2 q => by
      cases b with
      | true => exact me _ _ _ _ _ (fun y ρ3 q => mon_and (lcGo_mon mg mt me f r _ _) q) (fun _ _ z => z) q
      | false => exact lcGo_mon mg mt me f r _ _ q) (fun _ _ z => z) q) h
theorem lc_mon {w : I3} {g : G3} {tt : T3} {te : E3} {vs : List Nat} (mw : MonE w) (mg : ∀ d ρ k k', (∀ ρ', k ρ' → k' ρ') → g d ρ k → g d ρ k') (mt : MonE tt) (me : MonE te) : MonE (tLc3 w g tt te vs) := fun ρ k k' x x' hk hx h =>
  mw _ _ _ _ _ (fun ds ρ1 q => lcGo_mon mg mt me (fun acc ρ2 => hk _ _) ds [] _ q) hx h
abbrev W0 : WX := fun _ _ _ _ => False
abbrev lG (ws : List Nat) (g : G3) : TG := fun v σ H Q => ∃ G ρ H0 d, Rel G H0 ρ σ H ∧ Rep G.pn H0 v d ∧ g d ρ (fun ρ' => ∀ σ' H' H0', Same H0 H0' → Rel G H0' ρ' σ' H' → StO ws σ σ' → Q σ' H')
theorem lc_read {w : I3} {g : G3} {tt : T3} {te : E3} {vs ws : List Nat} (mw : MonE w) (mg : ∀ d ρ k k', (∀ ρ', k ρ' → k' ρ') → g d ρ k → g d ρ k') (mt : MonE tt) (me : MonE te) (hws : ∀ i ∈ ws, i ∈ vs) (nd : vs.Nodup) {σ : L2.St} {H : Hp} {Q : VK}
    (h : lE W (tLc3 w g tt te vs) σ H Q) : tLc (lI W w) (lG ws g) (lT W0 tt) (lE W0 te) vs σ H Q := by
  obtain ⟨G, ρ, H0, R, h⟩ := h
  refine ⟨G, ρ, H0, R, mw _ _ _ _ _ (fun ds ρ1 q J H1 H01 s1 R1 Wk Dl hD => ?_) (fun _ _ z => z) h⟩
  have nf := R1.noHf hD
  have h0D : H01 Dl = none := by
    cases e : H01 Dl with
    | none => rfl
    | some u => have := R1.ex _ _ e; rw [hD] at this; cases this
  have hgD : G.H0 Dl = none := by
    cases e : G.H0 Dl with
    | none => rfl
    | some u => have := R1.ex0 _ _ e; rw [h0D] at this; cases this
  -- what holds at each turn: the list at Dl holds what is made so far
  refine ⟨fun i m H' => m = ds.length - i ∧ i ≤ ds.length ∧ ∃ ρ' H0' xs acc, Same H01 H0' ∧ Rel (G.res Dl (.lst xs)) H0' ρ' (L2.wipe σ vs) H' ∧ RepA G.pn H0' xs acc ∧
    lcGo g tt te vs (ds.drop i) acc ρ' (fun acc ρ2 => KQ G H0 σ Q (.lst acc) (Env3.back ρ1 ρ2 vs)), ⟨_, rfl, Nat.zero_le _, ρ1.wipe vs, H01, [], [], Same.refl _, ?_, .nil, q⟩, ?_⟩
  · exact ((R1.wipe vs).grow' hD).res upd_same h0D ((R1.wipe vs).fresh hD)
  rintro i m H2 ⟨rfl, hi', ρ2, H02, xs, acc, s2, R2, ra, q2⟩
  by_cases hlt : i < ds.length
  · rw [List.drop_eq_getElem_cons hlt] at q2
    obtain ⟨wg, wy⟩ := (Wk i (G.res Dl (.lst xs)) H02 ρ2 (L2.wipe σ vs) H2 rfl s2 R2).1 ds[i] (List.getElem?_eq_getElem hlt)
    refine .inr ⟨wg, fun H' => i + 1 ≤ ds.length ∧ ∃ ρ' H0' xs acc, Same H01 H0' ∧ Rel (G.res Dl (.lst xs)) H0' ρ' (L2.wipe σ vs) H' ∧ RepA G.pn H0' xs acc ∧ lcGo g tt te vs (ds.drop (i + 1)) acc ρ' (fun acc ρ2 => KQ G H0 σ Q (.lst acc) (Env3.back ρ1 ρ2 vs)),
      fun H' z => ⟨_, by omega, rfl, z⟩, fun x H3 y => ?_⟩
    obtain ⟨H03, s3, R3, r3⟩ := wy x H3 y
    refine ⟨G.res Dl (.lst xs), ρ2, H03, ds[i], R3, r3, mg _ _ _ _ (fun ρ4 q4 σ4 H4 H04 s4 R4 o4 => ?_) q2⟩
    have e4 : L2.wipe σ4 vs = L2.wipe σ vs := (o4.wipe hws).trans wipe_wipe
    refine ⟨e4, G.res Dl (.lst xs), ρ4, H04, R4, mt _ _ _ _ _ (fun b ρ5 q5 H5 H05 s5 R5 => ?_) (fun _ _ z => z.elim) q4⟩
    have s5' := ((s2.trans s3).trans s4).trans s5
    cases b with
    | true =>
      refine iteT ⟨G.res Dl (.lst xs), ρ5, H05, R5, me _ _ _ _ _ (fun yd ρ6 q6 yv H6 H06 s6 R6 r6 => ?_) (fun _ _ z => z.elim) q5⟩
      have hl := R6.res_no (fun _ z => nomatch z) hgD nf.2
      have sa := ((s3.trans s4).trans s5).trans s6
      have ra6 := ra.mono sa
      refine ⟨xs, hl.1, by rw [ra6.length]; exact q6.1, by omega, ρ6.wipe vs, H06, xs ++ [yv], acc ++ [yd], s5'.trans s6, ?_, ra6.append (.cons r6 .nil), q6.2⟩
      have R7 := (R6.wipe vs).res_put (o' := .lst (xs ++ [yv])) (fun _ z => nomatch z) hgD nf.2
      rw [e4] at R7
      exact R7
    | false =>
      refine iteF ⟨by omega, ρ5.wipe vs, H05, xs, acc, s5', ?_, ra.mono ((s3.trans s4).trans s5), q5⟩
      have R7 := R5.wipe vs
      rw [e4] at R7
      exact R7
  · have e : i = ds.length := by omega
    subst e
    rw [List.drop_length] at q2
    refine .inl ⟨(Wk ds.length (G.res Dl (.lst xs)) H02 ρ2 (L2.wipe σ vs) H2 rfl s2 R2).2 (Nat.le_refl _), ?_⟩
    obtain ⟨hl, h0, hx⟩ := R2.res_no (fun _ z => nomatch z) hgD nf.2
    have R3 := R2.unres nf.1
    obtain ⟨st, R4⟩ := R3.tell hl h0 nf.1 nf.2 hx
    have R5 := R1.back (s2.trans st) vs ρ2 nd R4
    exact q2 (.ref Dl) H2 _ ((s1.trans s2).trans st) R5 (.lst upd_same (ra.mono st))
theorem lc3 {elt tg it : Expr} {ifs : List Expr} {scope : Scope} {own : List (Str × Nat)} {w : I3} {g : G3} {tt : T3} {te : E3} {ws : List Nat} (hc : X.calm = true) (hN : X.N.Nodup) (hi : P3I X W tg it w) (ok : BlkOk X.N X.env.scope scope own)
    (hg : ∀ (s : Shared) (H : Hp) (C : Addr) (cl : List (Str × Addr)) (fp : List Addr), P3G (X.blk s H scope (compEnvC scope cl C X.env) fp) ws tg g) (ht : ∀ (s : Shared) (H : Hp) (C : Addr) (cl : List (Str × Addr)) (fp : List Addr), P3Ts (X.blk s H scope (compEnvC scope cl C X.env) fp) ifs tt)
    (he : ∀ (s : Shared) (H : Hp) (C : Addr) (cl : List (Str × Addr)) (fp : List Addr), P3 (X.blk s H scope (compEnvC scope cl C X.env) fp) W0 elt te) (hws : ∀ i ∈ ws, i ∈ own.map (·.2) := by decide) (nd : (own.map (·.2)).Nodup := by decide)
    (hs : ∀ x, foldedSetIterable it X.env x = pure x := by intro _; rfl) : P3 X W (.ListComp elt [⟨tg, it, ifs, 0⟩] scope pos) (tLc3 w g tt te (own.map (·.2))) := by
  have s0 : Shared := {}
  exact ⟨PE.imp (pe_lc hc hN hi.run ok (fun s H C cl fp => (hg s H C cl fp).run) (fun s H C cl fp => (ht s H C cl fp).run) (fun s H C cl fp => (he s H C cl fp).run) hs) fun σ H Q h => lc_read hi.mon (hg s0 (fun _ => none) 0 [] []).mon (ht s0 (fun _ => none) 0 [] []).mon (he s0 (fun _ => none) 0 [] []).mon hws nd h,
    lc_mon hi.mon (hg s0 (fun _ => none) 0 [] []).mon (ht s0 (fun _ => none) 0 [] []).mon (he s0 (fun _ => none) 0 [] []).mon⟩
/-- y = [..] -/
theorem ssetLc {i : Nat} {y : Str} {py : Pos} {elt tg it : Expr} {ifs : List Expr} {scope : Scope} {own : List (Str × Nat)} {spos : Pos} {w : I3} {g : G3} {tt : T3} {te : E3} {ws : List Nat} (hc : X.calm = true) (hN : X.N.Nodup) (hy : X.N[i]? = some y) (hyl : X.env.scope.names.lookup y = some .local)
    (hsw : swapsWith (.ListComp elt [⟨tg, it, ifs, 0⟩] scope pos) (some (.Name y py)) spos.line X.env = pure true) (hi : P3I X W tg it w) (ok : BlkOk X.N X.env.scope scope own)
    (hg : ∀ (s : Shared) (H : Hp) (C : Addr) (cl : List (Str × Addr)) (fp : List Addr), P3G (X.blk s H scope (compEnvC scope cl C X.env) fp) ws tg g) (ht : ∀ (s : Shared) (H : Hp) (C : Addr) (cl : List (Str × Addr)) (fp : List Addr), P3Ts (X.blk s H scope (compEnvC scope cl C X.env) fp) ifs tt)
    (he : ∀ (s : Shared) (H : Hp) (C : Addr) (cl : List (Str × Addr)) (fp : List Addr), P3 (X.blk s H scope (compEnvC scope cl C X.env) fp) W0 elt te) (hws : ∀ i ∈ ws, i ∈ own.map (·.2) := by decide) (nd : (own.map (·.2)).Nodup := by decide)
    (hs : ∀ x, foldedSetIterable it X.env x = pure x := by intro _; rfl) : P3S X W (.Assign [.Name y py] (.ListComp elt [⟨tg, it, ifs, 0⟩] scope pos) spos) (tAsg3 (tLc3 w g tt te (own.map (·.2))) (gName3 i)) := by
  have s0 : Shared := {}
  have m := lc_mon (vs := own.map (·.2)) hi.mon (hg s0 (fun _ => none) 0 [] []).mon (ht s0 (fun _ => none) 0 [] []).mon (he s0 (fun _ => none) 0 [] []).mon
  refine ⟨PS.imp (ps_setLc hc hN hy hyl hsw hi.run ok (fun s H C cl fp => (hg s H C cl fp).run) (fun s H C cl fp => (ht s H C cl fp).run) (fun s H C cl fp => (he s H C cl fp).run) hs) fun D σ H ⟨G, ρ, H0, E, R, h, L⟩ => ?_, asg_mon m fun d ρ k k' f h => f _ h⟩
  refine lc_read hi.mon (hg s0 (fun _ => none) 0 [] []).mon (ht s0 (fun _ => none) 0 [] []).mon (he s0 (fun _ => none) 0 [] []).mon hws nd ⟨G, ρ, H0, R, m _ _ _ _ _ (fun d ρ1 q v H1 H01 s1 R1 r1 => ?_) (fun x ρ' q => L.kx q) h⟩
  exact L.nx _ _ H1 H01 s1 (R1.setv r1) q
end
end L3
/-! L3: functions -/
namespace L3
open PySem PySem.Spec PyProof.Rows L2

/-! ### a call: what is behind it -/
structure After (pn : Option Addr) (H0 H H0' H' : Hp) (T' : Nat) : Prop where
  ex0 : Same H0 H0'
  ex : Same H0' H'
  keep : ∀ a o, H a = some o → pn ≠ some a → H' a = some o
  new : ∀ a o, H0' a = some o → (∃ u, H0 a = some u) ∨ H a = none ∨ ∃ xs, o = .tup xs
  pen : ∀ p, pn = some p → PenAt H0' H' T' p
theorem Rel.after {G : Ent} {H0 : Hp} {ρ : Env3} {σ : L2.St} {H : Hp} (R : Rel G H0 ρ σ H) : After G.pn G.H0 G.Hf H0 H ρ.T := ⟨R.ex0, R.ex, R.keep, R.new, R.pen⟩
def Env3.at (ρ : Env3) (T : Nat) : Env3 := ⟨ρ.sl, T⟩
theorem Rel.call {G : Ent} {H0 H0' : Hp} {ρ : Env3} {σ : L2.St} {H H' : Hp} {T : Nat} (R : Rel G H0 ρ σ H) (A : After G.pn H0 H H0' H' T) : Rel G H0' (ρ.at T) σ H' := by
  refine ⟨A.ex, R.ex0.trans A.ex0, fun a o e hn => A.keep a o (R.keep a o e hn) hn, fun a o e => ?_, R.len, fun i => ?_, R.own, fun p hp => A.pen p hp, R.fix⟩
  · rcases A.new a o e with ⟨u, h⟩ | h | h
    · have q := A.ex0 a u h
      rw [e] at q
      cases q
      exact R.new a o h
    · exact .inr (.inl (R.noHf h).1)
    · exact .inr (.inr h)
  · have h := R.slot i
    show SlotOk G H0' H' ρ.sl[i]? σ[i]?
    cases e : ρ.sl[i]? with
    | none => exact True.intro
    | some s =>
      rw [e] at h
      cases s with
      | un => exact True.intro
      | val d => obtain ⟨x, h1, h2⟩ := h; exact ⟨x, h1, h2.mono A.ex0⟩
      | own d =>
        obtain ⟨l, h1, h2, h3, h4, h5⟩ := h
        obtain ⟨o, ho⟩ := h2.there
        refine ⟨l, h1, h2.mono A.ex0 ((A.keep l o ho h5).trans ho.symm), ?_, h4, h5⟩
        cases e0 : H0' l with
        | none => rfl
        | some u =>
          rcases A.new l u e0 with ⟨z, q⟩ | q | ⟨xs, q⟩
          · rw [h3] at q; cases q
          · rw [ho] at q; cases q
          · have q2 := A.ex l u e0
            rw [A.keep l o ho h5, q] at q2
            rw [Option.some.inj q2] at ho
            cases d with
            | lst ds => obtain ⟨vs, q, _⟩ := h2; rw [ho] at q; cases q
            | dT ds => obtain ⟨vs, q, _⟩ := h2; rw [ho] at q; cases q
            | _ => exact h2.elim

/-! ### promises over data -/
/-- arguments, draws so far, what is wanted of the result -/
abbrev Sp3 := List D → Nat → (D → Nat → Prop) → Prop
def spL (n : Nat) (s : Sp3) : Sp := fun vs H Q _ => ∃ pn H0 ds T, vs.length = n ∧ Same H0 H ∧ RepA pn H0 vs ds ∧ (∀ p, pn = some p → PenAt H0 H T p) ∧ s ds T fun d T' => ∀ v H' H0', After pn H0 H H0' H' T' → Rep pn H0' v d → Q v H'
def mon3 (s : Sp3) : Prop := ∀ ds T k k', (∀ d T', k d T' → k' d T') → s ds T k → s ds T k'
section
variable {P : Program} {w : World} {K : PySem.W.Frag} {mg : Str → Option Value} {base : Heap}
theorem get_start {N : List Str} {vs : List V} {i : Nat} {v : V} (h : vs[i]? = some v) : (L2.start N vs)[i]? = some (some v) := by
  unfold L2.start
  have hi : i < vs.length := (List.getElem?_eq_some_iff.mp h).1
  rw [List.getElem?_append_left (by rw [List.length_map]; exact hi), List.getElem?_map, h]
  rfl
theorem fn3 {x qual : Str} {st : Stmt} {f : Addr} {fd : FuncData} {N ps : List Str} {k n m : Nat} {s3 : Sp3} {t : S3} (F : Fun K x qual st f fd) (S : FnScope N ps (defScope st)) (hn : ps.length = n) (hm : N.length = n + m)
    (hbody : ∀ (cdv : Value) (A : Around) (outer : List Env) (s : Shared) (H : Hp) (E : XK), Room k (A.deeper (envOfC qual (defScope st) s.heap.objs.size f cdv)) → P3Ss (cxOf CX0 P w K mg base N qual (defScope st) f cdv A outer s H E).nox W0 (defBody st) t)
    (hs : ∀ ds T kk, ds.length = n → s3 ds T kk → t { nx := fun ρ => kk .non ρ.T, rt := fun d ρ => kk d ρ.T } ⟨ds.map .val ++ List.replicate m .un, T⟩) : FnOk P w K mg base CX0 (k + 1) f fd ps (spL n s3) := by
  refine F.ok S (fun vs H Q E h => ?_) (fun cdv A outer s H vs Q E hr h => ?_)
  · obtain ⟨pn, H0, ds, T, hl, _⟩ := h
    rw [hl, hn]
  · obtain ⟨pn, H0, ds, T, hl, hS, hr', hp, h⟩ := h
    refine ⟨_, (hbody cdv A outer s H E hr).run, ⟨H, H0, pn, none⟩, _, H0, _, ?_, hs ds T _ (by rw [← hr'.length]; exact hl) h, ?_⟩
    · refine ⟨hS, Same.refl _, fun a o e _ => e, fun a o e => .inl ⟨o, e⟩, ?_, fun i => ?_, fun i j l a b => ?_, hp, fun _ z => by cases z⟩
      · unfold L2.start
        simp only [List.length_append, List.length_map, List.length_replicate]
        rw [← hr'.length, hl, hm]
        omega
      · show SlotOk _ H0 H (ds.map Slot.val ++ List.replicate m .un)[i]? (L2.start N vs)[i]?
        by_cases hi : i < ds.length
        · rw [List.getElem?_append_left (by rw [List.length_map]; exact hi), List.getElem?_map, List.getElem?_eq_getElem hi]
          obtain ⟨v, h1, h2⟩ := hr'.get (List.getElem?_eq_getElem hi)
          exact ⟨v, get_start h1, h2⟩
        · rw [List.getElem?_append_right (by rw [List.length_map]; omega), List.getElem?_replicate]
          split <;> exact True.intro
      · obtain ⟨⟨d, q⟩, _⟩ := a
        have q : (ds.map Slot.val ++ List.replicate m .un)[i]? = some (.own d) := q
        by_cases hi : i < ds.length
        · rw [List.getElem?_append_left (by rw [List.length_map]; exact hi), List.getElem?_map, List.getElem?_eq_getElem hi] at q
          cases q
        · rw [List.getElem?_append_right (by rw [List.length_map]; omega), List.getElem?_replicate] at q
          split at q <;> cases q
    · refine ⟨fun ρ' σ' H' H0' s' R' q => ?_, fun d ρ' σ' v H' H0' s' R' r q => ?_, fun _ _ _ _ _ _ z => z.elim, fun _ _ _ _ _ _ z => z.elim, fun _ _ _ _ _ _ _ _ _ _ z => z.elim⟩
      · exact q .non H' H0' R'.after .non
      · exact q v H' H0' R'.after r
end

/-! ### calls -/
section
variable {X : Cx} {W : WX} {e : Expr} {es : List Expr} {tr tk : A3} {k n : Nat} {f : Addr} {fd : FuncData} {ps : List Str} {s3 : Sp3} {x : Str} {p pos : Pos}
def tFn3 (n : Nat) (s : Sp3) (tr : A3) : E3 := fun ρ k x => tr ρ (fun ds ρ' => ds.length = n ∧ s ds ρ'.T fun d T' => k d (ρ'.at T')) x
theorem monFn (hm : mon3 s3) (m : MonE tr) : MonE (tFn3 n s3 tr) := fun ρ k k' x x' hk hx h => m _ _ _ _ _ (fun ds ρ' q => mon_and (hm _ _ _ _ fun d T' => hk _ _) q) hx h
theorem fn_read {G : Ent} {H0 H01 : Hp} {σ : L2.St} {Q : VK} {ρ1 : Env3} {vs : List V} {H1 : Hp} {ds : List D} {E : XK} (hm : mon3 s3) (s1 : Same H0 H01) (R1 : Rel G H01 ρ1 σ H1) (r1 : RepA G.pn H01 vs ds) (hl : ds.length = n)
    (q : s3 ds ρ1.T fun d T' => KQ G H0 σ Q d (ρ1.at T')) : spL n s3 vs H1 Q E := by
  refine ⟨G.pn, H01, ds, ρ1.T, by rw [r1.length]; exact hl, R1.ex, r1, R1.pen, hm _ _ _ _ (fun d T' q v H' H0' A r => ?_) q⟩
  exact q v H' H0' (s1.trans A.ex0) (R1.call A) r
theorem call3 (hm3 : mon3 s3) (F : FnOk X.prog X.w X.K X.mg X.base CX0 k f fd ps (spL n s3)) (hr : Room k X.A) (hg : Gl X x) (hm : X.mg x = some (.ref f)) (hk : PySem.W.keepIn X.K (.ref f) = true) (hb : Binds X.K fd ps [])
    (ha : P3A X W (e :: es) tr) (hdb : (x == ("__debug__" : Str)) = false := by decide) (he : starEach (e :: es) X.env = (false, eval e X.env) :: starEach es X.env := by rfl) (hpl : (backTo pos (starEach es X.env)).any (·.1) = false := by rfl) :
    P3 X W (.Call (.Name x p) (e :: es) [] pos) (tFn3 n s3 tr) := by
  refine ⟨PE.imp (pe_call F hr hg hm hk hb .nil pass0 ha.run hdb he hpl) fun σ H Q ⟨G, ρ, H0, R, q⟩ => ?_, monFn hm3 ha.mon⟩
  refine ⟨G, ρ, H0, R, ha.mon _ _ _ _ _ (fun ds ρ1 q vs H1 H01 s1 R1 r1 => ?_) (fun _ _ z => z) q⟩
  show spL n s3 (vs ++ []) H1 Q E0
  rw [List.append_nil]
  exact fn_read hm3 s1 R1 r1 q.1 q.2

/-! ### keywords -/
structure P3K (X : Cx) (W : WX) (kws : List Keyword) (t : A3) : Prop where
  run : PK X kws (lA W t)
  mon : MonE t
theorem PK.imp {X : Cx} {e : List Keyword} {t t' : TA} (h : PK X e t) (q : ∀ σ H Q, t' σ H Q → t σ H Q) : PK X e t' := ⟨fun p pins s σ H Q I z => h.run p pins s σ H Q I (q σ H Q z)⟩
theorem knil : P3K X W [] tNil3 := ⟨PK.imp pk_nil fun σ H Q ⟨G, ρ, H0, R, q⟩ => q [] H H0 (Same.refl _) R .nil, monNil⟩
theorem kcons {nm : Option Str} {kpos : Pos} {kws : List Keyword} {te : E3} (h1 : P3 X W e te) (h2 : P3K X W kws tr) : P3K X W (⟨nm, e, kpos⟩ :: kws) (tCons3 te tr) := by
  refine ⟨PK.imp (pk_cons h1.run h2.run) fun σ H Q h => ?_, monCons h1.mon h2.mon⟩
  obtain ⟨G, ρ, H0, R, h⟩ := h
  refine ⟨G, ρ, H0, R, h1.mon ρ _ _ _ _ (fun d ρ1 q => ?_) (fun _ _ z => z) h⟩
  intro v H1 H01 s1 R1 r1
  refine ⟨G, ρ1, H01, R1, h2.mon ρ1 _ _ _ _ (fun ds ρ2 q => ?_) (fun _ _ z => KX.up z s1) q⟩
  intro vs H2 H02 s2 R2 r2
  exact q (v :: vs) H2 H02 (s1.trans s2) R2 (.cons (r1.mono s2) r2)
/-- m by place, c by name, put in the parameters' order -/
def order {α : Type} (m c : Nat) (ix : List Nat) (us ws : List α) : List α := if us.length = m ∧ ws.length = c then ix.filterMap fun i => (us ++ ws)[i]? else []
theorem RepA.pick {pn : Option Addr} {H : Hp} {vs : List V} {ds : List D} (r : RepA pn H vs ds) : ∀ ix : List Nat, RepA pn H (ix.filterMap fun i => vs[i]?) (ix.filterMap fun i => ds[i]?)
  | [] => .nil
  | i :: ix => by
    rw [List.filterMap_cons, List.filterMap_cons]
    cases e : ds[i]? with
    | none =>
      have : vs[i]? = none := by rw [List.getElem?_eq_none_iff] at e ⊢; rw [r.length]; exact e
      rw [this]
      exact r.pick ix
    | some d =>
      obtain ⟨v, h1, h2⟩ := r.get e
      rw [h1]
      exact .cons h2 (r.pick ix)
theorem vals_pick {vs : List V} {us : List Value} (r : Vals vs us) : ∀ ix : List Nat, Vals (ix.filterMap fun i => vs[i]?) (ix.filterMap fun i => us[i]?)
  | [] => .nil
  | i :: ix => by
    rw [List.filterMap_cons, List.filterMap_cons]
    cases e : vs[i]? with
    | none =>
      rw [r.none_of e]
      exact vals_pick r ix
    | some d =>
      obtain ⟨v, h1, h2⟩ := r.get e
      rw [h1]
      exact .cons h2 (vals_pick r ix)
theorem order_rep {pn : Option Addr} {H : Hp} {m c : Nat} {ix : List Nat} {vs ws : List V} {ds es : List D} (r : RepA pn H vs ds) (q : RepA pn H ws es) : RepA pn H (order m c ix vs ws) (order m c ix ds es) := by
  unfold order
  rw [r.length, q.length]
  split
  · exact (r.append q).pick ix
  · exact .nil
theorem Fun.kbinds {K : PySem.W.Frag} {qual : Str} {st : Stmt} {ks : List Str} {m c : Nat} {ix : List Nat} (hps : 0 < ps.length) (F : Fun K x qual st f fd)
    (h : ∀ (kV doc pm : Value) (an : Option Addr) (cdv ct : Value) (us ws : List Value), us.length = m → ws.length = c → bindArgs (PySem.W.fnOf x qual (defArgs st) (defBody st) (defScope st) .none kV doc pm an cdv ct) ⟨us, ks.zip ws⟩ = pure (ps.zip (order m c ix us ws))) : KBinds K fd ps ks (order m c ix) (order m c ix) := by
  obtain ⟨oc, od, kV, doc, pm, an, cdv, ct, osl, rfl, lk, hcd⟩ := F.ex
  refine ⟨fun s us ws _ hl => ?_, fun {vs us zs ws} r q => ?_⟩
  · by_cases hc : us.length = m ∧ ws.length = c
    · exact .of_eq (h kV doc pm an cdv ct us ws hc.1 hc.2)
    · unfold order at hl
      rw [if_neg hc] at hl
      simp at hl
      omega
  · unfold order
    rw [r.length, q.length]
    split
    · exact vals_pick (r.append q) ix
    · exact .nil
def tFnK3 (n m c : Nat) (ix : List Nat) (s : Sp3) (tr tk : A3) : E3 := fun ρ k x => tr ρ (fun ds ρ1 => tk ρ1 (fun es ρ2 => (order m c ix ds es).length = n ∧ s (order m c ix ds es) ρ2.T fun d T' => k d (ρ2.at T')) x) x
theorem monFnK {m c : Nat} {ix : List Nat} (hm : mon3 s3) (m1 : MonE tr) (m2 : MonE tk) : MonE (tFnK3 n m c ix s3 tr tk) := fun ρ k k' x x' hk hx h => m1 _ _ _ _ _ (fun ds ρ1 q => m2 _ _ _ _ _ (fun es ρ2 q => mon_and (hm _ _ _ _ fun d T' => hk _ _) q) hx q) hx h
theorem callK3 {m c : Nat} {ix : List Nat} {kws : List Keyword} {ks : List Str} (hm3 : mon3 s3) (F : FnOk X.prog X.w X.K X.mg X.base CX0 k f fd ps (spL n s3)) (hr : Room k X.A) (hg : Gl X x) (hm : X.mg x = some (.ref f)) (hk : PySem.W.keepIn X.K (.ref f) = true)
    (hb : KBinds X.K fd ps ks (order m c ix) (order m c ix)) (ha : P3A X W (e :: es) tr) (hkw : P3K X W kws tk) (hall : (backToKw pos (keywordEach kws X.env)).all (·.1.isSome) = true := by rfl) (hks : (backToKw pos (keywordEach kws X.env)).filterMap (·.1) = ks := by rfl)
    (hdb : (x == ("__debug__" : Str)) = false := by decide) (he : starEach (e :: es) X.env = (false, eval e X.env) :: starEach es X.env := by rfl)
    (hpl : ((backTo pos (starEach (e :: es) X.env)).any (·.1) || (backToKw pos (keywordEach kws X.env)).any (·.1.isNone)) = false := by rfl) :
    P3 X W (.Call (.Name x p) (e :: es) kws pos) (tFnK3 n m c ix s3 tr tk) := by
  refine ⟨PE.imp (pe_callK F hr hg hm hk hb pass0 ha.run hkw.run hall hks hdb he hpl) fun σ H Q ⟨G, ρ, H0, R, q⟩ => ?_, monFnK hm3 ha.mon hkw.mon⟩
  refine ⟨G, ρ, H0, R, ha.mon _ _ _ _ _ (fun ds ρ1 q vs H1 H01 s1 R1 r1 => ?_) (fun _ _ z => z) q⟩
  refine ⟨G, ρ1, H01, R1, hkw.mon _ _ _ _ _ (fun es ρ2 q ws H2 H02 s2 R2 r2 => ?_) (fun _ _ z => KX.up z s1) q⟩
  exact fn_read hm3 (s1.trans s2) R2 (order_rep (r1.mono s2) r2) q.1 q.2
theorem pe_callK0 {sp : Sp} {kws : List Keyword} {ks : List Str} {E : XK} {CX : CXT} {tk : TA} {g : List Value → List Value → List Value} {gV : List V → List V → List V} (F : FnOk X.prog X.w X.K X.mg X.base CX k f fd ps sp) (hr : Room k X.A) (hg : Gl X x) (hm : X.mg x = some (.ref f)) (hk : PySem.W.keepIn X.K (.ref f) = true)
    (hb : KBinds X.K fd ps ks g gV) (hx : Passes CX X E) (hkw : PK X kws tk) (hall : (backToKw pos (keywordEach kws X.env)).all (·.1.isSome) = true := by rfl) (hks : (backToKw pos (keywordEach kws X.env)).filterMap (·.1) = ks := by rfl)
    (hdb : (x == ("__debug__" : Str)) = false := by decide)
    (hpl : ((backTo pos (starEach [] X.env)).any (·.1) || (backToKw pos (keywordEach kws X.env)).any (·.1.isNone)) = false := by rfl) :
    PE X (.Call (.Name x p) [] kws pos) (tCallK sp gV E tNil tk) := by
  refine ⟨fun pins s σ H Q I h => ?_⟩
  refine wpAny_Call_Name_kw (ld_glob I hg hm ?_ hdb)
  refine PySem.W.callWith_KW0 (h₀ := X.base) I.ok.mod.kin hk hall (thn (hkw.run pos pins s σ H _ I h) fun ws s2 ⟨zs, H2, I2, rz, q2⟩ => ⟨I2.kIn, ?_⟩) hpl
  rw [hks]
  exact run_fnk F hr hb hx I2 .nil rz q2
theorem callK03 {c : Nat} {ix : List Nat} {kws : List Keyword} {ks : List Str} (hm3 : mon3 s3) (F : FnOk X.prog X.w X.K X.mg X.base CX0 k f fd ps (spL n s3)) (hr : Room k X.A) (hg : Gl X x) (hm : X.mg x = some (.ref f)) (hk : PySem.W.keepIn X.K (.ref f) = true)
    (hb : KBinds X.K fd ps ks (order 0 c ix) (order 0 c ix)) (hkw : P3K X W kws tk) (hall : (backToKw pos (keywordEach kws X.env)).all (·.1.isSome) = true := by rfl) (hks : (backToKw pos (keywordEach kws X.env)).filterMap (·.1) = ks := by rfl)
    (hdb : (x == ("__debug__" : Str)) = false := by decide)
    (hpl : ((backTo pos (starEach [] X.env)).any (·.1) || (backToKw pos (keywordEach kws X.env)).any (·.1.isNone)) = false := by rfl) :
    P3 X W (.Call (.Name x p) [] kws pos) (tFnK3 n 0 c ix s3 tNil3 tk) := by
  refine ⟨PE.imp (pe_callK0 F hr hg hm hk hb pass0 hkw.run hall hks hdb hpl) fun σ H Q ⟨G, ρ, H0, R, q⟩ => ?_, monFnK hm3 monNil hkw.mon⟩
  refine ⟨G, ρ, H0, R, hkw.mon _ _ _ _ _ (fun es ρ2 q ws H2 H02 s2 R2 r2 => ?_) (fun _ _ z => z) q⟩
  exact fn_read hm3 s2 R2 (order_rep (.nil) r2) q.1 q.2
end
end L3
/-! L3: lists and dicts of a frame's own -/
namespace L3
open PySem PySem.Spec PyProof.Rows L2

/-- a new object that the frame alone knows -/
structure Fresh (G : Ent) (H0 : Hp) (ρ : Env3) (σ : L2.St) (H : Hp) (l : Addr) (d : D) : Prop where
  own : Own G.pn H0 H l d
  h0 : H0 l = none
  hf : G.Hf l = none
  pn : G.pn ≠ some l
  no : ∀ j, ¬ OwnS ρ σ j l
def KF (G : Ent) (H0 : Hp) (σ : L2.St) (Q : VK) : K3 := fun d ρ' => ∀ l H' H0', Same H0 H0' → Rel G H0' ρ' σ H' → Fresh G H0' ρ' σ H' l d → Q (.ref l) H'
theorem KF.up {G : Ent} {H0 H0' : Hp} {σ : L2.St} {d : D} {ρ : Env3} {Q : VK} (k : KF G H0 σ Q d ρ) (e : Same H0 H0') : KF G H0' σ Q d ρ := fun v H' H1 s R r => k v H' H1 (e.trans s) R r
def lF (W : WX) (t : E3) : TE := fun σ H Q => ∃ G ρ H0, Rel G H0 ρ σ H ∧ t ρ (KF G H0 σ Q) (KX G H0 σ W)
structure P3F (X : Cx) (W : WX) (e : Expr) (t : E3) : Prop where
  run : PE X e (lF W t)
  mon : MonE t
theorem Rel.make {G : Ent} {H0 H : Hp} {ρ : Env3} {σ : L2.St} {p : Addr} {o : HO} {d : D} (R : Rel G H0 ρ σ H) (hp : H p = none) (h : Own G.pn H0 (upd H p o) p d) : Rel G H0 ρ σ (upd H p o) ∧ Fresh G H0 ρ σ (upd H p o) p d := by
  have nf := R.noHf hp
  refine ⟨R.grow' hp, h, ?_, nf.1, nf.2, R.fresh hp⟩
  cases e : H0 p with
  | none => rfl
  | some u => have := R.ex _ _ e; rw [hp] at this; cases this
section
variable {X : Cx} {W : WX} {e : Expr} {es : List Expr} {pos : Pos} {te tf tg : E3} {tr : A3}
theorem flst (h1 : P3A X W es tr) : P3F X W (.List es pos) (tLst3 tr) := by
  refine ⟨PE.imp (pe_lst h1.run) fun σ H Q h => ?_, (lst3 (pos := pos) h1).mon⟩
  obtain ⟨G, ρ, H0, R, h⟩ := h
  refine ⟨G, ρ, H0, R, h1.mon ρ _ _ _ _ (fun ds ρ' q => ?_) (fun _ _ z => z) h⟩
  intro vs H' H0' s R' r
  refine ⟨by rw [r.length]; exact q.1, fun p hp => ?_⟩
  obtain ⟨R2, f⟩ := R'.make (o := .lst vs) (d := .lst ds) hp ⟨vs, upd_same, r⟩
  exact q.2 _ _ _ s R2 f
def tEmptyT : E3 := fun ρ k _ => k (.dT []) ρ
theorem fdict : P3F X W (.Dict [] [] pos) tEmptyT := by
  refine ⟨PE.imp pe_dnewT fun σ H Q ⟨G, ρ, H0, R, q⟩ p hp => ?_, fun ρ k k' x x' hk _ h => hk _ _ h⟩
  obtain ⟨R2, f⟩ := R.make (o := .dT []) (d := .dT []) hp ⟨[], upd_same, .nil⟩
  exact q _ _ _ (Same.refl _) R2 f
/-- list(xs) -/
def tListF (te : E3) : E3 := tCB3 gList (tCons3 te tNil3)
theorem flist {p : Pos} (hg : Gl X "list") (hn : X.mg "list" = none) (h : P3 X W e te) (he : starEach [e] X.env = (false, eval e X.env) :: starEach [] X.env := by rfl) (hpl : (backTo pos (starEach [] X.env)).any (·.1) = false := by rfl) : P3F X W (.Call (.Name "list" p) [e] [] pos) (tCB3 gList (tCons3 te tNil3)) := by
  have ha : P3A X W [e] (tCons3 te tNil3) := acons h anil he
  refine ⟨PE.imp (pe_callTy call_list_of hg hn (by decide +kernel) ha.run (by decide) (by decide) he hpl) fun σ H Q h => ?_, monCB mc_list ha.mon⟩
  obtain ⟨G, ρ, H0, R, h⟩ := h
  refine ⟨G, ρ, H0, R, ha.mon ρ _ _ _ _ (fun ds ρ' q => ?_) (fun _ _ z => z) h⟩
  intro vs H' H0' s R' r
  rcases ds with _ | ⟨d, _ | ⟨d2, l⟩⟩
  · exact q.elim
  · obtain ⟨v, rfl, rv⟩ := rep1 r
    cases rv with
    | @lst a vs ds hx rx =>
      refine ⟨_, _, rfl, .inl (SqL.of (R'.ex _ _ hx)), fun p hp => ?_⟩
      obtain ⟨R2, f⟩ := R'.make (o := .lst vs) (d := .lst ds) hp ⟨vs, upd_same, rx⟩
      exact q _ _ _ s R2 f
    | @tup a vs ds hx rx =>
      refine ⟨_, _, rfl, .inr (SqT.of (R'.ex _ _ hx)), fun p hp => ?_⟩
      obtain ⟨R2, f⟩ := R'.make (o := .lst vs) (d := .lst ds) hp ⟨vs, upd_same, rx⟩
      exact q _ _ _ s R2 f
    | _ => exact q.elim
  · cases d <;> exact q.elim

/-- x = a new list of one's own -/
def tOwn3 (i : Nat) (tf : E3) : S3 := fun E ρ => tf ρ (fun d ρ1 => (i ≠ 0 ∧ i < ρ1.sl.length) ∧ E.nx (ρ1.put i (.own d))) E.xc
theorem sown {i : Nat} {x : Str} {px : Pos} (hN : X.N.Nodup) (hi : X.N[i]? = some x) (hx : Loc X.env.scope x := by first | exact .inl rfl | exact .inr rfl) (h1 : P3F X W e tf) (hs : swapsWith e (some (.Name x px)) pos.line X.env = pure false := by rfl)
    (hf : X.fn x = true ∨ X.env.scope.names.lookup x = some .local := by first | exact .inl rfl | exact .inr rfl | assumption) : P3S X W (.Assign [.Name x px] e pos) (tOwn3 i tf) := by
  refine ⟨PS.imp (ps_set hN hi hx h1.run hs hf) fun D σ H ⟨G, ρ, H0, E, R, h, L⟩ => ?_, fun E E' ρ l h => h1.mon _ _ _ _ _ (fun d ρ1 q => mon_and (l.nx _) q) l.xc h⟩
  refine ⟨G, ρ, H0, R, h1.mon _ _ _ _ _ (fun d ρ1 q l H1 H01 s1 R1 f => ?_) (fun x ρ' q => L.kx q) h⟩
  exact L.nx _ _ H1 H01 s1 (R1.putOwn f.own f.h0 f.hf f.pn f.no q.1) q.2
/-- x, y = two new ones -/
def tOwn23 (i j : Nat) (tf tg : E3) : S3 := fun E ρ => tf ρ (fun d ρ1 => tg ρ1 (fun d' ρ2 => ((i ≠ 0 ∧ i < ρ2.sl.length) ∧ j ≠ 0 ∧ j < ρ2.sl.length) ∧ E.nx ((ρ2.put i (.own d)).put j (.own d'))) E.xc) E.xc
theorem sown2 {i j : Nat} {x y : Str} {a b : Expr} {px py pt : Pos} {kt k2 pt2} (hc : X.calm = true) (hN : X.N.Nodup) (hi : X.N[i]? = some x) (hj : X.N[j]? = some y) (hij : i ≠ j)
    (hx : X.env.scope.names.lookup x = some .local) (hy : X.env.scope.names.lookup y = some .local) (h1 : P3F X W a tf) (h2 : P3F X W b tg)
    (hw : swappedStores [.Tuple [.Name x px, .Name y py] kt pt] (.Tuple [a, b] k2 pt2) X.env = pure (some [x, y]))
    (hs : swapsWithSole [.Tuple [.Name x px, .Name y py] kt pt] (.Tuple [a, b] k2 pt2) pos.line X.env = pure false := by rfl)
    (e1 : starEach [a, b] X.env = (false, eval a X.env) :: starEach [b] X.env := by rfl) (e2 : starEach [b] X.env = (false, eval b X.env) :: starEach [] X.env := by rfl) :
    P3S X W (.Assign [.Tuple [.Name x px, .Name y py] kt pt] (.Tuple [a, b] k2 pt2) pos) (tOwn23 i j tf tg) := by
  refine ⟨PS.imp (ps_par hc hN hi hj hij hx hy (pa_cons h1.run (pa_cons h2.run pa_nil e2) e1) hw hs) fun D σ H ⟨G, ρ, H0, E, R, h, L⟩ => ?_, fun E E' ρ l h => h1.mon _ _ _ _ _ (fun d ρ1 q => h2.mon _ _ _ _ _ (fun d' ρ2 q => mon_and (l.nx _) q) l.xc q) l.xc h⟩
  refine ⟨G, ρ, H0, R, h1.mon _ _ _ _ _ (fun d ρ1 q l H1 H01 s1 R1 f => ?_) (fun x ρ' q => L.kx q) h⟩
  obtain ⟨o, ho⟩ := f.own.there
  have R1' := R1.res ho f.h0 f.no
  have hg0 : G.H0 l = none := by
    cases e : G.H0 l with
    | none => rfl
    | some u => have := R1.ex0 _ _ e; rw [f.h0] at this; cases this
  refine ⟨G.res l o, ρ1, H01, R1', h2.mon _ _ _ _ _ (fun d' ρ2 q l' H2 H02 s2 R2 f' => ?_) (fun x ρ' q => ?_) q⟩
  · have ht : ∀ xs, o ≠ .tup xs := fun xs z => by
      subst z
      have w := f.own
      cases d with
      | lst ds => obtain ⟨vs, q, _⟩ := w; rw [ho] at q; cases q
      | dT ds => obtain ⟨vs, q, _⟩ := w; rw [ho] at q; cases q
      | _ => exact w.elim
    obtain ⟨hl, hl0, hx'⟩ := R2.res_no ht hg0 f.pn
    have hf' : upd G.Hf l o l' = none := f'.hf
    have hne : l' ≠ l := fun z => by rw [z, upd_same] at hf'; cases hf'
    rw [upd_ne hne] at hf'
    have R3 := R2.unres f.hf
    have own1 : Own G.pn H02 H2 l d := f.own.mono s2 (hl.trans ho.symm)
    have R4 := R3.putOwn own1 hl0 f.hf f.pn hx' q.1.1
    refine ⟨_, _, rfl, L.nx _ _ H2 H02 (s1.trans s2) (R4.putOwn (i := j) f'.own f'.h0 hf' f'.pn (fun m hm => ?_) ⟨q.1.2.1, by show j < (ρ2.sl.set i _).length; rw [List.length_set]; exact q.1.2.2⟩) q.2⟩
    obtain ⟨⟨dm, hm1⟩, hm2⟩ := hm
    by_cases hmi : m = i
    · subst hmi
      by_cases hlt : m < σ.length
      · rw [List.getElem?_set_self hlt] at hm2
        cases hm2
        exact hne rfl
      · rw [List.getElem?_eq_none_iff.mpr (by rw [List.length_set]; omega)] at hm2
        cases hm2
    · have hm1 : (ρ2.sl.set i (.own d))[m]? = some (.own dm) := hm1
      rw [List.getElem?_set_ne (Ne.symm hmi)] at hm1 hm2
      exact f'.no m ⟨⟨dm, hm1⟩, hm2⟩
  · intro cls dx H' H0' s R' r
    exact L.xc x ρ' σ cls dx H' H0' (s1.trans s) (R'.unres f.hf) r q

/-- the i-th slot is an own list, an own dict -/
def ownA (ρ : Env3) (i : Nat) (f : List D → Prop) : Prop :=
  match ρ.sl[i]? with
  | some (.own (.lst xs)) => f xs
  | _ => False
def ownT (ρ : Env3) (i : Nat) (f : List (List Key × D) → Prop) : Prop :=
  match ρ.sl[i]? with
  | some (.own (.dT xs)) => f xs
  | _ => False
def isI (d : D) (f : Int → Prop) : Prop :=
  match d with
  | .int j => f j
  | _ => False
def isT (d : D) (f : List D → Prop) : Prop :=
  match d with
  | .tup j => f j
  | _ => False
theorem ownA_get {ρ : Env3} {i : Nat} {f : List D → Prop} (h : ownA ρ i f) : ∃ xs, ρ.sl[i]? = some (.own (.lst xs)) ∧ f xs := by
  unfold ownA at h
  split at h
  · exact ⟨_, ‹_›, h⟩
  · exact h.elim
theorem ownT_get {ρ : Env3} {i : Nat} {f : List (List Key × D) → Prop} (h : ownT ρ i f) : ∃ xs, ρ.sl[i]? = some (.own (.dT xs)) ∧ f xs := by
  unfold ownT at h
  split at h
  · exact ⟨_, ‹_›, h⟩
  · exact h.elim
theorem isI_get {d : D} {f : Int → Prop} (h : isI d f) : ∃ j, d = .int j ∧ f j := by
  cases d <;> first | exact ⟨_, rfl, h⟩ | exact h.elim
theorem isT_get {d : D} {f : List D → Prop} (h : isT d f) : ∃ j, d = .tup j ∧ f j := by
  cases d <;> first | exact ⟨_, rfl, h⟩ | exact h.elim
theorem ownA_mono {ρ : Env3} {i : Nat} {f f' : List D → Prop} (m : ∀ xs, f xs → f' xs) (h : ownA ρ i f) : ownA ρ i f' := by
  unfold ownA at h ⊢
  split at h
  · exact m _ h
  · exact h.elim
theorem ownT_mono {ρ : Env3} {i : Nat} {f f' : List (List Key × D) → Prop} (m : ∀ xs, f xs → f' xs) (h : ownT ρ i f) : ownT ρ i f' := by
  unfold ownT at h ⊢
  split at h
  · exact m _ h
  · exact h.elim
theorem isI_mono {d : D} {f f' : Int → Prop} (m : ∀ xs, f xs → f' xs) (h : isI d f) : isI d f' := by
  cases d <;> first | exact m _ h | exact h
theorem isT_mono {d : D} {f f' : List D → Prop} (m : ∀ xs, f xs → f' xs) (h : isT d f) : isT d f' := by
  cases d <;> first | exact m _ h | exact h

/-! ### an own list read, written -/
/-- x[e] of an own list, which stays own -/
def tIxO (i : Nat) (te : E3) : E3 := fun ρ k x => ownA ρ i fun _ => te ρ (fun d ρ1 => ownA ρ1 i fun xs => isI d fun j => optK (atI xs j) fun y => k y ρ1) x
theorem monIxO {i : Nat} (m : MonE te) : MonE (tIxO i te) := fun ρ k k' x x' hk hx h => ownA_mono (fun _ => m _ _ _ _ _ (fun d ρ1 => ownA_mono fun xs => isI_mono fun j => optK_mono fun y => hk y ρ1) hx) h
theorem ixo3 (i : Nat) {x : Str} {px : Pos} (hi : P3 X W e te) (hs : PlainIx e := by exact fun _ _ => rfl) (hN : X.N[i]? = some x := by rfl) (hv : Vis X.env.scope x := by first | exact Or.inl rfl | exact Or.inr (Or.inl rfl) | exact Or.inr (Or.inr rfl)) (hd : (x == ("__debug__" : Str)) = false := by decide)
    (hcd : (x == ("__classdict__" : Str)) = false := by decide) : P3 X W (.Subscript (.Name x px) e pos) (tIxO i te) := by
  refine ⟨PE.imp (pe_ix ix_list (pe_var hN hv hd hcd) hi.run hs) fun σ H Q ⟨G, ρ, H0, R, q⟩ => ?_, monIxO hi.mon⟩
  obtain ⟨xs0, e0, q⟩ := ownA_get q
  obtain ⟨l, h1, _⟩ := R.owned e0
  refine ⟨_, h1, G, ρ, H0, R, hi.mon _ _ _ _ _ (fun d ρ1 q v H1 H01 s1 R1 r1 => ?_) (fun _ _ z => z) q⟩
  obtain ⟨xs, e1, q⟩ := ownA_get q
  obtain ⟨j, rfl, q⟩ := isI_get q
  obtain ⟨y, hy, q⟩ := optK_some q
  cases r1
  obtain ⟨l', h1', ow, _⟩ := R1.owned e1
  rw [h1] at h1'
  cases h1'
  obtain ⟨vs, hl, ra⟩ := ow
  obtain ⟨v, hv1, hv2⟩ := atI_rep ra hy
  exact ⟨_, _, _, _, rfl, rfl, SqL.of hl, hv1, q v H1 H01 s1 R1 hv2⟩
/-- x[e] = y of an own list -/
def tSetO (i : Nat) (ti tv : E3) : S3 := fun E ρ => tv ρ (fun y ρ1 => ownA ρ1 i fun _ => ti ρ1 (fun d ρ2 => ownA ρ2 i fun xs => isI d fun j => optK (ixN xs.length j) fun n => E.nx (ρ2.put i (.own (.lst (xs.set n y))))) E.xc) E.xc
theorem sset (i : Nat) {x : Str} {px p2 : Pos} {v : Expr} {ti tv : E3} (hi : P3 X W e ti) (hv : P3 X W v tv) (hN : X.N[i]? = some x := by rfl) (hvs : Vis X.env.scope x := by first | exact Or.inl rfl | exact Or.inr (Or.inl rfl) | exact Or.inr (Or.inr rfl)) (hd : (x == ("__debug__" : Str)) = false := by decide)
    (hcd : (x == ("__classdict__" : Str)) = false := by decide)
    (ha : ∀ v, assign (.Subscript (.Name x px) e p2) X.env v = (do
      let ov ← holding [v] (eval (.Name x px) X.env)
      let iv ← holding [v, ov] (eval e X.env)
      standAt p2
      holding [v, ov, iv] (setItem ov iv v)
      release [v, ov, iv] []) := by intro _; rfl)
    (hs : swapsWithSole [.Subscript (.Name x px) e p2] v pos.line X.env = pure false := by rfl) (hw : swappedStores [.Subscript (.Name x px) e p2] v X.env = pure none := by rfl)
    (hh : (assignEach [.Subscript (.Name x px) e p2] X.env).map (·.2) = [assign (.Subscript (.Name x px) e p2) X.env] := by rfl) : P3S X W (.Assign [.Subscript (.Name x px) e p2] v pos) (tSetO i ti tv) := by
  refine ⟨PS.imp (ps_asg hv.run (pg_sub (pe_var hN hvs hd hcd) hi.run set_list ha) hs hw hh) fun D σ H ⟨G, ρ, H0, E, R, h, L⟩ => ?_, fun E E' ρ l h => hv.mon _ _ _ _ _ (fun y ρ1 => ownA_mono fun _ => hi.mon _ _ _ _ _ (fun d ρ2 => ownA_mono fun xs => isI_mono fun j => optK_mono fun n => l.nx _) l.xc) l.xc h⟩
  · refine ⟨G, ρ, H0, R, hv.mon _ _ _ _ _ (fun y ρ1 q yv H1 H01 s1 R1 r1 => ?_) (fun x ρ' q => L.kx q) h⟩
    obtain ⟨xs0, e0, q⟩ := ownA_get q
    obtain ⟨l, h1, _⟩ := R1.owned e0
    refine ⟨_, h1, G, ρ1, H01, R1, hi.mon _ _ _ _ _ (fun d ρ2 q iv H2 H02 s2 R2 r2 => ?_) (fun x ρ' q => (L.up s1).kx q) q⟩
    obtain ⟨xs, e1, q⟩ := ownA_get q
    obtain ⟨j, rfl, q⟩ := isI_get q
    obtain ⟨n, hn, q⟩ := optK_some q
    cases r2
    obtain ⟨l', h1', ow, _⟩ := R2.owned e1
    rw [h1] at h1'
    cases h1'
    obtain ⟨vs, hl, ra⟩ := ow
    refine ⟨_, _, _, n, rfl, rfl, hl, by rw [ra.length]; exact hn, ?_⟩
    exact L.nx _ _ _ H02 (s1.trans s2) (R2.chg (d' := .lst (xs.set n y)) e1 h1 ⟨_, upd_same, ra.setI (r1.mono s2) n⟩) q
/-- x.append(e) -/
def tAppO (i : Nat) (te : E3) : S3 := fun E ρ => ownA ρ i fun _ => te ρ (fun y ρ1 => ownA ρ1 i fun xs => xs.length < sizeLine ∧ E.nx (ρ1.put i (.own (.lst (xs ++ [y]))))) E.xc
theorem sapp (i : Nat) {x : Str} {px apos cpos : Pos} (hi : P3 X W e te) (hN : X.N[i]? = some x := by rfl) (hv : Vis X.env.scope x := by first | exact Or.inl rfl | exact Or.inr (Or.inl rfl) | exact Or.inr (Or.inr rfl)) (hd : (x == ("__debug__" : Str)) = false := by decide)
    (hcd : (x == ("__classdict__" : Str)) = false := by decide)
    (hbase : attributeBase (.Name x px) "append" X.env (eval (.Name x px) X.env) = eval (.Name x px) X.env := by rfl)
    (hfew : ((backTo cpos (starEach [e] X.env)).all (fun x => !x.1) && (backToKw cpos (keywordEach [] X.env)).all (fun x => x.1.isSome)
      && decide ([e].length + ([] : List Keyword).length + (if ([] : List Keyword).isEmpty then 0 else 1) < 30)) = true := by rfl)
    (hline : (apos.endLine == cpos.line) = true := by rfl) (hst : starEach [e] X.env = (false, eval e X.env) :: starEach [] X.env := by rfl) (hplain : (backTo cpos (starEach [] X.env)).any (·.1) = false := by rfl)
    (hsw : swapsWith (.Call (.Attribute (.Name x px) "append" apos) [e] [] cpos) none pos.line X.env = pure false := by rfl) :
    P3S X W (.Expr (.Call (.Attribute (.Name x px) "append" apos) [e] [] cpos) pos) (tAppO i te) := by
  refine ⟨PS.imp (ps_expr (pe_bm PySem.F.plainAttrs_list PySem.F.slot_list_append PySem.F.type_list_append mt_append (pe_var hN hv hd hcd) (pa_cons hi.run pa_nil hst) hbase hfew hline hst hplain) hsw) fun D σ H ⟨G, ρ, H0, E, R, q, L⟩ => ?_, fun E E' ρ l => ownA_mono fun _ => hi.mon _ _ _ _ _ (fun y ρ1 => ownA_mono fun xs => mon_and (l.nx _)) l.xc⟩
  · obtain ⟨xs0, e0, q⟩ := ownA_get q
    obtain ⟨l, h1, ow0, _⟩ := R.owned e0
    obtain ⟨vs0, hl0, _⟩ := ow0
    refine ⟨_, h1, .inl ⟨rfl, _, SqL.of hl0⟩, G, ρ, H0, R, hi.mon _ _ _ _ _ (fun y ρ1 q yv H1 H01 s1 R1 r1 => ?_) (fun x ρ' q => L.kx q) q⟩
    obtain ⟨xs, e1, q⟩ := ownA_get q
    obtain ⟨l', h1', ow, _⟩ := R1.owned e1
    rw [h1] at h1'
    cases h1'
    obtain ⟨vs, hl, ra⟩ := ow
    refine ⟨_, _, _, rfl, rfl, hl, by rw [ra.length]; exact q.1, ?_⟩
    exact L.nx _ _ _ H01 s1 (R1.chg (d' := .lst (xs ++ [y])) e1 h1 ⟨_, upd_same, ra.append (.cons r1 .nil)⟩) q.2
/-- x.pop(e) -/
def tPopO (i : Nat) (te : E3) : E3 := fun ρ k x => ownA ρ i fun _ => te ρ (fun d ρ1 => ownA ρ1 i fun xs => isI d fun j => (-(2 ^ 63) ≤ j ∧ j < 2 ^ 63) ∧ optK (seqIndex? j xs.length) fun n => optK xs[n]? fun y => k y (ρ1.put i (.own (.lst (xs.eraseIdx n))))) x
theorem pop3 (i : Nat) {x : Str} {px apos cpos : Pos} (hi : P3 X W e te) (hN : X.N[i]? = some x := by rfl) (hv : Vis X.env.scope x := by first | exact Or.inl rfl | exact Or.inr (Or.inl rfl) | exact Or.inr (Or.inr rfl)) (hd : (x == ("__debug__" : Str)) = false := by decide)
    (hcd : (x == ("__classdict__" : Str)) = false := by decide)
    (hbase : attributeBase (.Name x px) "pop" X.env (eval (.Name x px) X.env) = eval (.Name x px) X.env := by rfl)
    (hfew : ((backTo cpos (starEach [e] X.env)).all (fun x => !x.1) && (backToKw cpos (keywordEach [] X.env)).all (fun x => x.1.isSome)
      && decide ([e].length + ([] : List Keyword).length + (if ([] : List Keyword).isEmpty then 0 else 1) < 30)) = true := by rfl)
    (hline : (apos.endLine == cpos.line) = true := by rfl) (hst : starEach [e] X.env = (false, eval e X.env) :: starEach [] X.env := by rfl) (hplain : (backTo cpos (starEach [] X.env)).any (·.1) = false := by rfl) :
    P3 X W (.Call (.Attribute (.Name x px) "pop" apos) [e] [] cpos) (tPopO i te) := by
  refine ⟨PE.imp (pe_bm PySem.F.plainAttrs_list PySem.F.slot_list_pop PySem.F.type_list_pop mt_popAt (pe_var hN hv hd hcd) (pa_cons hi.run pa_nil hst) hbase hfew hline hst hplain) fun σ H Q ⟨G, ρ, H0, R, q⟩ => ?_, fun ρ k k' x x' hk hx => ownA_mono fun _ => hi.mon _ _ _ _ _ (fun y ρ1 => ownA_mono fun xs => isI_mono fun j => mon_and (optK_mono fun n => optK_mono fun y => hk _ _)) hx⟩
  · obtain ⟨xs0, e0, q⟩ := ownA_get q
    obtain ⟨l, h1, ow0, _⟩ := R.owned e0
    obtain ⟨vs0, hl0, _⟩ := ow0
    refine ⟨_, h1, .inl ⟨rfl, _, SqL.of hl0⟩, G, ρ, H0, R, hi.mon _ _ _ _ _ (fun d ρ1 q yv H1 H01 s1 R1 r1 => ?_) (fun x ρ' q => q) q⟩
    obtain ⟨xs, e1, q⟩ := ownA_get q
    obtain ⟨j, rfl, q⟩ := isI_get q
    obtain ⟨n, hn, q2⟩ := optK_some q.2
    obtain ⟨y, hy, q3⟩ := optK_some q2
    cases r1
    obtain ⟨l', h1', ow, _⟩ := R1.owned e1
    rw [h1] at h1'
    cases h1'
    obtain ⟨vs, hl, ra⟩ := ow
    obtain ⟨v, hv1, hv2⟩ := ra.get hy
    refine ⟨_, _, _, n, v, rfl, rfl, hl, q.1.1, q.1.2, by rw [ra.length]; exact hn, hv1, ?_⟩
    exact q3 v _ H01 s1 (R1.chg (d' := .lst (xs.eraseIdx n)) e1 h1 ⟨_, upd_same, ra.erase n⟩) hv2
end

/-! ### dicts with tuples for keys -/
def keyI : D → Option Key
  | .int i => some (.inl i)
  | .str x => some (.inr x)
  | _ => none
def keyA : List D → Option (List Key)
  | [] => some []
  | d :: r => (keyI d).bind fun k => (keyA r).map (k :: ·)
theorem keyA_rep {pn : Option Addr} {H : Hp} : ∀ {vs : List V} {ds : List D} {ks : List Key}, RepA pn H vs ds → keyA ds = some ks → vs = ks.map kV
  | _, _, ks, .nil, h => by cases h; rfl
  | _, _, ks, .cons (d := d) r q, h => by
    simp only [keyA, Option.bind_eq_some_iff, Option.map_eq_some_iff] at h
    obtain ⟨k, h1, ks', h2, rfl⟩ := h
    rw [List.map_cons, ← keyA_rep q h2]
    cases r <;> first | (cases h1; rfl) | cases h1
def valD (kds : List (List Key × D)) (k : List Key) : Option D := (kds.find? fun kv => decide (kv.1 = k)).map (·.2)
def putD (kds : List (List Key × D)) (k : List Key) (d : D) : List (List Key × D) := if (kds.any fun kv => decide (kv.1 = k)) = true then kds.map (fun kv => if kv.1 = k then (kv.1, d) else kv) else kds ++ [(k, d)]
section
variable {pn : Option Addr} {H : Hp}
theorem RepK.val {k : List Key} : ∀ {vs : List (List Key × V)} {ds : List (List Key × D)} {d : D}, RepK pn H vs ds → valD ds k = some d → ∃ v, valV vs k = some v ∧ Rep pn H v d
  | _, _, d, .nil, h => by cases h
  | _, _, d, .cons (k := k') r q, h => by
    by_cases e : k' = k
    · unfold valD at h
      rw [List.find?_cons_of_pos (by simpa using e)] at h
      cases h
      exact ⟨_, valV_pos e, r⟩
    · unfold valD at h
      rw [List.find?_cons_of_neg (by simpa using e)] at h
      obtain ⟨v, h1, h2⟩ := RepK.val q h
      exact ⟨v, (valV_neg e).trans h1, h2⟩
theorem RepK.any {k : List Key} : ∀ {vs : List (List Key × V)} {ds : List (List Key × D)}, RepK pn H vs ds → (vs.any fun kv => decide (kv.1 = k)) = ds.any fun kv => decide (kv.1 = k)
  | _, _, .nil => rfl
  | _, _, .cons r q => by rw [List.any_cons, List.any_cons, q.any]
theorem RepK.length : ∀ {vs : List (List Key × V)} {ds : List (List Key × D)}, RepK pn H vs ds → vs.length = ds.length
  | _, _, .nil => rfl
  | _, _, .cons r q => by rw [List.length_cons, List.length_cons, q.length]
theorem RepK.over {k : List Key} {v : V} {d : D} (h : Rep pn H v d) : ∀ {vs : List (List Key × V)} {ds : List (List Key × D)}, RepK pn H vs ds → RepK pn H (vs.map fun kv => if kv.1 = k then (kv.1, v) else kv) (ds.map fun kv => if kv.1 = k then (kv.1, d) else kv)
  | _, _, .nil => .nil
  | _, _, .cons (k := k') r q => by
    rw [List.map_cons, List.map_cons]
    by_cases e : k' = k
    · rw [if_pos e, if_pos e]
      exact .cons h (q.over h)
    · rw [if_neg e, if_neg e]
      exact .cons r (q.over h)
theorem RepK.snoc {k : List Key} {v : V} {d : D} (h : Rep pn H v d) : ∀ {vs : List (List Key × V)} {ds : List (List Key × D)}, RepK pn H vs ds → RepK pn H (vs ++ [(k, v)]) (ds ++ [(k, d)])
  | _, _, .nil => .cons h .nil
  | _, _, .cons r q => .cons r (q.snoc h)
theorem RepK.put {k : List Key} {v : V} {d : D} {vs : List (List Key × V)} {ds : List (List Key × D)} (h : Rep pn H v d) (q : RepK pn H vs ds) : RepK pn H (putK vs k v) (putD ds k d) := by
  unfold putK putD
  rw [q.any]
  split
  · exact q.over h
  · exact q.snoc h
end
section
variable {X : Cx} {W : WX} {e a : Expr} {pos : Pos} {te ta : E3}
/-- d[k] -/
def gDG : G2
  | .dT kds, .tup ds, k => optK (keyA ds) fun ks => optK (valD kds ks) k
  | _, _, _ => False
theorem dget3 (hu : X.A.units + 1 < cLine) (pa : P3 X W a ta) (pb : P3 X W e te) (hs : NoSl e := by exact fun _ _ => rfl) : P3 X W (.Subscript a e pos) (b3 gDG ta te) := by
  refine ⟨PE.imp (pe_dget hu pa.run pb.run hs) fun σ H Q h => ?_, monB (fun d e k k' f h => ?_) pa.mon pb.mon⟩
  · obtain ⟨G, ρ, H0, R, h⟩ := h
    refine ⟨G, ρ, H0, R, pa.mon ρ _ _ _ _ (fun d ρ1 q => ?_) (fun _ _ z => z) h⟩
    intro x H1 H01 s1 R1 r1
    refine ⟨G, ρ1, H01, R1, pb.mon ρ1 _ _ _ _ (fun e ρ2 q => ?_) (fun _ _ z => KX.up z s1) q⟩
    intro y H2 H02 s2 R2 r2
    cases r1 with
    | dT ha ra =>
      cases r2 with
      | tup hb rb =>
        obtain ⟨ks, hk, q⟩ := optK_some q
        obtain ⟨d, hd, q⟩ := optK_some q
        obtain ⟨v, hv, rv⟩ := ra.val hd
        have rk := keyA_rep rb hk
        subst rk
        refine ⟨_, v, rfl, ?_, q v H2 H02 (s1.trans s2) R2 (rv.mono s2)⟩
        have g := DGet.t (R2.ex _ _ (s2 _ _ ha)) (R2.ex _ _ hb)
        rw [hv] at g
        exact g
      | _ => exact q.elim
    | _ => cases r2 <;> exact q.elim
  · cases d <;> cases e <;> first | exact optK_mono (fun _ => optK_mono f) h | exact h
/-- d[k] = v of an own dict -/
def tDPutO (i : Nat) (ti tv : E3) : S3 := fun E ρ => tv ρ (fun y ρ1 => ownT ρ1 i fun _ => ti ρ1 (fun d ρ2 => ownT ρ2 i fun kds => isT d fun ds => optK (keyA ds) fun ks => kds.length < sizeLine ∧ E.nx (ρ2.put i (.own (.dT (putD kds ks y))))) E.xc) E.xc
theorem sdput (i : Nat) {x : Str} {px p2 : Pos} {v : Expr} {ti tv : E3} (hu : X.A.units + 1 < cLine) (hi : P3 X W e ti) (hv : P3 X W v tv) (hN : X.N[i]? = some x := by rfl) (hvs : Vis X.env.scope x := by first | exact Or.inl rfl | exact Or.inr (Or.inl rfl) | exact Or.inr (Or.inr rfl)) (hd : (x == ("__debug__" : Str)) = false := by decide)
    (hcd : (x == ("__classdict__" : Str)) = false := by decide) (hs : swapsWith v (some (.Subscript (.Name x px) e p2)) pos.line X.env = pure false := by rfl) : P3S X W (.Assign [.Subscript (.Name x px) e p2] v pos) (tDPutO i ti tv) := by
  refine ⟨PS.imp (ps_dput hu (pe_var hN hvs hd hcd) hi.run hv.run hs) fun D σ H ⟨G, ρ, H0, E, R, h, L⟩ => ?_, fun E E' ρ l h => hv.mon _ _ _ _ _ (fun y ρ1 => ownT_mono fun _ => hi.mon _ _ _ _ _ (fun d ρ2 => ownT_mono fun xs => isT_mono fun j => optK_mono fun n => mon_and (l.nx _)) l.xc) l.xc h⟩
  · refine ⟨G, ρ, H0, R, hv.mon _ _ _ _ _ (fun y ρ1 q yv H1 H01 s1 R1 r1 => ?_) (fun x ρ' q => L.kx q) h⟩
    obtain ⟨xs0, e0, q⟩ := ownT_get q
    obtain ⟨l, h1, _⟩ := R1.owned e0
    refine ⟨_, h1, G, ρ1, H01, R1, hi.mon _ _ _ _ _ (fun d ρ2 q iv H2 H02 s2 R2 r2 => ?_) (fun x ρ' q => (L.up s1).kx q) q⟩
    obtain ⟨kds, e1, q⟩ := ownT_get q
    obtain ⟨ds, rfl, q⟩ := isT_get q
    obtain ⟨ks, hk, q⟩ := optK_some q
    cases r2 with
    | tup hb rb =>
      obtain ⟨l', h1', ow, _⟩ := R2.owned e1
      rw [h1] at h1'
      cases h1'
      obtain ⟨vs, hl, ra⟩ := ow
      have rk := keyA_rep rb hk
      subst rk
      refine ⟨l, _, rfl, DPut.t hl (R2.ex _ _ hb) (by rw [ra.length]; exact q.1), ?_⟩
      exact L.nx _ _ _ H02 (s1.trans s2) (R2.chg (d' := .dT (putD kds ks y)) e1 h1 ⟨_, upd_same, ra.put (r1.mono s2)⟩) q.2
end
end L3
/-! L3: what a walk is told of a def -/
namespace L3
open PySem PySem.Spec PyProof.Rows L2
theorem hu64_of {A : Around} {k : Nat} (hr : Room k A) : A.units + 64 < cLine := by have := hr.un; omega
/-- a def that keeps its promise -/
structure Has (P : Program) (w : World) (K : PySem.W.Frag) (mg : Str → Option Value) (base : Heap) (k : Nat) (x : Str) (ps : List Str) (n : Nat) (s3 : Sp3) (st : Stmt) (f : Addr) (fd : FuncData) : Prop where
  ok : FnOk P w K mg base CX0 k f fd ps (spL n s3)
  mg : mg x = some (.ref f)
  fn : Fun K x x st f fd
  bd : Binds K fd ps []
theorem Has.kp {P : Program} {w : World} {K : PySem.W.Frag} {mg : Str → Option Value} {base : Heap} {k : Nat} {x : Str} {ps : List Str} {n : Nat} {s3 : Sp3} {st : Stmt} {f : Addr} {fd : FuncData} (h : Has P w K mg base k x ps n s3 st f fd) : PySem.W.keepIn K (.ref f) = true := h.fn.kp
/-- len(x) of an own list, which stays own -/
def tLenO (i : Nat) : E3 := fun ρ k _ => ownA ρ i fun xs => k (.int xs.length) ρ
theorem leno3 {X : Cx} {W : WX} {pos p px : Pos} {x : Str} (i : Nat) (hg : Gl X "len") (hn : X.mg "len" = none) (hN : X.N[i]? = some x := by rfl) (hv : Vis X.env.scope x := by first | exact Or.inl rfl | exact Or.inr (Or.inl rfl) | exact Or.inr (Or.inr rfl)) (hd : (x == ("__debug__" : Str)) = false := by decide)
    (hcd : (x == ("__classdict__" : Str)) = false := by decide) (he : starEach [.Name x px] X.env = (false, eval (.Name x px) X.env) :: starEach [] X.env := by rfl) (hpl : (backTo pos (starEach [] X.env)).any (·.1) = false := by rfl) :
    P3 X W (.Call (.Name "len" p) [.Name x px] [] pos) (tLenO i) := by
  refine ⟨PE.imp (pe_callB call_len_seq hg hn PySem.boot_len (pa_cons (pe_var hN hv hd hcd) pa_nil he) (by decide) (by decide) he hpl) fun σ H Q ⟨G, ρ, H0, R, q⟩ => ?_, fun ρ k k' x x' hk hx => ownA_mono fun xs => hk _ _⟩
  obtain ⟨xs, e, q⟩ := ownA_get q
  obtain ⟨l, h1, ⟨vs, h2, h3⟩, _⟩ := R.owned e
  exact ⟨_, h1, l, vs, rfl, .inl (SqL.of h2), q _ H H0 (Same.refl _) R (by rw [h3.length]; exact .int _)⟩
/-! ### a comprehension within one -/
theorem relabel_at {env : Env} : ∀ {names : List (Str × NameKind)} {x : Str}, names.lookup x = some .cell ∨ names.lookup x = some .free →
    (names.map fun (n, k) => if (k == NameKind.free && env.scope.kind == .function && env.kindOf n == some .cell) then (n, NameKind.cell) else (n, k)).lookup x = some .cell ∨
    (names.map fun (n, k) => if (k == NameKind.free && env.scope.kind == .function && env.kindOf n == some .cell) then (n, NameKind.cell) else (n, k)).lookup x = some .free
  | [], _, h => by simp at h
  | (n, k) :: r, x, h => by
    have ih := @relabel_at env r x
    rw [List.map_cons]
    cases hx : x == n with
    | true =>
      simp only [List.lookup_cons, hx] at h
      by_cases c : (k == NameKind.free && env.scope.kind == .function && env.kindOf n == some .cell) = true
      · simp only [c, if_true, List.lookup_cons, hx]
        exact .inl trivial
      · simp only [Bool.eq_false_iff.mpr c, Bool.false_eq_true, if_false, List.lookup_cons, hx]
        exact h
    | false =>
      simp only [List.lookup_cons, hx] at h
      by_cases c : (k == NameKind.free && env.scope.kind == .function && env.kindOf n == some .cell) = true
      · simp only [c, if_true, List.lookup_cons, hx]
        exact ih h
      · simp only [Bool.eq_false_iff.mpr c, Bool.false_eq_true, if_false, List.lookup_cons, hx]
        exact ih h
theorem blkOk_in {N : List Str} {sc scope : Scope} {own : List (Str × Nat)} {env : Env} (h : blkC N sc scope own = true) : BlkOk N (relabel sc env) scope own := by
  have b := blkOk_by h
  exact ⟨b.kind, b.uniq, b.ix, fun y hy e => relabel_at (b.free y hy e), b.own⟩
end L3
/-! L3: sorted, of a dict with tuples of ints for keys -/
namespace L3
open PySem PySem.Spec PyProof.Rows L2 PySem.W
def encT (ns : List Int) : PyData := .tuple (ns.map .int)
theorem encT_le : dataLe false encT = fun p q => decide (p ≤ q) := by
  funext p q
  show (!dataLt (.tuple (q.map .int)) (.tuple (p.map .int))) = _
  rw [dataLt_tuple]
  show (!rowLt (q.map .int) (p.map .int)) = _
  rw [dataLt_ints]
  by_cases h : q < p
  · have h' : ¬ p ≤ q := fun r => List.not_lt.mpr r h
    simp [h, h']
  · have h' : p ≤ q := List.not_lt.mp h
    simp [h, h']
theorem alike_ints : ∀ xs ys : List Int, alikeAll (xs.map .int) (ys.map .int) = true
  | [], _ => by simp [alikeAll]
  | _ :: _, [] => by simp [alikeAll]
  | x :: xs, y :: ys => by simp only [List.map_cons, alikeAll, alike, alike_ints xs ys, Bool.and_self]
theorem depth_ints : ∀ xs : List Int, PyData.depthAll (xs.map .int) ≤ 1
  | [] => by simp [PyData.depthAll]
  | x :: xs => by
    have := depth_ints xs
    simp only [List.map_cons, PyData.depthAll, PyData.depth]
    omega
theorem reads_ints {h : Heap} : ∀ {us : List Value} {ns : List Int}, Vals (ns.map V.int) us → ReadsAll h us (ns.map .int) []
  | _, [], .nil => .nil
  | _, n :: ns, .cons r t => by
    obtain ⟨k, rfl⟩ := r
    exact .cons (as := []) (bs := []) (.int n k) (reads_ints t)
section
variable {X : Cx}
/-- what stands at the keys' places -/
theorem keysT_at {H : Hp} : ∀ {us : List Value} {kvs : List (List Key × V)} {xs : List (List Key × Addr × Value)} {nss : List (List Int)}, L2.KT H kvs xs → kvs.map (·.1) = nss.map (List.map Sum.inl) → us.length = xs.length →
    (∀ (j : Nat) (v : Value), us[j]? = some v → ∃ x, xs[j]? = some x ∧ v = .ref x.2.1) → EachIs (fun u ns => ∃ b, u = Value.ref b ∧ H b = some (.tup (ns.map V.int))) us nss
  | [], _, _, [], _, _, _, _ => .nil
  | [], _, _, n :: ns, .nil, hk, _, _ => by simp at hk
  | [], _, _, n :: ns, .cons _ _, hk, hl, _ => by simp at hl
  | u :: us, _, _, _, .nil, hk, hl, _ => by simp at hl
  | u :: us, _, _, [], .cons _ _, hk, _, _ => by simp at hk
  | u :: us, _, _, n :: ns, .cons r t, hk, hl, h => by
    rw [List.map_cons, List.map_cons] at hk
    obtain ⟨e1, e2⟩ := List.cons.inj hk
    obtain ⟨x, h1, h2⟩ := h 0 u rfl
    have h1 := (Option.some.inj h1).symm
    subst h1
    refine .cons ⟨_, h2, ?_⟩ (keysT_at t e2 (by simpa using hl) fun j v e => ?_)
    · have q := r.2.1
      rw [e1, List.map_map] at q
      exact q
    · obtain ⟨x, a, b⟩ := h (j + 1) v (by simpa using e)
      exact ⟨x, by simpa using a, b⟩
theorem EachIs.mono2 {α β : Type} {R S : α → β → Prop} (f : ∀ a b, R a b → S a b) : ∀ {as : List α} {bs : List β}, EachIs R as bs → EachIs S as bs
  | _, _, .nil => .nil
  | _, _, .cons h t => .cons (f _ _ h) (EachIs.mono2 f t)
theorem vals_each {H : Hp} : ∀ {us : List Value} {nss : List (List Int)}, EachIs (fun u ns => ∃ b, u = Value.ref b ∧ H b = some (.tup (ns.map V.int))) us nss →
    ∃ ys, Vals ys us ∧ Paired (fun y ns => ∃ b, y = V.ref b ∧ H b = some (.tup (ns.map V.int))) ys nss
  | _, _, .nil => ⟨[], .nil, .nil⟩
  | _, _, .cons h t => by
    obtain ⟨b, rfl, hb⟩ := h
    obtain ⟨ys, h1, h2⟩ := vals_each t
    exact ⟨.ref b :: ys, .cons rfl h1, .cons ⟨b, rfl, hb⟩ h2⟩
def leI (p q : List Int) : Bool := decide (p ≤ q)
def rSortedT (hu : Prop) : List V → Hp → VK → Prop := fun xs H Q => ∃ (a : Addr) (kvs : List (List Key × V)) (nss : List (List Int)), xs = [.ref a] ∧ Rd H a (.dT kvs) ∧ kvs.map (·.1) = nss.map (List.map Sum.inl) ∧ (∀ ns ∈ nss, ns ≠ []) ∧
    ∀ p ys, H p = none → Paired (fun y ns => ∃ b, y = V.ref b ∧ H b = some (.tup (ns.map V.int))) ys (nss.mergeSort leI) → Q (.ref p) (upd H p (.lst ys))
theorem call_sortedT (hcalm : X.calm = true) (hu : X.A.units + 64 < cLine) : CallR X (.builtin "sorted") (rSortedT True) := by
  intro pins s σ H xs us Q I r q
  obtain ⟨a, kvs, nss, ex, hd, hks, hne, q⟩ := q
  subst ex
  obtain ⟨u, eu, rx⟩ := vals1 r
  subst eu
  cases rx
  obtain ⟨z, lo, xs, rel, o, es, ep, h1, h2, h3, h4, h5, h6⟩ := dt_rd I.hok hd
  have hraw : s.heap.DictRaw a es ep := ⟨o, h1, h2, h3⟩
  have hlx : es.size = xs.length := by
    have e := congrArg List.length h4
    rw [List.length_map, Array.length_toList] at e
    exact e
  have hlk : kvs.length = xs.length := rel.length
  have hln : nss.length = xs.length := by
    have e := congrArg List.length hks
    rw [List.length_map, List.length_map] at e
    omega
  refine Calls.call_function_entry PyProof.Rows.kind_sorted PyProof.Rows.plain_sorted PyProof.Rows.entry_sorted (PyProof.Rows.args_sorted1 _) ?_
  unfold Builtin.«sorted»
  refine wpAny_bind (m := checkCount "sorted" 1 1 _) (wpAny_pure ?_)
  refine wpAny_bind (PySem.W.kdu_collect (A := X.A.in1) (KdlSrc.rawDict lo) (I.ok.hd hcalm) hraw (by rw [hlx, ← hlk]; exact z) fun h' tk acc hk hacc => ?_)
  have hal : acc.toList.length = xs.length := by rw [Array.length_toList, hacc.1, hlx]
  have hE := keysT_at (us := acc.toList) rel hks hal fun j v e => by
    obtain ⟨hi, ev⟩ := hacc.2 j v (by rw [← Array.getElem?_toList]; exact e)
    have e2 : es.toList[j]? = some es[j] := by rw [Array.getElem?_toList]; simp [hi]
    rw [h4, List.getElem?_map] at e2
    obtain ⟨x, e3, e4⟩ := Option.map_eq_some_iff.mp e2
    refine ⟨x, e3, ?_⟩
    rw [ev, ← e4]
    rfl
  have I1 : Inv X pins σ H { s with heap := h', toks := tk } := I.kept hk
  refine wpAny_bind (wpAny_newList ?_ (by rw [hal, ← hlk]; exact z))
  have hoL : (h'.push (seqObj "list" acc.toList.toArray 0)).get? h'.objs.size = some (seqObj "list" acc.toList.toArray 0) := Heap.get?_push_size _ rfl
  show wpAny _ _ _ _ _ { s with heap := h'.push (seqObj "list" acc.toList.toArray 0), toks := tk }
  have hR : EachIs (fun v ns => ∃ as, Reads (h'.push (seqObj "list" acc.toList.toArray 0)) v (encT ns) as ∧ h'.objs.size ∉ as) acc.toList nss := EachIs.mono2 (fun u ns ⟨b, eb, hb⟩ => by
    subst eb
    obtain ⟨zb, its, rv, ob, e1, e2, e3, e4⟩ := I1.hok b _ hb
    exact ⟨[], .tuple (Heap.get?_push_of_some _ e1) e2 e4 (reads_ints rv), by simp⟩) hE
  refine wpAny_bind (wpAny_holding (list_sort_data (s := { s with heap := h'.push (seqObj "list" acc.toList.toArray 0), toks := tk }) (enc := encT) hoL hE hR (AllAlike.of fun x y => alike_ints x y) (.inl fun d hd => ?_) (by rw [hln, ← hlk]; exact z) (fun b _ => ?_) fun out ho eo => ?_))
  · obtain ⟨ns, hns, rfl⟩ := List.mem_map.mp hd
    cases ns with
    | nil => exact (hne _ hns rfl).elim
    | cons n r => exact ⟨_, _, rfl⟩
  · have := depth_ints b
    show X.A.in1.units + 1 + PyData.depth (.tuple (b.map .int)) < cLine
    have e : X.A.in1.units = X.A.units + 1 := rfl
    simp only [PyData.depth]
    omega
  · rw [encT_le] at eo
    obtain ⟨ys, v1, v2⟩ := vals_each eo
    obtain ⟨e', he'⟩ := PyProof.Rows.sortedHeap_at (vs := acc.toList) (out := out.toArray) hoL
    have hlen : ys.length ≤ sizeLine := by rw [v1.length, ho, hln, ← hlk]; exact z
    refine wpAny_pure ⟨_, rfl, .ref h'.objs.size, upd H h'.objs.size (.lst ys), I1.laid (t' := tk) (fun b u e => ?_) (Nat.le_refl _)
      (show ObjOk X.prog X.w _ _ _ (.lst ys) from ⟨hlen, out, e', v1, he'⟩), rfl, q _ ys (I1.hok.fresh (Nat.le_refl _)) v2⟩
    have hb : b < h'.objs.size := Heap.lt_size e
    rw [PyProof.Rows.sortedHeap_old (Nat.ne_of_lt hb) (by rw [size_push']; exact Nat.lt_succ_of_lt hb)]
    exact Heap.get?_push_of_some _ e
end
end L3
/-! L3: dict comprehensions with tuples for keys -/
namespace L3
open PySem PySem.Spec PyProof.Rows L2
/-- one pair more, the key a tuple -/
theorem d_setT {X : Cx} {pins : List (Addr × Obj)} {σ : L2.St} {H : Hp} {s : Shared} {A : Around} {E : Value → Shared → Prop} {dA kb : Addr} {kvs : List (List Key × V)} {ks : List Key} {v : V} {r : Value} {Q : Unit → Shared → Prop} (hu : A.units + 1 < cLine) (I : Inv X pins σ H s) (hd : H dA = some (.dT kvs)) (hk : H kb = some (.tup (ks.map kV)))
    (hl : kvs.length < sizeLine) (rv : RelV v r) (next : ∀ s', Inv X pins σ (upd H dA (.dT (putK kvs ks v))) s' → Q () s') : wpAny (model X.prog X.w) A (dictSet dA (.ref kb) r) Q E s := by
  obtain ⟨z1, z2, row, rel, ddd⟩ := dt_of I.hok hd
  have z3 : row.length ≤ sizeLine := by have := Paired.length rel; omega
  have z4 : (putK kvs ks v).length ≤ sizeLine := Nat.le_trans (length_putK kvs ks v) (by omega)
  have room : (tupleKind (mixKind X.prog X.w)).room A := show A.units < cLine by omega
  refine wpAny_dictSet_heap (hsz := z3) room (key_of I.hok hk) ddd fun h' after kept => next _ ?_
  obtain ⟨ob, es, ep, g1, g2, g3, g4, _, g5⟩ := after
  have rel' := (rel.put ks hk rv).keeps (H' := upd H dA (.dT (putK kvs ks v))) fun c ys ec => by
    rw [upd_ne (ne_of ec hd (fun z => nomatch z))]; exact ec
  exact d_write I (by rw [hd]; exact True.intro) kept ⟨ob, g1⟩ ⟨z4, z2, _, rel', ob, es, ep, g1, g2, g3, g4, g5⟩
section
variable {X : Cx}
def tDcT (wi : TI) (g : TG) (tt : TT) (tk tv : TE) (vs : List Nat) : TE := fun σ H Q => wi σ H fun J H1 => ∀ dA, H1 dA = none → ∃ Z : Nat → Nat → Hp → Prop, (∃ m, Z 0 m (upd H1 dA (.dT []))) ∧ ∀ i m H, Z i m H →
  (J.stop i H ∧ Q (.ref dA) H) ∨ (J.go i H ∧ ∃ Nx : Hp → Prop, (∀ H', Nx H' → ∃ m', m' < m ∧ Z (i + 1) m' H') ∧ ∀ x H', J.yld i H x H' → g x (L2.wipe σ vs) H' fun σ2 H2 => L2.wipe σ2 vs = L2.wipe σ vs ∧ tt σ2 H2 fun b H3 =>
    if b = true then tk σ2 H3 fun y H4 => tv σ2 H4 fun z H5 => ∃ kvs ks kb, y = .ref kb ∧ H5 kb = some (.tup (ks.map kV)) ∧ H5 dA = some (.dT kvs) ∧ kvs.length < sizeLine ∧ Nx (upd H5 dA (.dT (putK kvs ks z))) else Nx H3)
theorem pe_dcT {kx vx tg iter : Expr} {ifs : List Expr} {scope : Scope} {own : List (Str × Nat)} {pos : Pos} {wi : TI} {g : TG} {tt : TT} {tk tv : TE} (hu : X.A.units + 1 < cLine) (calm : X.calm = true) (nd : X.N.Nodup) (pi : PI X tg iter wi) (ok : BlkOk X.N X.env.scope scope own)
    (pg : ∀ (s : Shared) (H : Hp) (C : Addr) (cl : List (Str × Addr)) (fp : List Addr), PG (X.blk s H scope (compEnvC scope cl C X.env) fp) tg g) (pt : ∀ (s : Shared) (H : Hp) (C : Addr) (cl : List (Str × Addr)) (fp : List Addr), PTs (X.blk s H scope (compEnvC scope cl C X.env) fp) ifs tt)
    (pk : ∀ (s : Shared) (H : Hp) (C : Addr) (cl : List (Str × Addr)) (fp : List Addr), PE (X.blk s H scope (compEnvC scope cl C X.env) fp) kx tk)
    (pv : ∀ (s : Shared) (H : Hp) (C : Addr) (cl : List (Str × Addr)) (fp : List Addr), PE (X.blk s H scope (compEnvC scope cl C X.env) fp) vx tv) (unset : ∀ x, foldedSetIterable iter X.env x = pure x := by intro _; rfl) :
    PE X (.DictComp kx vx [⟨tg, iter, ifs, 0⟩] scope pos) (tDcT wi g tt tk tv (own.map (·.2))) := by
  refine ⟨fun pins s σ H Q inv read => ?_⟩
  rw [arm_eval_DictComp]
  have frees : ∀ y ∈ scope.names, y.2 = .free → ∃ c, X.env.cells.lookup y.1 = some c := fun y hy e => (ok.free y hy e).elim (fun k => inv.ok.has _ (.inl k)) fun k => inv.ok.has _ (.inr k)
  refine wpAny_comprehension_free (use := none) rfl unset (closure_ok frees) ok.kind (fun y hy e => by rw [ok.uniq y hy, e]) ?_
  refine thn (pi.run pins s σ H _ inv read) fun xv s1 walked => thn walked fun itv s2 got => ?_
  obtain ⟨it, fp, tn, J, H2, eit, inv2, T, tn2, fp2, rest⟩ := got
  subst eit
  refine wpAny_newObj_type (newEnv_comp ?_)
  -- the dict is laid
  generalize hdA : s2.heap.objs.size = dA
  have nodA : H2 dA = none := inv2.hok.fresh (Nat.le_of_eq hdA)
  obtain ⟨Z, ⟨m0, z0⟩, each⟩ := rest dA nodA
  generalize hs3 : ({ s2 with heap := s2.heap.push { cls := .type "dict", data := .dict #[] } } : Shared) = s3
  have heap3 : s3.heap = s2.heap.push { cls := .type "dict", data := .dict #[] } := by rw [← hs3]
  have inv3 : Inv X pins σ (upd H2 dA (.dT [])) s3 := by
    have laid := dt_empty (P := X.prog) (w := X.w) (H := upd H2 dA (.dT [])) s2.heap inv2.big
    rw [hdA] at laid
    rw [← hs3]
    exact inv2.laid (t' := s2.toks) (fun b o e => Heap.get?_push_of_some _ e) (Nat.le_of_eq hdA) laid
  have below : ∀ b ∈ fp, b < s2.heap.objs.size := fun b hb => by
    obtain ⟨o, e, _⟩ := T.obj _ _ tn2 b hb
    exact Heap.lt_size e
  have fp3 : ∀ b ∈ fp, FpOk X pins (upd H2 dA (.dT [])) b ∧ b < s3.heap.objs.size := fun b hb => by
    have lt := below b hb
    have ne : b ≠ dA := by rw [← hdA]; exact Nat.ne_of_lt lt
    exact ⟨⟨(upd_ne ne).trans (fp2 b hb).1, (fp2 b hb).2⟩, by rw [heap3, Heap.size_push]; exact Nat.lt_succ_of_lt lt⟩
  have tn3 : tn 0 s3.heap := T.keep _ _ _ tn2 fun b _ o e => by rw [heap3]; exact Heap.get?_push_of_some _ e
  have inv4 := block_start inv3 ok nd fp3
  have pgB := pg s3 (upd H2 dA (.dT [])) s3.heap.objs.size (cellsFrom (s3.heap.objs.size + 1) scope.names (cloFrom X.env.cells scope.names [])) fp
  have ptB := pt s3 (upd H2 dA (.dT [])) s3.heap.objs.size (cellsFrom (s3.heap.objs.size + 1) scope.names (cloFrom X.env.cells scope.names [])) fp
  have pkB := pk s3 (upd H2 dA (.dT [])) s3.heap.objs.size (cellsFrom (s3.heap.objs.size + 1) scope.names (cloFrom X.env.cells scope.names [])) fp
  have pvB := pv s3 (upd H2 dA (.dT [])) s3.heap.objs.size (cellsFrom (s3.heap.objs.size + 1) scope.names (cloFrom X.env.cells scope.names [])) fp
  show codeAny _ _ (.compStart (.DictComp kx vx [⟨tg, iter, ifs, 0⟩] scope pos) 0 (.ref it) (.ref dA) (compEnvC scope (cellsFrom (s3.heap.objs.size + 1) scope.names (cloFrom X.env.cells scope.names [])) s3.heap.objs.size X.env)) (compPost (model X.prog X.w) X.A X.xe none _ (.ref dA) s3.heap.objs.size) { s3 with heap := pushCells (s3.heap.push { cls := .type "dict", data := .dict #[] }) scope.names }
  have fpNo : ∀ b ∈ fp, (upd H2 dA (.dT [])) b = none := fun b hb => (fp3 b hb).1.1
  generalize hen : compEnvC scope (cellsFrom (s3.heap.objs.size + 1) scope.names (cloFrom X.env.cells scope.names [])) s3.heap.objs.size X.env = en at inv4 pgB ptB pkB pvB ⊢
  have enL : en.locals = s3.heap.objs.size := by subst hen; rfl
  generalize hH3 : upd H2 dA (.dT []) = H3 at inv3 inv4 pgB ptB pkB pvB z0 fpNo fp3
  generalize hs4 : ({ s3 with heap := pushCells (s3.heap.push { cls := .type "dict", data := .dict #[] }) scope.names } : Shared) = s4 at inv4 ⊢
  have tn4 : tn 0 s4.heap := T.keep _ _ _ tn3 fun b _ o e => by rw [← hs4]; exact pushCells_keeps _ _ _ _ (Heap.get?_push_of_some _ e)
  have fpB : ∀ {σ' : L2.St} {H' : Hp} {s' : Shared}, Inv (X.blk s3 H3 scope en fp) [] σ' H' s' → (∀ b ∈ fp, H' b = none) → ∀ b ∈ fp, FpOk (X.blk s3 H3 scope en fp) [] H' b := fun {σ' H' s'} i no b hb => by
    have z := i.ok.exf b hb
    exact ⟨no b hb, z.1, i.ok.exfs b hb, .inl hb, fun x c e => z.2 x c e, fun p hp => absurd (show p ∈ ([] : List (Addr × Obj)) ++ [] from hp) (by simp)⟩
  have turns : codeAny (model X.prog X.w) X.A (.compLoop (.DictComp kx vx [⟨tg, iter, ifs, 0⟩] scope pos) 0 (.ref it) (.ref dA) en) (compPost (model X.prog X.w) X.A X.xe none (EP X pins σ Q) (.ref dA) s3.heap.objs.size) s4 := by
    refine compLoop_anyD (fun n s' => ∃ i H', Inv (X.blk s3 H3 scope en fp) [] (L2.wipe σ (own.map (·.2))) H' s' ∧ tn i s'.heap ∧ (∀ b ∈ fp, H' b = none) ∧ Z i n H') ?_ m0 ⟨0, H3, inv4, tn4, fpNo, z0⟩
    rintro n s5 ⟨i, H5, inv5, tn5, no5, z5⟩
    rcases each i n H5 z5 with ⟨stop, final⟩ | ⟨go, Nx, further, step⟩
    · refine thnF (T.done (X.blk s3 H3 scope en fp) rfl rfl rfl calm i [] s5 _ H5 (fun _ _ => False) inv5 (fpB inv5 no5) tn5 stop) fun r s6 ⟨er, inv6⟩ => ?_
      subst er
      have inv7 : Inv X pins σ H5 s6 := by
        refine inv3.call' (ch := fp) inv6.os inv6.base inv6.hok inv6.bare fun b hb => ?_
        obtain ⟨_, y1, y2, y3, y4, y5⟩ := (fp3 b hb).1
        exact ⟨y3, y1, y4, y5⟩
      have noC : H5 s3.heap.objs.size = none := by
        rw [← enL]
        exact inv6.free
      obtain ⟨m, ns, _⟩ := inv6.loc
      have ns : s6.heap.Ns s3.heap.objs.size m := by rw [← enL]; exact ns
      obtain ⟨f0, f1, f2, f3, f4, f5⟩ := inv3.fpOk (Nat.le_refl _) noC
      exact ⟨m, ns, fun h'' sb => ⟨.ref dA, H5, inv7.turned (t' := s6.toks) (fun b o hb e => (sb.2 b hb).trans e) f0 f1 f3 f4 f5, rfl, final⟩⟩
    · refine thnF (T.item (X.blk s3 H3 scope en fp) rfl rfl rfl calm i [] s5 _ H5 (fun _ _ => False) inv5 (fpB inv5 no5) tn5 go) fun r s6 ⟨u, er, h6⟩ => ?_
      subst er
      refine thnF h6 fun _ s7 ⟨x, H7, inv7, rx, yx, tn7, no7⟩ => ?_
      have inv7' := inv7.pinned (fpB inv7 no7) (T.obj _ _ tn7)
      refine thnF (pgB.run _ s7 _ H7 x u _ inv7' rx (step x H7 yx)) fun _ s8 ⟨σ8, H8, inv8, same8, q8⟩ => ?_
      refine thnF (ptB.run _ s8 σ8 H8 _ inv8 q8) fun b s9 ⟨H9, inv9, q9⟩ => ?_
      have again : ∀ {s' : Shared} {H' : Hp}, Inv (X.blk s3 H3 scope en fp) ([] ++ pinsAt fp s7.heap) σ8 H' s' → Nx H' → ∃ m, m < n ∧ ∃ i H', Inv (X.blk s3 H3 scope en fp) [] (L2.wipe σ (own.map (·.2))) H' s' ∧ tn i s'.heap ∧ (∀ b ∈ fp, H' b = none) ∧ Z i m H' := fun {s' H'} inv' nx => by
        obtain ⟨m', less, z'⟩ := further H' nx
        have pinned : ∀ b ∈ fp, ∀ o, s7.heap.get? b = some o → s'.heap.get? b = some o ∧ H' b = none := fun b hb o e => by
          have z := inv'.pin (b, o) (List.mem_append_right _ (List.mem_append_right _ (mem_pinsAt hb e)))
          exact ⟨z.1, z.2.1⟩
        refine ⟨m', less, i + 1, H', (inv'.unpinned (pins := [])).weak ?_ ?_, T.keep _ _ _ tn7 fun b hb o e => (pinned b hb o e).1, ?_, z'⟩
        · rw [← same8, L2.wipe_length]
        · intro j v e
          rw [← same8] at e
          exact (wipe_some e).1
        · intro b hb
          obtain ⟨o, e, _⟩ := T.obj _ _ tn7 b hb
          exact (pinned b hb o e).2
      cases b with
      | false =>
        rw [if_neg Bool.false_ne_true] at q9 ⊢
        exact again inv9 q9
      | true =>
        rw [if_pos rfl] at q9 ⊢
        refine thnF (pkB.run _ s9 σ8 H9 _ inv9 q9) fun kv s10 ⟨yk, H10, inv10, rk, q10⟩ => ?_
        refine thnF (pvB.run _ s10 σ8 H10 _ inv10 q10) fun vv s11 ⟨yv, H11, inv11, rv, kvs, ks, kb, ek, hkb, hdk, small, nx⟩ => ?_
        subst ek
        cases (show kv = Value.ref kb from rk)
        exact d_setT (X := X.blk s3 H3 scope en fp) hu inv11 hdk hkb small rv fun s12 inv12 => again inv12 nx
  exact codeAny_compStart_dict turns (T.self X.A 0 _ _ _ tn4 turns)
end
end L3
/-! L3: dict comprehensions and sorted over data -/
namespace L3
open PySem PySem.Spec PyProof.Rows L2
theorem RepK.mono' {pn : Option Addr} {H H' : Hp} (e : Same H H') {v : List (List Key × V)} {d : List (List Key × D)} (r : RepK pn H v d) : RepK pn H' v d := RepK.mono e r
def dcGo (g : G3) (tt : T3) (tk tv : E3) (vs : List Nat) : List D → List (List Key × D) → Env3 → (List (List Key × D) → Env3 → Prop) → Prop
  | [], acc, ρ, k => k acc ρ
  | d :: r, acc, ρ, k => g d ρ fun ρ1 => tt ρ1 (fun b ρ2 => match b with
    | true => tk ρ2 (fun y ρ3 => tv ρ3 (fun z ρ4 => isT y fun ds => optK (keyA ds) fun ks => acc.length < sizeLine ∧ dcGo g tt tk tv vs r (putD acc ks z) (ρ4.wipe vs) k) (fun _ _ => False)) (fun _ _ => False)
    | false => dcGo g tt tk tv vs r acc (ρ2.wipe vs) k) (fun _ _ => False)
def tDc3 (w : I3) (g : G3) (tt : T3) (tk tv : E3) (vs : List Nat) : E3 := fun ρ k x => w ρ (fun ds ρ1 => dcGo g tt tk tv vs ds [] (ρ1.wipe vs) fun acc ρ2 => k (.dT acc) (Env3.back ρ1 ρ2 vs)) x
theorem dcGo_mon {g : G3} {tt : T3} {tk tv : E3} {vs : List Nat} (mg : ∀ d ρ k k', (∀ ρ', k ρ' → k' ρ') → g d ρ k → g d ρ k') (mt : MonE tt) (mk : MonE tk) (me : MonE tv) {k k' : List (List Key × D) → Env3 → Prop} (f : ∀ a ρ, k a ρ → k' a ρ) :
    ∀ (ds : List D) (acc : List (List Key × D)) (ρ : Env3), dcGo g tt tk tv vs ds acc ρ k → dcGo g tt tk tv vs ds acc ρ k'
  | [], acc, ρ, h => f _ _ h
  | d :: r, acc, ρ, h => mg _ _ _ _ (fun ρ1 q => mt _ _ _ _ _ (fun b ρ2 q => by
      cases b with
      | true => exact mk _ _ _ _ _ (fun y ρ3 q => me _ _ _ _ _ (fun z ρ4 q => isT_mono (fun ds => optK_mono fun ks => mon_and (dcGo_mon mg mt mk me f r _ _)) q) (fun _ _ z => z) q) (fun _ _ z => z) q
      | false => exact dcGo_mon mg mt mk me f r _ _ q) (fun _ _ z => z) q) h
section
variable {X : Cx} {W : WX} {pos : Pos}
theorem dc_read {w : I3} {g : G3} {tt : T3} {tk tv : E3} {vs ws : List Nat} (mw : MonE w) (mg : ∀ d ρ k k', (∀ ρ', k ρ' → k' ρ') → g d ρ k → g d ρ k') (mt : MonE tt) (mk : MonE tk) (me : MonE tv) (hws : ∀ i ∈ ws, i ∈ vs) (nd : vs.Nodup) {σ : L2.St} {H : Hp} {Q : VK}
    (h : lE W (tDc3 w g tt tk tv vs) σ H Q) : tDcT (lI W w) (lG ws g) (lT W0 tt) (lE W0 tk) (lE W0 tv) vs σ H Q := by
  obtain ⟨G, ρ, H0, R, h⟩ := h
  refine ⟨G, ρ, H0, R, mw _ _ _ _ _ (fun ds ρ1 q J H1 H01 s1 R1 Wk Dl hD => ?_) (fun _ _ z => z) h⟩
  have nf := R1.noHf hD
  have h0D : H01 Dl = none := by
    cases e : H01 Dl with
    | none => rfl
    | some u => have := R1.ex _ _ e; rw [hD] at this; cases this
  have hgD : G.H0 Dl = none := by
    cases e : G.H0 Dl with
    | none => rfl
    | some u => have := R1.ex0 _ _ e; rw [h0D] at this; cases this
  refine ⟨fun i m H' => m = ds.length - i ∧ i ≤ ds.length ∧ ∃ ρ' H0' xs acc, Same H01 H0' ∧ Rel (G.res Dl (.dT xs)) H0' ρ' (L2.wipe σ vs) H' ∧ RepK G.pn H0' xs acc ∧
    dcGo g tt tk tv vs (ds.drop i) acc ρ' (fun acc ρ2 => KQ G H0 σ Q (.dT acc) (Env3.back ρ1 ρ2 vs)), ⟨_, rfl, Nat.zero_le _, ρ1.wipe vs, H01, [], [], Same.refl _, ?_, .nil, q⟩, ?_⟩
  · exact ((R1.wipe vs).grow' hD).res upd_same h0D ((R1.wipe vs).fresh hD)
  rintro i m H2 ⟨rfl, hi', ρ2, H02, xs, acc, s2, R2, ra, q2⟩
  by_cases hlt : i < ds.length
  · rw [List.drop_eq_getElem_cons hlt] at q2
    obtain ⟨wg, wy⟩ := (Wk i (G.res Dl (.dT xs)) H02 ρ2 (L2.wipe σ vs) H2 rfl s2 R2).1 ds[i] (List.getElem?_eq_getElem hlt)
    refine .inr ⟨wg, fun H' => i + 1 ≤ ds.length ∧ ∃ ρ' H0' xs acc, Same H01 H0' ∧ Rel (G.res Dl (.dT xs)) H0' ρ' (L2.wipe σ vs) H' ∧ RepK G.pn H0' xs acc ∧ dcGo g tt tk tv vs (ds.drop (i + 1)) acc ρ' (fun acc ρ2 => KQ G H0 σ Q (.dT acc) (Env3.back ρ1 ρ2 vs)),
      fun H' z => ⟨_, by omega, rfl, z⟩, fun x H3 y => ?_⟩
    obtain ⟨H03, s3, R3, r3⟩ := wy x H3 y
    refine ⟨G.res Dl (.dT xs), ρ2, H03, ds[i], R3, r3, mg _ _ _ _ (fun ρ4 q4 σ4 H4 H04 s4 R4 o4 => ?_) q2⟩
    have e4 : L2.wipe σ4 vs = L2.wipe σ vs := (o4.wipe hws).trans wipe_wipe
    refine ⟨e4, G.res Dl (.dT xs), ρ4, H04, R4, mt _ _ _ _ _ (fun b ρ5 q5 H5 H05 s5 R5 => ?_) (fun _ _ z => z.elim) q4⟩
    have s5' := ((s2.trans s3).trans s4).trans s5
    cases b with
    | true =>
      refine iteT ⟨G.res Dl (.dT xs), ρ5, H05, R5, mk _ _ _ _ _ (fun yd ρ6 q6 yv H6 H06 s6 R6 r6 => ?_) (fun _ _ z => z.elim) q5⟩
      refine ⟨G.res Dl (.dT xs), ρ6, H06, R6, me _ _ _ _ _ (fun zd ρ7 q7 zv H7 H07 s7 R7 r7 => ?_) (fun _ _ z => z.elim) q6⟩
      obtain ⟨js, rfl, q7⟩ := isT_get q7
      obtain ⟨ks, hks, q7⟩ := optK_some q7
      have hl := R7.res_no (fun _ z => nomatch z) hgD nf.2
      have sa := (((s3.trans s4).trans s5).trans s6).trans s7
      have ra7 := ra.mono sa
      cases r6 with
      | @tup kb vks _ hb rb =>
        have ek := keyA_rep rb hks
        subst ek
        refine ⟨xs, ks, kb, rfl, R7.ex _ _ (s7 _ _ hb), hl.1, by rw [ra7.length]; exact q7.1, by omega, ρ7.wipe vs, H07, _, _, (s5'.trans s6).trans s7, ?_, ra7.put r7, q7.2⟩
        have R8 := (R7.wipe vs).res_put (o' := .dT (putK xs ks zv)) (fun _ z => nomatch z) hgD nf.2
        rw [e4] at R8
        exact R8
    | false =>
      refine iteF ⟨by omega, ρ5.wipe vs, H05, xs, acc, s5', ?_, ra.mono ((s3.trans s4).trans s5), q5⟩
      have R7 := R5.wipe vs
      rw [e4] at R7
      exact R7
  · have e : i = ds.length := by omega
    subst e
    rw [List.drop_length] at q2
    refine .inl ⟨(Wk ds.length (G.res Dl (.dT xs)) H02 ρ2 (L2.wipe σ vs) H2 rfl s2 R2).2 (Nat.le_refl _), ?_⟩
    obtain ⟨hl, h0, hx⟩ := R2.res_no (fun _ z => nomatch z) hgD nf.2
    have R3 := R2.unres nf.1
    obtain ⟨st, R4⟩ := R3.tell hl h0 nf.1 nf.2 hx
    have R5 := R1.back (s2.trans st) vs ρ2 nd R4
    exact q2 (.ref Dl) H2 _ ((s1.trans s2).trans st) R5 (.dT upd_same (ra.mono st))
theorem dc3 {kx vx tg it : Expr} {ifs : List Expr} {scope : Scope} {own : List (Str × Nat)} {w : I3} {g : G3} {tt : T3} {tk tv : E3} {ws : List Nat} (hu : X.A.units + 1 < cLine) (hc : X.calm = true) (hN : X.N.Nodup) (hi : P3I X W tg it w) (ok : BlkOk X.N X.env.scope scope own)
    (hg : ∀ (s : Shared) (H : Hp) (C : Addr) (cl : List (Str × Addr)) (fp : List Addr), P3G (X.blk s H scope (compEnvC scope cl C X.env) fp) ws tg g) (ht : ∀ (s : Shared) (H : Hp) (C : Addr) (cl : List (Str × Addr)) (fp : List Addr), P3Ts (X.blk s H scope (compEnvC scope cl C X.env) fp) ifs tt)
    (hk : ∀ (s : Shared) (H : Hp) (C : Addr) (cl : List (Str × Addr)) (fp : List Addr), P3 (X.blk s H scope (compEnvC scope cl C X.env) fp) W0 kx tk)
    (hv : ∀ (s : Shared) (H : Hp) (C : Addr) (cl : List (Str × Addr)) (fp : List Addr), P3 (X.blk s H scope (compEnvC scope cl C X.env) fp) W0 vx tv) (hws : ∀ i ∈ ws, i ∈ own.map (·.2) := by decide) (nd : (own.map (·.2)).Nodup := by decide)
    (hs : ∀ x, foldedSetIterable it X.env x = pure x := by intro _; rfl) : P3 X W (.DictComp kx vx [⟨tg, it, ifs, 0⟩] scope pos) (tDc3 w g tt tk tv (own.map (·.2))) := by
  have s0 : Shared := {}
  have mg := (hg s0 (fun _ => none) 0 [] []).mon
  have mt := (ht s0 (fun _ => none) 0 [] []).mon
  have mk := (hk s0 (fun _ => none) 0 [] []).mon
  have mv := (hv s0 (fun _ => none) 0 [] []).mon
  refine ⟨PE.imp (pe_dcT hu hc hN hi.run ok (fun s H C cl fp => (hg s H C cl fp).run) (fun s H C cl fp => (ht s H C cl fp).run) (fun s H C cl fp => (hk s H C cl fp).run) (fun s H C cl fp => (hv s H C cl fp).run) hs) fun σ H Q h => dc_read hi.mon mg mt mk mv hws nd h, ?_⟩
  exact fun ρ k k' x x' f fx h => hi.mon _ _ _ _ _ (fun ds ρ1 q => dcGo_mon mg mt mk mv (fun acc ρ2 => f _ _) ds [] _ q) fx h

/-! ### sorted(d) -/
def keyInts : List Key → Option (List Int)
  | [] => some []
  | .inl i :: r => (keyInts r).map (i :: ·)
  | .inr _ :: _ => none
def keysInts : List (List Key × D) → Option (List (List Int))
  | [] => some []
  | (k, _) :: r => (keyInts k).bind fun ns => (keysInts r).map (ns :: ·)
theorem keyInts_eq : ∀ {k : List Key} {ns : List Int}, keyInts k = some ns → k = ns.map Sum.inl
  | [], ns, h => by cases h; rfl
  | .inl i :: r, ns, h => by
    simp only [keyInts, Option.map_eq_some_iff] at h
    obtain ⟨ms, h1, rfl⟩ := h
    rw [keyInts_eq h1]; rfl
  | .inr _ :: _, ns, h => by cases h
theorem keysInts_eq {pn : Option Addr} {H : Hp} : ∀ {kvs : List (List Key × V)} {kds : List (List Key × D)} {nss : List (List Int)}, RepK pn H kvs kds → keysInts kds = some nss → kvs.map (·.1) = nss.map (List.map Sum.inl)
  | _, _, nss, .nil, h => by cases h; rfl
  | _, _, nss, .cons (k := k) r q, h => by
    simp only [keysInts, Option.bind_eq_some_iff, Option.map_eq_some_iff] at h
    obtain ⟨ns, h1, ms, h2, rfl⟩ := h
    rw [List.map_cons, List.map_cons, ← keysInts_eq q h2, ← keyInts_eq h1]
def tupI (ns : List Int) : D := .tup (ns.map D.int)
def gSortedT : GC
  | [.dT kds], k => optK (keysInts kds) fun nss => (∀ ns ∈ nss, ns ≠ []) ∧ k (.lst ((nss.mergeSort leI).map tupI))
  | _, _ => False
theorem told_all {pn : Option Addr} {H0 H : Hp} : ∀ {ys : List V} {nss : List (List Int)}, Paired (fun y ns => ∃ b, y = V.ref b ∧ H b = some (.tup (ns.map V.int))) ys nss → Same H0 H → ∃ H0', Grow H0 H H0' H ∧ RepA pn H0' ys (nss.map tupI)
  | _, _, .nil, _ => ⟨H0, .refl, .nil⟩
  | _, _, .cons (b := ns) h t, s => by
    obtain ⟨H0', g, r⟩ := told_all t s
    obtain ⟨b, rfl, hb⟩ := h
    have g2 : Grow H0 H (upd H0' b (.tup (ns.map V.int))) H := .told g hb
    have s' : Same H0' (upd H0' b (.tup (ns.map V.int))) := by
      have g3 : Grow H0' H (upd H0' b (.tup (ns.map V.int))) H := .told .refl hb
      exact (g3.same (g.same s).2).1
    exact ⟨_, g2, .cons (.tup upd_same (RepA.ints ns)) (r.mono s')⟩
theorem c3_sortedT : C3 (rSortedT True) gSortedT := by
  refine c3_one (fun ds k h => ?_) (fun pn H0 H v d k Q s r h q => ?_)
  · rcases ds with _ | ⟨d, _ | ⟨e, l⟩⟩
    · exact h.elim
    · exact ⟨d, rfl⟩
    · cases d <;> exact h.elim
  · cases r with
    | dT ha ra =>
      obtain ⟨nss, hn, h⟩ := optK_some h
      refine ⟨_, _, nss, rfl, .inl (s _ _ ha), keysInts_eq ra hn, h.1, fun p ys hp hy => ?_⟩
      obtain ⟨H0', g, ry⟩ := told_all (pn := pn) hy s
      have g2 : Grow H0 H (upd H0' p (.lst ys)) (upd H p (.lst ys)) := .new g hp
      have s2 : Same H0' (upd H0' p (.lst ys)) := by
        have g3 : Grow H0' H (upd H0' p (.lst ys)) (upd H p (.lst ys)) := .new .refl hp
        exact (g3.same (g.same s).2).1
      exact q _ _ _ _ g2 (.lst upd_same (ry.mono s2)) h.2
    | _ => exact h.elim
theorem mc_sortedT : MonC3 gSortedT := mc_of (fun d k k' f q => by cases d <;> first | exact optK_mono (fun _ => mon_and (f _)) q | exact q) (fun _ q => q) (fun d e l k q => by cases d <;> exact q)
theorem sortedT3 {a : Expr} {ta : E3} {p : Pos} (hu : X.A.units + 64 < cLine) (hc : X.calm = true) (hg : Gl X "sorted") (hn : X.mg "sorted" = none) (h : P3 X W a ta) (he : starEach [a] X.env = (false, eval a X.env) :: starEach [] X.env := by rfl) : P3 X W (.Call (.Name "sorted" p) [a] [] pos) (tCB3 gSortedT (tCons3 ta tNil3)) :=
  cb3 (call_sortedT hc hu) c3_sortedT mc_sortedT hg hn (by decide +kernel) (acons h anil he) (he := he)
end
end L3
/-! L3: the pen: what makes it, what draws with it; a law's first statement -/
namespace L3
open PySem PySem.Spec PyProof.Rows L2
/-! ### the pen is made -/
def spPen (K : PySem.W.Frag) : Sp := fun vs H Q _ => ∃ (a : Addr) (ns : List Int), vs = [.ref a] ∧ SqL K H a (ns.map V.int) ∧ ns.length ≤ 63 ∧
  ∀ p c H', Same H H' → H p = none → H c = none → p ≠ c → H' p = some (.lst [.ref c, .int 0, .int 0]) → H' c = some (.lst (ns.map V.int)) → Q (.ref p) H'
theorem cut63 {xs : List V} (h : xs.length ≤ 63) : cutV xs none (some 63) = xs := by
  unfold cutV
  rw [show HT.sIx xs.length xs.length (some 63) = min 63 xs.length from HT.sIx_nat xs.length xs.length 63, HT.sIx_none]
  rw [show min 63 xs.length = xs.length by omega]
  simp
abbrev nPen : List Str := ["script", "cell"]
section
variable {P : Program} {w : World} {K : PySem.W.Frag} {mg : Str → Option Value} {base : Heap}
theorem pen_read {X : Cx} {σ : L2.St} {H : Hp} {Q : VK} {a : Addr} {ns : List Int} (hN : σ = [some (.ref a), none]) (hS : SqL X.K H a (ns.map V.int)) (h63 : ns.length ≤ 63) (q : ∀ p c H', Same H H' → H p = none → H c = none → p ≠ c → H' p = some (.lst [.ref c, .int 0, .int 0]) → H' c = some (.lst (ns.map V.int)) → Q (.ref p) H') :
    tLst (tCons (tLc (iList X.K (tSl (rSlL X.K) (tVar 0) tNoPart (tPart (tC (.int 63))))) (gName 1) tYes (tCB (fun xs H Q => (∃ i, xs = [.int i] ∧ Q (.int i) H) ∨ ∃ k, xs = [.bl k] ∧ Q (.int (if k then 1 else 0)) H) (tCons (tVar 1) tNil)) [1]) (tCons (tC (.int 0)) (tCons (tC (.int 0)) tNil))) σ H Q := by
  subst hN
  refine ⟨.ref a, rfl, 63, rfl, a, _, rfl, hS, fun p hp => ?_⟩
  rw [cut63 (by rw [List.length_map]; exact h63)]
  have s1 : Same H (upd H p (.lst (ns.map V.int))) := fun b o e => by rw [upd_ne (ne_of_none e hp)]; exact e
  refine ⟨p, rfl, ⟨_, .inl (.inl upd_same)⟩, fun D hD => ?_⟩
  have hDp : D ≠ p := fun z => by rw [z, upd_same] at hD; cases hD
  have hD0 : H D = none := by rw [upd_ne hDp] at hD; exact hD
  refine lc_list (K := X.K) (a := p) (xs := ns.map V.int) (fun i H2 => Same H H2 ∧ H2 p = some (.lst (ns.map V.int)) ∧ H2 D = some (.lst ((ns.take i).map V.int))) ⟨fun b o e => ?_, ?_, ?_⟩ (fun i H2 _ z => .inl (.inl z.2.1)) (fun i x H2 hi z => ?_) fun H2 z => ?_
  · rw [upd_ne (ne_of_none (s1 _ _ e) hD)]; exact s1 _ _ e
  · rw [upd_ne hDp.symm]; exact upd_same
  · exact upd_same
  · obtain ⟨z1, z2, z3⟩ := z
    rw [List.getElem?_map] at hi
    obtain ⟨n, hn, rfl⟩ := Option.map_eq_some_iff.mp hi
    have hlt : i < ns.length := (List.getElem?_eq_some_iff.mp hn).1
    refine ⟨rfl, ?_⟩
    dsimp only [tYes]
    rw [if_pos rfl]
    refine ⟨_, rfl, .inl ⟨n, rfl, _, z3, ?_, fun b o e => ?_, ?_, ?_⟩⟩
    · rw [List.length_map, List.length_take]
      exact small1000 (by omega)
    · rw [upd_ne (ne_of_none e hD0)]; exact z1 _ _ e
    · rw [upd_ne hDp.symm]; exact z2
    · rw [upd_same]
      have e2 : ns.take (i + 1) = ns.take i ++ [n] := by
        rw [List.take_add_one, hn]; rfl
      rw [e2, List.map_append]
      rfl
  · obtain ⟨z1, z2, z3⟩ := z
    rw [List.length_map, List.take_length] at z3
    refine ⟨by show 3 ≤ sizeLine; decide, fun l hl => ?_⟩
    have hlD : l ≠ D := fun e => by rw [e, z3] at hl; cases hl
    refine q l D _ (fun b o e => ?_) (z1.free hl) hD0 hlD upd_same ?_
    · rw [upd_ne (ne_of_none (z1 _ _ e) hl)]; exact z1 _ _ e
    · rw [upd_ne hlD.symm]; exact z3
/-! ### a law: pen = .., then all the rest -/
def spLaw (K : PySem.W.Frag) : Sp := fun vs H Q _ => ∃ (a : Addr) (ns : List Int), vs = [.ref a] ∧ SqL K H a (ns.map V.int) ∧ ns.length ≤ 63 ∧ ∀ H', Q (.bl true) H'
def lawStart (m : Nat) : List Slot := .un :: .val .pen :: List.replicate m .un
/-- what a law's rest must do, from the pen on -/
def LawRest (m : Nat) (t : S3) : Prop := t { nx := fun _ => False, rt := fun d _ => d = .bl true } ⟨lawStart m, 0⟩
theorem law_rest {X : Cx} {σ : L2.St} {H : Hp} {Z : Ends} {x : Option V} {p c : Addr} {ns : List Int} {m : Nat} {t : S3} (hp : H p = some (.lst [.ref c, .int 0, .int 0])) (hc : H c = some (.lst (ns.map V.int))) (hpc : p ≠ c) (h63 : ns.length ≤ 63) (hσ : σ = x :: some (.ref p) :: List.replicate m none)
    (hz : ∀ H', Z.rt (.bl true) H') (h : LawRest m t) : lS W0 t Z σ H := by
  subst hσ
  have s0 : Same (fun b => if b = c then H b else none) H := fun b o e => by
    have e : (if b = c then H b else none) = some o := e
    split at e
    · exact e
    · cases e
  have only1 : ∀ i l, ¬ OwnS ⟨lawStart m, 0⟩ (x :: some (.ref p) :: List.replicate m none) i l := fun i l ⟨⟨d, q⟩, _⟩ => by
    have q : (Slot.un :: .val .pen :: List.replicate m .un)[i]? = some (.own d) := q
    rcases i with _ | _ | i
    · cases q
    · cases q
    · rw [List.getElem?_cons_succ, List.getElem?_cons_succ, List.getElem?_replicate] at q
      split at q <;> cases q
  refine ⟨⟨fun _ => none, fun b => if b = c then H b else none, some p, none⟩, ⟨lawStart m, 0⟩, fun b => if b = c then H b else none, _, ?_, h, ?_⟩
  · refine ⟨s0, Same.refl _, (fun a o e => nomatch e), fun a o e => .inl ⟨o, e⟩, ?_, fun i => ?_, fun i j l a _ => (only1 i l a).elim, fun q hq => ?_, (fun l z => nomatch z)⟩
    · simp [lawStart]
    · show SlotOk _ _ H (Slot.un :: .val .pen :: List.replicate m .un)[i]? (x :: some (.ref p) :: List.replicate m none)[i]?
      rcases i with _ | _ | i
      · exact True.intro
      · exact ⟨.ref p, rfl, .pen rfl⟩
      · rw [List.getElem?_cons_succ, List.getElem?_cons_succ, List.getElem?_replicate]
        split <;> exact True.intro
    · cases hq
      exact ⟨if_neg hpc, c, ns, 0, 0, hp, (if_pos rfl).trans hc, h63, Int.le_refl _, Int.le_refl _, Int.le_refl _⟩
  · refine ⟨fun _ _ _ _ _ _ z => z.elim, fun d ρ' σ' v H' H0' s R r z => ?_, fun _ _ _ _ _ _ z => z.elim, fun _ _ _ _ _ _ z => z.elim, fun _ _ _ _ _ _ _ _ _ _ z => z.elim⟩
    subst z
    cases r
    exact hz H'
/-! ### what draws -/
/-- the frame that has the pen for its own list: its first name -/
structure PenSlot (ρ : Env3) (T : Nat) : Prop where
  at0 : ∃ (cs : List Int) (t r : Int), ρ.sl[0]? = some (.own (.lst [.lst (cs.map D.int), .int t, .int r])) ∧ cs.length ≤ 63 ∧ 0 ≤ t ∧ t ≤ (T : Int) ∧ 0 ≤ r
theorem fnPen3 {x qual : Str} {st : Stmt} {f : Addr} {fd : FuncData} {N ps : List Str} {k m : Nat} {s3 : Sp3} {t : S3} (F : Fun K x qual st f fd) (S : FnScope N ps (defScope st)) (hn : ps.length = 2) (hm : N.length = 2 + m)
    (hbody : ∀ (cdv : Value) (A : Around) (outer : List Env) (s : Shared) (H : Hp) (E : XK), Room k (A.deeper (envOfC qual (defScope st) s.heap.objs.size f cdv)) → P3Ss (cxOf CX0 P w K mg base N qual (defScope st) f cdv A outer s H E).nox W0 (defBody st) t)
    (hs : ∀ ds T kk, s3 ds T kk → ∃ many, ds = [.pen, .int many] ∧ ∀ (cs : List Int) (u r : Int), cs.length ≤ 63 → 0 ≤ u → u ≤ (T : Int) → 0 ≤ r →
      t { nx := fun _ => False, rt := fun d ρ => ∃ T' i, d = .int i ∧ PenSlot ρ T' ∧ kk d T' } ⟨[.own (.lst [.lst (cs.map D.int), .int u, .int r]), .val (.int many)] ++ List.replicate m .un, T⟩) : FnOk P w K mg base CX0 (k + 1) f fd ps (spL 2 s3) := by
  refine F.ok S (fun vs H Q E h => ?_) (fun cdv A outer s H vs Q E hr h => ?_)
  · obtain ⟨pn, H0, ds, T, hl, _⟩ := h
    rw [hl, hn]
  · obtain ⟨pn, H0, ds, T, hl, hS, hr', hp, h⟩ := h
    obtain ⟨many, rfl, hq⟩ := hs ds T _ h
    obtain ⟨v, v2, rfl, r1, r2⟩ := rep2 hr'
    cases r2
    cases r1 with
    | @pen p hpn =>
    obtain ⟨hp0, c, cs, u, r, hpl, hcl, h63, hu0, huT, hr0⟩ := hp p hpn
    refine ⟨_, (hbody cdv A outer s H E hr).run, ⟨fun b => if b = p then none else H b, H0, none, some p⟩, _, H0, _, ?_, hq cs u r h63 hu0 huT hr0, ?_⟩
    · refine ⟨hS, Same.refl _, fun a o e _ => ?_, fun a o e => .inl ⟨o, e⟩, ?_, fun i => ?_, fun i j l a b => ?_, (fun p' z => nomatch z), fun l z _ => ?_⟩
      · have e : (if a = p then none else H a) = some o := e
        split at e
        · cases e
        · exact e
      · unfold L2.start
        simp only [List.length_append, List.length_map, List.length_replicate, List.length_cons, List.length_nil]
        omega
      · show SlotOk _ H0 H ([Slot.own (.lst [.lst (cs.map D.int), .int u, .int r]), .val (.int many)] ++ List.replicate m .un)[i]? (L2.start N [.ref p, .int many])[i]?
        rcases i with _ | _ | i
        · refine ⟨p, get_start rfl, ⟨_, hpl, .cons (.lst hcl (RepA.ints cs)) (.cons (.int u) (.cons (.int r) .nil))⟩, hp0, if_pos rfl, fun z => by cases z⟩
        · exact ⟨_, get_start rfl, .int many⟩
        · rw [List.getElem?_append_right (by simp), List.getElem?_replicate]
          split <;> exact True.intro
      · have only0 : ∀ i, OwnS ⟨[Slot.own (.lst [.lst (cs.map D.int), .int u, .int r]), .val (.int many)] ++ List.replicate m .un, T⟩ (L2.start N [.ref p, .int many]) i l → i = 0 := fun i ⟨⟨d, q⟩, _⟩ => by
          have q : ([Slot.own (.lst [.lst (cs.map D.int), .int u, .int r]), .val (.int many)] ++ List.replicate m .un)[i]? = some (.own d) := q
          rcases i with _ | _ | i
          · rfl
          · cases q
          · rw [List.getElem?_append_right (by simp), List.getElem?_replicate] at q
            split at q <;> cases q
        rw [only0 i a, only0 j b]
      · cases z
        exact get_start rfl
    · refine ⟨fun ρ' σ' H' H0' s' R' q => q.elim, fun d ρ' σ' v H' H0' s' R' r q => ?_, fun _ _ _ _ _ _ z => z.elim, fun _ _ _ _ _ _ z => z.elim, fun _ _ _ _ _ _ _ _ _ _ z => z.elim⟩
      obtain ⟨T', i, rfl, ⟨cs', u', r', e0, g1, g2, g3, g4⟩, kk⟩ := q
      cases r
      obtain ⟨l, hl1, ⟨vs', hl2, hl3⟩, hl4, hl5, _⟩ := R'.owned e0
      have hl6 := R'.fix p rfl ⟨_, e0⟩
      rw [hl1] at hl6
      cases hl6
      -- what stands there
      rcases vs' with _ | ⟨v1, _ | ⟨v2, _ | ⟨v3, _ | ⟨v4, l4⟩⟩⟩⟩ <;> try (exfalso; have := hl3.length; simp at this; done)
      obtain ⟨⟨c', ec, hc'⟩, e2, e3⟩ : (∃ c', v1 = .ref c' ∧ H0' c' = some (.lst (cs'.map V.int))) ∧ (v2 = .int u' ∧ v3 = .int r') := by
        cases hl3 with
        | cons r1 t =>
          cases t with
          | cons r2 t =>
            cases t with
            | cons r3 t =>
              cases r2
              cases r3
              cases r1 with
              | @lst c' vv dd hc rc =>
                have := rc.ints_of
                subst this
                exact ⟨⟨c', rfl, hc⟩, rfl, rfl⟩
      subst ec e2 e3
      refine kk (.int i) H' H0' ⟨R'.ex0, R'.ex, fun a o e hn => ?_, fun a o e => ?_, fun p' z => ?_⟩ (.int i)
      · have hap : a ≠ p := fun z => hn (by rw [hpn, z])
        exact R'.keep a o (by show (if a = p then none else H a) = some o; rw [if_neg hap]; exact e) (fun z => nomatch z)
      · rcases R'.new a o e with z | z | z
        · exact .inl z
        · have hap : a ≠ p := fun w => by rw [w, hl4] at e; cases e
          have z : (if a = p then none else H a) = none := z
          rw [if_neg hap] at z
          exact .inr (.inl z)
        · exact .inr (.inr z)
      · rw [hpn] at z
        cases z
        exact ⟨hl4, c', cs', u', r', hl2, hc', g1, g2, g3, g4⟩
end
end L3
/-! L3: comprehensions and loops, read; bounds; data compared -/
namespace L3
open PySem PySem.Spec PyProof.Rows L2
/-- a comprehension whose item is made from the turn's datum alone -/
theorem lcGo_map {α : Type} {g : G3} {tt : T3} {te : E3} {vs : List Nat} {ρ : Env3} {k : List D → Env3 → Prop} (emb f : α → D) : ∀ (xs : List α) (acc : List D),
    (∀ x ∈ xs, ∀ (K : D → Env3 → Prop) (K2 : Env3 → Prop), (∀ ρ3, ρ3.wipe vs = ρ → K (f x) ρ3) → g (emb x) ρ (fun ρ1 => tt ρ1 (fun b ρ2 => match b with | true => te ρ2 K (fun _ _ => False) | false => K2 ρ2) (fun _ _ => False))) →
    acc.length + xs.length ≤ sizeLine → k (acc ++ xs.map f) ρ → lcGo g tt te vs (xs.map emb) acc ρ k
  | [], acc, _, _, q => by
    rw [List.map_nil, List.append_nil] at q
    exact q
  | x :: xs, acc, h, hz, q => by
    rw [List.map_cons]
    refine h x (by simp) _ _ fun ρ3 e => ⟨?_, ?_⟩
    · rw [List.length_cons] at hz; omega
    · rw [e]
      refine lcGo_map emb f xs _ (fun y hy => h y (by simp [hy])) (by rw [List.length_append, List.length_cons, List.length_nil]; rw [List.length_cons] at hz; omega) ?_
      rw [List.append_assoc]
      exact q
/-- the same where drawing goes on: what is known of the draws is D0 -/
theorem lcGo_draw {α : Type} {g : G3} {tt : T3} {te : E3} {vs : List Nat} {sl : List Slot} {k : List D → Env3 → Prop} (emb : α → D) (Ok : α → D → Prop) : ∀ (xs : List α) (acc : List D) (T : Nat),
    (∀ x ∈ xs, ∀ (T : Nat) (K : D → Env3 → Prop) (K2 : Env3 → Prop), (∀ y T' ρ3, Ok x y → T' ≤ T + 1 → ρ3.wipe vs = ⟨sl, T'⟩ → K y ρ3) → g (emb x) ⟨sl, T⟩ (fun ρ1 => tt ρ1 (fun b ρ2 => match b with | true => te ρ2 K (fun _ _ => False) | false => K2 ρ2) (fun _ _ => False))) →
    acc.length + xs.length ≤ sizeLine → (∀ ys T', Paired Ok xs ys → T' ≤ T + xs.length → k (acc ++ ys) ⟨sl, T'⟩) → lcGo g tt te vs (xs.map emb) acc ⟨sl, T⟩ k
  | [], acc, T, _, _, q => by
    have z := q [] T .nil (Nat.le_refl _)
    rw [List.append_nil] at z
    exact z
  | x :: xs, acc, T, h, hz, q => by
    rw [List.map_cons]
    refine h x (by simp) T _ _ fun y T' ρ3 hy hT e => ⟨?_, ?_⟩
    · rw [List.length_cons] at hz; omega
    · rw [e]
      refine lcGo_draw emb Ok xs _ T' (fun z hz => h z (by simp [hz])) (by rw [List.length_append, List.length_cons, List.length_nil]; rw [List.length_cons] at hz; omega) fun ys T2 hp hT2 => ?_
      rw [List.append_assoc]
      exact q (y :: ys) T2 (.cons hy hp) (by rw [List.length_cons]; omega)
/-! ### sizes of ints -/
def Bd (k : Nat) (i : Int) : Prop := i.natAbs < 2 ^ k
theorem Bd.mono {a b : Nat} {i : Int} (h : Bd a i) (l : a ≤ b) : Bd b i := Nat.lt_of_lt_of_le h (Nat.pow_le_pow_right (by decide) l)
theorem Bd.mul {a b : Nat} {i j : Int} (h : Bd a i) (h' : Bd b j) : Bd (a + b) (i * j) := by
  unfold Bd
  rw [Int.natAbs_mul, Nat.pow_add]
  exact Nat.mul_lt_mul'' h h'
theorem Bd.add {a : Nat} {i j : Int} (h : Bd a i) (h' : Bd a j) : Bd (a + 1) (i + j) := by
  have h : i.natAbs < 2 ^ a := h
  have h' : j.natAbs < 2 ^ a := h'
  show (i + j).natAbs < 2 ^ (a + 1)
  rw [Nat.pow_succ]
  omega
theorem Bd.neg {a : Nat} {i : Int} (h : Bd a i) : Bd a (-i) := by
  unfold Bd
  rw [Int.natAbs_neg]; exact h
theorem Bd.sub0 {a : Nat} {i : Int} (h : Bd a i) : Bd a (0 - i) := by rw [Int.zero_sub]; exact h.neg
theorem Bd.log {a : Nat} {i : Int} (h : Bd a i) (ha : 0 < a) : i.natAbs.log2 < a := by
  by_cases h0 : i.natAbs = 0
  · rw [h0]; simpa using ha
  · exact (Nat.log2_lt h0).mpr h
theorem Bd.cmul {a b : Nat} {i j : Int} (h : Bd a i) (h' : Bd b j) (ha : 0 < a) (hb : 0 < b) (l : a + b ≤ 1000000) : CMulW i j ∨ CMul i j := by
  have := h.log ha
  have := h'.log hb
  refine .inl ?_
  unfold CMulW
  omega
theorem Bd.of_le {a : Nat} {i j : Int} (h : Bd a j) (l : i.natAbs ≤ j.natAbs) : Bd a i := Nat.lt_of_le_of_lt l h
theorem bd_nat {a : Nat} {i : Int} (h : i.natAbs < 2 ^ a) : Bd a i := h
/-! ### == of one and the same -/
mutual
theorem eqv_refl : ∀ d : PyData, d.canLay0 = true → PyData.eqv d d = true
  | .none, _ => by simp [PyData.eqv]
  | .bool b, _ => by simp [PyData.eqv]
  | .int i, _ => by simp [PyData.eqv]
  | .str x, _ => by simp [PyData.eqv]
  | .list xs, h => by
    simp only [PyData.eqv]
    exact eqvAll_refl xs (canLay_list h)
  | .tuple xs, h => by
    simp only [PyData.eqv]
    exact eqvAll_refl xs (canLay_tuple h)
  | .dict kvs, h => (canLay_dict h).elim
theorem eqvAll_refl : ∀ xs : List PyData, PyData.canLayAll0 xs = true → PyData.eqvAll xs xs = true
  | [], _ => by simp [PyData.eqvAll]
  | x :: xs, h => by
    simp only [PyData.eqvAll, Bool.and_eq_true]
    exact ⟨eqv_refl x (canLay_cons h).1, eqvAll_refl xs (canLay_cons h).2⟩
end
/-- data of ints in rows, three deep at most -/
def flatI : D → Bool
  | .int _ => true
  | _ => false
theorem pyA_ints : ∀ ns : List Int, pyA (ns.map D.int) = ns.map .int
  | [] => rfl
  | n :: r => by simp only [List.map_cons, pyA, D.py, pyA_ints r]
theorem lay_ints : ∀ ns : List Int, PyData.canLayAll0 (ns.map .int) = true
  | [] => by simp [PyData.canLayAll0]
  | n :: r => by simp only [List.map_cons, PyData.canLayAll0, PyData.canLay0, lay_ints r, Bool.and_self]
theorem depth_ints' : ∀ xs : List Int, PyData.depthAll (xs.map .int) ≤ 1
  | [] => by simp [PyData.depthAll]
  | x :: xs => by
    have := depth_ints' xs
    simp only [List.map_cons, PyData.depthAll, PyData.depth]
    omega
end L3
/-! zip of any number of lists, at the library's level -/
namespace L3Z
open PySem PySem.Spec
abbrev zipO (f0 f1 : Value) (TI TO : Addr) : Obj := { cls := .type "zip", dict := none, data := .fields #[f0, f1, .bool false, .ref TI, .ref TO], slots := #[] }
abbrev tupO (vs : List Value) : Obj := { cls := .type "tuple", data := .seq vs.toArray }
/-- the addresses stand apart -/
structure Ap (z TI TO : Addr) (its ls : List Addr) : Prop where
  zTI : z ≠ TI
  zTO : z ≠ TO
  TT : TI ≠ TO
  zi : z ∉ its
  Ti : TI ∉ its
  Oi : TO ∉ its
  nd : its.Nodup
  li : ∀ l ∈ ls, l ∉ its ∧ l ≠ z ∧ l ≠ TO
  len : its.length = ls.length
structure ZipS (h : Heap) (z TI TO : Addr) (its ls : List Addr) (i : Nat) (f0 f1 : Value) : Prop where
  hz : h.get? z = some (zipO f0 f1 TI TO)
  hTI : h.get? TI = some (tupO (its.map Value.ref))
  hTO : ∃ vs : List Value, vs.length = its.length ∧ h.get? TO = some (tupO vs)
  it : ∀ (k : Nat) (a l : Addr), its[k]? = some a → ls[k]? = some l → h.IsListIter a l i
/-- the i-th items of the lists -/
structure Row (h : Heap) (ls : List Addr) (i : Nat) (vals : List Value) : Prop where
  len : vals.length = ls.length
  at_ : ∀ (k : Nat) (l : Addr), ls[k]? = some l → ∃ xs v, h.IsList l xs ∧ xs[i]? = some v ∧ vals[k]? = some v
/-- j of them have been asked -/
structure Dr (h0 h : Heap) (M : List Addr) (its ls : List Addr) (i j : Nat) : Prop where
  lo : ∀ (k : Nat) (a l : Addr), its[k]? = some a → ls[k]? = some l → k < j → h.IsListIter a l (i + 1)
  hi : ∀ (k : Nat) (a l : Addr), its[k]? = some a → ls[k]? = some l → j ≤ k → h.IsListIter a l i
  rest : ∀ c o, c ∉ its → c ∉ M → h0.get? c = some o → h.get? c = some o
  size : h.objs.size = h0.objs.size
section
variable {prog : Program} {w : World} {A : Around} {E : Value → Shared → Prop} {s : Shared}
theorem iter_other {h h' : Heap} {a b l : Addr} {i : Nat} (x : h.IsListIter b l i) (sb : Heap.SameBut a h h') (n : b ≠ a) : h'.IsListIter b l i := x.at fun o e => (sb.2 b n).trans e
/-- the next one asked -/
theorem Dr.step {h0 h h' : Heap} {M : List Addr} {a l : Addr} {its ls : List Addr} {i j : Nat} (d : Dr h0 h M its ls i j) (nd : its.Nodup) (ha : its[j]? = some a) (hl : ls[j]? = some l) (hi : h'.IsListIter a l (i + 1)) (sb : Heap.SameBut a h h') : Dr h0 h' M its ls i (j + 1) := by
  have ne : ∀ (k : Nat) (b : Addr), its[k]? = some b → k ≠ j → b ≠ a := fun k b hb hk e => hk (by
    subst e
    obtain ⟨h1, h2⟩ := List.getElem?_eq_some_iff.mp hb
    obtain ⟨h3, h4⟩ := List.getElem?_eq_some_iff.mp ha
    exact (List.getElem_inj nd).mp (h2.trans h4.symm))
  refine ⟨fun k b m hb hm hk => ?_, fun k b m hb hm hk => iter_other (d.hi k b m hb hm (by omega)) sb (ne k b hb (by omega)), fun c o h1 h2 e => ?_, by rw [sb.1]; exact d.size⟩
  · by_cases e : k = j
    · subst e
      rw [ha] at hb
      rw [hl] at hm
      cases hb
      cases hm
      exact hi
    · exact iter_other (d.lo k b m hb hm (by omega)) sb (ne k b hb e)
  · have hca : c ≠ a := fun z => h1 (by rw [z]; exact List.mem_of_getElem? ha)
    exact (sb.2 c hca).trans (d.rest c o h1 h2 e)
theorem take_step {α : Type} {l : List α} {j : Nat} {x : α} (h : l[j]? = some x) : l.take (j + 1) = l.take j ++ [x] := by
  rw [List.take_add_one, h]; rfl
/-- asked while the tuple handed out last is still there -/
theorem next_kept {z TI TO : Addr} {its ls : List Addr} {i : Nat} {vals : List Value} {Q : Value → Shared → Prop} (ap : Ap z TI TO its ls) (h : ∀ (k : Nat) (a l : Addr), its[k]? = some a → ls[k]? = some l → s.heap.IsListIter a l i) (row : Row s.heap ls i vals) (hz : vals.length ≤ sizeLine)
    (hQ : ∀ h', Dr s.heap h' [] its ls i its.length → Q (.ref s.heap.objs.size) { s with heap := h'.push (tupO vals) }) {f : Value → Option Fin × Array Value → Sem (ForInStep (Option Fin × Array Value))} {g : Option Fin × Array Value → Sem Fin}
    (hf : ∀ a b (Q : ForInStep (Option Fin × Array Value) → Shared → Prop) (s : Shared), wpAny (model prog w) A (Builtin.SmallTypes.nextOf (.ref a)) (fun x s' => Q (.yield (none, b.2.push x)) s') E s → wpAny (model prog w) A (f (.ref a) b) Q E s)
    (hg : ∀ xs (Q : Fin → Shared → Prop) (s : Shared), wpAny (model prog w) A (newTuple xs) (fun v s' => Q (.done (.ret v)) s') E s → wpAny (model prog w) A (g (none, xs.toArray)) Q E s) :
    wpAny (model prog w) A (forIn (its.map Value.ref).toArray (none, (#[] : Array Value)) f >>= g) (fun fin s' => ∃ v, fin = .done (.ret v) ∧ Q v s') E s := by
  refine wpAny_bind (wpAny_forIn_array' f (fun rest b s' => ∃ j h', s' = { s with heap := h' } ∧ rest = (its.drop j).map Value.ref ∧ j ≤ its.length ∧ b = (none, (vals.take j).toArray) ∧ Dr s.heap h' [] its ls i j) _ ?_ ?_ _ _ ⟨0, s.heap, rfl, by simp, Nat.zero_le _, by simp, ⟨fun _ _ _ _ _ hk => absurd hk (by omega), fun k a l h1 h2 _ => h k a l h1 h2, fun _ _ _ _ e => e, rfl⟩⟩)
  · rintro x rest b s' ⟨j, h', rfl, hr, hj, rfl, d⟩
    have hjl : j < its.length := by
      refine Decidable.byContradiction fun hn => ?_
      rw [List.drop_eq_nil_of_le (by omega)] at hr
      cases hr
    rw [List.drop_eq_getElem_cons hjl, List.map_cons] at hr
    obtain ⟨rfl, rfl⟩ := List.cons.inj hr
    have ha : its[j]? = some its[j] := List.getElem?_eq_getElem hjl
    have hjl2 : j < ls.length := by rw [← ap.len]; exact hjl
    have hl : ls[j]? = some ls[j] := List.getElem?_eq_getElem hjl2
    obtain ⟨xs, v, hxs, hv, hvals⟩ := row.at_ j ls[j] hl
    obtain ⟨l1, l2, l3⟩ := ap.li ls[j] (List.getElem_mem hjl2)
    have hxs' : h'.IsList ls[j] xs := hxs.at fun o e => d.rest _ o l1 (by simp) e
    refine hf _ _ _ _ (wpAny_nextOf_list_item (s := { s with heap := h' }) (d.hi j _ _ ha hl (Nat.le_refl _)) hxs' hv fun h2 hi sb => ?_)
    refine ⟨j + 1, h2, rfl, rfl, hjl, ?_, d.step ap.nd ha hl hi sb⟩
    rw [take_step hvals]
    simp
  · rintro b s' ⟨j, h', rfl, hr, hj, rfl, d⟩
    have hjl : j = its.length := by
      have e := congrArg List.length hr
      rw [List.length_map, List.length_drop, List.length_nil] at e
      omega
    subst hjl
    have e : vals.take its.length = vals := by rw [ap.len, ← row.len, List.take_length]
    rw [e]
    refine hg vals _ _ (wpAny_newTuple ⟨_, rfl, ?_⟩ hz)
    show Q (.ref h'.objs.size) { s with heap := h'.push (tupO vals) }
    rw [d.size]
    exact hQ h' d
theorem Dr.other {h0 h h' : Heap} {M : List Addr} {c : Addr} {its ls : List Addr} {i j : Nat} (d : Dr h0 h M its ls i j) (hc : c ∉ its) (hc2 : c ∈ M) (sb : Heap.SameBut c h h') : Dr h0 h' M its ls i j := by
  have ne : ∀ (k : Nat) (b : Addr), its[k]? = some b → b ≠ c := fun k b hb e => hc (by rw [← e]; exact List.mem_of_getElem? hb)
  refine ⟨fun k b m hb hm hk => iter_other (d.lo k b m hb hm hk) sb (ne k b hb), fun k b m hb hm hk => iter_other (d.hi k b m hb hm hk) sb (ne k b hb), fun x o h1 h2 e => ?_, by rw [sb.1]; exact d.size⟩
  have hx : x ≠ c := fun z => h2 (by rw [z]; exact hc2)
  exact (sb.2 x hx).trans (d.rest x o h1 h2 e)
theorem Row.at {h h' : Heap} {ls : List Addr} {i : Nat} {vals : List Value} (r : Row h ls i vals) (k : ∀ l ∈ ls, ∀ o, h.get? l = some o → h'.get? l = some o) : Row h' ls i vals :=
  ⟨r.len, fun j l hl => by
    obtain ⟨xs, v, h1, h2, h3⟩ := r.at_ j l hl
    exact ⟨xs, v, h1.at fun o e => k l (List.mem_of_getElem? hl) o e, h2, h3⟩⟩
def Owned (f0 : Value) : Prop := f0 = .none ∨ ∃ T : Nat, f0 = rawInt T
/-- what is behind a turn -/
structure Turned (h0 h' : Heap) (z TI TO : Addr) (its ls : List Addr) (i : Nat) (vals : List Value) : Prop where
  zip : ∃ f0 f1, Owned f0 ∧ ZipS h' z TI TO its ls (i + 1) f0 f1
  new : h'.get? h0.objs.size = some (tupO vals)
  size : h'.objs.size = h0.objs.size + 1
  rest : ∀ c o, c ∉ its → c ≠ z → c ≠ TO → h0.get? c = some o → h'.get? c = some o
end
end L3Z
namespace L3Z
open PySem PySem.Spec
section
variable {prog : Program} {w : World} {A : Around} {E : Value → Shared → Prop} {s : Shared}
theorem upd_tup {TO : Addr} {vs : List Value} {k : Nat} {x : Value} {Q : Unit → Shared → Prop} (h : s.heap.get? TO = some (tupO vs)) (hz : vs.length ≤ sizeLine) (q : ∀ h', h'.get? TO = some (tupO (vs.set k x)) → Heap.SameBut TO s.heap h' → Q () { s with heap := h' }) :
    wpAny (model prog w) A (updateSeq TO (·.setIfInBounds k x)) Q E s := by
  refine wpAny_updateSeq h rfl (q _ ?_ (Heap.SameBut.update ..)) (by rw [List.size_toArray]; exact hz) (by rw [Array.size_setIfInBounds, List.size_toArray]; omega)
  rw [Heap.get?_update_self _ h rfl]
  simp [Obj.mapSeq]
/-- whether the tuple handed out last may be filled again -/
theorem owned_free {z TI TO : Addr} {f0 f1 : Value} (hf0 : Owned f0) (hz : s.heap.get? z = some (zipO f0 f1 TI TO)) {Q : Bool → Shared → Prop} (h1 : Q true s) (h2 : ∀ h' f1', h'.get? z = some (zipO f0 f1' TI TO) → Heap.SameBut z s.heap h' → Q false { s with heap := h' }) : wpAny (model prog w) A (Builtin.SmallTypes.ownedTupleIsFree (.ref z)) Q E s := by
  unfold Builtin.SmallTypes.ownedTupleIsFree
  refine wpAny_bind (wpAny_field hz rfl (x := f0) rfl ?_)
  rcases hf0 with rfl | ⟨T, rfl⟩
  · exact wpAny_pure h1
  · show wpAny _ _ (loadIfAlive T >>= _) _ _ _
    refine wpAny_bind (fun Γ p _ => ?_)
    show wpAny (model prog w) A (if (s.heap.get? T).isNone = true then pure true else _) Q E s
    cases hT : s.heap.get? T with
    | none => exact wpAny_pure h1
    | some o =>
      have tail : wpAny (model prog w) A (do
          let __do_lift ← field (Value.ref z) 1
          have __do_jp : Unit → Sem Bool := fun __r => pure false
          if (__do_lift != Value.bool true) = true then do
              let __r ← setField (Value.ref z) 1 (Value.bool true)
              __do_jp __r
            else __do_jp ()) Q E s := by
        refine wpAny_bind (wpAny_field hz rfl (x := f1) rfl ?_)
        by_cases hb : (f1 != Value.bool true) = true
        · rw [if_pos hb]
          exact wpAny_bind (wpAny_setField_rec hz (by simp) fun h' hz' sb => wpAny_pure (h2 h' _ hz' sb))
        · rw [if_neg hb]
          exact wpAny_pure (h2 s.heap f1 hz ⟨rfl, fun _ _ => rfl⟩)
      exact tail
theorem zipN_item {z TI TO : Addr} {its ls : List Addr} {i : Nat} {f0 f1 : Value} {vals : List Value} {Q : Value → Shared → Prop} (ap : Ap z TI TO its ls) (hf0 : Owned f0) (zs : ZipS s.heap z TI TO its ls i f0 f1) (row : Row s.heap ls i vals) (hz : vals.length ≤ sizeLine) (hne : its ≠ [])
    (hQ : ∀ h', Turned s.heap h' z TI TO its ls i vals → Q (.ref s.heap.objs.size) { s with heap := h' }) :
    wpAny (model prog w) A (Builtin.«zip.__next__» ⟨[.ref z], []⟩) (fun fin s' => ∃ v, fin = .done (.ret v) ∧ Q v s') E s := by
  obtain ⟨h1, hTI, ⟨vs, hv, hTO⟩, hit⟩ := id zs
  have vl : vals.length = its.length := by rw [row.len, ap.len]
  have he : (its.map Value.ref).toArray.isEmpty = false := by
    cases its with
    | nil => exact (hne rfl).elim
    | cons a r => rfl
  show wpAny _ _ (field (.ref z) 2 >>= _) _ _ _
  refine wpAny_bind (wpAny_field h1 rfl (x := .bool false) rfl ?_)
  show wpAny _ _ (field (.ref z) 3 >>= _) _ _ _
  refine wpAny_bind (wpAny_field h1 rfl (x := .ref TI) rfl ?_)
  refine wpAny_bind (wpAny_seqItems hTI rfl ?_)
  dsimp only
  rw [he]
  rw [if_neg Bool.false_ne_true]
  show wpAny _ _ (Builtin.SmallTypes.ownedTupleIsFree (.ref z) >>= _) _ _ _
  refine wpAny_bind (owned_free hf0 h1 ?_ fun h2 f1' hz2 sb2 => ?_)
  · rw [if_pos rfl]
    refine wpAny_bind (wpAny_rule ?_)
    refine wpAny_bind (wpAny_field h1 rfl (x := .ref TO) rfl ?_)
    refine wpAny_bind (wpAny_setField_rec h1 (by simp) fun h2 hz2 sb2 => ?_)
    have hz2 : h2.get? z = some (zipO .ellipsis f1 TI TO) := hz2
    refine wpAny_bind (wpAny_forIn_list _ (fun rest b s' => ∃ j h' vs', s' = { s with heap := h' } ∧ rest = ((its.map Value.ref).zipIdx).drop j ∧ j ≤ its.length ∧ b = (none, ()) ∧ Dr s.heap h' [z, TO] its ls i j ∧ h'.get? z = some (zipO .ellipsis f1 TI TO) ∧ h'.get? TO = some (tupO vs') ∧ vs'.length = its.length ∧ ∀ k, k < j → vs'[k]? = vals[k]?) _ ?_ ?_ _ _
      ⟨0, h2, vs, rfl, by simp, Nat.zero_le _, rfl, Dr.other ⟨fun _ _ _ _ _ hk => absurd hk (by omega), fun k a l q1 q2 _ => hit k a l q1 q2, fun _ _ _ _ e => e, rfl⟩ ap.zi (by simp) sb2, hz2, (sb2.2 TO ap.zTO.symm).trans hTO, hv, fun _ hk => absurd hk (by omega)⟩)
    · rintro x rest b s' ⟨j, h', vs', rfl, hr, hj, rfl, d, hz', hTO', hv', hk'⟩
      have hlen : ((its.map Value.ref).zipIdx).length = its.length := by rw [List.length_zipIdx, List.length_map]
      have hjl : j < its.length := by
        refine Decidable.byContradiction fun hn => ?_
        rw [List.drop_eq_nil_of_le (by omega)] at hr
        cases hr
      rw [List.drop_eq_getElem_cons (by omega)] at hr
      obtain ⟨rfl, rfl⟩ := List.cons.inj hr
      have ex : ((its.map Value.ref).zipIdx)[j]'(by omega) = (Value.ref its[j], j) := by simp
      rw [ex]
      have ha : its[j]? = some its[j] := List.getElem?_eq_getElem hjl
      have hjl2 : j < ls.length := by rw [← ap.len]; exact hjl
      have hl : ls[j]? = some ls[j] := List.getElem?_eq_getElem hjl2
      obtain ⟨xs, v, hxs, hv2, hvals⟩ := row.at_ j ls[j] hl
      obtain ⟨l1, l2, l3⟩ := ap.li ls[j] (List.getElem_mem hjl2)
      have hxs' : h'.IsList ls[j] xs := hxs.at fun o e => d.rest _ o l1 (by simp [l2, l3]) e
      refine wpAny_bind (wpAny_onRaise ?_)
      show wpAny _ _ (Builtin.SmallTypes.nextOf (.ref its[j]) >>= _) _ _ _
      refine wpAny_bind (wpAny_nextOf_list_item (s := { s with heap := h' }) (d.hi j _ _ ha hl (Nat.le_refl _)) hxs' hv2 fun h3 hi3 sb3 => wpAny_pure ?_)
      have nO : TO ≠ its[j] := fun e => ap.Oi (by rw [e]; exact List.getElem_mem hjl)
      have nz : z ≠ its[j] := fun e => ap.zi (by rw [e]; exact List.getElem_mem hjl)
      have hTO3 : h3.get? TO = some (tupO vs') := (sb3.2 TO nO).trans hTO'
      have d3 := d.step ap.nd ha hl hi3 sb3
      refine wpAny_bind (wpAny_seqItems hTO3 rfl (wpAny_bind (upd_tup (s := { s with heap := h3 }) hTO3 (by omega) fun h4 hTO4 sb4 => wpAny_bind (wpAny_letGo (wpAny_pure ?_)))))
      refine ⟨j + 1, h4, vs'.set j v, rfl, rfl, hjl, rfl, d3.other ap.Oi (by simp) sb4, (sb4.2 z ap.zTO).trans ((sb3.2 z nz).trans hz'), hTO4, by rw [List.length_set]; exact hv', fun k hk => ?_⟩
      by_cases e : k = j
      · subst e
        rw [List.getElem?_set_self (by omega), hvals]
      · rw [List.getElem?_set_ne (by omega)]
        exact hk' k (by omega)
    · rintro b s' ⟨j, h', vs', rfl, hr, hj, rfl, d, hz', hTO', hv', hk'⟩
      have hlen : ((its.map Value.ref).zipIdx).length = its.length := by rw [List.length_zipIdx, List.length_map]
      have hjl : j = its.length := by
        have e := congrArg List.length hr
        rw [List.length_drop, List.length_nil, hlen] at e
        omega
      subst hjl
      have evs : vs' = vals := by
        apply List.ext_getElem?
        intro k
        by_cases hk : k < its.length
        · exact hk' k hk
        · rw [List.getElem?_eq_none_iff.mpr (by omega), List.getElem?_eq_none_iff.mpr (by omega)]
      subst evs
      refine wpAny_bind (wpAny_seqItems hTO' rfl (wpAny_bind (wpAny_newTuple ?_ (by simpa using hz))))
      have hz5 : (h'.push (tupO vs')).get? z = some (zipO .ellipsis f1 TI TO) := Heap.get?_push_of_some _ hz'
      unfold Builtin.SmallTypes.ownedTupleHandOut
      refine wpAny_bind (wpAny_bind (wpAny_setField_rec (s := { s with heap := h'.push (tupO vs') }) hz5 (by simp) fun h6 hz6 sb6 => ?_))
      have hz6 : h6.get? z = some (zipO (rawInt h'.objs.size) f1 TI TO) := hz6
      refine wpAny_setField_rec (s := { s with heap := h6 }) hz6 (by simp) fun h7 hz7 sb7 => ?_
      have hz7 : h7.get? z = some (zipO (rawInt h'.objs.size) (.bool false) TI TO) := hz7
      have up : ∀ c o, c ≠ z → h'.get? c = some o → h7.get? c = some o := fun c o hc e => (sb7.2 c hc).trans ((sb6.2 c hc).trans (Heap.get?_push_of_some _ e))
      have zlt : z < h'.objs.size := Heap.lt_size hz'
      refine wpAny_pure ?_
      refine ⟨_, rfl, ?_⟩
      show Q (.ref h'.objs.size) { s with heap := h7 }
      rw [d.size]
      refine hQ h7 ⟨⟨_, _, .inr ⟨h'.objs.size, rfl⟩, hz7, ?_, ⟨vs', hv', up _ _ ap.zTO.symm hTO'⟩, fun k a l q1 q2 => ?_⟩, ?_, ?_, fun c o q1 q2 q3 e => up c o q2 (d.rest c o q1 (by simp [q2, q3]) e)⟩
      · exact up _ _ ap.zTI.symm (d.rest _ _ ap.Ti (by simp [ap.zTI.symm, ap.TT]) hTI)
      · have hk := (List.getElem?_eq_some_iff.mp q1).1
        have na : a ≠ z := fun e => ap.zi (by rw [← e]; exact List.mem_of_getElem? q1)
        exact (d.lo k a l q1 q2 hk).at fun o e => up a o na e
      · rw [← d.size]
        exact (sb7.2 _ (Nat.ne_of_gt zlt)).trans ((sb6.2 _ (Nat.ne_of_gt zlt)).trans (Heap.get?_push_size _ rfl))
      · rw [sb7.1, sb6.1, ← d.size]
        exact Heap.size_push _ _
  · rw [if_neg Bool.false_ne_true]
    have ne : ∀ (k : Nat) (b : Addr), its[k]? = some b → b ≠ z := fun k b hb e => ap.zi (by rw [← e]; exact List.mem_of_getElem? hb)
    refine next_kept (s := { s with heap := h2 }) (TO := TO) (z := z) (TI := TI) ap (fun k a l q1 q2 => iter_other (hit k a l q1 q2) sb2 (ne k a q1)) (row.at fun l hl o e => (sb2.2 l (ap.li l hl).2.1).trans e) hz (fun h3 d => ?_) (fun a b Q s h => ?_) (fun xs Q s h => ?_)
    · have up : ∀ c o, c ∉ its → h2.get? c = some o → (h3.push (tupO vals)).get? c = some o := fun c o q1 e => Heap.get?_push_of_some _ (d.rest c o q1 (by simp) e)
      have sz : h2.objs.size = s.heap.objs.size := sb2.1
      show Q (.ref h2.objs.size) { s with heap := h3.push (tupO vals) }
      rw [sz]
      refine hQ _ ⟨⟨f0, f1', hf0, up _ _ ap.zi hz2, up _ _ ap.Ti ((sb2.2 TI ap.zTI.symm).trans hTI), ⟨vs, hv, up _ _ ap.Oi ((sb2.2 TO ap.zTO.symm).trans hTO)⟩, fun k a l q1 q2 => ?_⟩, ?_, ?_, fun c o q1 q2 q3 e => up c o q1 ((sb2.2 c q2).trans e)⟩
      · exact (d.lo k a l q1 q2 (List.getElem?_eq_some_iff.mp q1).1).at fun o e => Heap.get?_push_of_some _ e
      · rw [← sz, ← d.size]
        exact Heap.get?_push_size _ rfl
      · rw [← sz, ← d.size]
        exact Heap.size_push _ _
    · refine wpAny_bind (wpAny_holding ?_)
      show wpAny _ _ (Builtin.SmallTypes.nextOf (.ref a) >>= _) _ _ _
      exact wpAny_bind (wpAny_mono h (fun x s' q => wpAny_pure (wpAny_pure q)) fun _ _ q => q)
    · show wpAny _ _ (newTuple xs >>= _) _ _ _
      exact wpAny_bind (wpAny_mono h (fun v s' q => wpAny_pure q) fun _ _ q => q)
end
end L3Z
namespace L3Z
open PySem PySem.Spec
section
variable {prog : Program} {w : World} {A : Around} {E : Value → Shared → Prop} {s : Shared}
theorem zipN_end {z TI TO l : Addr} {its ls : List Addr} {i : Nat} {f0 f1 : Value} {xs : Array Value} {Q : Fin → Shared → Prop} (hh : A.handled = none) (ap : Ap z TI TO its ls) (hf0 : Owned f0) (zs : ZipS s.heap z TI TO its ls i f0 f1) (hl : ls[0]? = some l) (hxs : s.heap.IsList l xs) (hend : xs[i]? = none)
    (hE : ∀ h' e, (∀ c o, c ∉ its → c ≠ z → c ≠ TO → s.heap.get? c = some o → h'.get? c = some o) → (∃ o, h'.get? e = some o ∧ o.cls = .type "StopIteration") → E (.ref e) { s with heap := h' }) :
    wpAny (model prog w) A (Builtin.«zip.__next__» ⟨[.ref z], []⟩) Q E s := by
  obtain ⟨h1, hTI, ⟨vs, hv, hTO⟩, hit⟩ := id zs
  have hlm : l ∈ ls := List.mem_of_getElem? hl
  obtain ⟨l1, l2, l3⟩ := ap.li l hlm
  obtain ⟨a, r, rfl⟩ : ∃ a r, its = a :: r := by
    cases its with
    | nil =>
      have := ap.len
      have h0 := (List.getElem?_eq_some_iff.mp hl).1
      rw [List.length_nil] at this
      omega
    | cons a r => exact ⟨a, r, rfl⟩
  have ha := hit 0 a l rfl hl
  have naz : a ≠ z := fun e => ap.zi (by rw [e]; simp)
  have naO : a ≠ TO := fun e => ap.Oi (by rw [e]; simp)
  have nla : l ≠ a := fun e => l1 (by rw [e]; simp)
  show wpAny _ _ (field (.ref z) 2 >>= _) _ _ _
  refine wpAny_bind (wpAny_field h1 rfl (x := .bool false) rfl ?_)
  show wpAny _ _ (field (.ref z) 3 >>= _) _ _ _
  refine wpAny_bind (wpAny_field h1 rfl (x := .ref TI) rfl ?_)
  refine wpAny_bind (wpAny_seqItems hTI rfl ?_)
  dsimp only
  rw [show ((a :: r).map Value.ref).toArray.isEmpty = false from rfl, if_neg Bool.false_ne_true]
  show wpAny _ _ (Builtin.SmallTypes.ownedTupleIsFree (.ref z) >>= _) _ _ _
  refine wpAny_bind (owned_free hf0 h1 ?_ fun h2 f1' hz2 sb2 => ?_)
  · rw [if_pos rfl]
    refine wpAny_bind (wpAny_rule ?_)
    refine wpAny_bind (wpAny_field h1 rfl (x := .ref TO) rfl ?_)
    refine wpAny_bind (wpAny_setField_rec h1 (by simp) fun h2 hz2 sb2 => ?_)
    refine wpAny_bind ?_
    simp only [List.map_cons, List.zipIdx_cons, List.forIn_cons]
    refine wpAny_bind (wpAny_bind (wpAny_onRaise ?_))
    show wpAny _ _ (Builtin.SmallTypes.nextOf (.ref a) >>= _) _ _ _
    refine wpAny_bind (wpAny_nextOf_list_end hh (s := { s with heap := h2 }) (iter_other ha sb2 naz) (hxs.at fun o e => (sb2.2 l l2).trans e) hend fun h3 e hs3 he => ?_)
    obtain ⟨oe, hoe, hce⟩ := he
    have hz3 : h3.get? z = some (zipO .ellipsis f1 TI TO) := hs3 _ _ naz.symm hz2
    have hez : e ≠ z := fun x => by subst x; rw [hz3] at hoe; cases hoe; simp at hce
    refine wpAny_setField_rec (s := { s with heap := h3 }) hz3 (by simp) fun h4 _ hs4 => hE h4 e (fun c o c1 c2 c3 x => ?_) ⟨oe, (hs4.2 e hez).trans hoe, hce⟩
    exact (hs4.2 c c2).trans (hs3 _ _ (fun y => c1 (by rw [y]; simp)) ((sb2.2 c c2).trans x))
  · rw [if_neg Bool.false_ne_true]
    refine wpAny_bind ?_
    rw [← Array.forIn_toList]
    simp only [List.map_cons, List.forIn_cons]
    refine wpAny_bind (wpAny_bind (wpAny_holding ?_))
    show wpAny _ _ (Builtin.SmallTypes.nextOf (.ref a) >>= _) _ _ _
    refine wpAny_bind (wpAny_nextOf_list_end hh (s := { s with heap := h2 }) (iter_other ha sb2 naz) (hxs.at fun o e => (sb2.2 l l2).trans e) hend fun h3 e hs3 he => ?_)
    exact hE h3 e (fun c o c1 c2 c3 x => hs3 _ _ (fun y => c1 (by rw [y]; simp)) ((sb2.2 c c2).trans x)) he
theorem pyNext_zipN {z TI TO : Addr} {its ls : List Addr} {i : Nat} {f0 f1 : Value} {vals : List Value} {Q : Option Value → Shared → Prop} (ap : Ap z TI TO its ls) (hf0 : Owned f0) (zs : ZipS s.heap z TI TO its ls i f0 f1) (row : Row s.heap ls i vals) (hz : vals.length ≤ sizeLine) (hne : its ≠ [])
    (hQ : ∀ h', Turned s.heap h' z TI TO its ls i vals → Q (some (.ref s.heap.objs.size)) { s with heap := h' }) : wpAny (model prog w) A (pyNext (.ref z)) Q E s := by
  have hT : s.TypeIs (.ref z) "zip" := ⟨_, zs.hz, rfl⟩
  unfold pyNext
  exact wpAny_bind (wpAny_attempt (wpAny_callSpecial?_slot (name := Str.ofString "__next__") hT F.slot_zip_next
    (wpAny_call_entry F.slot_zip_next hT F.entry_zip_next (zipN_item ap hf0 zs row hz hne fun h' t => wpAny_pure (hQ h' t)) (F.args_zip_next_1 _))))
theorem pyNext_zipN_end {z TI TO l : Addr} {its ls : List Addr} {i : Nat} {f0 f1 : Value} {xs : Array Value} {Q : Option Value → Shared → Prop} (hh : A.handled = none) (ap : Ap z TI TO its ls) (hf0 : Owned f0) (zs : ZipS s.heap z TI TO its ls i f0 f1) (hl : ls[0]? = some l) (hxs : s.heap.IsList l xs) (hend : xs[i]? = none)
    (hQ : ∀ h', (∀ c o, c ∉ its → c ≠ z → c ≠ TO → s.heap.get? c = some o → h'.get? c = some o) → Q none { s with heap := h' }) : wpAny (model prog w) A (pyNext (.ref z)) Q E s := by
  have hT : s.TypeIs (.ref z) "zip" := ⟨_, zs.hz, rfl⟩
  unfold pyNext
  refine wpAny_bind (wpAny_attempt (wpAny_callSpecial?_slot (name := Str.ofString "__next__") hT F.slot_zip_next
    (wpAny_call_entry F.slot_zip_next hT F.entry_zip_next (zipN_end hh ap hf0 zs hl hxs hend fun h' e hk he => ?_) (F.args_zip_next_1 _))))
  obtain ⟨o, ho, hc⟩ := he
  exact wpAny_bind (wpAny_isInstance (T := "StopIteration") (b := true) ⟨o, ho, hc⟩ isSubtype_stop (wpAny_pure (hQ _ hk)))
/-! ### zip(..) -/
theorem typeCall_zip (us : List Value) : checkTypeCall "zip" ⟨us, []⟩ = pure () := by kernel_rfl
theorem newCall0 : checkBuiltinCall "zip.__new__" ⟨[.type "zip"], []⟩ = pure () := by kernel_rfl
theorem newCall1 (a0 : Value) : checkBuiltinCall "zip.__new__" ⟨[.type "zip", a0], []⟩ = pure () := by kernel_rfl
theorem newCall2 (a0 a1 : Value) : checkBuiltinCall "zip.__new__" ⟨[.type "zip", a0, a1], []⟩ = pure () := by kernel_rfl
theorem newCall3 (a0 a1 a2 : Value) : checkBuiltinCall "zip.__new__" ⟨[.type "zip", a0, a1, a2], []⟩ = pure () := by kernel_rfl
theorem newCall4 (a0 a1 a2 a3 : Value) : checkBuiltinCall "zip.__new__" ⟨[.type "zip", a0, a1, a2, a3], []⟩ = pure () := by kernel_rfl
theorem newCall5 (a0 a1 a2 a3 a4 : Value) : checkBuiltinCall "zip.__new__" ⟨[.type "zip", a0, a1, a2, a3, a4], []⟩ = pure () := by kernel_rfl
theorem newCall6 (a0 a1 a2 a3 a4 a5 : Value) : checkBuiltinCall "zip.__new__" ⟨[.type "zip", a0, a1, a2, a3, a4, a5], []⟩ = pure () := by kernel_rfl
theorem newCall7 (a0 a1 a2 a3 a4 a5 a6 : Value) : checkBuiltinCall "zip.__new__" ⟨[.type "zip", a0, a1, a2, a3, a4, a5, a6], []⟩ = pure () := by kernel_rfl
theorem newCall8 (a0 a1 a2 a3 a4 a5 a6 a7 : Value) : checkBuiltinCall "zip.__new__" ⟨[.type "zip", a0, a1, a2, a3, a4, a5, a6, a7], []⟩ = pure () := by kernel_rfl
theorem newCall9 (a0 a1 a2 a3 a4 a5 a6 a7 a8 : Value) : checkBuiltinCall "zip.__new__" ⟨[.type "zip", a0, a1, a2, a3, a4, a5, a6, a7, a8], []⟩ = pure () := by kernel_rfl
theorem newCall_zip : ∀ us : List Value, us.length ≤ 9 → checkBuiltinCall "zip.__new__" ⟨.type "zip" :: us, []⟩ = pure ()
  | [], _ => newCall0 
  | [a0], _ => newCall1 a0
  | [a0, a1], _ => newCall2 a0 a1
  | [a0, a1, a2], _ => newCall3 a0 a1 a2
  | [a0, a1, a2, a3], _ => newCall4 a0 a1 a2 a3
  | [a0, a1, a2, a3, a4], _ => newCall5 a0 a1 a2 a3 a4
  | [a0, a1, a2, a3, a4, a5], _ => newCall6 a0 a1 a2 a3 a4 a5
  | [a0, a1, a2, a3, a4, a5, a6], _ => newCall7 a0 a1 a2 a3 a4 a5 a6
  | [a0, a1, a2, a3, a4, a5, a6, a7], _ => newCall8 a0 a1 a2 a3 a4 a5 a6 a7
  | [a0, a1, a2, a3, a4, a5, a6, a7, a8], _ => newCall9 a0 a1 a2 a3 a4 a5 a6 a7 a8
  | _ :: _ :: _ :: _ :: _ :: _ :: _ :: _ :: _ :: _ :: _, h => absurd h (by simp only [List.length_cons]; omega)
theorem initArgs (us : List Value) : argsOk "object.__init__" ⟨us, []⟩ := by
  unfold argsOk; rw [signature?_of (id := "object.__init__") (n := ['_', '_', 't', 'i', 'n', 'i', '_', '_']) (o := ['t', 'c', 'e', 'j', 'b', 'o']) (by kernel_rfl) F.owner_object]; kernel_rfl
end
end L3Z
namespace L3Z
open PySem PySem.Spec
section
variable {prog : Program} {w : World} {A : Around} {E : Value → Shared → Prop} {s : Shared}
def itsAt (n k : Nat) : List Addr := (List.range k).map fun j => n + j
theorem iter_all {ls : List Addr} {Q : List Value → Shared → Prop} (hl : ∀ l ∈ ls, ∃ xs, s.heap.IsList l xs)
    (hQ : ∀ h', h'.objs.size = s.heap.objs.size + ls.length → (∀ (k : Nat) (l : Addr), ls[k]? = some l → h'.IsListIter (s.heap.objs.size + k) l 0) → (∀ c o, s.heap.get? c = some o → h'.get? c = some o) → Q ((itsAt s.heap.objs.size ls.length).map Value.ref) { s with heap := h' }) :
    wpAny (model prog w) A (Builtin.SmallTypes.iterAll (ls.map Value.ref)) Q E s := by
  unfold Builtin.SmallTypes.iterAll
  refine wpAny_bind (wpAny_forIn_list _ (fun rest b s' => ∃ j h', s' = { s with heap := h' } ∧ rest = (ls.drop j).map Value.ref ∧ j ≤ ls.length ∧ b = ((itsAt s.heap.objs.size j).map Value.ref).toArray ∧ h'.objs.size = s.heap.objs.size + j ∧ (∀ (k : Nat) (l : Addr), ls[k]? = some l → k < j → h'.IsListIter (s.heap.objs.size + k) l 0) ∧ (∀ c o, s.heap.get? c = some o → h'.get? c = some o)) _ ?_ ?_ _ _
    ⟨0, s.heap, rfl, by simp, Nat.zero_le _, rfl, rfl, fun _ _ _ hk => absurd hk (by omega), fun _ _ e => e⟩)
  · rintro x rest b s' ⟨j, h', rfl, hr, hj, rfl, hs, hi, hk⟩
    have hjl : j < ls.length := by
      refine Decidable.byContradiction fun hn => ?_
      rw [List.drop_eq_nil_of_le (by omega)] at hr
      cases hr
    rw [List.drop_eq_getElem_cons hjl, List.map_cons] at hr
    obtain ⟨rfl, rfl⟩ := List.cons.inj hr
    obtain ⟨xs, hxs⟩ := hl ls[j] (List.getElem_mem hjl)
    refine wpAny_bind (wpAny_holding (wpAny_pyIter_list (s := { s with heap := h' }) (hxs.at fun o e => hk _ o e) (wpAny_pure ?_)))
    have e : (((itsAt s.heap.objs.size j).map Value.ref).toArray.push (.ref h'.objs.size)) = ((itsAt s.heap.objs.size (j + 1)).map Value.ref).toArray := by
      unfold itsAt
      rw [List.range_succ, List.map_append, List.map_append, hs]
      simp
    refine ⟨j + 1, _, rfl, rfl, hjl, e, by rw [Heap.size_push, hs]; omega, fun k l hkl hkj => ?_, fun c o q => Heap.get?_push_of_some _ (hk c o q)⟩
    by_cases ek : k = j
    · subst ek
      rw [List.getElem?_eq_getElem hjl] at hkl
      cases hkl
      rw [← hs]
      exact ⟨_, Heap.get?_push_size _ rfl, rfl, rfl⟩
    · exact (hi k l hkl (by omega)).at fun o q => Heap.get?_push_of_some _ q
  · rintro b s' ⟨j, h', rfl, hr, hj, rfl, hs, hi, hk⟩
    have hjl : j = ls.length := by
      have e := congrArg List.length hr
      rw [List.length_map, List.length_drop, List.length_nil] at e
      omega
    subst hjl
    refine wpAny_pure ?_
    have e : ((itsAt s.heap.objs.size ls.length).map Value.ref).toArray.toList = (itsAt s.heap.objs.size ls.length).map Value.ref := by simp
    show Q (((itsAt s.heap.objs.size ls.length).map Value.ref).toArray.toList) _
    rw [e]
    exact hQ h' hs (fun k l hkl => hi k l hkl (List.getElem?_eq_some_iff.mp hkl).1) hk
/-- the zip object that is made -/
structure MadeZ (h0 h' : Heap) (ls : List Addr) : Prop where
  zip : ZipS h' (h0.objs.size + ls.length + 2) (h0.objs.size + ls.length) (h0.objs.size + ls.length + 1) (itsAt h0.objs.size ls.length) ls 0 .none (.bool false)
  rest : ∀ c o, h0.get? c = some o → h'.get? c = some o
  size : h'.objs.size = h0.objs.size + ls.length + 3
theorem new_tail {h2 : Heap} {vs vs' : List Value} {Q : Value → Shared → Prop} (hz : vs.length ≤ sizeLine) (hz' : vs'.length ≤ sizeLine)
    (hQ : ∀ h', h'.get? (h2.objs.size + 2) = some (zipO .none (.bool false) h2.objs.size (h2.objs.size + 1)) → h'.get? h2.objs.size = some (tupO vs) → h'.get? (h2.objs.size + 1) = some (tupO vs') → h'.objs.size = h2.objs.size + 3 → (∀ c o, h2.get? c = some o → h'.get? c = some o) → Q (.ref (h2.objs.size + 2)) { s with heap := h' }) :
    wpAny (model prog w) A (do
      let a ← newTuple vs
      let b ← newTuple vs'
      let r ← Builtin.SmallTypes.newRecord (Value.type "zip") (Builtin.SmallTypes.ownedTupleFields ++ [Value.bool false, a, b])
      ret r) (fun fin s' => ∃ v, fin = .done (.ret v) ∧ Q v s') E { s with heap := h2 } := by
  refine wpAny_bind (wpAny_newTuple ?_ hz)
  refine wpAny_bind (wpAny_newTuple ?_ hz')
  unfold Builtin.SmallTypes.newRecord
  refine wpAny_bind (wpAny_newObj_type ?_ (by simp only [sizeOk, Builtin.SmallTypes.ownedTupleFields]; first | decide | (show (5 : Nat) ≤ sizeLine; decide) | (simp; decide)))
  refine wpAny_pure ⟨_, rfl, ?_⟩
  have e1 : (h2.push (tupO vs)).objs.size = h2.objs.size + 1 := Heap.size_push _ _
  have e2 : ((h2.push (tupO vs)).push (tupO vs')).objs.size = h2.objs.size + 2 := (Heap.size_push _ _).trans (by rw [e1])
  show Q (.ref ((h2.push (tupO vs)).push (tupO vs')).objs.size) { s with heap := ((h2.push (tupO vs)).push (tupO vs')).push (zipO .none (.bool false) h2.objs.size (h2.push (tupO vs)).objs.size) }
  have g1 : (((h2.push (tupO vs)).push (tupO vs')).push (zipO .none (.bool false) h2.objs.size (h2.push (tupO vs)).objs.size)).get? ((h2.push (tupO vs)).push (tupO vs')).objs.size = some (zipO .none (.bool false) h2.objs.size (h2.push (tupO vs)).objs.size) := Heap.get?_push_size _ rfl
  have g2 : (((h2.push (tupO vs)).push (tupO vs')).push (zipO .none (.bool false) h2.objs.size (h2.push (tupO vs)).objs.size)).get? (h2.push (tupO vs)).objs.size = some (tupO vs') := Heap.get?_push_of_some _ (Heap.get?_push_size _ rfl)
  have g3 : (((h2.push (tupO vs)).push (tupO vs')).push (zipO .none (.bool false) h2.objs.size (h2.push (tupO vs)).objs.size)).get? h2.objs.size = some (tupO vs) := Heap.get?_push_of_some _ (Heap.get?_push_of_some _ (Heap.get?_push_size _ rfl))
  have g4 : (((h2.push (tupO vs)).push (tupO vs')).push (zipO .none (.bool false) h2.objs.size (h2.push (tupO vs)).objs.size)).objs.size = ((h2.push (tupO vs)).push (tupO vs')).objs.size + 1 := Heap.size_push _ _
  have g5 : ∀ c o, h2.get? c = some o → (((h2.push (tupO vs)).push (tupO vs')).push (zipO .none (.bool false) h2.objs.size (h2.push (tupO vs)).objs.size)).get? c = some o := fun c o e => Heap.get?_push_of_some _ (Heap.get?_push_of_some _ (Heap.get?_push_of_some _ e))
  generalize ((h2.push (tupO vs)).push (tupO vs')).push (zipO .none (.bool false) h2.objs.size (h2.push (tupO vs)).objs.size) = h' at g1 g2 g3 g4 g5 ⊢
  rw [e2] at g1 g4 ⊢
  rw [e1] at g1 g2
  exact hQ h' g1 g3 g2 g4 g5
theorem new_zip {ls : List Addr} {Q : Value → Shared → Prop} (hz : ls.length ≤ sizeLine) (hl : ∀ l ∈ ls, ∃ xs, s.heap.IsList l xs) (hQ : ∀ h', MadeZ s.heap h' ls → Q (.ref (s.heap.objs.size + ls.length + 2)) { s with heap := h' }) :
    wpAny (model prog w) A (Builtin.«zip.__new__» ⟨.type "zip" :: ls.map Value.ref, []⟩) (fun fin s' => ∃ v, fin = .done (.ret v) ∧ Q v s') E s := by
  unfold Builtin.«zip.__new__» Builtin.SmallTypes.newClass
  refine wpAny_bind (wpAny_bind (wpAny_of_eq (a := true) rfl ?_))
  refine wpAny_bind (wpAny_of_eq (a := true) sub_zip ?_)
  refine wpAny_pure ?_
  refine wpAny_bind (iter_all hl fun h2 hs2 hi2 hk2 => ?_)
  have lI : (itsAt s.heap.objs.size ls.length).length = ls.length := by unfold itsAt; rw [List.length_map, List.length_range]
  refine new_tail (h2 := h2) (by rw [List.length_map, lI]; exact hz) (by rw [List.length_map, List.length_map, lI]; exact hz) fun h' g1 g2 g3 g4 g5 => ?_
  rw [hs2] at g1 g2 g3 g4 ⊢
  refine hQ h' ⟨⟨g1, g2, ⟨_, by rw [List.length_map, List.length_map], g3⟩, fun k a l q1 q2 => ?_⟩, fun c o e => g5 c o (hk2 c o e), g4⟩
  unfold itsAt at q1
  rw [List.getElem?_map] at q1
  obtain ⟨j, q3, rfl⟩ := Option.map_eq_some_iff.mp q1
  obtain ⟨q4, q5⟩ := List.getElem?_eq_some_iff.mp q3
  rw [List.getElem_range] at q5
  subst q5
  exact (hi2 k l q2).at fun o e => g5 _ o e
theorem call_zipN {ls : List Addr} {Q : Value → Shared → Prop} (h9 : ls.length ≤ 9) (hl : ∀ l ∈ ls, ∃ xs, s.heap.IsList l xs) (hQ : ∀ h', MadeZ s.heap h' ls → Q (.ref (s.heap.objs.size + ls.length + 2)) { s with heap := h' }) :
    wpAny (model prog w) A (call (.type "zip") (ls.map Value.ref)) Q E s := by
  refine callType_new F.called_zip (by decide) (typeCall_zip _) (newCall_zip _ (by rw [List.length_map]; exact h9)) (fun obj => initArgs _) F.entry_zip_new
    (S := fun _ R s => (∀ l ∈ ls, ∃ xs, s.heap.IsList l xs) ∧ ∀ h', MadeZ s.heap h' ls → R (.ok (.ret (.ref (s.heap.objs.size + ls.length + 2)))) { s with heap := h' })
    (.of_wp fun prog w A R s h => new_zip (Nat.le_trans h9 (by decide)) h.1 h.2) ⟨hl, fun h' m => ?_⟩
  exact ⟨⟨_, m.zip.hz, rfl⟩, hQ h' m⟩
theorem ap_made {n : Nat} {ls : List Addr} (h : ∀ l ∈ ls, l < n) : Ap (n + ls.length + 2) (n + ls.length) (n + ls.length + 1) (itsAt n ls.length) ls := by
  have hi : ∀ a, a ∈ itsAt n ls.length → n ≤ a ∧ a < n + ls.length := fun a ha => by
    unfold itsAt at ha
    obtain ⟨j, hj, rfl⟩ := List.mem_map.mp ha
    have hj := List.mem_range.mp hj
    exact ⟨Nat.le_add_right _ _, Nat.add_lt_add_left hj _⟩
  have big : ∀ k, (n + ls.length + k) ∉ itsAt n ls.length := fun k z => Nat.not_lt.mpr (Nat.le_add_right _ _) (hi _ z).2
  have low : ∀ k, ∀ l ∈ ls, l ≠ n + ls.length + k := fun k l hl e => by
    have h1 := h l hl
    rw [e] at h1
    exact Nat.not_lt.mpr (Nat.le_trans (Nat.le_add_right n _) (Nat.le_add_right _ k)) h1
  have lt : ∀ a b : Nat, a < b → n + ls.length + a ≠ n + ls.length + b := fun a b hab => Nat.ne_of_lt (Nat.add_lt_add_left hab _)
  refine ⟨(lt 0 2 (by decide)).symm, (lt 1 2 (by decide)).symm, lt 0 1 (by decide), big 2, big 0, big 1, ?_, fun l hl => ⟨fun z => ?_, low 2 l hl, low 1 l hl⟩, by unfold itsAt; rw [List.length_map, List.length_range]⟩
  · unfold itsAt
    refine List.Pairwise.map _ (fun a b hab => ?_) List.nodup_range
    intro e
    exact hab (Nat.add_left_cancel e)
  · exact Nat.not_lt.mpr (hi _ z).1 (h l hl)
end
end L3Z
namespace L3
open PySem PySem.Spec PyProof.Rows L2
/-- what zip of the lists at ls walks -/
def ItzN (K : PySem.W.Frag) (ls : List Addr) : It where
  go i H := ∀ l ∈ ls, ∃ xs x, SqL K H l xs ∧ xs[i]? = some x
  yld i H x H' := ∃ T vs, x = V.ref T ∧ H T = none ∧ H' = upd H T (.tup vs) ∧ vs.length = ls.length ∧ ∀ (k : Nat) (l : Addr) (xs : List V), ls[k]? = some l → SqL K H l xs → xs[i]? = vs[k]?
  stop i H := ∃ l xs, ls[0]? = some l ∧ SqL K H l xs ∧ xs.length ≤ i
theorem row_of {X : Cx} {pins : List (Addr × Obj)} {s : Shared} {σ : L2.St} {H : Hp} {ls : List Addr} {i : Nat} (I : Inv X pins σ H s) (g : ∀ l ∈ ls, ∃ xs x, SqL X.K H l xs ∧ xs[i]? = some x) :
    ∃ (vs : List V) (us : List Value), Vals vs us ∧ L3Z.Row s.heap ls i us ∧ vs.length = ls.length ∧ ∀ (k : Nat) (l : Addr) (xs : List V), ls[k]? = some l → SqL X.K H l xs → xs[i]? = vs[k]? := by
  induction ls with
  | nil => exact ⟨[], [], .nil, ⟨rfl, fun k l h => by simp at h⟩, rfl, fun k l xs h => by simp at h⟩
  | cons l r ih =>
    obtain ⟨vs, us, h1, h2, h3, h4⟩ := ih fun m hm => g m (by simp [hm])
    obtain ⟨xs, x, hq, hx⟩ := g l (by simp)
    obtain ⟨its, rv, p, hz⟩ := I.list hq
    obtain ⟨u, hu, ru⟩ := rv.get hx
    refine ⟨x :: vs, u :: us, .cons ru h1, ⟨by rw [List.length_cons, List.length_cons, h2.len], fun k m hm => ?_⟩, by rw [List.length_cons, List.length_cons, h3], fun k m ys hm hys => ?_⟩
    · cases k with
      | zero =>
        have e : l = m := Option.some.inj hm
        subst e
        exact ⟨its.toArray, u, p.isList, by simpa using hu, rfl⟩
      | succ k =>
        obtain ⟨ys, v, a1, a2, a3⟩ := h2.at_ k m (by simpa using hm)
        exact ⟨ys, v, a1, a2, by simpa using a3⟩
    · cases k with
      | zero =>
        have e : l = m := Option.some.inj hm
        subst e
        rw [I.list_inj hys hq]
        simpa using hx
      | succ k =>
        have := h4 k m ys (by simpa using hm) hys
        simpa using this
def fpZ (z TI TO : Addr) (its : List Addr) : List Addr := z :: TI :: TO :: its
theorem turn_zipN {P : Program} {w : World} {K : PySem.W.Frag} {x : Str} {tp : Pos} {z TI TO : Addr} {its ls : List Addr} (ap : L3Z.Ap z TI TO its ls) (hne : its ≠ []) (hls : ls.length ≤ sizeLine) :
    Turn P w K (.Name x tp) (ItzN K ls) (fpZ z TI TO its) z (fun i h => ∃ f0 f1, L3Z.Owned f0 ∧ L3Z.ZipS h z TI TO its ls i f0 f1) where
  mem := by simp [fpZ]
  obj := fun i h ⟨f0, f1, _, zs⟩ b hb => by
    have hb : b = z ∨ b = TI ∨ b = TO ∨ b ∈ its := by simpa [fpZ] using hb
    rcases hb with rfl | rfl | rfl | hb
    · exact ⟨_, zs.hz, fun v e => by cases e⟩
    · exact ⟨_, zs.hTI, fun v e => by cases e⟩
    · obtain ⟨vs, _, h⟩ := zs.hTO
      exact ⟨_, h, fun v e => by cases e⟩
    · obtain ⟨k, hk⟩ := List.getElem?_of_mem hb
      have hkl : k < ls.length := by rw [← ap.len]; exact (List.getElem?_eq_some_iff.mp hk).1
      obtain ⟨o, e, c, d⟩ := zs.it k b ls[k] hk (List.getElem?_eq_getElem hkl)
      exact ⟨o, e, fun v z => by rw [d] at z; cases z⟩
  keep := fun i h h' ⟨f0, f1, ho, zs⟩ k => by
    refine ⟨f0, f1, ho, k z (by simp [fpZ]) _ zs.hz, k TI (by simp [fpZ]) _ zs.hTI, ?_, fun j a l q1 q2 => ?_⟩
    · obtain ⟨vs, hv, h⟩ := zs.hTO
      exact ⟨vs, hv, k TO (by simp [fpZ]) _ h⟩
    · exact (zs.it j a l q1 q2).at fun o e => k a (by simp [fpZ, List.mem_of_getElem? q1]) o e
  item := by
    intro X hP hw hK hc i pins s σ H E I hf ⟨f0, f1, ho, zs⟩ hg
    subst hP hw hK
    obtain ⟨vs, us, rv, row, hl, hv⟩ := row_of I hg
    refine L3Z.pyNext_zipN ap ho zs row (by rw [row.len]; exact hls) hne fun h' t => ⟨_, rfl, ?_⟩
    unfold letOwnedTupleGo
    refine wpAny_pure ?_
    have hn : H s.heap.objs.size = none := I.hok.fresh (Nat.le_refl _)
    -- every object but the iterator's own is kept
    have kp : ∀ b o, b ∉ fpZ z TI TO its → s.heap.get? b = some o → h'.get? b = some o := fun b o hb e => by
      have hb : ¬ (b = z ∨ b = TI ∨ b = TO ∨ b ∈ its) := by simpa [fpZ] using hb
      exact t.rest b o (fun q => hb (.inr (.inr (.inr q)))) (fun q => hb (.inl q)) (fun q => hb (.inr (.inr (.inl q)))) e
    have I1 : Inv X pins σ (upd H s.heap.objs.size (.tup vs)) { s with heap := h' } :=
      I.turnedNew (t' := s.toks) (ch := fpZ z TI TO its) kp hf (Nat.le_refl _) ⟨by rw [hl]; exact hls, us, rv, _, t.new, rfl, _, rfl⟩
    obtain ⟨g0, g1, ho', zs'⟩ := t.zip
    refine ⟨.ref s.heap.objs.size, _, I1, rfl, ⟨s.heap.objs.size, vs, rfl, hn, rfl, hl, hv⟩, ⟨g0, g1, ho', zs'⟩, fun b hb => ?_⟩
    have hlt : b < s.heap.objs.size := by
      have hb : b = z ∨ b = TI ∨ b = TO ∨ b ∈ its := by simpa [fpZ] using hb
      rcases hb with rfl | rfl | rfl | hb
      · exact Heap.lt_size zs.hz
      · exact Heap.lt_size zs.hTI
      · obtain ⟨_, _, h⟩ := zs.hTO
        exact Heap.lt_size h
      · obtain ⟨k, hk⟩ := List.getElem?_of_mem hb
        have hkl : k < ls.length := by rw [← ap.len]; exact (List.getElem?_eq_some_iff.mp hk).1
        obtain ⟨o, e, _⟩ := zs.it k b ls[k] hk (List.getElem?_eq_getElem hkl)
        exact Heap.lt_size e
    rw [upd_ne (Nat.ne_of_lt hlt)]
    exact (hf b hb).1
  done := by
    intro X hP hw hK hc i pins s σ H E I hf ⟨f0, f1, ho, zs⟩ hg
    subst hP hw hK
    obtain ⟨l, xs, h0, hq, hx⟩ := hg
    obtain ⟨its', rv, p, hz⟩ := I.list hq
    have hlen := rv.length
    refine L3Z.pyNext_zipN_end (I.ok.hd hc) ap ho zs h0 p.isList (by simp; omega) fun h' hk => ⟨rfl, I.turnedL (t' := s.toks) (ch := fpZ z TI TO its) (fun b o hb e => ?_) hf⟩
    have hb : ¬ (b = z ∨ b = TI ∨ b = TO ∨ b ∈ its) := by simpa [fpZ] using hb
    exact hk b o (fun q => hb (.inr (.inr (.inr q)))) (fun q => hb (.inl q)) (fun q => hb (.inr (.inr (.inl q)))) e
  self := fun A i s Q E ⟨f0, f1, ho, zs⟩ h => by
    have hT : s.TypeIs (.ref z) "zip" := ⟨_, zs.hz, rfl⟩
    refine wpAny_pyIter_slot hT F.slot_zip_iter (wpAny_call_entry F.slot_zip_iter hT F.entry_zip_iter ?_ (F.args_zip_iter_1 _))
    show wpAny _ _ (ret (.ref z)) _ _ s
    exact wpAny_pure ⟨_, rfl, "zip", _, hT, F.slot_zip_next.lookup, h⟩
/-- zip(*rows), rows a list of at most nine lists (one at least) -/
def iZipSN (K : PySem.W.Frag) (te : TE) : TI := fun σ H R => te σ H fun x H1 => ∃ a ls, x = V.ref a ∧ SqL K H1 a (ls.map V.ref) ∧ ls ≠ [] ∧ ls.length ≤ 9 ∧ (∀ l ∈ ls, ∃ xs, SqL K H1 l xs) ∧ R (ItzN K ls) H1
theorem refs_of : ∀ {ls : List Addr} {us : List Value}, Vals (ls.map V.ref) us → us = ls.map Value.ref
  | [], _, .nil => rfl
  | l :: r, _, .cons h t => by
    rw [List.map_cons, ← refs_of t]
    cases h
    rfl
theorem pi_zipS {X : Cx} {e : Expr} {te : TE} {x : Str} {tp p pos sp_ : Pos} (hg : Gl X "zip") (hm : X.mg "zip" = none) (he : PE X e te) (hs : starEach [.Starred e sp_] X.env = [(true, eval e X.env)] := by rfl) :
    PI X (.Name x tp) (.Call (.Name "zip" p) [.Starred e sp_] [] pos) (iZipSN X.K te) := by
  refine ⟨fun pins s σ H R I h => ?_⟩
  refine Call_ (ld_blt I hg hm PyProof.Rows.boot_zip ?_)
  rw [hs]
  refine PySem.W.ks_call (P := fun _ => True) rfl (fun h _ => ⟨_, ?_, PySem.W.Looks.of_pure rfl⟩) (PySem.W.ks_lone (thn (he.run pins s σ H _ I h) fun v s1 ⟨y, H1, I1, ry, a, ls, ey, hq, hne, h9, hl, q⟩ => ?_))
  · first | exact .inl rfl | exact .inr (.inl rfl) | exact .inr (.inr rfl)
  subst ey
  obtain rfl : v = Value.ref a := ry
  refine StX.star_any I1 (.inr hq) fun us s2 I2 rv => ⟨True.intro, ?_⟩
  have eu := refs_of rv
  subst eu
  have islist : ∀ l ∈ ls, ∃ xs, s2.heap.IsList l xs := fun l hlm => by
    obtain ⟨xs, hx⟩ := hl l hlm
    obtain ⟨its, _, pl, _⟩ := I2.list hx
    exact ⟨_, pl.isList⟩
  have lt : ∀ l ∈ ls, l < s2.heap.objs.size := fun l hlm => by
    obtain ⟨xs, o, ho, _⟩ := islist l hlm
    exact Heap.lt_size ho
  show wpAny _ _ (call (.type "zip") ([] ++ ls.map Value.ref)) _ _ s2
  rw [List.nil_append]
  refine L3Z.call_zipN h9 islist fun h' mz => ?_
  have hne2 : L3Z.itsAt s2.heap.objs.size ls.length ≠ [] := fun e => hne (by
    have := congrArg List.length e
    unfold L3Z.itsAt at this
    rw [List.length_map, List.length_range, List.length_nil] at this
    exact List.eq_nil_of_length_eq_zero this)
  have ap := L3Z.ap_made (n := s2.heap.objs.size) lt
  have T := turn_zipN (P := X.prog) (w := X.w) (K := X.K) (x := x) (tp := tp) ap hne2 (Nat.le_trans h9 (by decide))
  have I3 : Inv X pins σ H1 { s2 with heap := h' } := I2.kept (t' := s2.toks) mz.rest
  refine T.self X.A 0 _ _ _ ⟨_, _, .inl rfl, mz.zip⟩ ⟨_, _, _, _, H1, rfl, I3, T, ⟨_, _, .inl rfl, mz.zip⟩, fun b hb => ?_, q⟩
  have hle : s2.heap.objs.size ≤ b := by
    have hb : b = s2.heap.objs.size + ls.length + 2 ∨ b = s2.heap.objs.size + ls.length ∨ b = s2.heap.objs.size + ls.length + 1 ∨ b ∈ L3Z.itsAt s2.heap.objs.size ls.length := by simpa [fpZ] using hb
    rcases hb with rfl | rfl | rfl | hb
    · exact Nat.le_trans (Nat.le_add_right _ _) (Nat.le_add_right _ _)
    · exact Nat.le_add_right _ _
    · exact Nat.le_trans (Nat.le_add_right _ _) (Nat.le_add_right _ _)
    · unfold L3Z.itsAt at hb
      obtain ⟨j, _, rfl⟩ := List.mem_map.mp hb
      exact Nat.le_add_right _ _
  exact I2.fpOk hle (I2.hok.fresh hle)
end L3
/-! L3: zip(*rows) over data -/
namespace L3
open PySem PySem.Spec PyProof.Rows L2
def rowsD : List D → Option (List (List D))
  | [] => some []
  | .lst ds :: r => (rowsD r).map (ds :: ·)
  | _ :: _ => none
def lenOf (xss : List (List D)) : Nat := (xss.head?.getD []).length
/-- the i-th things of all rows -/
def colD (i : Nat) (xss : List (List D)) : List D := xss.filterMap fun r => r[i]?
def zipD (xss : List (List D)) : List D := (List.range (lenOf xss)).map fun i => .tup (colD i xss)
def iZipS (te : E3) : I3 := fun ρ k x => te ρ (fun d ρ' => match d with | .lst rows => optK (rowsD rows) fun xss => (xss ≠ [] ∧ xss.length ≤ 9 ∧ ∀ r ∈ xss, r.length = lenOf xss) ∧ k (zipD xss) ρ' | _ => False) x
abbrev RowsRep (pn : Option Addr) (H0 : Hp) : List Addr → List (List D) → Prop := Paired fun l ds => ∃ ys, H0 l = some (.lst ys) ∧ RepA pn H0 ys ds
theorem rows_rep {pn : Option Addr} {H0 : Hp} : ∀ {vs : List V} {rows : List D} {xss : List (List D)}, RepA pn H0 vs rows → rowsD rows = some xss → ∃ ls, vs = ls.map V.ref ∧ RowsRep pn H0 ls xss
  | _, _, xss, .nil, h => by cases h; exact ⟨[], rfl, .nil⟩
  | _, _, xss, .cons (d := d) r t, h => by
    cases d with
    | lst ds =>
      simp only [rowsD, Option.map_eq_some_iff] at h
      obtain ⟨yss, h1, rfl⟩ := h
      obtain ⟨ls, rfl, h2⟩ := rows_rep t h1
      cases r with
      | @lst a ys _ ha ra => exact ⟨a :: ls, rfl, .cons ⟨ys, ha, ra⟩ h2⟩
    | _ => cases h
theorem rows_mono {pn : Option Addr} {H0 H0' : Hp} (s : Same H0 H0') : ∀ {ls : List Addr} {xss : List (List D)}, RowsRep pn H0 ls xss → RowsRep pn H0' ls xss
  | _, _, .nil => .nil
  | _, _, .cons ⟨ys, h1, h2⟩ t => .cons ⟨ys, s _ _ h1, h2.mono s⟩ (rows_mono s t)
theorem rows_len {pn : Option Addr} {H0 : Hp} : ∀ {ls : List Addr} {xss : List (List D)}, RowsRep pn H0 ls xss → ls.length = xss.length
  | _, _, .nil => rfl
  | _, _, .cons _ t => by rw [List.length_cons, List.length_cons, rows_len t]
theorem rows_mem {pn : Option Addr} {H0 : Hp} : ∀ {ls : List Addr} {xss : List (List D)} {l : Addr}, RowsRep pn H0 ls xss → l ∈ ls → ∃ ds ∈ xss, ∃ ys, H0 l = some (.lst ys) ∧ RepA pn H0 ys ds
  | _, _, _, .nil, h => by simp at h
  | _, _, l, .cons h t, hm => by
    rcases List.mem_cons.mp hm with rfl | hm
    · exact ⟨_, by simp, h⟩
    · obtain ⟨ds, h1, h2⟩ := rows_mem t hm
      exact ⟨ds, by simp [h1], h2⟩
theorem rows_col {K : PySem.W.Frag} {pn : Option Addr} {H0 H : Hp} {i : Nat} (s : Same H0 H) : ∀ {ls : List Addr} {xss : List (List D)} {vs : List V}, RowsRep pn H0 ls xss → vs.length = ls.length → (∀ (k : Nat) (l : Addr) (xs : List V), ls[k]? = some l → SqL K H l xs → xs[i]? = vs[k]?) → RepA pn H0 vs (colD i xss)
  | _, _, [], .nil, _, _ => .nil
  | _, _, _ :: _, .nil, h, _ => by simp at h
  | _, _, [], .cons _ _, h, _ => by simp at h
  | l :: ls, ds :: xss, v :: vs, .cons ⟨ys, h1, h2⟩ t, hl, h => by
    have e := h 0 l ys rfl (SqL.of (s _ _ h1))
    have e : ys[i]? = some v := e
    obtain ⟨d, hd, rd⟩ := h2.getV e
    have ih := rows_col s (vs := vs) t (by simpa using hl) fun k m xs hm hx => by
      have := h (k + 1) m xs (by simpa using hm) hx
      simpa using this
    unfold colD
    rw [List.filterMap_cons, hd]
    exact .cons rd ih
theorem walk_zipN {K : PySem.W.Frag} {pn : Option Addr} {H0 : Hp} {ls : List Addr} {xss : List (List D)} (r : RowsRep pn H0 ls xss) (hne : xss ≠ []) (hz : xss.length ≤ 9) (hm : ∀ x ∈ xss, x.length = lenOf xss) : Walk pn (ItzN K ls) H0 (zipD xss) := fun i G H1 ρ σ H hp s R => by
  have r1 := rows_mono s r
  have hl : (zipD xss).length = lenOf xss := by unfold zipD; rw [List.length_map, List.length_range]
  refine ⟨fun d hd => ⟨fun l hlm => ?_, fun x H' y => ?_⟩, fun hi => ?_⟩
  · have hi : i < lenOf xss := by rw [← hl]; exact (List.getElem?_eq_some_iff.mp hd).1
    obtain ⟨ds, h1, ys, h2, h3⟩ := rows_mem r1 hlm
    have hlt : i < ys.length := by rw [h3.length, hm ds h1]; exact hi
    exact ⟨ys, ys[i], SqL.of (R.ex _ _ h2), List.getElem?_eq_getElem hlt⟩
  · obtain ⟨T, vs, rfl, hT, rfl, hv, hat⟩ := y
    have hi : i < lenOf xss := by rw [← hl]; exact (List.getElem?_eq_some_iff.mp hd).1
    have ed : d = .tup (colD i xss) := by
      unfold zipD at hd
      rw [List.getElem?_map, List.getElem?_range hi] at hd
      exact (Option.some.inj hd).symm
    subst ed
    have rc := rows_col (K := K) R.ex (i := i) (vs := vs) r1 hv hat
    have g := Grow.one (H0 := H1) (o := .tup vs) hT
    have s2 := (g.same R.ex).1
    exact ⟨_, s2, g.rel R, .tup upd_same (rc.mono s2)⟩
  · cases r1 with
    | nil => exact (hne rfl).elim
    | @cons l ds ls' xss' h t =>
      obtain ⟨ys, h1, h2⟩ := h
      refine ⟨l, ys, rfl, SqL.of (R.ex _ _ h1), ?_⟩
      rw [h2.length]
      rw [hl] at hi
      exact hi
section
variable {X : Cx} {W : WX} {e : Expr} {te : E3} {x : Str} {tp p pos sp_ : Pos}
theorem izipS (hg : Gl X "zip") (hm : X.mg "zip" = none) (h : P3 X W e te) (hs : starEach [.Starred e sp_] X.env = [(true, eval e X.env)] := by rfl) : P3I X W (.Name x tp) (.Call (.Name "zip" p) [.Starred e sp_] [] pos) (iZipS te) := by
  refine ⟨PI.imp (pi_zipS hg hm h.run hs) fun σ H R ⟨G, ρ, H0, R0, q⟩ => ?_, fun ρ k k' x x' hk hx q => h.mon _ _ _ _ _ (fun d ρ' q => by cases d <;> first | exact optK_mono (fun _ => mon_and (hk _ _)) q | exact q) hx q⟩
  refine ⟨G, ρ, H0, R0, h.mon _ _ _ _ _ (fun d ρ' q v H' H0' s R' r => ?_) (fun _ _ z => z) q⟩
  cases r with
  | @lst a vs rows ha ra =>
    obtain ⟨xss, e1, ⟨hne, h9, hlen⟩, q⟩ := optK_some q
    obtain ⟨ls, rfl, rr⟩ := rows_rep ra e1
    have ll := rows_len rr
    refine ⟨a, ls, rfl, SqL.of (R'.ex _ _ ha), fun z => ?_, by rw [ll]; exact h9, fun l hl => ?_, ?_⟩
    · subst z
      cases rr
      exact hne rfl
    · obtain ⟨ds, _, ys, h1, _⟩ := rows_mem rr hl
      exact ⟨ys, SqL.of (R'.ex _ _ h1)⟩
    · exact q _ H' H0' s R' (walk_zipN rr hne h9 hlen)
  | _ => exact q.elim
end
end L3
/-! k16: what the defs promise -/
namespace K16
open PySem PySem.Spec PyProof.Rows L2 L3
abbrev Pt := Int × List Int
def intsD (ns : List Int) : List D := ns.map D.int
def ptD (p : Pt) : D := .tup [.int p.1, .tup (p.2.map D.int)]
def gcdI (p n : Int) : Int := ((Nat.gcd p.natAbs n.natAbs : Nat) : Int)
def absI (q : Int) : Int := if q < 0 then -q else q
def gcdL (q : Int) (ns : List Int) : Int := ns.foldl gcdI (absI q)
def partL (q : Int) (ns : List Int) : Int := if q < 0 then 0 - gcdL q ns else gcdL q ns
def low (q : Int) (ns : List Int) : Pt := (q.fdiv (partL q ns), ns.map fun n => n.fdiv (partL q ns))
def seqD (d : D) (xs : List D) : Prop := d = .lst xs ∨ d = .tup xs
def s_lowest : Sp3 := fun ds T k => ∃ q d ns, ds = [.int q, d] ∧ seqD d (ns.map D.int) ∧ q ≠ 0 ∧ Bd 1900 q ∧ ns.length ≤ 1000 ∧ k (ptD (low q ns)) T
theorem m_s_lowest : mon3 s_lowest := fun ds T k k' f ⟨q, d, ns, h1, h2, h3, h4, h5, h6⟩ => ⟨q, d, ns, h1, h2, h3, h4, h5, f _ _ h6⟩
def s__law_lowest : Sp3 := s_lowest
theorem m_s__law_lowest : mon3 s__law_lowest := m_s_lowest
theorem absI_pos {q : Int} (h : q ≠ 0) : 0 < absI q := by unfold absI; split <;> omega
theorem absI_nat (q : Int) : (absI q).natAbs = q.natAbs := by unfold absI; split <;> omega
theorem absI_eq (q : Int) : absI q = (q.natAbs : Int) := by unfold absI; split <;> omega
theorem gcdI_pos {p n : Int} (h : 0 < p) : 0 < gcdI p n := by
  unfold gcdI
  have : 0 < Nat.gcd p.natAbs n.natAbs := Nat.gcd_pos_of_pos_left _ (by omega)
  omega
theorem gcdI_le {p n : Int} (h : 0 < p) : gcdI p n ≤ p := by
  unfold gcdI
  have : Nat.gcd p.natAbs n.natAbs ≤ p.natAbs := Nat.gcd_le_left _ (by omega)
  omega
theorem foldG_pos : ∀ (ns : List Int) {p : Int}, 0 < p → 0 < ns.foldl gcdI p ∧ ns.foldl gcdI p ≤ p
  | [], p, h => ⟨h, Int.le_refl _⟩
  | n :: r, p, h => by
    have := foldG_pos r (gcdI_pos (n := n) h)
    have := gcdI_le (n := n) h
    show 0 < r.foldl gcdI (gcdI p n) ∧ r.foldl gcdI (gcdI p n) ≤ p
    omega
theorem gcdL_pos {q : Int} {ns : List Int} (h : q ≠ 0) : 0 < gcdL q ns ∧ gcdL q ns ≤ absI q := foldG_pos ns (absI_pos h)
theorem partL_bd {q : Int} {ns : List Int} (h : q ≠ 0) : partL q ns ≠ 0 ∧ (partL q ns).natAbs ≤ q.natAbs := by
  have := gcdL_pos (ns := ns) h
  have := absI_nat q
  unfold partL
  split <;> omega
theorem partL_log {q : Int} {ns : List Int} (h : q ≠ 0) (b : Bd 1900 q) : partL q ns ≠ 0 ∧ (partL q ns).natAbs.log2 < 9000 := by
  have := partL_bd (ns := ns) h
  exact ⟨this.1, Nat.lt_of_lt_of_le ((b.of_le this.2).log (by decide)) (by decide)⟩
def dot (cs ns : List Int) : Int := (List.zipWith (fun c n => c * n) cs ns).sum
def s_value : Sp3 := fun ds T k => ∃ pl p : Pt, ds = [ptD pl, ptD p] ∧ Bd 1000 pl.1 ∧ Bd 1000 p.1 ∧ (∀ c ∈ pl.2, Bd 1000 c) ∧ (∀ c ∈ p.2, Bd 1000 c) ∧ p.2.length ≤ 1000 ∧ k (.int (pl.1 * p.1 + dot pl.2 p.2)) T
theorem m_s_value : mon3 s_value := fun ds T k k' f ⟨a, b, h1, h2, h3, h4, h5, h6, h7⟩ => ⟨a, b, h1, h2, h3, h4, h5, h6, f _ _ h7⟩
def s__law_value : Sp3 := s_value
theorem m_s__law_value : mon3 s__law_value := m_s_value
/-- points: above 0, small, all of m numbers -/
structure Pts (m : Nat) (pts : List Pt) : Prop where
  pos : ∀ p ∈ pts, 0 < p.1
  bq : ∀ p ∈ pts, Bd 210 p.1
  bn : ∀ p ∈ pts, ∀ n ∈ p.2, Bd 210 n
  dim : ∀ p ∈ pts, p.2.length = m
  few : pts.length ≤ 9
/-- a common multiple -/
structure Mul (W : Int) (pts : List Pt) : Prop where
  pos : 0 < W
  dvd : ∀ p ∈ pts, p.1 ∣ W
  bd : Bd (1 + 210 * pts.length) W
def s_whole_of : Sp3 := fun ds T k => ∃ d pts m, ds = [d] ∧ seqD d (pts.map ptD) ∧ Pts m pts ∧ ∀ W, Mul W pts → k (.int W) T
theorem m_s_whole_of : mon3 s_whole_of := fun ds T k k' f ⟨d, p, m, h1, h2, h3, h4⟩ => ⟨d, p, m, h1, h2, h3, fun W q => f _ _ (h4 W q)⟩
/-- in lowest terms -/
def Low (p : Pt) : Prop := gcdL p.1 p.2 = 1
/-- p stands before p' -/
def lt2 (p p' : Pt) : Prop := (p.2.map fun n => n * p'.1) < (p'.2.map fun n => n * p.1)
/-- all points, each once, ascending -/
structure Ord (pts R : List Pt) : Prop where
  mem : ∀ p, p ∈ R ↔ p ∈ pts
  asc : R.Pairwise lt2
def s_in_order : Sp3 := fun ds T k => ∃ d pts m, ds = [d] ∧ seqD d (pts.map ptD) ∧ Pts m pts ∧ 0 < m ∧ m ≤ 1000 ∧ (∀ p ∈ pts, Low p) ∧ ∀ R, Ord pts R → k (.lst (R.map ptD)) T
theorem m_s_in_order : mon3 s_in_order := fun ds T k k' f ⟨d, p, m, h1, h2, h3, h4, h5, h6, h7⟩ => ⟨d, p, m, h1, h2, h3, h4, h5, h6, fun W q => f _ _ (h7 W q)⟩
def s__law_by_order : Sp3 := s_in_order
theorem m_s__law_by_order : mon3 s__law_by_order := m_s_in_order
def scaled (W : Int) (p : Pt) : List Int := p.2.map fun n => n * (W.fdiv p.1)
/-- the sums of the rows, place by place -/
def cols (m : Nat) (rows : List (List Int)) : List Int := (List.range m).map fun j => (rows.map fun r => r.getD j 0).sum
def s_middle : Sp3 := fun ds T k => ∃ d pts m, ds = [d] ∧ seqD d (pts.map ptD) ∧ Pts m pts ∧ m ≤ 1000 ∧ pts ≠ [] ∧ ∀ W, Mul W pts → k (ptD (low (W * pts.length) (cols m (pts.map (scaled W))))) T
theorem m_s_middle : mon3 s_middle := fun ds T k k' f ⟨d, p, m, h1, h2, h3, h4, h5, h6⟩ => ⟨d, p, m, h1, h2, h3, h4, h5, fun W q => f _ _ (h6 W q)⟩
/-! ### drawing -/
def Drawn (many r : Int) : Prop := (many < 2 → r = 0) ∧ (2 ≤ many → 0 ≤ r ∧ r < many)
def s__law_draw : Sp3 := fun ds T k => ∃ many, ds = [.pen, .int many] ∧ T ≤ 1000000 ∧ many.natAbs.log2 < 9000 ∧ ∀ r T', T' ≤ T + 1 → Drawn many r → k (.int r) T'
theorem m_s__law_draw : mon3 s__law_draw := fun ds T k k' f ⟨many, h1, h2, h3, h4⟩ => ⟨many, h1, h2, h3, fun r T' a b => f _ _ (h4 r T' a b)⟩
def s__law_pick : Sp3 := fun ds T k => ∃ xs, ds = [.pen, .lst xs] ∧ T ≤ 1000000 ∧ xs ≠ [] ∧ xs.length ≤ 1000 ∧ ∀ x ∈ xs, ∀ T', T' ≤ T + 1 → k x T'
theorem m_s__law_pick : mon3 s__law_pick := fun ds T k k' f ⟨xs, h1, h2, h3, h4, h5⟩ => ⟨xs, h1, h2, h3, h4, fun x hx T' a => f _ _ (h5 x hx T' a)⟩
def s__law_mixed : Sp3 := fun ds T k => ∃ d xs, ds = [.pen, d] ∧ seqD d xs ∧ T + xs.length ≤ 1000000 ∧ xs.length ≤ 1000 ∧ ∀ ys, ys.Perm xs → ∀ T', T' ≤ T + xs.length → k (.lst ys) T'
theorem m_s__law_mixed : mon3 s__law_mixed := fun ds T k k' f ⟨d, xs, h1, h2, h3, h4, h5⟩ => ⟨d, xs, h1, h2, h3, h4, fun x hx T' a => f _ _ (h5 x hx T' a)⟩
def s__law_gcd : Sp3 := fun ds T k => ∃ a b, ds = [.int a, .int b] ∧ Bd 1900 a ∧ k (.int (gcdI a b)) T
theorem m_s__law_gcd : mon3 s__law_gcd := fun ds T k k' f ⟨a, b, h1, h2, h3⟩ => ⟨a, b, h1, h2, f _ _ h3⟩
end K16
namespace K16
open PySem PySem.Spec PyProof.Rows L2 L3
def top (i : Nat) : Stmt := PySem.Challenge.pw_termmaps_k16_points_and_planes.main.body.getD i (.Pass ⟨0, 0, 0, 0⟩)
structure Txt (mg : Str → Option Value) : Prop where
  abs : mg "abs" = none
  gcd : mg "gcd" = some (.builtin "math.gcd")
  int : mg "int" = none
  len : mg "len" = none
  list : mg "list" = none
  range : mg "range" = none
  sorted : mg "sorted" = none
  sum : mg "sum" = none
  tuple : mg "tuple" = none
  zip : mg "zip" = none
section
variable {P : Program} {w : World} {K : PySem.W.Frag} {mg : Str → Option Value} {base : Heap}
/-! ### lowest -/
abbrev n_lowest : List Str := ["q", "numbers", "part", "number"]
theorem sc_lowest : FnScope n_lowest ["q", "numbers"] (defScope (top 2)) := ⟨rfl, rfl, rfl, by decide +kernel, rfl, by decide +kernel, by decide +kernel⟩
def t_lowest : S3 := (tSeq3 (tAsg3 (tCB3 gAbs (tCons3 (tVar3 0) tNil3)) (gName3 2))
  (tSeq3 (tFor3 (iSeq3 (tVar3 1)) (gName3 3) (tAsg3 (tCB3 gGcd (tCons3 (tVar3 2) (tCons3 (tVar3 3) tNil3))) (gName3 2)))
  (tSeq3 (tIfS3 (tB3 (b3 gLt (tVar3 0) (tC3 (.int 0)))) (tAsg3 (b3 gSub (tC3 (.int 0)) (tVar3 2)) (gName3 2)) tNext3)
  (tRet3 (tTup3 (tCons3 (b3 gDiv (tVar3 0) (tVar3 2)) (tCons3 (tCB3 gTuple (tCons3 (tLc3 (iSeq3 (tVar3 1)) (gName3 3) tYes3 (b3 gDiv (tVar3 3) (tVar3 2)) [3]) tNil3)) tNil3)))))))
theorem ok_lowest  {f : Addr} {fd : FuncData} {s3 : Sp3} (F : Fun K "lowest" "lowest" (top 2) f fd) (T : Txt mg)
    (hs : ∀ ds TT kk, ds.length = 2 → s3 ds TT kk → t_lowest { nx := fun ρ => kk .non ρ.T, rt := fun d ρ => kk d ρ.T } ⟨ds.map .val ++ List.replicate 2 .un, TT⟩) : FnOk P w K mg base CX0 1 f fd ["q", "numbers"] (spL 2 s3) :=
  fn3 (k := 0) F sc_lowest rfl rfl (fun cdv A outer s H E hr =>
  have hu64 := hu64_of hr
  have hu1 := hu_of hr
  (scons (sasg (abs3 (by rfl) T.abs (v3 0)) (gn3 2 sc_lowest.nd))
  (scons (sfor PassesOwn.never (by rfl) (iseq (v3 1)) (gn3 3 sc_lowest.nd)
    (sone (sasg (gcd3 (by rfl) T.gcd (v3 2) (v3 3)) (gn3 2 sc_lowest.nd))))
  (scons (sif (ltT3 (v3 0) int3)
    (sone (sasg (sub3 int3 (v3 2)) (gn3 2 sc_lowest.nd)))
    snil)
  (sone (sret (tup3 (acons (div3 (v3 0) (v3 2)) (acons (tuple3 (by rfl) T.tuple (lc3 (own := [("number", 3)]) (by rfl) sc_lowest.nd (iseq (v3 1)) (blkOk_by (own := [("number", 3)]) (N := n_lowest) (sc := defScope (top 2)) (by decide +kernel)) (fun _ _ _ _ _ => (gn3 3 sc_lowest.nd)) (fun _ _ _ _ _ => tsnil) (fun _ _ _ _ _ => (div3 (v3 3) (v3 2))))) anil))))))))) hs
/-! ### value -/
abbrev n_value : List Str := ["plane", "point", "count", "number"]
theorem sc_value : FnScope n_value ["plane", "point"] (defScope (top 3)) := ⟨rfl, rfl, rfl, by decide +kernel, rfl, by decide +kernel, by decide +kernel⟩
def t_value : S3 := (tRet3 (b3 gAdd (b3 gMul (b3 gIx (tVar3 0) (tC3 (.int 0))) (b3 gIx (tVar3 1) (tC3 (.int 0)))) (tCB3 gSum (tCons3 (tLc3 (iZip3 (b3 gIx (tVar3 0) (tC3 (.int 1))) (b3 gIx (tVar3 1) (tC3 (.int 1)))) (gTup3 2 (gCons3 (gName3 2) (gCons3 (gName3 3) gNil3))) tYes3 (b3 gMul (tVar3 2) (tVar3 3)) [2, 3]) tNil3))))
theorem ok_value  {f : Addr} {fd : FuncData} {s3 : Sp3} (F : Fun K "value" "value" (top 3) f fd) (T : Txt mg)
    (hs : ∀ ds TT kk, ds.length = 2 → s3 ds TT kk → t_value { nx := fun ρ => kk .non ρ.T, rt := fun d ρ => kk d ρ.T } ⟨ds.map .val ++ List.replicate 2 .un, TT⟩) : FnOk P w K mg base CX0 1 f fd ["plane", "point"] (spL 2 s3) :=
  fn3 (k := 0) F sc_value rfl rfl (fun cdv A outer s H E hr =>
  have hu64 := hu64_of hr
  have hu1 := hu_of hr
  (sone (sret (add3 (mul3 (ix3 (v3 0) int3) (ix3 (v3 1) int3)) (sum3 (by rfl) (by rfl) T.sum (lc3 (own := [("count", 2), ("number", 3)]) (by rfl) sc_value.nd (izip (by rfl) T.zip (ix3 (v3 0) int3) (ix3 (v3 1) int3)) (blkOk_by (own := [("count", 2), ("number", 3)]) (N := n_value) (sc := defScope (top 3)) (by decide +kernel)) (fun _ _ _ _ _ => (gtup3 (by rfl) (gcons3 (gn3 2 sc_value.nd) (gcons3 (gn3 3 sc_value.nd) gnil3)))) (fun _ _ _ _ _ => tsnil) (fun _ _ _ _ _ => (mul3 (v3 2) (v3 3))))))))) hs
/-! ### whole_of -/
abbrev n_whole_of : List Str := ["points", "found", "point"]
theorem sc_whole_of : FnScope n_whole_of ["points"] (defScope (top 4)) := ⟨rfl, rfl, rfl, by decide +kernel, rfl, by decide +kernel, by decide +kernel⟩
def t_whole_of : S3 := (tSeq3 (tAsg3 (tC3 (.int 1)) (gName3 1))
  (tSeq3 (tFor3 (iSeq3 (tVar3 0)) (gName3 2) (tAsg3 (b3 gDiv (b3 gMul (tVar3 1) (b3 gIx (tVar3 2) (tC3 (.int 0)))) (tCB3 gGcd (tCons3 (tVar3 1) (tCons3 (b3 gIx (tVar3 2) (tC3 (.int 0))) tNil3)))) (gName3 1)))
  (tRet3 (tVar3 1))))
theorem ok_whole_of  {f : Addr} {fd : FuncData} {s3 : Sp3} (F : Fun K "whole_of" "whole_of" (top 4) f fd) (T : Txt mg)
    (hs : ∀ ds TT kk, ds.length = 1 → s3 ds TT kk → t_whole_of { nx := fun ρ => kk .non ρ.T, rt := fun d ρ => kk d ρ.T } ⟨ds.map .val ++ List.replicate 2 .un, TT⟩) : FnOk P w K mg base CX0 1 f fd ["points"] (spL 1 s3) :=
  fn3 (k := 0) F sc_whole_of rfl rfl (fun cdv A outer s H E hr =>
  have hu64 := hu64_of hr
  have hu1 := hu_of hr
  (scons (sasg int3 (gn3 1 sc_whole_of.nd))
  (scons (sfor PassesOwn.never (by rfl) (iseq (v3 0)) (gn3 2 sc_whole_of.nd)
    (sone (sasg (div3 (mul3 (v3 1) (ix3 (v3 2) int3)) (gcd3 (by rfl) T.gcd (v3 1) (ix3 (v3 2) int3))) (gn3 1 sc_whole_of.nd))))
  (sone (sret (v3 1)))))) hs
/-! ### in_order -/
abbrev n_in_order : List Str := ["points", "whole", "keys", "number", "point", "key"]
theorem sc_in_order : FnScope n_in_order ["points"] (defScope (top 5)) := ⟨rfl, rfl, rfl, by decide +kernel, rfl, by decide +kernel, by decide +kernel⟩
def t_in_order : S3 := (tSeq3 (tAsg3 (tFn3 1 s_whole_of (tCons3 (tVar3 0) tNil3)) (gName3 1))
  (tSeq3 (tAsg3 (tDc3 (iSeq3 (tVar3 0)) (gName3 4) tYes3 (tCB3 gTuple (tCons3 (tLc3 (iSeq3 (b3 gIx (tVar3 4) (tC3 (.int 1)))) (gName3 3) tYes3 (b3 gMul (tVar3 3) (b3 gDiv (tVar3 1) (b3 gIx (tVar3 4) (tC3 (.int 0))))) [3]) tNil3)) (tVar3 4) [4]) (gName3 2))
  (tRet3 (tLc3 (iSeq3 (tCB3 gSortedT (tCons3 (tVar3 2) tNil3))) (gName3 5) tYes3 (b3 gDG (tVar3 2) (tVar3 5)) [5]))))
theorem ok_in_order {f_whole_of : Addr} {fd_whole_of : FuncData} (G_whole_of : Has P w K mg base 1 "whole_of" ["points"] 1 s_whole_of (top 4) f_whole_of fd_whole_of) {f : Addr} {fd : FuncData} {s3 : Sp3} (F : Fun K "in_order" "in_order" (top 5) f fd) (T : Txt mg)
    (hs : ∀ ds TT kk, ds.length = 1 → s3 ds TT kk → t_in_order { nx := fun ρ => kk .non ρ.T, rt := fun d ρ => kk d ρ.T } ⟨ds.map .val ++ List.replicate 5 .un, TT⟩) : FnOk P w K mg base CX0 2 f fd ["points"] (spL 1 s3) :=
  fn3 (k := 1) F sc_in_order rfl rfl (fun cdv A outer s H E hr =>
  have hu64 := hu64_of hr
  have hu1 := hu_of hr
  (scons (sasg (call3 m_s_whole_of (G_whole_of.ok.mono (by decide)) hr (by rfl) G_whole_of.mg G_whole_of.kp G_whole_of.bd (acons (v3 0) anil)) (gn3 1 sc_in_order.nd))
  (scons (sasg (dc3 (own := [("point", 4)]) hu1 (by rfl) sc_in_order.nd (iseq (v3 0)) (blkOk_by (own := [("point", 4)]) (N := n_in_order) (sc := defScope (top 5)) (by decide +kernel)) (fun _ _ _ _ _ => (gn3 4 sc_in_order.nd)) (fun _ _ _ _ _ => tsnil) (fun _ _ _ _ _ => (tuple3 (by rfl) T.tuple (lc3 (own := [("number", 3)]) (by rfl) sc_in_order.nd (iseq (ix3 (v3 4) int3)) (blkOk_in (own := [("number", 3)]) (N := n_in_order) (sc := { kind := PySem.ScopeKind.function, names := [ (PySem.Str.ofString ".0", PySem.NameKind.local), (PySem.Str.ofString "point", PySem.NameKind.cell), (PySem.Str.ofString "tuple", PySem.NameKind.globalImplicit), (PySem.Str.ofString "whole", PySem.NameKind.free)], isGenerator := false, isCoroutine := false, more := [] : PySem.Scope }) (by decide +kernel)) (fun _ _ _ _ _ => (gn3 3 sc_in_order.nd)) (fun _ _ _ _ _ => tsnil) (fun _ _ _ _ _ => (mul3 (v3 3) (div3 (v3 1) (ix3 (v3 4) int3))))))) (fun _ _ _ _ _ => (v3 4))) (gn3 2 sc_in_order.nd))
  (sone (sret (lc3 (own := [("key", 5)]) (by rfl) sc_in_order.nd (iseq (sortedT3 hu64 (by rfl) (by rfl) T.sorted (v3 2))) (blkOk_by (own := [("key", 5)]) (N := n_in_order) (sc := defScope (top 5)) (by decide +kernel)) (fun _ _ _ _ _ => (gn3 5 sc_in_order.nd)) (fun _ _ _ _ _ => tsnil) (fun _ _ _ _ _ => (dget3 hu1 (v3 2) (v3 5))))))))) hs
/-! ### middle -/
abbrev n_middle : List Str := ["points", "whole", "rows", "number", "point", "some"]
theorem sc_middle : FnScope n_middle ["points"] (defScope (top 6)) := ⟨rfl, rfl, rfl, by decide +kernel, rfl, by decide +kernel, by decide +kernel⟩
def t_middle : S3 := (tSeq3 (tAsg3 (tFn3 1 s_whole_of (tCons3 (tVar3 0) tNil3)) (gName3 1))
  (tSeq3 (tAsg3 (tLc3 (iSeq3 (tVar3 0)) (gName3 4) tYes3 (tLc3 (iSeq3 (b3 gIx (tVar3 4) (tC3 (.int 1)))) (gName3 3) tYes3 (b3 gMul (tVar3 3) (b3 gDiv (tVar3 1) (b3 gIx (tVar3 4) (tC3 (.int 0))))) [3]) [4]) (gName3 2))
  (tRet3 (tFn3 2 s_lowest (tCons3 (b3 gMul (tVar3 1) (tCB3 gLen (tCons3 (tVar3 0) tNil3))) (tCons3 (tLc3 (iZipS (tVar3 2)) (gName3 5) tYes3 (tCB3 gSum (tCons3 (tVar3 5) tNil3)) [5]) tNil3))))))
theorem ok_middle {f_lowest : Addr} {fd_lowest : FuncData} (G_lowest : Has P w K mg base 1 "lowest" ["q", "numbers"] 2 s_lowest (top 2) f_lowest fd_lowest) {f_whole_of : Addr} {fd_whole_of : FuncData} (G_whole_of : Has P w K mg base 1 "whole_of" ["points"] 1 s_whole_of (top 4) f_whole_of fd_whole_of) {f : Addr} {fd : FuncData} {s3 : Sp3} (F : Fun K "middle" "middle" (top 6) f fd) (T : Txt mg)
    (hs : ∀ ds TT kk, ds.length = 1 → s3 ds TT kk → t_middle { nx := fun ρ => kk .non ρ.T, rt := fun d ρ => kk d ρ.T } ⟨ds.map .val ++ List.replicate 5 .un, TT⟩) : FnOk P w K mg base CX0 2 f fd ["points"] (spL 1 s3) :=
  fn3 (k := 1) F sc_middle rfl rfl (fun cdv A outer s H E hr =>
  have hu64 := hu64_of hr
  have hu1 := hu_of hr
  (scons (sasg (call3 m_s_whole_of (G_whole_of.ok.mono (by decide)) hr (by rfl) G_whole_of.mg G_whole_of.kp G_whole_of.bd (acons (v3 0) anil)) (gn3 1 sc_middle.nd))
  (scons (ssetLc (i := 2) (own := [("point", 4)]) (by rfl) sc_middle.nd (by rfl) (by rfl) (sw_true rfl rfl rfl (by decide +kernel)) (iseq (v3 0)) (blkOk_by (own := [("point", 4)]) (N := n_middle) (sc := defScope (top 6)) (by decide +kernel)) (fun _ _ _ _ _ => (gn3 4 sc_middle.nd)) (fun _ _ _ _ _ => tsnil) (fun _ _ _ _ _ => (lc3 (own := [("number", 3)]) (by rfl) sc_middle.nd (iseq (ix3 (v3 4) int3)) (blkOk_in (own := [("number", 3)]) (N := n_middle) (sc := { kind := PySem.ScopeKind.function, names := [ (PySem.Str.ofString ".0", PySem.NameKind.local), (PySem.Str.ofString "point", PySem.NameKind.cell), (PySem.Str.ofString "whole", PySem.NameKind.free)], isGenerator := false, isCoroutine := false, more := [] : PySem.Scope }) (by decide +kernel)) (fun _ _ _ _ _ => (gn3 3 sc_middle.nd)) (fun _ _ _ _ _ => tsnil) (fun _ _ _ _ _ => (mul3 (v3 3) (div3 (v3 1) (ix3 (v3 4) int3)))))))
  (sone (sret (call3 m_s_lowest (G_lowest.ok.mono (by decide)) hr (by rfl) G_lowest.mg G_lowest.kp G_lowest.bd (acons (mul3 (v3 1) (len3 (by rfl) T.len (v3 0))) (acons (lc3 (own := [("some", 5)]) (by rfl) sc_middle.nd (izipS (by rfl) T.zip (v3 2)) (blkOk_by (own := [("some", 5)]) (N := n_middle) (sc := defScope (top 6)) (by decide +kernel)) (fun _ _ _ _ _ => (gn3 5 sc_middle.nd)) (fun _ _ _ _ _ => tsnil) (fun _ _ _ _ _ => (sum3 (by rfl) (by rfl) T.sum (v3 5)))) anil)))))))) hs
/-! ### _law_draw -/
abbrev n__law_draw : List Str := ["pen", "many", "rest", "turn", "cell", "shuffled"]
theorem sc__law_draw : FnScope n__law_draw ["pen", "many"] (defScope (top 9)) := ⟨rfl, rfl, rfl, by decide +kernel, rfl, by decide +kernel, by decide +kernel⟩
def t__law_draw : S3 := (tSeq3 (tIfS3 (tB3 (b3 gLt (tVar3 1) (tC3 (.int 2)))) (tRet3 (tC3 (.int 0))) tNext3)
  (tSeq3 (tIfS3 (tB3 (b3 gGt (tIxO 0 (tC3 (.int 2))) (tC3 (.int 0)))) (tSeq3 (tAsg3 (tCB3 gInt (tCons3 (tIxO 0 (tC3 (.int 2))) tNil3)) (gName3 2))
  (tSeq3 (tSetO 0 (tC3 (.int 2)) (b3 gDiv (tVar3 2) (tVar3 1)))
  (tRet3 (b3 gMod (tCB3 gInt (tCons3 (tVar3 2) tNil3)) (tVar3 1))))) tNext3)
  (tSeq3 (tAsg3 (tIxO 0 (tC3 (.int 1))) (gName3 3))
  (tSeq3 (tSetO 0 (tC3 (.int 1)) (b3 gAdd (tVar3 3) (tC3 (.int 1))))
  (tSeq3 (tAsg3 (b3 gAdd (b3 gMul (tC3 (.int 74609)) (tVar3 3)) (tC3 (.int 9765))) (gName3 4))
  (tSeq3 (tIfS3 (tB3 (b3 gNe (tIxO 0 (tC3 (.int 0))) (tLst3 tNil3))) (tAsg3 (b3 gIx (tIxO 0 (tC3 (.int 0))) (b3 gMod (tCB3 gInt (tCons3 (tVar3 3) tNil3)) (tCB3 gLen (tCons3 (tIxO 0 (tC3 (.int 0))) tNil3)))) (gName3 4)) tNext3)
  (tSeq3 (tIfS3 (tAnd3 (tB3 (b3 gLt (tVar3 3) (tCB3 gLen (tCons3 (tIxO 0 (tC3 (.int 0))) tNil3)))) (tB3 (b3 gGe (tCB3 gAbs (tCons3 (tVar3 4) tNil3)) (b3 gPow (tC3 (.int 10)) (tC3 (.int 18)))))) (tSeq3 (tAsg3 (b3 gAdd (b3 gMul (tC3 (.int 2)) (b3 gSub (tCB3 gAbs (tCons3 (tVar3 4) tNil3)) (b3 gPow (tC3 (.int 10)) (tC3 (.int 18))))) (tCB3 gInt (tCons3 (b3 gLt (tVar3 4) (tC3 (.int 0))) tNil3))) (gName3 2))
  (tSeq3 (tSetO 0 (tC3 (.int 2)) (b3 gDiv (tCB3 gInt (tCons3 (tVar3 2) tNil3)) (tVar3 1)))
  (tRet3 (b3 gMod (tCB3 gInt (tCons3 (tVar3 2) tNil3)) (tVar3 1))))) tNext3)
  (tSeq3 (tAsg3 (b3 gMod (tCB3 gInt (tCons3 (b3 gPow (b3 gAdd (b3 gAdd (b3 gMod (tCB3 gInt (tCons3 (tVar3 4) tNil3)) (tC3 (.int 2147483549))) (b3 gMul (tC3 (.int 74609)) (tVar3 3))) (tC3 (.int 9765))) (tC3 (.int 3))) tNil3)) (tC3 (.int 2147483587))) (gName3 5))
  (tSeq3 (tAsg3 (b3 gMod (tCB3 gInt (tCons3 (b3 gPow (b3 gAdd (b3 gAdd (b3 gMul (tVar3 5) (b3 gAdd (b3 gMul (tC3 (.int 2)) (tVar3 3)) (tC3 (.int 4357)))) (b3 gMul (b3 gMul (tC3 (.int 90247)) (tVar3 3)) (tVar3 3))) (tC3 (.int 74609))) (tC3 (.int 5))) tNil3)) (tC3 (.int 2147483563))) (gName3 5))
  (tRet3 (b3 gMod (tCB3 gInt (tCons3 (b3 gDiv (tVar3 5) (tC3 (.int 32))) tNil3)) (tVar3 1))))))))))))
theorem ok__law_draw  {f : Addr} {fd : FuncData} {s3 : Sp3} (F : Fun K "_law_draw" "_law_draw" (top 9) f fd) (T : Txt mg)
    (hs : ∀ ds TT kk, s3 ds TT kk → ∃ many, ds = [.pen, .int many] ∧ ∀ (cs : List Int) (u r : Int), cs.length ≤ 63 → 0 ≤ u → u ≤ (TT : Int) → 0 ≤ r →
      t__law_draw { nx := fun _ => False, rt := fun d ρ => ∃ T' i, d = .int i ∧ PenSlot ρ T' ∧ kk d T' } ⟨[.own (.lst [.lst (cs.map D.int), .int u, .int r]), .val (.int many)] ++ List.replicate 4 .un, TT⟩) : FnOk P w K mg base CX0 1 f fd ["pen", "many"] (spL 2 s3) :=
  fnPen3 (k := 0) F sc__law_draw rfl rfl (fun cdv A outer s H E hr =>
  have hu64 := hu64_of hr
  have hu1 := hu_of hr
  (scons (sif (ltT3 (v3 1) int3)
    (sone (sret int3))
    snil)
  (scons (sif (gtT3 (ixo3 0 int3) int3)
    (scons (sasg (int3c (by rfl) T.int (ixo3 0 int3)) (gn3 2 sc__law_draw.nd))
  (scons (sset 0 int3 (div3 (v3 2) (v3 1)))
  (sone (sret (mod3 (int3c (by rfl) T.int (v3 2)) (v3 1))))))
    snil)
  (scons (sasg (ixo3 0 int3) (gn3 3 sc__law_draw.nd))
  (scons (sset 0 int3 (add3 (v3 3) int3))
  (scons (sasg (add3 (mul3 int3 (v3 3)) int3) (gn3 4 sc__law_draw.nd))
  (scons (sif (neT3 hu64 (ixo3 0 int3) (lst3 anil))
    (sone (sasg (ix3 (ixo3 0 int3) (mod3 (int3c (by rfl) T.int (v3 3)) (len3 (by rfl) T.len (ixo3 0 int3)))) (gn3 4 sc__law_draw.nd)))
    snil)
  (scons (sif (P3W.pt (and3 (ltT3 (v3 3) (len3 (by rfl) T.len (ixo3 0 int3))) (and1 (geT3 (abs3 (by rfl) T.abs (v3 4)) (pow3 int3 int3)))))
    (scons (sasg (add3 (mul3 int3 (sub3 (abs3 (by rfl) T.abs (v3 4)) (pow3 int3 int3))) (int3c (by rfl) T.int (lt3 (v3 4) int3))) (gn3 2 sc__law_draw.nd))
  (scons (sset 0 int3 (div3 (int3c (by rfl) T.int (v3 2)) (v3 1)))
  (sone (sret (mod3 (int3c (by rfl) T.int (v3 2)) (v3 1))))))
    snil)
  (scons (sasg (mod3 (int3c (by rfl) T.int (pow3 (add3 (add3 (mod3 (int3c (by rfl) T.int (v3 4)) int3) (mul3 int3 (v3 3))) int3) int3)) int3) (gn3 5 sc__law_draw.nd))
  (scons (sasg (mod3 (int3c (by rfl) T.int (pow3 (add3 (add3 (mul3 (v3 5) (add3 (mul3 int3 (v3 3)) int3)) (mul3 (mul3 int3 (v3 3)) (v3 3))) int3) int3)) int3) (gn3 5 sc__law_draw.nd))
  (sone (sret (mod3 (int3c (by rfl) T.int (div3 (v3 5) int3)) (v3 1)))))))))))))) hs
/-! ### _law_pick -/
abbrev n__law_pick : List Str := ["pen", "some"]
theorem sc__law_pick : FnScope n__law_pick ["pen", "some"] (defScope (top 10)) := ⟨rfl, rfl, rfl, by decide +kernel, rfl, by decide +kernel, by decide +kernel⟩
def t__law_pick : S3 := (tRet3 (b3 gIx (tVar3 1) (tFn3 2 s__law_draw (tCons3 (tVar3 0) (tCons3 (tCB3 gLen (tCons3 (tVar3 1) tNil3)) tNil3)))))
theorem ok__law_pick {f__law_draw : Addr} {fd__law_draw : FuncData} (G__law_draw : Has P w K mg base 1 "_law_draw" ["pen", "many"] 2 s__law_draw (top 9) f__law_draw fd__law_draw) {f : Addr} {fd : FuncData} {s3 : Sp3} (F : Fun K "_law_pick" "_law_pick" (top 10) f fd) (T : Txt mg)
    (hs : ∀ ds TT kk, ds.length = 2 → s3 ds TT kk → t__law_pick { nx := fun ρ => kk .non ρ.T, rt := fun d ρ => kk d ρ.T } ⟨ds.map .val ++ List.replicate 0 .un, TT⟩) : FnOk P w K mg base CX0 2 f fd ["pen", "some"] (spL 2 s3) :=
  fn3 (k := 1) F sc__law_pick rfl rfl (fun cdv A outer s H E hr =>
  have hu64 := hu64_of hr
  have hu1 := hu_of hr
  (sone (sret (ix3 (v3 1) (call3 m_s__law_draw (G__law_draw.ok.mono (by decide)) hr (by rfl) G__law_draw.mg G__law_draw.kp G__law_draw.bd (acons (v3 0) (acons (len3 (by rfl) T.len (v3 1)) anil))))))) hs
/-! ### _law_mixed -/
abbrev n__law_mixed : List Str := ["pen", "some", "left", "found", "turn"]
theorem sc__law_mixed : FnScope n__law_mixed ["pen", "some"] (defScope (top 11)) := ⟨rfl, rfl, rfl, by decide +kernel, rfl, by decide +kernel, by decide +kernel⟩
def t__law_mixed : S3 := (tSeq3 (tOwn23 2 3 (tCB3 gList (tCons3 (tVar3 1) tNil3)) (tLst3 tNil3))
  (tSeq3 (tFor3 (iRng3 (tLenO 2)) (gName3 4) (tAppO 3 (tPopO 2 (tFn3 2 s__law_draw (tCons3 (tVar3 0) (tCons3 (tLenO 2) tNil3))))))
  (tRet3 (tVar3 3))))
theorem ok__law_mixed {f__law_draw : Addr} {fd__law_draw : FuncData} (G__law_draw : Has P w K mg base 1 "_law_draw" ["pen", "many"] 2 s__law_draw (top 9) f__law_draw fd__law_draw) {f : Addr} {fd : FuncData} {s3 : Sp3} (F : Fun K "_law_mixed" "_law_mixed" (top 11) f fd) (T : Txt mg)
    (hs : ∀ ds TT kk, ds.length = 2 → s3 ds TT kk → t__law_mixed { nx := fun ρ => kk .non ρ.T, rt := fun d ρ => kk d ρ.T } ⟨ds.map .val ++ List.replicate 3 .un, TT⟩) : FnOk P w K mg base CX0 2 f fd ["pen", "some"] (spL 2 s3) :=
  fn3 (k := 1) F sc__law_mixed rfl rfl (fun cdv A outer s H E hr =>
  have hu64 := hu64_of hr
  have hu1 := hu_of hr
  (scons (sown2 (i := 2) (j := 3) (by rfl) sc__law_mixed.nd (by rfl) (by rfl) (by decide) (by rfl) (by rfl) (flist (by rfl) T.list (v3 1)) (flst anil) (by rfl))
  (scons (sfor PassesOwn.never (by rfl) (irng (by rfl) T.range (leno3 2 (by rfl) T.len)) (gn3 4 sc__law_mixed.nd)
    (sone (sapp 3 (pop3 2 (call3 m_s__law_draw (G__law_draw.ok.mono (by decide)) hr (by rfl) G__law_draw.mg G__law_draw.kp G__law_draw.bd (acons (v3 0) (acons (leno3 2 (by rfl) T.len) anil)))))))
  (sone (sret (v3 3)))))) hs
/-! ### _law_gcd -/
abbrev n__law_gcd : List Str := ["one", "other", "lap"]
theorem sc__law_gcd : FnScope n__law_gcd ["one", "other"] (defScope (top 12)) := ⟨rfl, rfl, rfl, by decide +kernel, rfl, by decide +kernel, by decide +kernel⟩
def t__law_gcd : S3 := (tSeq3 (tPar3 0 1 (tCons3 (tCB3 gAbs (tCons3 (tVar3 0) tNil3)) (tCons3 (tCB3 gAbs (tCons3 (tVar3 1) tNil3)) tNil3)))
  (tSeq3 (tFor3 (iRng3 (tC3 (.int 4000))) (gName3 2) (tSeq3 (tIfS3 (tB3 (b3 gEq (tVar3 1) (tC3 (.int 0)))) tBreak3 tNext3)
  (tPar3 0 1 (tCons3 (tVar3 1) (tCons3 (b3 gMod (tCB3 gInt (tCons3 (tVar3 0) tNil3)) (tCB3 gInt (tCons3 (tVar3 1) tNil3))) tNil3)))))
  (tRet3 (tVar3 0))))
theorem ok__law_gcd  {f : Addr} {fd : FuncData} {s3 : Sp3} (F : Fun K "_law_gcd" "_law_gcd" (top 12) f fd) (T : Txt mg)
    (hs : ∀ ds TT kk, ds.length = 2 → s3 ds TT kk → t__law_gcd { nx := fun ρ => kk .non ρ.T, rt := fun d ρ => kk d ρ.T } ⟨ds.map .val ++ List.replicate 1 .un, TT⟩) : FnOk P w K mg base CX0 1 f fd ["one", "other"] (spL 2 s3) :=
  fn3 (k := 0) F sc__law_gcd rfl rfl (fun cdv A outer s H E hr =>
  have hu64 := hu64_of hr
  have hu1 := hu_of hr
  (scons (spar (i := 0) (j := 1) (by rfl) sc__law_gcd.nd (by rfl) (by rfl) (by decide) (by rfl) (by rfl) (acons (abs3 (by rfl) T.abs (v3 0)) (acons (abs3 (by rfl) T.abs (v3 1)) anil)) (by rfl))
  (scons (sfor PassesOwn.never (by rfl) (irng (by rfl) T.range int3) (gn3 2 sc__law_gcd.nd)
    (scons (sif (eqT3 hu64 (v3 1) int3)
    (sone sbreak)
    snil)
  (sone (spar (i := 0) (j := 1) (by rfl) sc__law_gcd.nd (by rfl) (by rfl) (by decide) (by rfl) (by rfl) (acons (v3 1) (acons (mod3 (int3c (by rfl) T.int (v3 0)) (int3c (by rfl) T.int (v3 1))) anil)) (by rfl)))))
  (sone (sret (v3 0)))))) hs
/-! ### _law_lowest -/
abbrev n__law_lowest : List Str := ["q", "numbers", "part", "number"]
theorem sc__law_lowest : FnScope n__law_lowest ["q", "numbers"] (defScope (top 13)) := ⟨rfl, rfl, rfl, by decide +kernel, rfl, by decide +kernel, by decide +kernel⟩
def t__law_lowest : S3 := (tSeq3 (tAsg3 (tCB3 gAbs (tCons3 (tVar3 0) tNil3)) (gName3 2))
  (tSeq3 (tFor3 (iSeq3 (tVar3 1)) (gName3 3) (tAsg3 (tFn3 2 s__law_gcd (tCons3 (tVar3 2) (tCons3 (tVar3 3) tNil3))) (gName3 2)))
  (tSeq3 (tAsg3 (tIf3 (tB3 (b3 gGt (tVar3 0) (tC3 (.int 0)))) (tVar3 2) (b3 gSub (tC3 (.int 0)) (tVar3 2))) (gName3 2))
  (tRet3 (tTup3 (tCons3 (b3 gDiv (tVar3 0) (tVar3 2)) (tCons3 (tCB3 gTuple (tCons3 (tLc3 (iSeq3 (tVar3 1)) (gName3 3) tYes3 (b3 gDiv (tVar3 3) (tVar3 2)) [3]) tNil3)) tNil3)))))))
theorem ok__law_lowest {f__law_gcd : Addr} {fd__law_gcd : FuncData} (G__law_gcd : Has P w K mg base 1 "_law_gcd" ["one", "other"] 2 s__law_gcd (top 12) f__law_gcd fd__law_gcd) {f : Addr} {fd : FuncData} {s3 : Sp3} (F : Fun K "_law_lowest" "_law_lowest" (top 13) f fd) (T : Txt mg)
    (hs : ∀ ds TT kk, ds.length = 2 → s3 ds TT kk → t__law_lowest { nx := fun ρ => kk .non ρ.T, rt := fun d ρ => kk d ρ.T } ⟨ds.map .val ++ List.replicate 2 .un, TT⟩) : FnOk P w K mg base CX0 2 f fd ["q", "numbers"] (spL 2 s3) :=
  fn3 (k := 1) F sc__law_lowest rfl rfl (fun cdv A outer s H E hr =>
  have hu64 := hu64_of hr
  have hu1 := hu_of hr
  (scons (sasg (abs3 (by rfl) T.abs (v3 0)) (gn3 2 sc__law_lowest.nd))
  (scons (sfor PassesOwn.never (by rfl) (iseq (v3 1)) (gn3 3 sc__law_lowest.nd)
    (sone (sasg (call3 m_s__law_gcd (G__law_gcd.ok.mono (by decide)) hr (by rfl) G__law_gcd.mg G__law_gcd.kp G__law_gcd.bd (acons (v3 2) (acons (v3 3) anil))) (gn3 2 sc__law_lowest.nd))))
  (scons (sasg (if3 (gtT3 (v3 0) int3) (v3 2) (sub3 int3 (v3 2))) (gn3 2 sc__law_lowest.nd))
  (sone (sret (tup3 (acons (div3 (v3 0) (v3 2)) (acons (tuple3 (by rfl) T.tuple (lc3 (own := [("number", 3)]) (by rfl) sc__law_lowest.nd (iseq (v3 1)) (blkOk_by (own := [("number", 3)]) (N := n__law_lowest) (sc := defScope (top 13)) (by decide +kernel)) (fun _ _ _ _ _ => (gn3 3 sc__law_lowest.nd)) (fun _ _ _ _ _ => tsnil) (fun _ _ _ _ _ => (div3 (v3 3) (v3 2))))) anil))))))))) hs
/-! ### _law_value -/
abbrev n__law_value : List Str := ["plane", "point", "count", "number"]
theorem sc__law_value : FnScope n__law_value ["plane", "point"] (defScope (top 14)) := ⟨rfl, rfl, rfl, by decide +kernel, rfl, by decide +kernel, by decide +kernel⟩
def t__law_value : S3 := (tRet3 (b3 gAdd (b3 gMul (b3 gIx (tVar3 0) (tC3 (.int 0))) (b3 gIx (tVar3 1) (tC3 (.int 0)))) (tCB3 gSum (tCons3 (tLc3 (iZip3 (b3 gIx (tVar3 0) (tC3 (.int 1))) (b3 gIx (tVar3 1) (tC3 (.int 1)))) (gTup3 2 (gCons3 (gName3 2) (gCons3 (gName3 3) gNil3))) tYes3 (b3 gMul (tVar3 2) (tVar3 3)) [2, 3]) tNil3))))
theorem ok__law_value  {f : Addr} {fd : FuncData} {s3 : Sp3} (F : Fun K "_law_value" "_law_value" (top 14) f fd) (T : Txt mg)
    (hs : ∀ ds TT kk, ds.length = 2 → s3 ds TT kk → t__law_value { nx := fun ρ => kk .non ρ.T, rt := fun d ρ => kk d ρ.T } ⟨ds.map .val ++ List.replicate 2 .un, TT⟩) : FnOk P w K mg base CX0 1 f fd ["plane", "point"] (spL 2 s3) :=
  fn3 (k := 0) F sc__law_value rfl rfl (fun cdv A outer s H E hr =>
  have hu64 := hu64_of hr
  have hu1 := hu_of hr
  (sone (sret (add3 (mul3 (ix3 (v3 0) int3) (ix3 (v3 1) int3)) (sum3 (by rfl) (by rfl) T.sum (lc3 (own := [("count", 2), ("number", 3)]) (by rfl) sc__law_value.nd (izip (by rfl) T.zip (ix3 (v3 0) int3) (ix3 (v3 1) int3)) (blkOk_by (own := [("count", 2), ("number", 3)]) (N := n__law_value) (sc := defScope (top 14)) (by decide +kernel)) (fun _ _ _ _ _ => (gtup3 (by rfl) (gcons3 (gn3 2 sc__law_value.nd) (gcons3 (gn3 3 sc__law_value.nd) gnil3)))) (fun _ _ _ _ _ => tsnil) (fun _ _ _ _ _ => (mul3 (v3 2) (v3 3))))))))) hs
/-! ### _law_by_order -/
abbrev n__law_by_order : List Str := ["points", "whole_one", "point", "keys", "number", "key"]
theorem sc__law_by_order : FnScope n__law_by_order ["points"] (defScope (top 15)) := ⟨rfl, rfl, rfl, by decide +kernel, rfl, by decide +kernel, by decide +kernel⟩
def t__law_by_order : S3 := (tSeq3 (tAsg3 (tC3 (.int 1)) (gName3 1))
  (tSeq3 (tFor3 (iSeq3 (tVar3 0)) (gName3 2) (tAsg3 (b3 gMul (tVar3 1) (b3 gIx (tVar3 2) (tC3 (.int 0)))) (gName3 1)))
  (tSeq3 (tOwn3 3 tEmptyT)
  (tSeq3 (tFor3 (iSeq3 (tVar3 0)) (gName3 2) (tDPutO 3 (tCB3 gTuple (tCons3 (tLc3 (iSeq3 (b3 gIx (tVar3 2) (tC3 (.int 1)))) (gName3 4) tYes3 (b3 gMul (tVar3 4) (b3 gDiv (tVar3 1) (b3 gIx (tVar3 2) (tC3 (.int 0))))) [4]) tNil3)) (tVar3 2)))
  (tRet3 (tLc3 (iSeq3 (tCB3 gSortedT (tCons3 (tVar3 3) tNil3))) (gName3 5) tYes3 (b3 gDG (tVar3 3) (tVar3 5)) [5]))))))
theorem ok__law_by_order  {f : Addr} {fd : FuncData} {s3 : Sp3} (F : Fun K "_law_by_order" "_law_by_order" (top 15) f fd) (T : Txt mg)
    (hs : ∀ ds TT kk, ds.length = 1 → s3 ds TT kk → t__law_by_order { nx := fun ρ => kk .non ρ.T, rt := fun d ρ => kk d ρ.T } ⟨ds.map .val ++ List.replicate 5 .un, TT⟩) : FnOk P w K mg base CX0 1 f fd ["points"] (spL 1 s3) :=
  fn3 (k := 0) F sc__law_by_order rfl rfl (fun cdv A outer s H E hr =>
  have hu64 := hu64_of hr
  have hu1 := hu_of hr
  (scons (sasg int3 (gn3 1 sc__law_by_order.nd))
  (scons (sfor PassesOwn.never (by rfl) (iseq (v3 0)) (gn3 2 sc__law_by_order.nd)
    (sone (sasg (mul3 (v3 1) (ix3 (v3 2) int3)) (gn3 1 sc__law_by_order.nd))))
  (scons (sown (i := 3) sc__law_by_order.nd (by rfl) (h1 := fdict))
  (scons (sfor PassesOwn.never (by rfl) (iseq (v3 0)) (gn3 2 sc__law_by_order.nd)
    (sone (sdput 3 hu1 (tuple3 (by rfl) T.tuple (lc3 (own := [("number", 4)]) (by rfl) sc__law_by_order.nd (iseq (ix3 (v3 2) int3)) (blkOk_by (own := [("number", 4)]) (N := n__law_by_order) (sc := defScope (top 15)) (by decide +kernel)) (fun _ _ _ _ _ => (gn3 4 sc__law_by_order.nd)) (fun _ _ _ _ _ => tsnil) (fun _ _ _ _ _ => (mul3 (v3 4) (div3 (v3 1) (ix3 (v3 2) int3)))))) (v3 2))))
  (sone (sret (lc3 (own := [("key", 5)]) (by rfl) sc__law_by_order.nd (iseq (sortedT3 hu64 (by rfl) (by rfl) T.sorted (v3 3))) (blkOk_by (own := [("key", 5)]) (N := n__law_by_order) (sc := defScope (top 15)) (by decide +kernel)) (fun _ _ _ _ _ => (gn3 5 sc__law_by_order.nd)) (fun _ _ _ _ _ => tsnil) (fun _ _ _ _ _ => (dget3 hu1 (v3 3) (v3 5))))))))))) hs
/-! ### _law_pen -/
theorem sc__law_pen : FnScope ["script", "cell"] ["script"] (defScope (top 8)) := ⟨rfl, rfl, rfl, by decide +kernel, rfl, by decide +kernel, by decide +kernel⟩
theorem ok__law_pen {f : Addr} {fd : FuncData} (F : Fun K "_law_pen" "_law_pen" (top 8) f fd) (T : Txt mg) : FnOk P w K mg base CX0 1 f fd ["script"] (spPen K) := by
  refine F.ok sc__law_pen (fun vs H Q E h => ?_) (fun cdv A outer s H vs Q E hr h => ?_)
  · obtain ⟨a, ns, rfl, _⟩ := h; rfl
  · obtain ⟨a, ns, rfl, hS, h63, q⟩ := h
    refine ⟨_, pss_one (ps_ret (pe_lst (pa_cons (pe_lc (own := [("cell", 1)]) (g := gName 1) (tt := tYes) (by rfl) sc__law_pen.nd (pi_list (pe_slice sl_list (pv 0) po_none (po_some pe_int))) (blkOk_by (own := [("cell", 1)]) (N := ["script", "cell"]) (sc := defScope (top 8)) (by decide +kernel)) (fun _ _ _ _ _ => pg_name (i := 1) sc__law_pen.nd rfl (Or.inl rfl)) (fun _ _ _ _ _ => pts_nil) (fun _ _ _ _ _ => pe_callTy call_int1 (by rfl) T.int (by decide +kernel) (pa_cons (pv 1) pa_nil))) (pa_cons pe_int (pa_cons pe_int pa_nil))))), ?_⟩
    exact pen_read (X := cxOf CX0 P w K mg base ["script", "cell"] "_law_pen" (defScope (top 8)) f cdv A outer s H E) rfl hS h63 q
/-! ### law -/
abbrev n_law : List Str := ["script", "pen", "turn", "many", "most", "some", "sizes", "lap", "numbers", "at", "q", "by", "told", "number", "plane", "point", "shuffled", "mean", "whole_one", "sums"]
theorem sc_law : FnScope n_law ["script"] (defScope (top 16)) := ⟨rfl, rfl, rfl, by decide +kernel, rfl, by decide +kernel, by decide +kernel⟩
def t_law_f1 : S3 := (tIfS3 (tOr3 (tB3 (b3 gNe (tVar3 17) (tFn3 2 s__law_lowest (tCons3 (b3 gMul (tVar3 18) (tCB3 gLen (tCons3 (tVar3 16) tNil3))) (tCons3 (tVar3 19) tNil3))))) (tOr3 (tB3 (b3 gNe (tFn3 1 s_middle (tCons3 (tSl3 (tVar3 5) tNoPart3 (tPart3 (tC3 (.int 1)))) tNil3)) (b3 gIx (tVar3 5) (tC3 (.int 0))))) (tB3 (b3 gNe (tFnK3 1 0 1 [0] s_middle tNil3 (tCons3 (b3 gMul (tSl3 (tVar3 5) tNoPart3 (tPart3 (tC3 (.int 1)))) (tC3 (.int 3))) tNil3)) (b3 gIx (tVar3 5) (tC3 (.int 0))))))) (tRet3 (tC3 (.bl false))) tNext3)
def t_law_f2 : S3 := (tAsg3 (b3 gMul (tVar3 18) (b3 gIx (tVar3 15) (tC3 (.int 0)))) (gName3 18))
def t_law_f3 : S3 := (tSeq3 (tAsg3 (tLc3 (iRng3 (tVar3 3)) (gName3 9) tYes3 (tCB3 gSum (tCons3 (tLc3 (iSeq3 (tVar3 16)) (gName3 15) tYes3 (b3 gMul (b3 gIx (b3 gIx (tVar3 15) (tC3 (.int 1))) (tVar3 9)) (b3 gDiv (tVar3 18) (b3 gIx (tVar3 15) (tC3 (.int 0))))) [15]) tNil3)) [9]) (gName3 19))
  t_law_f1)
def t_law_f4 : S3 := (tSeq3 (tFor3 (iSeq3 (tVar3 16)) (gName3 15) t_law_f2)
  t_law_f3)
def t_law_f5 : S3 := (tSeq3 (tAsg3 (tTup3 (tCons3 (tFn3 1 s_middle (tCons3 (tVar3 16) tNil3)) (tCons3 (tC3 (.int 1)) tNil3))) (gTup3 2 (gCons3 (gName3 17) (gCons3 (gName3 18) gNil3))))
  t_law_f4)
def t_law_f6 : S3 := (tSeq3 (tIfS3 (tOr3 (tB3 (b3 gNe (tFn3 1 s_in_order (tCons3 (tVar3 16) tNil3)) (tFn3 1 s__law_by_order (tCons3 (tVar3 16) tNil3)))) (tB3 (b3 gNe (tFnK3 1 0 1 [0] s_in_order tNil3 (tCons3 (tCB3 gTuple (tCons3 (tVar3 16) tNil3)) tNil3)) (tFn3 1 s__law_by_order (tCons3 (tVar3 5) tNil3))))) (tRet3 (tC3 (.bl false))) tNext3)
  t_law_f5)
def t_law_f7 : S3 := (tIfS3 (tOr3 (tB3 (b3 gNe (tFn3 2 s_value (tCons3 (tVar3 14) (tCons3 (tVar3 15) tNil3))) (b3 gAdd (b3 gMul (b3 gIx (tVar3 14) (tC3 (.int 0))) (b3 gIx (tVar3 15) (tC3 (.int 0)))) (tCB3 gSum (tCons3 (tLc3 (iRng3 (tVar3 3)) (gName3 9) tYes3 (b3 gMul (b3 gIx (b3 gIx (tVar3 14) (tC3 (.int 1))) (tVar3 9)) (b3 gIx (b3 gIx (tVar3 15) (tC3 (.int 1))) (tVar3 9))) [9]) tNil3))))) (tB3 (b3 gNe (tFnK3 2 0 2 [1, 0] s_value tNil3 (tCons3 (tVar3 15) (tCons3 (tVar3 14) tNil3))) (tFn3 2 s__law_value (tCons3 (tVar3 14) (tCons3 (tVar3 15) tNil3)))))) (tRet3 (tC3 (.bl false))) tNext3)
def t_law_f8 : S3 := (tSeq3 (tAsg3 (tFn3 2 s__law_mixed (tCons3 (tVar3 1) (tCons3 (b3 gAdd (tVar3 5) (tSl3 (tVar3 5) tNoPart3 (tPart3 (tC3 (.int 2))))) tNil3))) (gName3 16))
  t_law_f6)
def t_law_f9 : S3 := (tSeq3 (tFor3 (iSeq3 (tVar3 5)) (gName3 15) t_law_f7)
  t_law_f8)
def t_law_f10 : S3 := (tAppO 5 (tVar3 12))
def t_law_f11 : S3 := (tSeq3 (tIfS3 (tOr3 (tB3 (b3 gNe (tVar3 12) (tFn3 2 s__law_lowest (tCons3 (tVar3 10) (tCons3 (tVar3 8) tNil3))))) (tOr3 (tB3 (b3 gNe (tFnK3 2 0 2 [1, 0] s_lowest tNil3 (tCons3 (tCB3 gTuple (tCons3 (tVar3 8) tNil3)) (tCons3 (tVar3 10) tNil3))) (tVar3 12))) (tB3 (b3 gNe (tFn3 2 s_lowest (tCons3 (b3 gSub (tC3 (.int 0)) (tVar3 10)) (tCons3 (tVar3 8) tNil3))) (tFn3 2 s__law_lowest (tCons3 (tVar3 10) (tCons3 (tLc3 (iSeq3 (tVar3 8)) (gName3 13) tYes3 (b3 gSub (tC3 (.int 0)) (tVar3 13)) [13]) tNil3))))))) (tRet3 (tC3 (.bl false))) tNext3)
  t_law_f10)
def t_law_f12 : S3 := (tSeq3 (tAsg3 (tFn3 2 s_lowest (tCons3 (b3 gMul (tVar3 10) (tVar3 11)) (tCons3 (tLc3 (iSeq3 (tVar3 8)) (gName3 13) tYes3 (b3 gMul (tVar3 13) (tVar3 11)) [13]) tNil3))) (gName3 12))
  t_law_f11)
def t_law_f13 : S3 := (tSeq3 (tAsg3 (tTup3 (tCons3 (b3 gAdd (tC3 (.int 1)) (tFn3 2 s__law_draw (tCons3 (tVar3 1) (tCons3 (tFn3 2 s__law_pick (tCons3 (tVar3 1) (tCons3 (tLst3 (tCons3 (tC3 (.int 1)) (tCons3 (tC3 (.int 5)) (tCons3 (tVar3 4) tNil3)))) tNil3))) tNil3)))) (tCons3 (tFn3 2 s__law_pick (tCons3 (tVar3 1) (tCons3 (tLst3 (tCons3 (tC3 (.int 1)) (tCons3 (tNeg3 (tC3 (.int 1))) (tCons3 (tC3 (.int 2)) (tCons3 (tNeg3 (tC3 (.int 6))) (tCons3 (tVar3 4) tNil3)))))) tNil3))) tNil3))) (gTup3 2 (gCons3 (gName3 10) (gCons3 (gName3 11) gNil3))))
  t_law_f12)
def t_law_f14 : S3 := (tSeq3 (tAsg3 (tLc3 (iRng3 (tVar3 3)) (gName3 9) tYes3 (b3 gSub (tFn3 2 s__law_draw (tCons3 (tVar3 1) (tCons3 (b3 gAdd (b3 gMul (tC3 (.int 2)) (tVar3 4)) (tC3 (.int 1))) tNil3))) (tVar3 4)) [9]) (gName3 8))
  t_law_f13)
def t_law_f15 : S3 := (tSeq3 (tAsg3 (tTup3 (tCons3 (b3 gSub (tFn3 2 s__law_draw (tCons3 (tVar3 1) (tCons3 (b3 gAdd (b3 gMul (tC3 (.int 2)) (tVar3 4)) (tC3 (.int 1))) tNil3))) (tVar3 4)) (tCons3 (tCB3 gTuple (tCons3 (tLc3 (iRng3 (tVar3 3)) (gName3 9) tYes3 (b3 gSub (tFn3 2 s__law_draw (tCons3 (tVar3 1) (tCons3 (tC3 (.int 99)) tNil3))) (tC3 (.int 49))) [9]) tNil3)) tNil3))) (gName3 14))
  t_law_f9)
def t_law_f16 : S3 := (tSeq3 (tFor3 (iRng3 (b3 gAdd (tC3 (.int 1)) (tFn3 2 s__law_draw (tCons3 (tVar3 1) (tCons3 (tC3 (.int 6)) tNil3))))) (gName3 7) t_law_f14)
  t_law_f15)
def t_law_f17 : S3 := (tSeq3 (tOwn23 5 6 (tLst3 tNil3) (tLst3 tNil3))
  t_law_f16)
def t_law_f18 : S3 := (tSeq3 (tAsg3 (tTup3 (tCons3 (b3 gAdd (tC3 (.int 1)) (tFn3 2 s__law_draw (tCons3 (tVar3 1) (tCons3 (tC3 (.int 2)) tNil3)))) (tCons3 (tFn3 2 s__law_pick (tCons3 (tVar3 1) (tCons3 (tLst3 (tCons3 (tC3 (.int 3)) (tCons3 (tC3 (.int 20)) (tCons3 (b3 gPow (tC3 (.int 10)) (tC3 (.int 6))) (tCons3 (b3 gPow (tC3 (.int 10)) (tC3 (.int 30))) tNil3))))) tNil3))) tNil3))) (gTup3 2 (gCons3 (gName3 3) (gCons3 (gName3 4) gNil3))))
  t_law_f17)
def t_law_f19 : S3 := (tRet3 (tAndV3 (b3 gEq (tFn3 2 s_lowest (tCons3 (tC3 (.int 1)) (tCons3 (tLst3 (tCons3 (tC3 (.int 0)) tNil3)) tNil3))) (tTup3 (tCons3 (tC3 (.int 1)) (tCons3 (tTup3 (tCons3 (tC3 (.int 0)) tNil3)) tNil3)))) (tAndV3 (b3 gEq (tFn3 2 s_lowest (tCons3 (tNeg3 (tC3 (.int 3))) (tCons3 (tLst3 (tCons3 (tC3 (.int 0)) (tCons3 (tC3 (.int 0)) tNil3))) tNil3))) (tTup3 (tCons3 (tC3 (.int 1)) (tCons3 (tTup3 (tCons3 (tC3 (.int 0)) (tCons3 (tC3 (.int 0)) tNil3))) tNil3)))) (b3 gEq (tFn3 1 s_in_order (tCons3 (tLst3 (tCons3 (tTup3 (tCons3 (tC3 (.int 3)) (tCons3 (tTup3 (tCons3 (tC3 (.int 1)) (tCons3 (tC3 (.int 2)) tNil3))) tNil3))) (tCons3 (tTup3 (tCons3 (tC3 (.int 3)) (tCons3 (tTup3 (tCons3 (tC3 (.int 1)) (tCons3 (tC3 (.int 1)) tNil3))) tNil3))) (tCons3 (tTup3 (tCons3 (tC3 (.int 1)) (tCons3 (tTup3 (tCons3 (tC3 (.int 0)) (tCons3 (tC3 (.int 5)) tNil3))) tNil3))) tNil3)))) tNil3)) (tLst3 (tCons3 (tTup3 (tCons3 (tC3 (.int 1)) (tCons3 (tTup3 (tCons3 (tC3 (.int 0)) (tCons3 (tC3 (.int 5)) tNil3))) tNil3))) (tCons3 (tTup3 (tCons3 (tC3 (.int 3)) (tCons3 (tTup3 (tCons3 (tC3 (.int 1)) (tCons3 (tC3 (.int 1)) tNil3))) tNil3))) (tCons3 (tTup3 (tCons3 (tC3 (.int 3)) (tCons3 (tTup3 (tCons3 (tC3 (.int 1)) (tCons3 (tC3 (.int 2)) tNil3))) tNil3))) tNil3))))))))
def t_law : S3 := (tSeq3 (tFor3 (iRng3 (tC3 (.int 6))) (gName3 2) t_law_f18)
  t_law_f19)
theorem body_law {f__law_by_order : Addr} {fd__law_by_order : FuncData} (G__law_by_order : Has P w K mg base 1 "_law_by_order" ["points"] 1 s__law_by_order (top 15) f__law_by_order fd__law_by_order) {f__law_draw : Addr} {fd__law_draw : FuncData} (G__law_draw : Has P w K mg base 1 "_law_draw" ["pen", "many"] 2 s__law_draw (top 9) f__law_draw fd__law_draw) {f__law_lowest : Addr} {fd__law_lowest : FuncData} (G__law_lowest : Has P w K mg base 2 "_law_lowest" ["q", "numbers"] 2 s__law_lowest (top 13) f__law_lowest fd__law_lowest) {f__law_mixed : Addr} {fd__law_mixed : FuncData} (G__law_mixed : Has P w K mg base 2 "_law_mixed" ["pen", "some"] 2 s__law_mixed (top 11) f__law_mixed fd__law_mixed) {f__law_pick : Addr} {fd__law_pick : FuncData} (G__law_pick : Has P w K mg base 2 "_law_pick" ["pen", "some"] 2 s__law_pick (top 10) f__law_pick fd__law_pick) {f__law_value : Addr} {fd__law_value : FuncData} (G__law_value : Has P w K mg base 1 "_law_value" ["plane", "point"] 2 s__law_value (top 14) f__law_value fd__law_value) {f_in_order : Addr} {fd_in_order : FuncData} (G_in_order : Has P w K mg base 2 "in_order" ["points"] 1 s_in_order (top 5) f_in_order fd_in_order) {f_lowest : Addr} {fd_lowest : FuncData} (G_lowest : Has P w K mg base 1 "lowest" ["q", "numbers"] 2 s_lowest (top 2) f_lowest fd_lowest) {f_middle : Addr} {fd_middle : FuncData} (G_middle : Has P w K mg base 2 "middle" ["points"] 1 s_middle (top 6) f_middle fd_middle) {f_value : Addr} {fd_value : FuncData} (G_value : Has P w K mg base 1 "value" ["plane", "point"] 2 s_value (top 3) f_value fd_value) {f : Addr} {cdv : Value} {A : Around} {outer : List Env} {s : Shared} {H : Hp} {E : XK} (T : Txt mg) (hr : Room 2 (A.deeper (envOfC "law" (defScope (top 16)) s.heap.objs.size f cdv))) :
    P3Ss (cxOf CX0 P w K mg base n_law "law" (defScope (top 16)) f cdv A outer s H E).nox W0 ((defBody (top 16)).tail) t_law :=
  have hu64 := hu64_of hr
  have hu1 := hu_of hr
  (scons (sfor PassesOwn.never (by rfl) (irng (by rfl) T.range int3) (gn3 2 sc_law.nd)
    (scons (sasg (tup3 (acons (add3 int3 (call3 m_s__law_draw (G__law_draw.ok.mono (by decide)) hr (by rfl) G__law_draw.mg G__law_draw.kp G__law_draw.bd (acons (v3 1) (acons int3 anil)))) (acons (call3 m_s__law_pick (G__law_pick.ok.mono (by decide)) hr (by rfl) G__law_pick.mg G__law_pick.kp G__law_pick.bd (acons (v3 1) (acons (lst3 (acons int3 (acons int3 (acons (pow3 int3 int3) (acons (pow3 int3 int3) anil))))) anil))) anil))) (gtup3 (by rfl) (gcons3 (gn3 3 sc_law.nd) (gcons3 (gn3 4 sc_law.nd) gnil3))))
  (scons (sown2 (i := 5) (j := 6) (by rfl) sc_law.nd (by rfl) (by rfl) (by decide) (by rfl) (by rfl) (flst anil) (flst anil) (by rfl))
  (scons (sfor PassesOwn.never (by rfl) (irng (by rfl) T.range (add3 int3 (call3 m_s__law_draw (G__law_draw.ok.mono (by decide)) hr (by rfl) G__law_draw.mg G__law_draw.kp G__law_draw.bd (acons (v3 1) (acons int3 anil))))) (gn3 7 sc_law.nd)
    (scons (ssetLc (i := 8) (own := [("at", 9)]) (by rfl) sc_law.nd (by rfl) (by rfl) (sw_true rfl rfl rfl (by decide +kernel)) (irng (by rfl) T.range (v3 3)) (blkOk_by (own := [("at", 9)]) (N := n_law) (sc := defScope (top 16)) (by decide +kernel)) (fun _ _ _ _ _ => (gn3 9 sc_law.nd)) (fun _ _ _ _ _ => tsnil) (fun _ _ _ _ _ => (sub3 (call3 m_s__law_draw (G__law_draw.ok.mono (by decide)) hr (by rfl) G__law_draw.mg G__law_draw.kp G__law_draw.bd (acons (v3 1) (acons (add3 (mul3 int3 (v3 4)) int3) anil))) (v3 4))))
  (scons (sasg (tup3 (acons (add3 int3 (call3 m_s__law_draw (G__law_draw.ok.mono (by decide)) hr (by rfl) G__law_draw.mg G__law_draw.kp G__law_draw.bd (acons (v3 1) (acons (call3 m_s__law_pick (G__law_pick.ok.mono (by decide)) hr (by rfl) G__law_pick.mg G__law_pick.kp G__law_pick.bd (acons (v3 1) (acons (lst3 (acons int3 (acons int3 (acons (v3 4) anil)))) anil))) anil)))) (acons (call3 m_s__law_pick (G__law_pick.ok.mono (by decide)) hr (by rfl) G__law_pick.mg G__law_pick.kp G__law_pick.bd (acons (v3 1) (acons (lst3 (acons int3 (acons (neg3 int3) (acons int3 (acons (neg3 int3) (acons (v3 4) anil)))))) anil))) anil))) (gtup3 (by rfl) (gcons3 (gn3 10 sc_law.nd) (gcons3 (gn3 11 sc_law.nd) gnil3))))
  (scons (sasg (call3 m_s_lowest (G_lowest.ok.mono (by decide)) hr (by rfl) G_lowest.mg G_lowest.kp G_lowest.bd (acons (mul3 (v3 10) (v3 11)) (acons (lc3 (own := [("number", 13)]) (by rfl) sc_law.nd (iseq (v3 8)) (blkOk_by (own := [("number", 13)]) (N := n_law) (sc := defScope (top 16)) (by decide +kernel)) (fun _ _ _ _ _ => (gn3 13 sc_law.nd)) (fun _ _ _ _ _ => tsnil) (fun _ _ _ _ _ => (mul3 (v3 13) (v3 11)))) anil))) (gn3 12 sc_law.nd))
  (scons (sif (P3W.pt (or3 (neT3 hu64 (v3 12) (call3 m_s__law_lowest (G__law_lowest.ok.mono (by decide)) hr (by rfl) G__law_lowest.mg G__law_lowest.kp G__law_lowest.bd (acons (v3 10) (acons (v3 8) anil)))) (or3 (neT3 hu64 (callK03 m_s_lowest (G_lowest.ok.mono (by decide)) hr (by rfl) G_lowest.mg G_lowest.kp (Fun.kbinds (ks := ["numbers", "q"]) (m := 0) (c := 2) (ix := [1, 0]) (by decide) G_lowest.fn fun _ _ _ _ _ _ us ws h1 h2 => match us, ws, h1, h2 with | [], [_, _], _, _ => rfl) (kcons (tuple3 (by rfl) T.tuple (v3 8)) (kcons (v3 10) knil))) (v3 12)) (or1 (neT3 hu64 (call3 m_s_lowest (G_lowest.ok.mono (by decide)) hr (by rfl) G_lowest.mg G_lowest.kp G_lowest.bd (acons (sub3 int3 (v3 10)) (acons (v3 8) anil))) (call3 m_s__law_lowest (G__law_lowest.ok.mono (by decide)) hr (by rfl) G__law_lowest.mg G__law_lowest.kp G__law_lowest.bd (acons (v3 10) (acons (lc3 (own := [("number", 13)]) (by rfl) sc_law.nd (iseq (v3 8)) (blkOk_by (own := [("number", 13)]) (N := n_law) (sc := defScope (top 16)) (by decide +kernel)) (fun _ _ _ _ _ => (gn3 13 sc_law.nd)) (fun _ _ _ _ _ => tsnil) (fun _ _ _ _ _ => (sub3 int3 (v3 13)))) anil))))))))
    (sone (sret bl3))
    snil)
  (sone (sapp 5 (v3 12))))))))
  (scons (sasg (tup3 (acons (sub3 (call3 m_s__law_draw (G__law_draw.ok.mono (by decide)) hr (by rfl) G__law_draw.mg G__law_draw.kp G__law_draw.bd (acons (v3 1) (acons (add3 (mul3 int3 (v3 4)) int3) anil))) (v3 4)) (acons (tuple3 (by rfl) T.tuple (lc3 (own := [("at", 9)]) (by rfl) sc_law.nd (irng (by rfl) T.range (v3 3)) (blkOk_by (own := [("at", 9)]) (N := n_law) (sc := defScope (top 16)) (by decide +kernel)) (fun _ _ _ _ _ => (gn3 9 sc_law.nd)) (fun _ _ _ _ _ => tsnil) (fun _ _ _ _ _ => (sub3 (call3 m_s__law_draw (G__law_draw.ok.mono (by decide)) hr (by rfl) G__law_draw.mg G__law_draw.kp G__law_draw.bd (acons (v3 1) (acons int3 anil))) int3)))) anil))) (gn3 14 sc_law.nd))
  (scons (sfor PassesOwn.never (by rfl) (iseq (v3 5)) (gn3 15 sc_law.nd)
    (sone (sif (P3W.pt (or3 (neT3 hu64 (call3 m_s_value (G_value.ok.mono (by decide)) hr (by rfl) G_value.mg G_value.kp G_value.bd (acons (v3 14) (acons (v3 15) anil))) (add3 (mul3 (ix3 (v3 14) int3) (ix3 (v3 15) int3)) (sum3 (by rfl) (by rfl) T.sum (lc3 (own := [("at", 9)]) (by rfl) sc_law.nd (irng (by rfl) T.range (v3 3)) (blkOk_by (own := [("at", 9)]) (N := n_law) (sc := defScope (top 16)) (by decide +kernel)) (fun _ _ _ _ _ => (gn3 9 sc_law.nd)) (fun _ _ _ _ _ => tsnil) (fun _ _ _ _ _ => (mul3 (ix3 (ix3 (v3 14) int3) (v3 9)) (ix3 (ix3 (v3 15) int3) (v3 9)))))))) (or1 (neT3 hu64 (callK03 m_s_value (G_value.ok.mono (by decide)) hr (by rfl) G_value.mg G_value.kp (Fun.kbinds (ks := ["point", "plane"]) (m := 0) (c := 2) (ix := [1, 0]) (by decide) G_value.fn fun _ _ _ _ _ _ us ws h1 h2 => match us, ws, h1, h2 with | [], [_, _], _, _ => rfl) (kcons (v3 15) (kcons (v3 14) knil))) (call3 m_s__law_value (G__law_value.ok.mono (by decide)) hr (by rfl) G__law_value.mg G__law_value.kp G__law_value.bd (acons (v3 14) (acons (v3 15) anil)))))))
    (sone (sret bl3))
    snil)))
  (scons (sasg (call3 m_s__law_mixed (G__law_mixed.ok.mono (by decide)) hr (by rfl) G__law_mixed.mg G__law_mixed.kp G__law_mixed.bd (acons (v3 1) (acons (add3 (v3 5) (sl3 (v3 5) onone (osome int3))) anil))) (gn3 16 sc_law.nd))
  (scons (sif (P3W.pt (or3 (neT3 hu64 (call3 m_s_in_order (G_in_order.ok.mono (by decide)) hr (by rfl) G_in_order.mg G_in_order.kp G_in_order.bd (acons (v3 16) anil)) (call3 m_s__law_by_order (G__law_by_order.ok.mono (by decide)) hr (by rfl) G__law_by_order.mg G__law_by_order.kp G__law_by_order.bd (acons (v3 16) anil))) (or1 (neT3 hu64 (callK03 m_s_in_order (G_in_order.ok.mono (by decide)) hr (by rfl) G_in_order.mg G_in_order.kp (Fun.kbinds (ks := ["points"]) (m := 0) (c := 1) (ix := [0]) (by decide) G_in_order.fn fun _ _ _ _ _ _ us ws h1 h2 => match us, ws, h1, h2 with | [], [_], _, _ => rfl) (kcons (tuple3 (by rfl) T.tuple (v3 16)) knil)) (call3 m_s__law_by_order (G__law_by_order.ok.mono (by decide)) hr (by rfl) G__law_by_order.mg G__law_by_order.kp G__law_by_order.bd (acons (v3 5) anil))))))
    (sone (sret bl3))
    snil)
  (scons (sasg (tup3 (acons (call3 m_s_middle (G_middle.ok.mono (by decide)) hr (by rfl) G_middle.mg G_middle.kp G_middle.bd (acons (v3 16) anil)) (acons int3 anil))) (gtup3 (by rfl) (gcons3 (gn3 17 sc_law.nd) (gcons3 (gn3 18 sc_law.nd) gnil3))))
  (scons (sfor PassesOwn.never (by rfl) (iseq (v3 16)) (gn3 15 sc_law.nd)
    (sone (sasg (mul3 (v3 18) (ix3 (v3 15) int3)) (gn3 18 sc_law.nd))))
  (scons (ssetLc (i := 19) (own := [("at", 9)]) (by rfl) sc_law.nd (by rfl) (by rfl) (sw_true rfl rfl rfl (by decide +kernel)) (irng (by rfl) T.range (v3 3)) (blkOk_by (own := [("at", 9)]) (N := n_law) (sc := defScope (top 16)) (by decide +kernel)) (fun _ _ _ _ _ => (gn3 9 sc_law.nd)) (fun _ _ _ _ _ => tsnil) (fun _ _ _ _ _ => (sum3 (by rfl) (by rfl) T.sum (lc3 (own := [("point", 15)]) (by rfl) sc_law.nd (iseq (v3 16)) (blkOk_in (own := [("point", 15)]) (N := n_law) (sc := { kind := PySem.ScopeKind.function, names := [ (PySem.Str.ofString ".0", PySem.NameKind.local), (PySem.Str.ofString "at", PySem.NameKind.cell), (PySem.Str.ofString "sum", PySem.NameKind.globalImplicit), (PySem.Str.ofString "shuffled", PySem.NameKind.free), (PySem.Str.ofString "whole_one", PySem.NameKind.free)], isGenerator := false, isCoroutine := false, more := [] : PySem.Scope }) (by decide +kernel)) (fun _ _ _ _ _ => (gn3 15 sc_law.nd)) (fun _ _ _ _ _ => tsnil) (fun _ _ _ _ _ => (mul3 (ix3 (ix3 (v3 15) int3) (v3 9)) (div3 (v3 18) (ix3 (v3 15) int3))))))))
  (sone (sif (P3W.pt (or3 (neT3 hu64 (v3 17) (call3 m_s__law_lowest (G__law_lowest.ok.mono (by decide)) hr (by rfl) G__law_lowest.mg G__law_lowest.kp G__law_lowest.bd (acons (mul3 (v3 18) (len3 (by rfl) T.len (v3 16))) (acons (v3 19) anil)))) (or3 (neT3 hu64 (call3 m_s_middle (G_middle.ok.mono (by decide)) hr (by rfl) G_middle.mg G_middle.kp G_middle.bd (acons (sl3 (v3 5) onone (osome int3)) anil)) (ix3 (v3 5) int3)) (or1 (neT3 hu64 (callK03 m_s_middle (G_middle.ok.mono (by decide)) hr (by rfl) G_middle.mg G_middle.kp (Fun.kbinds (ks := ["points"]) (m := 0) (c := 1) (ix := [0]) (by decide) G_middle.fn fun _ _ _ _ _ _ us ws h1 h2 => match us, ws, h1, h2 with | [], [_], _, _ => rfl) (kcons (mul3 (sl3 (v3 5) onone (osome int3)) int3) knil)) (ix3 (v3 5) int3))))))
    (sone (sret bl3))
    snil)))))))))))))
  (sone (sret (andv3 (eq3 hu64 (call3 m_s_lowest (G_lowest.ok.mono (by decide)) hr (by rfl) G_lowest.mg G_lowest.kp G_lowest.bd (acons int3 (acons (lst3 (acons int3 anil)) anil))) (tup3 (acons int3 (acons (tup3 (acons int3 anil)) anil)))) (andv3 (eq3 hu64 (call3 m_s_lowest (G_lowest.ok.mono (by decide)) hr (by rfl) G_lowest.mg G_lowest.kp G_lowest.bd (acons (neg3 int3) (acons (lst3 (acons int3 (acons int3 anil))) anil))) (tup3 (acons int3 (acons (tup3 (acons int3 (acons int3 anil))) anil)))) (onev (eq3 hu64 (call3 m_s_in_order (G_in_order.ok.mono (by decide)) hr (by rfl) G_in_order.mg G_in_order.kp G_in_order.bd (acons (lst3 (acons (tup3 (acons int3 (acons (tup3 (acons int3 (acons int3 anil))) anil))) (acons (tup3 (acons int3 (acons (tup3 (acons int3 (acons int3 anil))) anil))) (acons (tup3 (acons int3 (acons (tup3 (acons int3 (acons int3 anil))) anil))) anil)))) anil)) (lst3 (acons (tup3 (acons int3 (acons (tup3 (acons int3 (acons int3 anil))) anil))) (acons (tup3 (acons int3 (acons (tup3 (acons int3 (acons int3 anil))) anil))) (acons (tup3 (acons int3 (acons (tup3 (acons int3 (acons int3 anil))) anil))) anil)))))))))))
theorem ok_law {f__law_by_order : Addr} {fd__law_by_order : FuncData} (G__law_by_order : Has P w K mg base 1 "_law_by_order" ["points"] 1 s__law_by_order (top 15) f__law_by_order fd__law_by_order) {f__law_draw : Addr} {fd__law_draw : FuncData} (G__law_draw : Has P w K mg base 1 "_law_draw" ["pen", "many"] 2 s__law_draw (top 9) f__law_draw fd__law_draw) {f__law_lowest : Addr} {fd__law_lowest : FuncData} (G__law_lowest : Has P w K mg base 2 "_law_lowest" ["q", "numbers"] 2 s__law_lowest (top 13) f__law_lowest fd__law_lowest) {f__law_mixed : Addr} {fd__law_mixed : FuncData} (G__law_mixed : Has P w K mg base 2 "_law_mixed" ["pen", "some"] 2 s__law_mixed (top 11) f__law_mixed fd__law_mixed) {f__law_pick : Addr} {fd__law_pick : FuncData} (G__law_pick : Has P w K mg base 2 "_law_pick" ["pen", "some"] 2 s__law_pick (top 10) f__law_pick fd__law_pick) {f__law_value : Addr} {fd__law_value : FuncData} (G__law_value : Has P w K mg base 1 "_law_value" ["plane", "point"] 2 s__law_value (top 14) f__law_value fd__law_value) {f_in_order : Addr} {fd_in_order : FuncData} (G_in_order : Has P w K mg base 2 "in_order" ["points"] 1 s_in_order (top 5) f_in_order fd_in_order) {f_lowest : Addr} {fd_lowest : FuncData} (G_lowest : Has P w K mg base 1 "lowest" ["q", "numbers"] 2 s_lowest (top 2) f_lowest fd_lowest) {f_middle : Addr} {fd_middle : FuncData} (G_middle : Has P w K mg base 2 "middle" ["points"] 1 s_middle (top 6) f_middle fd_middle) {f_value : Addr} {fd_value : FuncData} (G_value : Has P w K mg base 1 "value" ["plane", "point"] 2 s_value (top 3) f_value fd_value) {f__law_pen : Addr} {fd__law_pen : FuncData} (FP : Fun K "_law_pen" "_law_pen" (top 8) f__law_pen fd__law_pen) (mP : mg "_law_pen" = some (.ref f__law_pen)) (bP : Binds K fd__law_pen ["script"] []) {f : Addr} {fd : FuncData} (F : Fun K "law" "law" (top 16) f fd) (T : Txt mg) (hl : LawRest 18 t_law) : FnOk P w K mg base CX0 3 f fd ["script"] (spLaw K) := by
  refine F.ok (k := 2) sc_law (fun vs H Q E h => ?_) (fun cdv A outer s H vs Q E hr h => ?_)
  · obtain ⟨a, ns, rfl, _⟩ := h; rfl
  · obtain ⟨a, ns, rfl, hS, h63, q⟩ := h
    have hr1 : Room 1 _ := hr.mono (by decide)
    have rest := body_law G__law_by_order G__law_draw G__law_lowest G__law_mixed G__law_pick G__law_value G_in_order G_lowest G_middle G_value (cdv := cdv) (outer := outer) (s := s) (H := H) (E := E) T hr
    refine ⟨_, pss_cons (ps_set (i := 1) sc_law.nd rfl (by first | exact Or.inl rfl | exact Or.inr rfl) (pe_call (ok__law_pen (base := base) (P := P) (w := w) FP T) hr1 (by rfl) mP FP.kp bP .nil pass0 (pa_cons (pv 0) pa_nil))) rest.run, ?_⟩
    exact ⟨_, rfl, a, ns, rfl, hS, h63, fun p c H' e hp hc ne h1 h2 => law_rest (X := cxOf CX0 P w K mg base n_law "law" (defScope (top 16)) f cdv A outer s H E) h1 h2 ne h63 rfl (fun H' => q H') hl⟩
end
end K16
namespace K16
open PySem PySem.Spec PyProof.Rows L2 L3
theorem loop_gcd {E : Ends3} {a L : Slot} {T : Nat} : ∀ (ns : List Int) (p : Int) (s : Slot), (∀ s, E.nx ⟨[a, L, .val (.int (ns.foldl gcdI p)), s], T⟩) →
    loop3 (gName3 3) (tAsg3 (tCB3 gGcd (tCons3 (tVar3 2) (tCons3 (tVar3 3) tNil3))) (gName3 2)) (ns.map D.int) E ⟨[a, L, .val (.int p), s], T⟩
  | [], p, s, h => h s
  | n :: r, p, s, h => loop_gcd r (gcdI p n) _ h
theorem r_lowest (ds : List D) (TT : Nat) (kk : D → Nat → Prop) (hl : ds.length = 2) (h : s_lowest ds TT kk) : t_lowest { nx := fun ρ => kk .non ρ.T, rt := fun d ρ => kk d ρ.T } ⟨ds.map .val ++ List.replicate 2 .un, TT⟩ := by
  obtain ⟨q, d, ns, rfl, hd, hq, hb, hl, k⟩ := h
  have pl := partL_log (ns := ns) hq hb
  have fin : ∀ E : Ends3, (E.rt = fun d ρ => kk d ρ.T) → ∀ (s : Slot) (d : D), seqD d (ns.map D.int) → (tSeq3 (tIfS3 (tB3 (b3 gLt (tVar3 0) (tC3 (.int 0)))) (tAsg3 (b3 L3.gSub (tC3 (.int 0)) (tVar3 2)) (gName3 2)) tNext3)
    (tRet3 (tTup3 (tCons3 (b3 gDiv (tVar3 0) (tVar3 2)) (tCons3 (tCB3 gTuple (tCons3 (tLc3 (iSeq3 (tVar3 1)) (gName3 3) tYes3 (b3 gDiv (tVar3 3) (tVar3 2)) [3]) tNil3)) tNil3))))) E ⟨[.val (.int q), .val d, .val (.int (gcdL q ns)), s], TT⟩ := by
    intro E hE s d hd
    -- behind the test: part is what it is
    have tail : ∀ (s : Slot), tRet3 (tTup3 (tCons3 (b3 gDiv (tVar3 0) (tVar3 2)) (tCons3 (tCB3 gTuple (tCons3 (tLc3 (iSeq3 (tVar3 1)) (gName3 3) tYes3 (b3 gDiv (tVar3 3) (tVar3 2)) [3]) tNil3)) tNil3))) E ⟨[.val (.int q), .val d, .val (.int (partL q ns)), s], TT⟩ := by
      intro s
      refine ⟨pl, ?_⟩
      have go : ∀ k : List D → Env3 → Prop, k (ns.map fun n => D.int (n.fdiv (partL q ns))) ⟨[.val (.int q), .val d, .val (.int (partL q ns)), .un], TT⟩ → lcGo (gName3 3) tYes3 (b3 gDiv (tVar3 3) (tVar3 2)) [3] (ns.map D.int) [] ⟨[.val (.int q), .val d, .val (.int (partL q ns)), .un], TT⟩ k := fun k hk =>
        lcGo_map D.int (fun n => D.int (n.fdiv (partL q ns))) ns [] (fun n _ K K2 hK => ⟨pl, hK _ rfl⟩) (by rw [List.length_nil]; exact Nat.le_trans (by omega) (by decide : 1000 ≤ sizeLine)) hk
      have e : (ns.map fun n => D.int (n.fdiv (partL q ns))) = (low q ns).2.map D.int := by
        show _ = (ns.map _).map _
        rw [List.map_map]
        rfl
      rcases hd with rfl | rfl
      all_goals
        refine go _ ⟨by show 2 ≤ sizeLine; decide, ?_⟩
        rw [hE]
        show kk (.tup [.int (q.fdiv (partL q ns)), .tup _]) TT
        rw [e]
        exact k
    unfold partL at tail
    show (match decide (q < 0) with | true => _ | false => _)
    by_cases h0 : q < 0
    · rw [decide_eq_true h0]
      have := tail s
      rw [if_pos h0] at this
      exact this
    · rw [decide_eq_false h0]
      have := tail s
      rw [if_neg h0] at this
      exact this
  rcases hd with rfl | rfl
  · exact loop_gcd ns (absI q) .un fun s => fin _ rfl s _ (.inl rfl)
  · exact loop_gcd ns (absI q) .un fun s => fin _ rfl s _ (.inr rfl)
end K16
/-! k16: drawing, read -/
namespace K16
open PySem PySem.Spec PyProof.Rows L2 L3
def penL (cs : List Int) (u r : Int) : Slot := .own (.lst [.lst (cs.map D.int), .int u, .int r])
theorem drawn_fmod {many x : Int} (h : ¬ many < 2) : Drawn many (x.fmod many) := ⟨fun z => absurd z h, fun _ => ⟨Int.fmod_nonneg_of_pos _ (by omega), Int.fmod_lt_of_pos _ (by omega)⟩⟩
theorem bd_fmod {x m : Int} {k : Nat} (h : 0 < m) (hm : m ≤ 2 ^ k) : Bd k (x.fmod m) := by
  have h1 := Int.fmod_nonneg_of_pos x h
  have h2 := Int.fmod_lt_of_pos x h
  show (x.fmod m).natAbs < 2 ^ k
  have h3 : ((x.fmod m).natAbs : Int) < ((2 ^ k : Nat) : Int) := by
    rw [Int.natAbs_of_nonneg h1]
    push_cast
    omega
  exact Int.ofNat_lt.mp h3
theorem pow_of {a : Nat} {i : Int} {j : Int} (h : Bd a i) (ha : a ≤ 64) (h0 : 0 ≤ j) (h1 : j ≤ 1000000) : CPow i j := ⟨h0, h1, h.mono ha⟩
theorem list3_rep (cs : List Int) : SeqAt.shaped (D.lst (cs.map D.int)).py = true := by
  unfold SeqAt.shaped
  have h1 : (D.lst (cs.map D.int)).py = .list (cs.map .int) := by
    show PyData.list (pyA (cs.map D.int)) = _
    rw [pyA_ints]
  rw [h1]
  have := depth_ints' cs
  simp only [PyData.canLay0, lay_ints, PyData.depth, Bool.true_and, decide_eq_true_eq]
  exact decide_eq_true (by omega)
theorem lst_ne_nil (cs : List Int) : (!PyData.eqv (D.lst (cs.map D.int)).py (D.lst []).py) = !cs.isEmpty := by
  cases cs with
  | nil => rfl
  | cons c r => rfl
/-- what stands behind the cell's choice -/
theorem draw_tail {cs : List Int} {u r many cell : Int} {s2 s5 : Slot} {T : Nat} {E : Ends3} (hu : 0 ≤ u) (huT : u ≤ (T : Int)) (hT : T ≤ 1000000) (h2 : ¬ many < 2) (hlog : many.natAbs.log2 < 9000) (hr : r = 0)
    (hE : ∀ (x : Int) (r' : Int) (a b c d : Slot), 0 ≤ r' → Drawn many x → E.rt (.int x) ⟨[penL cs (u + 1) r', .val (.int many), a, b, c, d], T⟩) :
    (tSeq3 (tIfS3 (tAnd3 (tB3 (b3 gLt (tVar3 3) (tCB3 gLen (tCons3 (tIxO 0 (tC3 (.int 0))) tNil3)))) (tB3 (b3 gGe (tCB3 gAbs (tCons3 (tVar3 4) tNil3)) (b3 gPow (tC3 (.int 10)) (tC3 (.int 18)))))) (tSeq3 (tAsg3 (b3 gAdd (b3 gMul (tC3 (.int 2)) (b3 L3.gSub (tCB3 gAbs (tCons3 (tVar3 4) tNil3)) (b3 gPow (tC3 (.int 10)) (tC3 (.int 18))))) (tCB3 gInt (tCons3 (b3 gLt (tVar3 4) (tC3 (.int 0))) tNil3))) (gName3 2))
      (tSeq3 (tSetO 0 (tC3 (.int 2)) (b3 gDiv (tCB3 gInt (tCons3 (tVar3 2) tNil3)) (tVar3 1)))
      (tRet3 (b3 gMod (tCB3 gInt (tCons3 (tVar3 2) tNil3)) (tVar3 1))))) tNext3)
    (tSeq3 (tAsg3 (b3 gMod (tCB3 gInt (tCons3 (b3 gPow (b3 gAdd (b3 gAdd (b3 gMod (tCB3 gInt (tCons3 (tVar3 4) tNil3)) (tC3 (.int 2147483549))) (b3 gMul (tC3 (.int 74609)) (tVar3 3))) (tC3 (.int 9765))) (tC3 (.int 3))) tNil3)) (tC3 (.int 2147483587))) (gName3 5))
    (tSeq3 (tAsg3 (b3 gMod (tCB3 gInt (tCons3 (b3 gPow (b3 gAdd (b3 gAdd (b3 gMul (tVar3 5) (b3 gAdd (b3 gMul (tC3 (.int 2)) (tVar3 3)) (tC3 (.int 4357)))) (b3 gMul (b3 gMul (tC3 (.int 90247)) (tVar3 3)) (tVar3 3))) (tC3 (.int 74609))) (tC3 (.int 5))) tNil3)) (tC3 (.int 2147483563))) (gName3 5))
    (tRet3 (b3 gMod (tCB3 gInt (tCons3 (b3 gDiv (tVar3 5) (tC3 (.int 32))) tNil3)) (tVar3 1)))))) E ⟨[penL cs (u + 1) r, .val (.int many), s2, .val (.int u), .val (.int cell), s5], T⟩ := by
  have hm0 : many ≠ 0 := by omega
  have bu : Bd 20 u := by show u.natAbs < 2 ^ 20; omega
  have bc : ∀ {k : Nat} {c : Int}, c.natAbs < 2 ^ k → Bd k c := fun h => h
  -- the mixing
  have mix : ∀ s2, (tSeq3 (tAsg3 (b3 gMod (tCB3 gInt (tCons3 (b3 gPow (b3 gAdd (b3 gAdd (b3 gMod (tCB3 gInt (tCons3 (tVar3 4) tNil3)) (tC3 (.int 2147483549))) (b3 gMul (tC3 (.int 74609)) (tVar3 3))) (tC3 (.int 9765))) (tC3 (.int 3))) tNil3)) (tC3 (.int 2147483587))) (gName3 5))
    (tSeq3 (tAsg3 (b3 gMod (tCB3 gInt (tCons3 (b3 gPow (b3 gAdd (b3 gAdd (b3 gMul (tVar3 5) (b3 gAdd (b3 gMul (tC3 (.int 2)) (tVar3 3)) (tC3 (.int 4357)))) (b3 gMul (b3 gMul (tC3 (.int 90247)) (tVar3 3)) (tVar3 3))) (tC3 (.int 74609))) (tC3 (.int 5))) tNil3)) (tC3 (.int 2147483563))) (gName3 5))
    (tRet3 (b3 gMod (tCB3 gInt (tCons3 (b3 gDiv (tVar3 5) (tC3 (.int 32))) tNil3)) (tVar3 1))))) E ⟨[penL cs (u + 1) r, .val (.int many), s2, .val (.int u), .val (.int cell), s5], T⟩ := by
    intro s2
    have b1 : Bd 31 (cell.fmod 2147483549) := bd_fmod (by decide) (by decide)
    have b2 : Bd 37 (74609 * u) := Bd.mul (bc (k := 17) (by decide)) bu
    have b3 : Bd 39 (cell.fmod 2147483549 + 74609 * u + 9765) := ((b1.mono (by decide : 31 ≤ 37)).add b2).add (bc (k := 38) (by decide))
    refine ⟨by decide, (bc (k := 17) (c := 74609) (by decide)).cmul bu (by decide) (by decide) (by decide), pow_of b3 (by decide) (by decide) (by decide), by decide, ?_⟩
    refine ⟨Bd.cmul (bc (k := 2) (by decide)) bu (by decide) (by decide) (by decide), ?_⟩
    have c1 : ∀ x : Int, Bd 31 (x.fmod 2147483587) := fun x => bd_fmod (by decide) (by decide)
    have c2 : Bd 23 (2 * u + 4357) := ((Bd.mul (bc (k := 2) (c := 2) (by decide)) bu).add (bc (k := 22) (by decide)))
    have c3 : Bd 37 (90247 * u) := Bd.mul (bc (k := 17) (by decide)) bu
    have c4 : Bd 57 (90247 * u * u) := Bd.mul c3 bu
    refine ⟨(c1 _).cmul c2 (by decide) (by decide) (by decide), (bc (k := 17) (by decide)).cmul bu (by decide) (by decide) (by decide), c3.cmul bu (by decide) (by decide) (by decide), ?_, by decide, ?_⟩
    · exact pow_of (((((c1 _).mul c2).mono (by decide : 31 + 23 ≤ 57)).add c4).add (bc (k := 58) (by decide))) (by decide) (by decide) (by decide)
    · exact ⟨⟨by decide, by decide⟩, hm0, hE _ r _ _ _ _ (by omega) (drawn_fmod h2)⟩
  show (match decide (u < ((cs.map D.int).length : Int)) with | true => _ | false => _)
  by_cases h1 : u < ((cs.map D.int).length : Int)
  · rw [decide_eq_true h1]
    refine ⟨⟨by decide, by decide, by decide⟩, ?_⟩
    show (match decide ((10 : Int) ^ 18 ≤ if cell < 0 then -cell else cell) with | true => _ | false => _)
    by_cases h3 : (10 : Int) ^ 18 ≤ if cell < 0 then -cell else cell
    · rw [decide_eq_true h3]
      refine ⟨⟨by decide, by decide, by decide⟩, .inr (.inl ⟨by decide, by decide⟩), ?_⟩
      refine ⟨⟨hm0, hlog⟩, hm0, ?_⟩
      refine hE _ _ _ _ _ _ ?_ (drawn_fmod h2)
      show 0 ≤ Int.fdiv (2 * ((if cell < 0 then -cell else cell) - 10 ^ 18) + (if decide (cell < 0) then 1 else 0)) many
      refine Int.fdiv_nonneg ?_ (by omega)
      split <;> omega
    · rw [decide_eq_false h3]
      exact mix s2
  · rw [decide_eq_false h1]
    exact mix s2
theorem r__law_draw (ds : List D) (TT : Nat) (kk : D → Nat → Prop) (h : s__law_draw ds TT kk) : ∃ many, ds = [.pen, .int many] ∧ ∀ (cs : List Int) (u r : Int), cs.length ≤ 63 → 0 ≤ u → u ≤ (TT : Int) → 0 ≤ r →
      t__law_draw { nx := fun _ => False, rt := fun d ρ => ∃ T' i, d = .int i ∧ PenSlot ρ T' ∧ kk d T' } ⟨[.own (.lst [.lst (cs.map D.int), .int u, .int r]), .val (.int many)] ++ List.replicate 4 .un, TT⟩ := by
  obtain ⟨many, rfl, hT, hlog, k⟩ := h
  refine ⟨many, rfl, fun cs u r h63 hu huT hr => ?_⟩
  show (match decide (many < 2) with | true => _ | false => _)
  by_cases h2 : many < 2
  · rw [decide_eq_true h2]
    exact ⟨TT, 0, rfl, ⟨cs, u, r, rfl, h63, hu, huT, hr⟩, k 0 TT (Nat.le_succ _) ⟨fun _ => rfl, fun z => by omega⟩⟩
  · rw [decide_eq_false h2]
    have hm0 : many ≠ 0 := by omega
    show (match decide ((0 : Int) < r) with | true => _ | false => _)
    by_cases h0 : 0 < r
    · rw [decide_eq_true h0]
      refine ⟨⟨hm0, hlog⟩, hm0, TT, _, rfl, ⟨cs, u, r.fdiv many, rfl, h63, hu, huT, Int.fdiv_nonneg hr (by omega)⟩, k _ TT (Nat.le_succ _) (drawn_fmod h2)⟩
    · rw [decide_eq_false h0]
      have hr0 : r = 0 := by omega
      have bu : Bd 20 u := by show u.natAbs < 2 ^ 20; omega
      refine ⟨(show Bd 17 74609 by show (74609 : Int).natAbs < 2 ^ 17; decide).cmul bu (by decide) (by decide) (by decide), ?_⟩
      refine ⟨(by decide : 0 ≤ sizeLine), list3_rep cs, list3_rep [], ?_⟩
      have fin : ∀ cell s2 s5, _ := fun (cell : Int) (s2 s5 : Slot) => draw_tail (cs := cs) (u := u) (r := r) (many := many) (cell := cell) (s2 := s2) (s5 := s5) (T := TT) (E := { nx := fun _ => False, rt := fun d ρ => ∃ T' i, d = .int i ∧ PenSlot ρ T' ∧ kk d T' }) hu huT hT h2 hlog hr0
        fun x r' a b c d hr' hx => ⟨TT + 1, x, rfl, ⟨cs, u + 1, r', rfl, h63, by omega, by omega, hr'⟩, k x (TT + 1) (Nat.le_refl _) hx⟩
      show (match !PyData.eqv (D.lst (cs.map D.int)).py (D.lst []).py with | true => _ | false => _)
      rw [lst_ne_nil]
      cases cs with
      | nil => exact fin _ _ _
      | cons c cs' =>
        have hpos : (0 : Int) < (((c :: cs').map D.int).length : Int) := by rw [List.length_map, List.length_cons]; omega
        have hlen : ((((c :: cs').map D.int).length : Nat) : Int) ≠ 0 := by omega
        refine ⟨hlen, ?_⟩
        have f1 := Int.fmod_nonneg_of_pos u hpos
        have f2 := Int.fmod_lt_of_pos u hpos
        generalize hx : u.fmod (((c :: cs').map D.int).length : Int) = x at f1 f2
        have hat : ∃ cell : Int, atI ((c :: cs').map D.int) x = some (.int cell) := by
          unfold atI
          have hix : ixN ((c :: cs').map D.int).length x = some x.toNat := by
            unfold ixN
            rw [if_pos f1, if_pos f2]
          rw [hix]
          have hlt : x.toNat < (c :: cs').length := by rw [List.length_map] at f2; omega
          exact ⟨(c :: cs')[x.toNat], by show ((c :: cs').map D.int)[x.toNat]? = _; rw [List.getElem?_map, List.getElem?_eq_getElem hlt]; rfl⟩
        obtain ⟨cell, hcell⟩ := hat
        show optK (atI ((c :: cs').map D.int) x) _
        rw [hcell]
        exact fin cell _ _
end K16
/-! k16: picks, mixes, greatest divisors, read -/
namespace K16
open PySem PySem.Spec PyProof.Rows L2 L3
theorem ixN_of {n : Nat} {i : Int} (h0 : 0 ≤ i) (h1 : i < n) : ixN n i = some i.toNat := by
  unfold ixN
  rw [if_pos h0, if_pos h1]
theorem atI_of {α : Type} {xs : List α} {i : Int} (h0 : 0 ≤ i) (h1 : i < xs.length) : ∃ x, x ∈ xs ∧ atI xs i = some x := by
  have hlt : i.toNat < xs.length := by omega
  refine ⟨xs[i.toNat], List.getElem_mem hlt, ?_⟩
  unfold atI
  rw [ixN_of h0 h1]
  exact List.getElem?_eq_getElem hlt
theorem drawn_in {n : Nat} {r : Int} (h : Drawn (n : Int) r) (hn : n ≠ 0) : 0 ≤ r ∧ r < n := by
  by_cases h2 : ((n : Nat) : Int) < 2
  · have := h.1 h2; omega
  · exact h.2 (by omega)
theorem log_small {n : Nat} (h : n ≤ 1000) : ((n : Nat) : Int).natAbs.log2 < 9000 := by
  have e : ((n : Nat) : Int).natAbs = n := rfl
  rw [e]
  exact Nat.lt_of_le_of_lt (Nat.log2_le_self n) (by omega)
theorem r__law_pick (ds : List D) (TT : Nat) (kk : D → Nat → Prop) (hl : ds.length = 2) (h : s__law_pick ds TT kk) : t__law_pick { nx := fun ρ => kk .non ρ.T, rt := fun d ρ => kk d ρ.T } ⟨ds.map .val ++ List.replicate 0 .un, TT⟩ := by
  obtain ⟨xs, rfl, hT, hne, hx, k⟩ := h
  refine ⟨rfl, _, rfl, hT, log_small hx, fun r T' hT' hr => ?_⟩
  have hlen : xs.length ≠ 0 := fun z => hne (List.eq_nil_of_length_eq_zero z)
  obtain ⟨h0, h1⟩ := drawn_in hr hlen
  obtain ⟨x, hm, e⟩ := atI_of h0 h1
  show optK (atI xs r) _
  rw [e]
  exact k x hm T' hT'
theorem erase_perm {α : Type} : ∀ {xs : List α} {n : Nat} {x : α}, xs[n]? = some x → (x :: xs.eraseIdx n).Perm xs
  | [], _, _, h => by simp at h
  | y :: ys, 0, x, h => by simp at h; subst h; exact .refl _
  | y :: ys, n + 1, x, h => by
    have h : ys[n]? = some x := by simpa using h
    exact (List.Perm.swap y x _).trans ((erase_perm h).cons y)
theorem loop_mixed {E : Ends3} {s1 : Slot} : ∀ (n : Nat) (lo : Int) (left found : List D) (T : Nat) (s4 : Slot), left.length = n → T + n ≤ 1000000 → found.length + n ≤ 1000 → (∀ ys, ys.Perm (found ++ left) → ∀ T', T' ≤ T + n → ∀ s s4, E.nx ⟨[.val .pen, s1, s, .own (.lst ys), s4], T'⟩) →
    loop3 (gName3 4) (tAppO 3 (tPopO 2 (tFn3 2 s__law_draw (tCons3 (tVar3 0) (tCons3 (tLenO 2) tNil3))))) (upto lo n) E ⟨[.val .pen, s1, .own (.lst left), .own (.lst found), s4], T⟩
  | 0, lo, left, found, T, s4, hl, hT, hf, h => by
    have e : left = [] := List.eq_nil_of_length_eq_zero hl
    subst e
    exact h found (by rw [List.append_nil]) T (Nat.le_refl _) _ _
  | n + 1, lo, left, found, T, s4, hl, hT, hf, h => by
    have hup : upto lo (n + 1) = .int lo :: upto (lo + 1) n := by
      unfold upto
      rw [List.range_succ_eq_map, List.map_cons, List.map_map]
      refine congr (congrArg List.cons ?_) ?_
      · simp
      · apply List.map_congr_left
        intro i _
        show D.int (lo + ((i + 1 : Nat) : Int)) = D.int (lo + 1 + (i : Int))
        congr 1
        omega
    rw [hup]
    refine ⟨rfl, _, rfl, (by omega : T ≤ 1000000), ?_, fun r T' hT' hr => ?_⟩
    · exact log_small (by omega)
    · have hT' : T' ≤ T + 1 := hT'
      obtain ⟨h0, h1⟩ := drawn_in hr (by omega)
      have hlt : r.toNat < left.length := by omega
      refine ⟨⟨by omega, by omega⟩, ?_⟩
      have hs : seqIndex? r left.length = some r.toNat := seqIndex_of h0 h1
      show optK (seqIndex? r left.length) _
      rw [hs]
      have hg : left[r.toNat]? = some left[r.toNat] := List.getElem?_eq_getElem hlt
      show optK left[r.toNat]? _
      rw [hg]
      refine ⟨Nat.lt_of_lt_of_le (by omega : found.length < 1001) (by decide), ?_⟩
      refine loop_mixed n (lo + 1) (left.eraseIdx r.toNat) (found ++ [left[r.toNat]]) T' _ (by rw [List.length_eraseIdx_of_lt hlt]; omega) (by omega) (by rw [List.length_append]; simp; omega) fun ys hp T2 hT2 s s4 => ?_
      refine h ys (hp.trans ?_) T2 (by omega) s s4
      rw [List.append_assoc]
      exact (List.Perm.append_left found (erase_perm hg))
theorem r__law_mixed (ds : List D) (TT : Nat) (kk : D → Nat → Prop) (hl : ds.length = 2) (h : s__law_mixed ds TT kk) : t__law_mixed { nx := fun ρ => kk .non ρ.T, rt := fun d ρ => kk d ρ.T } ⟨ds.map .val ++ List.replicate 3 .un, TT⟩ := by
  obtain ⟨d, xs, rfl, hd, hT, hx, k⟩ := h
  have go : ∀ d, (tSeq3 (tFor3 (iRng3 (tLenO 2)) (gName3 4) (tAppO 3 (tPopO 2 (tFn3 2 s__law_draw (tCons3 (tVar3 0) (tCons3 (tLenO 2) tNil3)))))) (tRet3 (tVar3 3))) { nx := fun ρ => kk .non ρ.T, rt := fun d ρ => kk d ρ.T } ⟨[.val .pen, .val d, .own (.lst xs), .own (.lst []), .un], TT⟩ := fun d => by
    refine ⟨⟨by show -(2 ^ 62) ≤ ((xs.length : Nat) : Int); omega, by show ((xs.length : Nat) : Int) < 2 ^ 62; omega⟩, ?_⟩
    have e : ((xs.length : Nat) : Int).toNat = xs.length := rfl
    show loop3 _ _ (upto 0 ((xs.length : Nat) : Int).toNat) _ _
    rw [e]
    refine loop_mixed xs.length 0 xs [] TT .un rfl hT (by simpa using hx) fun ys hp T' hT' s s4 => ?_
    exact k ys hp T' hT'
  have z : (0 : Nat) ≤ sizeLine := by decide
  rcases hd with rfl | rfl
  · exact ⟨z, ⟨⟨by decide, (by decide : 2 < 5)⟩, by decide, (by decide : 3 < 5)⟩, go _⟩
  · exact ⟨z, ⟨⟨by decide, (by decide : 2 < 5)⟩, by decide, (by decide : 3 < 5)⟩, go _⟩
/-! ### Euclid -/
inductive Eu : Nat → Nat → Nat → Prop
  | done {n a : Nat} : Eu n a 0
  | step {n a b : Nat} : b ≠ 0 → Eu n b (a % b) → Eu (n + 1) a b
theorem Eu.more {n a b : Nat} (h : Eu n a b) : ∀ {m : Nat}, n ≤ m → Eu m a b := by
  induction h with
  | done => exact fun _ => .done
  | @step n a b hb h ih =>
    intro m hm
    obtain ⟨m', rfl⟩ : ∃ m', m = m' + 1 := ⟨m - 1, by omega⟩
    exact .step hb (ih (by omega))
theorem eu_pow : ∀ (m a b : Nat), b < 2 ^ m → Eu (2 * m) a b
  | 0, a, b, h => by
    have : b = 0 := by simpa using h
    subst this; exact .done
  | m + 1, a, b, h => by
    by_cases hb : b = 0
    · subst hb; exact .done
    · refine .step (n := 2 * m + 1) hb ?_
      by_cases hr : a % b = 0
      · rw [hr]; exact .done
      · refine .step (n := 2 * m) hr (eu_pow m _ _ ?_)
        have h1 : b % (a % b) < a % b := Nat.mod_lt _ (by omega)
        have h2 : a % b < b := Nat.mod_lt _ (by omega)
        have h3 : b % (a % b) ≤ b - (a % b) := by
          have := Nat.mod_add_div b (a % b)
          have h4 : 1 ≤ b / (a % b) := Nat.div_pos (by omega) (by omega)
          have h5 : (a % b) * 1 ≤ (a % b) * (b / (a % b)) := Nat.mul_le_mul_left _ h4
          omega
        rw [Nat.pow_succ] at h
        omega
theorem eu_start {a b : Nat} (h : a < 2 ^ 1900) : Eu 3999 a b := by
  by_cases hb : b = 0
  · subst hb; exact .done
  · have h1 : a % b < 2 ^ 1900 := Nat.lt_of_le_of_lt (Nat.mod_le _ _) h
    exact (Eu.step hb (eu_pow 1900 b (a % b) h1)).more (by decide)
end K16
/-! k16: lowest terms by the law's own reckoning, values, common multiples, read -/
namespace K16
open PySem PySem.Spec PyProof.Rows L2 L3
theorem eqv_int (i j : Int) : PyData.eqv (.int i) (.int j) = decide (i = j) := by
  simp only [PyData.eqv]
  rfl
theorem shaped_int (i : Int) : SeqAt.shaped (D.int i).py = true := by
  show (true && decide (PyData.depth (.int i) ≤ 64)) = true
  simp [PyData.depth]
theorem loop_eu {E : Ends3} {T : Nat} {n a b : Nat} (h : Eu n a b) : ∀ (ds : List D) (s : Slot), n ≤ ds.length → (∀ (y s : Slot), E.nx ⟨[.val (.int ((a.gcd b : Nat) : Int)), y, s], T⟩) →
    loop3 (gName3 2) (tSeq3 (tIfS3 (tB3 (b3 gEq (tVar3 1) (tC3 (.int 0)))) tBreak3 tNext3)
      (tPar3 0 1 (tCons3 (tVar3 1) (tCons3 (b3 gMod (tCB3 gInt (tCons3 (tVar3 0) tNil3)) (tCB3 gInt (tCons3 (tVar3 1) tNil3))) tNil3)))) ds E ⟨[.val (.int (a : Int)), .val (.int (b : Int)), s], T⟩ := by
  induction h with
  | @done n a =>
    intro ds s _ fin
    rw [Nat.gcd_zero_right] at fin
    cases ds with
    | nil => exact fin _ _
    | cons d r =>
      exact ⟨shaped_int _, shaped_int _, fin _ _⟩
  | @step n a b hb h ih =>
    intro ds s hl fin
    cases ds with
    | nil => simp at hl
    | cons d r =>
      refine ⟨shaped_int _, shaped_int _, ?_⟩
      show (match PyData.eqv (.int ((b : Nat) : Int)) (.int 0) with | true => _ | false => _)
      rw [eqv_int, decide_eq_false (by omega)]
      refine ⟨by omega, ?_⟩
      have e : Int.fmod ((a : Nat) : Int) ((b : Nat) : Int) = ((a % b : Nat) : Int) := (Int.ofNat_fmod a b).symm
      show loop3 _ _ r E ⟨[.val (.int ((b : Nat) : Int)), .val (.int (Int.fmod ((a : Nat) : Int) ((b : Nat) : Int))), .val d], T⟩
      rw [e]
      refine ih r _ (by simpa using hl) fun y s => ?_
      have := fin y s
      rw [Nat.gcd_comm a b, Nat.gcd_rec b a] at this
      rw [Nat.gcd_comm]
      exact this
theorem r__law_gcd (ds : List D) (TT : Nat) (kk : D → Nat → Prop) (hl : ds.length = 2) (h : s__law_gcd ds TT kk) : t__law_gcd { nx := fun ρ => kk .non ρ.T, rt := fun d ρ => kk d ρ.T } ⟨ds.map .val ++ List.replicate 1 .un, TT⟩ := by
  obtain ⟨a, b, rfl, ha, k⟩ := h
  have e1 : (if a < 0 then -a else a) = ((a.natAbs : Nat) : Int) := by split <;> omega
  have e2 : (if b < 0 then -b else b) = ((b.natAbs : Nat) : Int) := by split <;> omega
  show tSeq3 (tFor3 (iRng3 (tC3 (.int 4000))) _ _) _ _ ⟨[.val (.int (if a < 0 then -a else a)), .val (.int (if b < 0 then -b else b)), .un], TT⟩
  rw [e1, e2]
  refine ⟨⟨by decide, by decide⟩, ?_⟩
  refine loop_eu (eu_start ha) (upto 0 4000) .un (by unfold upto; rw [List.length_map, List.length_range]; decide) fun y s => ?_
  exact k
theorem loop_gcdL {E : Ends3} {a L : Slot} {T : Nat} : ∀ (ns : List Int) (p : Int) (s : Slot), 0 < p → Bd 1900 p → (∀ s, E.nx ⟨[a, L, .val (.int (ns.foldl gcdI p)), s], T⟩) →
    loop3 (gName3 3) (tAsg3 (tFn3 2 s__law_gcd (tCons3 (tVar3 2) (tCons3 (tVar3 3) tNil3))) (gName3 2)) (ns.map D.int) E ⟨[a, L, .val (.int p), s], T⟩
  | [], p, s, _, _, h => h s
  | n :: r, p, s, h0, hb, h => by
    have h1 := gcdI_pos (n := n) h0
    have h2 := gcdI_le (n := n) h0
    exact ⟨rfl, p, n, rfl, hb, loop_gcdL r (gcdI p n) _ h1 (hb.of_le (by omega)) h⟩
theorem r__law_lowest (ds : List D) (TT : Nat) (kk : D → Nat → Prop) (hl : ds.length = 2) (h : s__law_lowest ds TT kk) : t__law_lowest { nx := fun ρ => kk .non ρ.T, rt := fun d ρ => kk d ρ.T } ⟨ds.map .val ++ List.replicate 2 .un, TT⟩ := by
  obtain ⟨q, d, ns, rfl, hd, hq, hb, hl, k⟩ := h
  have pl := partL_log (ns := ns) hq hb
  have ap : 0 < absI q := absI_pos hq
  have ab : Bd 1900 (absI q) := hb.of_le (Nat.le_of_eq (absI_nat q))
  have fin : ∀ E : Ends3, (E.rt = fun d ρ => kk d ρ.T) → ∀ (s : Slot) (d : D), seqD d (ns.map D.int) → (tSeq3 (tAsg3 (tIf3 (tB3 (b3 gGt (tVar3 0) (tC3 (.int 0)))) (tVar3 2) (b3 L3.gSub (tC3 (.int 0)) (tVar3 2))) (gName3 2))
    (tRet3 (tTup3 (tCons3 (b3 gDiv (tVar3 0) (tVar3 2)) (tCons3 (tCB3 gTuple (tCons3 (tLc3 (iSeq3 (tVar3 1)) (gName3 3) tYes3 (b3 gDiv (tVar3 3) (tVar3 2)) [3]) tNil3)) tNil3))))) E ⟨[.val (.int q), .val d, .val (.int (gcdL q ns)), s], TT⟩ := by
    intro E hE s d hd
    have tail : ∀ (s : Slot), tRet3 (tTup3 (tCons3 (b3 gDiv (tVar3 0) (tVar3 2)) (tCons3 (tCB3 gTuple (tCons3 (tLc3 (iSeq3 (tVar3 1)) (gName3 3) tYes3 (b3 gDiv (tVar3 3) (tVar3 2)) [3]) tNil3)) tNil3))) E ⟨[.val (.int q), .val d, .val (.int (partL q ns)), s], TT⟩ := by
      intro s
      refine ⟨pl, ?_⟩
      have go : ∀ k : List D → Env3 → Prop, k (ns.map fun n => D.int (n.fdiv (partL q ns))) ⟨[.val (.int q), .val d, .val (.int (partL q ns)), .un], TT⟩ → lcGo (gName3 3) tYes3 (b3 gDiv (tVar3 3) (tVar3 2)) [3] (ns.map D.int) [] ⟨[.val (.int q), .val d, .val (.int (partL q ns)), .un], TT⟩ k := fun k hk =>
        lcGo_map D.int (fun n => D.int (n.fdiv (partL q ns))) ns [] (fun n _ K K2 hK => ⟨pl, hK _ rfl⟩) (by rw [List.length_nil]; exact Nat.le_trans (by omega) (by decide : 1000 ≤ sizeLine)) hk
      have e : (ns.map fun n => D.int (n.fdiv (partL q ns))) = (low q ns).2.map D.int := by
        show _ = (ns.map _).map _
        rw [List.map_map]
        rfl
      rcases hd with rfl | rfl
      all_goals
        refine go _ ⟨by show 2 ≤ sizeLine; decide, ?_⟩
        rw [hE]
        show kk (.tup [.int (q.fdiv (partL q ns)), .tup _]) TT
        rw [e]
        exact k
    unfold partL at tail
    show (match decide (0 < q) with | true => _ | false => _)
    by_cases h0 : 0 < q
    · rw [decide_eq_true h0]
      have := tail s
      rw [if_neg (by omega)] at this
      exact this
    · rw [decide_eq_false h0]
      have := tail s
      rw [if_pos (by omega)] at this
      exact this
  rcases hd with rfl | rfl
  · exact loop_gcdL ns (absI q) .un ap ab fun s => fin _ rfl s _ (.inl rfl)
  · exact loop_gcdL ns (absI q) .un ap ab fun s => fin _ rfl s _ (.inr rfl)
/-! ### values -/
theorem pairUp_ints : ∀ cs ns : List Int, pairUp (cs.map D.int) (ns.map D.int) = (cs.zip ns).map fun p => D.tup [.int p.1, .int p.2]
  | [], _ => by simp [pairUp]
  | _ :: _, [] => by simp [pairUp]
  | c :: cs, n :: ns => by simp only [List.map_cons, pairUp, List.zip_cons_cons, pairUp_ints cs ns]
theorem dot_zip (cs ns : List Int) : ((cs.zip ns).map fun p => p.1 * p.2).sum = dot cs ns := by
  unfold dot
  congr 1
  rw [List.zip, List.map_zipWith]
theorem read_value {TT : Nat} {kk : D → Nat → Prop} {pl p : Pt} (h3 : Bd 1000 pl.1) (h4 : Bd 1000 p.1) (h5 : ∀ c ∈ pl.2, Bd 1000 c) (h6 : ∀ c ∈ p.2, Bd 1000 c) (h7 : p.2.length ≤ 1000) (k : kk (.int (pl.1 * p.1 + dot pl.2 p.2)) TT) :
    t_value { nx := fun ρ => kk .non ρ.T, rt := fun d ρ => kk d ρ.T } ⟨[.val (ptD pl), .val (ptD p), .un, .un], TT⟩ := by
  refine ⟨h3.cmul h4 (by decide) (by decide) (by decide), ?_⟩
  show lcGo _ _ _ _ (pairUp (pl.2.map D.int) (p.2.map D.int)) [] _ _
  rw [pairUp_ints]
  refine lcGo_map (fun q : Int × Int => D.tup [.int q.1, .int q.2]) (fun q : Int × Int => D.int (q.1 * q.2)) (pl.2.zip p.2) [] (fun q hq K K2 hK => ?_) ?_ ?_
  · have hq1 := List.of_mem_zip hq
    exact ⟨rfl, (h5 _ hq1.1).cmul (h6 _ hq1.2) (by decide) (by decide) (by decide), hK _ rfl⟩
  · rw [List.length_nil, List.length_zip]
    exact Nat.le_trans (by omega) (by decide : 1000 ≤ sizeLine)
  · have e : ([] ++ (pl.2.zip p.2).map fun q : Int × Int => D.int (q.1 * q.2)) = ((pl.2.zip p.2).map fun q : Int × Int => q.1 * q.2).map D.int := by
      rw [List.nil_append, List.map_map]; rfl
    rw [e]
    show optK (allInts _) _
    rw [allInts_of]
    show kk (.int (pl.1 * p.1 + ((pl.2.zip p.2).map fun q : Int × Int => q.1 * q.2).sum)) TT
    rw [dot_zip]
    exact k
theorem r_value (ds : List D) (TT : Nat) (kk : D → Nat → Prop) (hl : ds.length = 2) (h : s_value ds TT kk) : t_value { nx := fun ρ => kk .non ρ.T, rt := fun d ρ => kk d ρ.T } ⟨ds.map .val ++ List.replicate 2 .un, TT⟩ := by
  obtain ⟨pl, p, rfl, h3, h4, h5, h6, h7, k⟩ := h
  exact read_value h3 h4 h5 h6 h7 k
theorem r__law_value (ds : List D) (TT : Nat) (kk : D → Nat → Prop) (hl : ds.length = 2) (h : s__law_value ds TT kk) : t__law_value { nx := fun ρ => kk .non ρ.T, rt := fun d ρ => kk d ρ.T } ⟨ds.map .val ++ List.replicate 2 .un, TT⟩ := by
  obtain ⟨pl, p, rfl, h3, h4, h5, h6, h7, k⟩ := h
  exact read_value h3 h4 h5 h6 h7 k
/-! ### a common multiple -/
theorem loop_whole {E : Ends3} {a : Slot} {T : Nat} : ∀ (pts : List Pt) (w : Int) (b : Nat) (s : Slot), (∀ p ∈ pts, 0 < p.1 ∧ Bd 210 p.1) → 0 < w → Bd b w → 0 < b → b + 210 * pts.length ≤ 3000 →
    (∀ W s, 0 < W → w ∣ W → (∀ p ∈ pts, p.1 ∣ W) → Bd (b + 210 * pts.length) W → E.nx ⟨[a, .val (.int W), s], T⟩) →
    loop3 (gName3 2) (tAsg3 (b3 gDiv (b3 gMul (tVar3 1) (b3 gIx (tVar3 2) (tC3 (.int 0)))) (tCB3 gGcd (tCons3 (tVar3 1) (tCons3 (b3 gIx (tVar3 2) (tC3 (.int 0))) tNil3)))) (gName3 1)) (pts.map ptD) E ⟨[a, .val (.int w), s], T⟩
  | [], w, b, s, hp, h0, hb, hb0, hl, fin => fin w s h0 (Int.dvd_refl _) (by simp) hb
  | p :: r, w, b, s, hp, h0, hb, hb0, hl, fin => by
    obtain ⟨p0, pb⟩ := hp p (by simp)
    rw [List.length_cons] at hl
    have g0 := gcdI_pos (n := p.1) h0
    have g1 : gcdI w p.1 ∣ w := by unfold gcdI; exact Int.ofNat_dvd_left.mpr (Nat.gcd_dvd_left _ _)
    have g2 : gcdI w p.1 ∣ p.1 := by unfold gcdI; exact Int.ofNat_dvd_left.mpr (Nat.gcd_dvd_right _ _)
    have gb : Bd b (gcdI w p.1) := hb.of_le (by have := gcdI_le (n := p.1) h0; omega)
    refine ⟨hb.cmul pb hb0 (by decide) (by omega), ?_⟩
    refine ⟨⟨show gcdI w p.1 ≠ 0 by omega, Nat.lt_of_lt_of_le (gb.log hb0) (by omega)⟩, ?_⟩
    show loop3 _ _ (r.map ptD) E ⟨[a, .val (.int ((w * p.1).fdiv (gcdI w p.1))), .val (ptD p)], T⟩
    -- what comes out is a multiple of both
    have e : (w * p.1).fdiv (gcdI w p.1) = w * (p.1 / gcdI w p.1) := by
      obtain ⟨c, hc⟩ := g2
      have hc2 : p.1 / gcdI w p.1 = c := by
        have := Int.mul_ediv_cancel_left c (show gcdI w p.1 ≠ 0 by omega)
        rw [← hc] at this
        exact this
      rw [hc2]
      have h3 : w * p.1 = (w * c) * gcdI w p.1 := by
        rw [Int.mul_assoc, Int.mul_comm c]
        exact congrArg (fun z => w * z) hc
      rw [h3, Int.fdiv_eq_ediv_of_nonneg _ (by omega), Int.mul_ediv_cancel _ (by omega)]
    have e2 : (w * p.1).fdiv (gcdI w p.1) = p.1 * (w / gcdI w p.1) := by
      obtain ⟨c, hc⟩ := g1
      have hc2 : w / gcdI w p.1 = c := by
        have := Int.mul_ediv_cancel_left c (show gcdI w p.1 ≠ 0 by omega)
        rw [← hc] at this
        exact this
      rw [hc2]
      have h3 : w * p.1 = (p.1 * c) * gcdI w p.1 := by
        rw [Int.mul_comm w, Int.mul_assoc, Int.mul_comm c]
        exact congrArg (fun z => p.1 * z) hc
      rw [h3, Int.fdiv_eq_ediv_of_nonneg _ (by omega), Int.mul_ediv_cancel _ (by omega)]
    have hpos : 0 < p.1 / gcdI w p.1 := by
      obtain ⟨c, hc⟩ := g2
      have hc2 : p.1 / gcdI w p.1 = c := by
        have := Int.mul_ediv_cancel_left c (show gcdI w p.1 ≠ 0 by omega)
        rw [← hc] at this
        exact this
      rw [hc2]
      rw [hc] at p0
      refine Decidable.byContradiction fun hc0 => ?_
      have z : gcdI w p.1 * c ≤ gcdI w p.1 * 0 := Int.mul_le_mul_of_nonneg_left (show c ≤ 0 by omega) (show 0 ≤ gcdI w p.1 by omega)
      rw [Int.mul_zero] at z
      omega
    have hle : (p.1 / gcdI w p.1).natAbs ≤ p.1.natAbs := by
      have := Int.ediv_le_self (gcdI w p.1) (by omega : 0 ≤ p.1)
      omega
    have d1 : w ∣ (w * p.1).fdiv (gcdI w p.1) := ⟨_, e⟩
    have d2 : p.1 ∣ (w * p.1).fdiv (gcdI w p.1) := ⟨_, e2⟩
    refine loop_whole r _ (b + 210) _ (fun z hz => hp z (by simp [hz])) (by rw [e]; exact Int.mul_pos h0 hpos) (by rw [e]; exact hb.mul (pb.of_le hle)) (by omega) (by omega) fun W s hW hd hr hB => ?_
    refine fin W s hW (Int.dvd_trans d1 hd) (fun z hz => ?_) (by rw [List.length_cons]; exact hB.mono (by omega))
    rcases List.mem_cons.mp hz with rfl | hz
    · exact Int.dvd_trans d2 hd
    · exact hr z hz
theorem r_whole_of (ds : List D) (TT : Nat) (kk : D → Nat → Prop) (hl : ds.length = 1) (h : s_whole_of ds TT kk) : t_whole_of { nx := fun ρ => kk .non ρ.T, rt := fun d ρ => kk d ρ.T } ⟨ds.map .val ++ List.replicate 2 .un, TT⟩ := by
  obtain ⟨d, pts, m, rfl, hd, hp, k⟩ := h
  have go : ∀ d, loop3 (gName3 2) (tAsg3 (b3 gDiv (b3 gMul (tVar3 1) (b3 gIx (tVar3 2) (tC3 (.int 0)))) (tCB3 gGcd (tCons3 (tVar3 1) (tCons3 (b3 gIx (tVar3 2) (tC3 (.int 0))) tNil3)))) (gName3 1)) (pts.map ptD) { nx := fun ρ => tRet3 (tVar3 1) { nx := fun ρ => kk .non ρ.T, rt := fun d ρ => kk d ρ.T } ρ, rt := fun d ρ => kk d ρ.T } ⟨[.val d, .val (.int 1), .un], TT⟩ := fun d =>
    loop_whole pts 1 1 .un (fun p hh => ⟨hp.pos p hh, hp.bq p hh⟩) (by decide) (show (1 : Int).natAbs < 2 ^ 1 by decide) (by decide) (by have := hp.few; omega) fun W s h0 _ hd hb => k W ⟨h0, hd, hb⟩
  rcases hd with rfl | rfl
  · exact go _
  · exact go _
end K16
/-! k16: rows of points in order -/
namespace K16
open PySem PySem.Spec PyProof.Rows L2 L3
/-! ### lists of ints, scaled -/
theorem scale_lt {c : Int} (h : 0 < c) : ∀ l l' : List Int, (l.map fun n => n * c) < (l'.map fun n => n * c) ↔ l < l'
  | [], [] => by simp
  | [], y :: ys => by simp
  | x :: xs, [] => by simp
  | x :: xs, y :: ys => by
    rw [List.map_cons, List.map_cons, List.cons_lt_cons_iff, List.cons_lt_cons_iff, scale_lt h xs ys]
    have e1 : x * c < y * c ↔ x < y := Int.mul_lt_mul_right h
    have e2 : x * c = y * c ↔ x = y := ⟨fun z => Int.eq_of_mul_eq_mul_right (by omega) z, fun z => by rw [z]⟩
    rw [e1, e2]
theorem scale_inj {c : Int} (h : 0 < c) : ∀ l l' : List Int, (l.map fun n => n * c) = (l'.map fun n => n * c) → l = l'
  | [], [], _ => rfl
  | [], y :: ys, e => by simp at e
  | x :: xs, [], e => by simp at e
  | x :: xs, y :: ys, e => by
    rw [List.map_cons, List.map_cons] at e
    obtain ⟨e1, e2⟩ := List.cons.inj e
    rw [Int.eq_of_mul_eq_mul_right (by omega) e1, scale_inj h xs ys e2]
theorem fdiv_mul_of {W q : Int} (hq : 0 < q) (h : q ∣ W) : W.fdiv q * q = W := by
  rw [Int.fdiv_eq_ediv_of_nonneg _ (by omega)]
  exact Int.ediv_mul_cancel h
theorem fdiv_pos_of {W q : Int} (hq : 0 < q) (hW : 0 < W) (h : q ∣ W) : 0 < W.fdiv q := by
  have e := fdiv_mul_of hq h
  refine Decidable.byContradiction fun hc => ?_
  have z : W.fdiv q * q ≤ 0 * q := Int.mul_le_mul_of_nonneg_right (show W.fdiv q ≤ 0 by omega) (by omega)
  rw [Int.zero_mul] at z
  omega
/-- the order told by any common multiple is the order told by products -/
theorem scaled_up {W : Int} {p p' : Pt} (hq : 0 < p.1) (h : p.1 ∣ W) : (scaled W p).map (fun n => n * (p.1 * p'.1)) = (p.2.map fun n => n * p'.1).map fun n => n * W := by
  unfold scaled
  rw [List.map_map, List.map_map]
  apply List.map_congr_left
  intro n _
  show n * W.fdiv p.1 * (p.1 * p'.1) = n * p'.1 * W
  have e := fdiv_mul_of hq h
  calc n * W.fdiv p.1 * (p.1 * p'.1) = n * p'.1 * (W.fdiv p.1 * p.1) := by
        simp only [Int.mul_assoc, Int.mul_comm, Int.mul_left_comm]
    _ = n * p'.1 * W := by rw [e]
theorem scaled_lt {W : Int} {p p' : Pt} (hW : 0 < W) (hq : 0 < p.1) (h : p.1 ∣ W) (hq' : 0 < p'.1) (h' : p'.1 ∣ W) : scaled W p < scaled W p' ↔ lt2 p p' := by
  have c : 0 < p.1 * p'.1 := Int.mul_pos hq hq'
  rw [← scale_lt c, scaled_up hq h, Int.mul_comm p.1 p'.1, scaled_up hq' h', scale_lt hW]
  rfl
theorem scaled_eq {W : Int} {p p' : Pt} (hW : 0 < W) (hq : 0 < p.1) (h : p.1 ∣ W) (hq' : 0 < p'.1) (h' : p'.1 ∣ W) (e : scaled W p = scaled W p') : (p.2.map fun n => n * p'.1) = (p'.2.map fun n => n * p.1) := by
  have e2 := congrArg (fun l => l.map fun n => n * (p.1 * p'.1)) e
  have e2 : (scaled W p).map (fun n => n * (p.1 * p'.1)) = (scaled W p').map (fun n => n * (p.1 * p'.1)) := e2
  rw [scaled_up hq h, Int.mul_comm p.1 p'.1, scaled_up hq' h'] at e2
  exact scale_inj hW _ _ e2
/-! ### lowest terms are one -/
theorem gcdI_dvd {a b d : Int} (h1 : d ∣ a) (h2 : d ∣ b) : d ∣ gcdI a b := by
  unfold gcdI
  have z : d.natAbs ∣ Nat.gcd a.natAbs b.natAbs := Nat.dvd_gcd (Int.natAbs_dvd_natAbs.mpr h1) (Int.natAbs_dvd_natAbs.mpr h2)
  exact Int.ofNat_dvd_right.mpr z
/-- what divides x times each of them divides x times their greatest divisor -/
theorem gcdI_mul (x a b : Int) : gcdI (x * a) (x * b) = (x.natAbs : Int) * gcdI a b := by
  unfold gcdI
  rw [Int.natAbs_mul, Int.natAbs_mul, Nat.gcd_mul_left]
  push_cast
  rfl
theorem gcdI_abs (a b : Int) : gcdI (a.natAbs : Int) b = gcdI a b := by
  unfold gcdI
  rw [Int.natAbs_natCast]
theorem fold_mul (x : Int) : ∀ (ns : List Int) (a : Int), (ns.map fun n => x * n).foldl gcdI ((x.natAbs : Int) * a) = (x.natAbs : Int) * ns.foldl gcdI a
  | [], a => rfl
  | n :: r, a => by
    rw [List.map_cons, List.foldl_cons, List.foldl_cons, ← fold_mul x r (gcdI a n)]
    congr 1
    rw [← gcdI_mul x a n]
    unfold gcdI
    rw [Int.natAbs_mul, Int.natAbs_mul, Int.natAbs_natCast, Int.natAbs_mul]
theorem fold_dvd {d : Int} : ∀ (ns : List Int) (a : Int), d ∣ a → (∀ n ∈ ns, d ∣ n) → d ∣ ns.foldl gcdI a
  | [], a, h, _ => h
  | n :: r, a, h, hn => fold_dvd r _ (gcdI_dvd h (hn n (by simp))) fun z hz => hn z (by simp [hz])
theorem low_dvd {p p' : Pt} (hq : 0 < p.1) (hq' : 0 < p'.1) (hl : Low p) (e : (p.2.map fun n => n * p'.1) = (p'.2.map fun n => n * p.1)) : p.1 ∣ p'.1 := by
  have h1 : (p.2.map fun n => p'.1 * n).foldl gcdI ((p'.1.natAbs : Int) * absI p.1) = (p'.1.natAbs : Int) * 1 := by
    rw [fold_mul]
    have hl : p.2.foldl gcdI (absI p.1) = 1 := hl
    rw [hl]
  have h2 : p.1 ∣ (p.2.map fun n => p'.1 * n).foldl gcdI ((p'.1.natAbs : Int) * absI p.1) := by
    refine fold_dvd _ _ ?_ fun n hn => ?_
    · rw [absI_eq]
      have : ((p.1.natAbs : Nat) : Int) = p.1 := by omega
      rw [this]
      exact Int.dvd_mul_left _ _
    · have e2 : (p.2.map fun n => p'.1 * n) = (p'.2.map fun n => n * p.1) := by
        rw [← e]
        exact List.map_congr_left fun n _ => Int.mul_comm _ _
      rw [e2] at hn
      obtain ⟨z, _, rfl⟩ := List.mem_map.mp hn
      exact Int.dvd_mul_left _ _
  rw [h1, Int.mul_one] at h2
  have : ((p'.1.natAbs : Nat) : Int) = p'.1 := by omega
  rw [this] at h2
  exact h2
theorem low_inj {p p' : Pt} (hq : 0 < p.1) (hq' : 0 < p'.1) (hl : Low p) (hl' : Low p') (e : (p.2.map fun n => n * p'.1) = (p'.2.map fun n => n * p.1)) : p = p' := by
  have d1 := low_dvd hq hq' hl e
  have d2 := low_dvd hq' hq hl' e.symm
  have e1 : p.1 = p'.1 := Int.dvd_antisymm (by omega) (by omega) d1 d2
  have e2 : p.2 = p'.2 := by
    rw [e1] at e
    exact scale_inj hq' _ _ e
  exact Prod.ext e1 e2
/-! ### the dict of a row of points -/
def keyP (W : Int) (p : Pt) : List Key := (scaled W p).map Sum.inl
structure Dict (W : Int) (pts : List Pt) (acc : List (List Key × D)) : Prop where
  from_ : ∀ e ∈ acc, ∃ p ∈ pts, e = (keyP W p, ptD p)
  has : ∀ p ∈ pts, keyP W p ∈ acc.map (·.1)
  nd : (acc.map (·.1)).Nodup
  few : acc.length ≤ pts.length
theorem Dict.nil {W : Int} : Dict W [] [] := ⟨by simp, by simp, by simp, by simp⟩
theorem Dict.put {W : Int} {pts : List Pt} {acc : List (List Key × D)} (h : Dict W pts acc) (p : Pt) : Dict W (pts ++ [p]) (putD acc (keyP W p) (ptD p)) := by
  unfold putD
  by_cases hk : (acc.any fun kv => decide (kv.1 = keyP W p)) = true
  · rw [if_pos hk]
    have ek : (acc.map fun kv => if kv.1 = keyP W p then (kv.1, ptD p) else kv).map (·.1) = acc.map (·.1) := by
      rw [List.map_map]
      apply List.map_congr_left
      intro kv _
      show (if kv.1 = keyP W p then (kv.1, ptD p) else kv).1 = kv.1
      split <;> rfl
    refine ⟨fun e he => ?_, fun z hz => ?_, by rw [ek]; exact h.nd, by rw [List.length_map, List.length_append]; have := h.few; omega⟩
    · obtain ⟨kv, h1, rfl⟩ := List.mem_map.mp he
      by_cases hkv : kv.1 = keyP W p
      · rw [if_pos hkv]
        exact ⟨p, by simp, by rw [hkv]⟩
      · rw [if_neg hkv]
        obtain ⟨q, hq, e⟩ := h.from_ kv h1
        exact ⟨q, by simp [hq], e⟩
    · rw [ek]
      rcases List.mem_append.mp hz with hz | hz
      · exact h.has z hz
      · obtain rfl : z = p := by simpa using hz
        obtain ⟨kv, h1, h2⟩ := List.any_eq_true.mp hk
        exact List.mem_map.mpr ⟨kv, h1, of_decide_eq_true h2⟩
  · rw [if_neg hk]
    refine ⟨fun e he => ?_, fun z hz => ?_, ?_, by rw [List.length_append, List.length_append]; have := h.few; simp; omega⟩
    · rcases List.mem_append.mp he with he | he
      · obtain ⟨q, hq, e⟩ := h.from_ e he
        exact ⟨q, by simp [hq], e⟩
      · exact ⟨p, by simp, by simpa using he⟩
    · rw [List.map_append]
      rcases List.mem_append.mp hz with hz | hz
      · exact List.mem_append_left _ (h.has z hz)
      · obtain rfl : z = p := by simpa using hz
        simp
    · rw [List.map_append]
      refine List.nodup_append.mpr ⟨h.nd, by simp, fun a ha b hb e => hk ?_⟩
      have hb : b = keyP W p := by simpa using hb
      obtain ⟨kv, h1, h2⟩ := List.mem_map.mp ha
      refine List.any_eq_true.mpr ⟨kv, h1, decide_eq_true ?_⟩
      rw [h2, e, hb]
theorem keyInts_inl : ∀ ns : List Int, keyInts (ns.map Sum.inl) = some ns
  | [] => rfl
  | n :: r => by simp only [List.map_cons, keyInts, keyInts_inl r, Option.map_some]
theorem keysInts_of : ∀ {acc : List (List Key × D)}, (∀ e ∈ acc, ∃ ns : List Int, e.1 = ns.map Sum.inl) → ∃ nss, keysInts acc = some nss ∧ acc.map (·.1) = nss.map (List.map Sum.inl)
  | [], _ => ⟨[], rfl, rfl⟩
  | (k, d) :: r, h => by
    obtain ⟨ns, e⟩ := h (k, d) (by simp)
    obtain ⟨nss, h1, h2⟩ := keysInts_of (acc := r) fun e he => h e (by simp [he])
    have e : k = ns.map Sum.inl := e
    subst e
    exact ⟨ns :: nss, by simp only [keysInts, keyInts_inl, Option.bind_some, h1, Option.map_some], by rw [List.map_cons, List.map_cons, h2]⟩
theorem inl_inj : ∀ {a b : List Int}, (a.map Sum.inl : List Key) = b.map Sum.inl → a = b
  | [], [], _ => rfl
  | [], _ :: _, e => by simp at e
  | _ :: _, [], e => by simp at e
  | x :: xs, y :: ys, e => by
    rw [List.map_cons, List.map_cons] at e
    obtain ⟨e1, e2⟩ := List.cons.inj e
    rw [Sum.inl.inj e1, inl_inj e2]
theorem valD_of : ∀ {acc : List (List Key × D)} {k : List Key} {d : D}, (acc.map (·.1)).Nodup → (k, d) ∈ acc → valD acc k = some d
  | [], _, _, _, h => by simp at h
  | (k', d') :: r, k, d, nd, h => by
    rw [List.map_cons, List.nodup_cons] at nd
    unfold valD
    by_cases e : k' = k
    · rw [List.find?_cons_of_pos (by simpa using e)]
      rcases List.mem_cons.mp h with h | h
      · cases h; rfl
      · exact (nd.1 (List.mem_map.mpr ⟨(k, d), h, e.symm⟩)).elim
    · rw [List.find?_cons_of_neg (by simpa using e)]
      rcases List.mem_cons.mp h with h | h
      · cases h; exact (e rfl).elim
      · exact valD_of nd.2 h
theorem pairwise_lt : ∀ {l : List (List Int)}, l.Pairwise (fun a b => leI a b = true) → l.Nodup → l.Pairwise (· < ·)
  | [], _, _ => .nil
  | x :: r, h, nd => by
    rw [List.pairwise_cons] at h
    rw [List.nodup_cons] at nd
    refine List.pairwise_cons.mpr ⟨fun y hy => ?_, pairwise_lt h.2 nd.2⟩
    have h1 : x ≤ y := of_decide_eq_true (h.1 y hy)
    refine Decidable.byContradiction fun hn => nd.1 ?_
    have h2 : y ≤ x := List.not_lt.mp hn
    rw [List.le_antisymm h1 h2]
    exact hy
/-- what sorting the dict's keys and looking them up gives -/
theorem dict_order {W : Int} {pts : List Pt} {m : Nat} {acc : List (List Key × D)} (h : Dict W pts acc) (hp : Pts m pts) (hW : 0 < W) (hd : ∀ p ∈ pts, p.1 ∣ W) (hlow : ∀ p ∈ pts, Low p) :
    ∃ nss R, keysInts acc = some nss ∧ (∀ ns ∈ nss, ∃ p ∈ pts, ns = scaled W p) ∧ nss.mergeSort leI = R.map (scaled W) ∧ (∀ p ∈ R, valD acc (keyP W p) = some (ptD p)) ∧ R.length ≤ pts.length ∧ Ord pts R := by
  obtain ⟨nss, h1, h2⟩ := keysInts_of (acc := acc) fun e he => by
    obtain ⟨p, _, e2⟩ := h.from_ e he
    exact ⟨scaled W p, by rw [e2]; rfl⟩
  have hmem : ∀ ns ∈ nss, ∃ p ∈ pts, ns = scaled W p := fun ns hns => by
    have : ns.map Sum.inl ∈ acc.map (·.1) := by rw [h2]; exact List.mem_map.mpr ⟨ns, hns, rfl⟩
    obtain ⟨e, he, e1⟩ := List.mem_map.mp this
    obtain ⟨p, hp, e2⟩ := h.from_ e he
    refine ⟨p, hp, inl_inj ?_⟩
    rw [← e1, e2]
    rfl
  have hall : ∀ p ∈ pts, scaled W p ∈ nss := fun p hp => by
    have := h.has p hp
    rw [h2] at this
    obtain ⟨ns, hns, e⟩ := List.mem_map.mp this
    rw [← inl_inj e]
    exact hns
  have hnd : nss.Nodup := by
    have := h.nd
    rw [h2] at this
    exact List.Pairwise.of_map _ (fun a b hab e => hab (by rw [e])) this
  -- the points behind the keys
  have back : ∀ l : List (List Int), (∀ ns ∈ l, ∃ p ∈ pts, ns = scaled W p) → ∃ R : List Pt, l = R.map (scaled W) ∧ ∀ p ∈ R, p ∈ pts := by
    intro l
    induction l with
    | nil => exact fun _ => ⟨[], rfl, by simp⟩
    | cons x r ih =>
      intro hx
      obtain ⟨p, hp, e⟩ := hx x (by simp)
      obtain ⟨R, e2, h3⟩ := ih fun ns hns => hx ns (by simp [hns])
      exact ⟨p :: R, by rw [List.map_cons, e, e2], fun z hz => by rcases List.mem_cons.mp hz with rfl | hz; exact hp; exact h3 z hz⟩
  have perm := List.mergeSort_perm nss leI
  obtain ⟨R, hR, hRp⟩ := back (nss.mergeSort leI) fun ns hns => hmem ns (perm.mem_iff.mp hns)
  have inj : ∀ p ∈ pts, ∀ p' ∈ pts, scaled W p = scaled W p' → p = p' := fun p hp1 p' hp2 e =>
    low_inj (hp.pos p hp1) (hp.pos p' hp2) (hlow p hp1) (hlow p' hp2) (scaled_eq hW (hp.pos p hp1) (hd p hp1) (hp.pos p' hp2) (hd p' hp2) e)
  have sorted : (nss.mergeSort leI).Pairwise fun a b => leI a b = true := List.pairwise_mergeSort (le := leI) (fun a b c h1 h2 => decide_eq_true (List.le_trans (of_decide_eq_true h1 : a ≤ b) (of_decide_eq_true h2 : b ≤ c)))
    (fun a b => by
      rcases List.le_total a b with z | z
      · have : leI a b = true := decide_eq_true z
        rw [this]; rfl
      · have : leI b a = true := decide_eq_true z
        rw [this, Bool.or_true]) nss
  have strict := pairwise_lt sorted (perm.nodup_iff.mpr hnd)
  refine ⟨nss, R, h1, hmem, hR, fun p hpR => ?_, ?_, ⟨fun p => ⟨hRp p, fun hpp => ?_⟩, ?_⟩⟩
  · have hpp := hRp p hpR
    obtain ⟨e, he, e1⟩ := List.mem_map.mp (h.has p hpp)
    obtain ⟨p', hp', e2⟩ := h.from_ e he
    have e3 : p' = p := by
      refine inj p' hp' p hpp (inl_inj ?_)
      rw [e2] at e1
      exact e1
    rw [e2, e3] at he
    exact valD_of h.nd he
  · have : R.length = nss.length := by
      have e := congrArg List.length hR
      rw [List.length_map] at e
      rw [← e, perm.length_eq]
    have e2 := congrArg List.length h2
    rw [List.length_map, List.length_map] at e2
    have := h.few
    omega
  · have : scaled W p ∈ R.map (scaled W) := by rw [← hR]; exact perm.mem_iff.mpr (hall p hpp)
    obtain ⟨p', hp', e⟩ := List.mem_map.mp this
    rw [← inj p' (hRp p' hp') p hpp e]
    exact hp'
  · rw [hR, List.pairwise_map] at strict
    refine strict.imp_of_mem fun {a b} ha hb hab => ?_
    exact (scaled_lt hW (hp.pos a (hRp a ha)) (hd a (hRp a ha)) (hp.pos b (hRp b hb)) (hd b (hRp b hb))).mp hab
end K16
/-! k16: points in order, read -/
namespace K16
open PySem PySem.Spec PyProof.Rows L2 L3
theorem keyA_ints : ∀ ns : List Int, keyA (ns.map D.int) = some (ns.map Sum.inl)
  | [] => rfl
  | n :: r => by simp only [List.map_cons, keyA, keyI, keyA_ints r, Option.map_some, Option.bind_some]
theorem mul_few {W : Int} {pts : List Pt} {m : Nat} (hp : Pts m pts) (h : Mul W pts) : Bd 1891 W := h.bd.mono (by have := hp.few; omega)
theorem quo_bd {W q : Int} (hW : 0 < W) (hq : 0 < q) (h : q ∣ W) (hb : Bd 1891 W) : Bd 1891 (W.fdiv q) := by
  have e := fdiv_mul_of hq h
  have p := fdiv_pos_of hq hW h
  refine hb.of_le ?_
  have : W.fdiv q * 1 ≤ W.fdiv q * q := Int.mul_le_mul_of_nonneg_left (by omega) (by omega)
  omega
theorem bd_log9 {q : Int} (h : Bd 210 q) : q.natAbs.log2 < 9000 := Nat.lt_of_lt_of_le (h.log (by decide)) (by decide)
/-- the row of a point's numbers, scaled: [number * (whole // point[0]) for number in point[1]] -/
theorem row_go {g : G3} {te : E3} {vs : List Nat} {ρ : Env3} {W : Int} {p : Pt} {k : List D → Env3 → Prop} (hz : p.2.length ≤ 1000)
    (h : ∀ n ∈ p.2, ∀ (K : D → Env3 → Prop) (K2 : Env3 → Prop), (∀ ρ3, ρ3.wipe vs = ρ → K (.int (n * W.fdiv p.1)) ρ3) → g (.int n) ρ (fun ρ1 => tYes3 ρ1 (fun b ρ2 => match b with | true => te ρ2 K (fun _ _ => False) | false => K2 ρ2) (fun _ _ => False))) (q : k ((scaled W p).map D.int) ρ) :
    lcGo g tYes3 te vs (p.2.map D.int) [] ρ k := by
  refine lcGo_map D.int (fun n => D.int (n * W.fdiv p.1)) p.2 [] h (by rw [List.length_nil]; exact Nat.le_trans (by omega) (by decide : 1000 ≤ sizeLine)) ?_
  have e : [] ++ (p.2.map fun n => D.int (n * W.fdiv p.1)) = (scaled W p).map D.int := by
    unfold scaled
    rw [List.nil_append, List.map_map]
    rfl
  rw [e]
  exact q
/-- [keys[key] for key in sorted(keys)] -/
theorem sorted_go {g : G3} {te : E3} {vs : List Nat} {ρ : Env3} {W : Int} {R : List Pt} {k : List D → Env3 → Prop} {nss : List (List Int)} (hz : R.length ≤ 1000) (hR : nss.mergeSort leI = R.map (scaled W))
    (h : ∀ p ∈ R, ∀ (K : D → Env3 → Prop) (K2 : Env3 → Prop), (∀ ρ3, ρ3.wipe vs = ρ → K (ptD p) ρ3) → g (tupI (scaled W p)) ρ (fun ρ1 => tYes3 ρ1 (fun b ρ2 => match b with | true => te ρ2 K (fun _ _ => False) | false => K2 ρ2) (fun _ _ => False))) (q : k (R.map ptD) ρ) :
    lcGo g tYes3 te vs ((nss.mergeSort leI).map tupI) [] ρ k := by
  rw [hR, List.map_map]
  exact lcGo_map (fun p => tupI (scaled W p)) ptD R [] h (by rw [List.length_nil]; exact Nat.le_trans (by omega) (by decide : 1000 ≤ sizeLine)) q
theorem scaled_ne {W : Int} {p : Pt} {m : Nat} (h : p.2.length = m) (hm : 0 < m) : scaled W p ≠ [] := fun z => by
  have := congrArg List.length z
  unfold scaled at this
  rw [List.length_map, List.length_nil] at this
  omega
/-! ### by the law's own reckoning -/
theorem loop_prod {E : Ends3} {a s3 s4 s5 : Slot} {T : Nat} : ∀ (pts : List Pt) (w : Int) (b : Nat) (s : Slot), (∀ p ∈ pts, 0 < p.1 ∧ Bd 210 p.1) → 0 < w → Bd b w → 0 < b → b + 210 * pts.length ≤ 3000 →
    (∀ W s, 0 < W → w ∣ W → (∀ p ∈ pts, p.1 ∣ W) → Bd (b + 210 * pts.length) W → E.nx ⟨[a, .val (.int W), s, s3, s4, s5], T⟩) →
    loop3 (gName3 2) (tAsg3 (b3 gMul (tVar3 1) (b3 gIx (tVar3 2) (tC3 (.int 0)))) (gName3 1)) (pts.map ptD) E ⟨[a, .val (.int w), s, s3, s4, s5], T⟩
  | [], w, b, s, hp, h0, hb, hb0, hl, fin => fin w s h0 (Int.dvd_refl _) (by simp) hb
  | p :: r, w, b, s, hp, h0, hb, hb0, hl, fin => by
    obtain ⟨p0, pb⟩ := hp p (by simp)
    rw [List.length_cons] at hl
    refine ⟨hb.cmul pb hb0 (by decide) (by omega), ?_⟩
    refine loop_prod r (w * p.1) (b + 210) _ (fun z hz => hp z (by simp [hz])) (Int.mul_pos h0 p0) (hb.mul pb) (by omega) (by omega) fun W s hW hd hr hB => ?_
    refine fin W s hW (Int.dvd_trans (Int.dvd_mul_right _ _) hd) (fun z hz => ?_) (by rw [List.length_cons]; exact hB.mono (by omega))
    rcases List.mem_cons.mp hz with rfl | hz
    · exact Int.dvd_trans (Int.dvd_mul_left _ _) hd
    · exact hr z hz
theorem loop_dict {E : Ends3} {a s5 : Slot} {T : Nat} {W : Int} (hW : 0 < W) (hB : Bd 1891 W) : ∀ (pts done : List Pt) (acc : List (List Key × D)) (s s4 : Slot), Dict W done acc → done.length + pts.length ≤ 1000 → (∀ p ∈ pts, 0 < p.1 ∧ Bd 210 p.1 ∧ p.1 ∣ W ∧ p.2.length ≤ 1000 ∧ ∀ n ∈ p.2, Bd 210 n) →
    (∀ acc s s4, Dict W (done ++ pts) acc → E.nx ⟨[a, .val (.int W), s, .own (.dT acc), s4, s5], T⟩) →
    loop3 (gName3 2) (tDPutO 3 (tCB3 gTuple (tCons3 (tLc3 (iSeq3 (b3 gIx (tVar3 2) (tC3 (.int 1)))) (gName3 4) tYes3 (b3 gMul (tVar3 4) (b3 gDiv (tVar3 1) (b3 gIx (tVar3 2) (tC3 (.int 0))))) [4]) tNil3)) (tVar3 2)) (pts.map ptD) E ⟨[a, .val (.int W), s, .own (.dT acc), s4, s5], T⟩
  | [], done, acc, s, s4, hD, hl, hp, fin => fin acc s s4 (by rw [List.append_nil]; exact hD)
  | p :: r, done, acc, s, s4, hD, hl, hp, fin => by
    obtain ⟨p0, pb, pd, pz, pn⟩ := hp p (by simp)
    rw [List.length_cons] at hl
    refine row_go (W := W) pz (fun n hn K K2 hK => ?_) ?_
    · exact ⟨⟨by omega, bd_log9 pb⟩, (pn n hn).cmul (quo_bd hW p0 pd hB) (by decide) (by decide) (by decide), hK _ rfl⟩
    · show optK (keyA ((scaled W p).map D.int)) _
      rw [keyA_ints]
      refine ⟨Nat.lt_of_lt_of_le (by have := hD.few; omega : acc.length < 1001) (by decide), ?_⟩
      exact loop_dict hW hB r (done ++ [p]) (putD acc (keyP W p) (ptD p)) _ _ (hD.put p) (by rw [List.length_append]; simp; omega) (fun z hz => hp z (by simp [hz])) fun acc s s4 h => fin acc s s4 (by rw [List.append_assoc] at h; exact h)
def byRest : S3 := (tSeq3 (tOwn3 3 tEmptyT)
    (tSeq3 (tFor3 (iSeq3 (tVar3 0)) (gName3 2) (tDPutO 3 (tCB3 gTuple (tCons3 (tLc3 (iSeq3 (b3 gIx (tVar3 2) (tC3 (.int 1)))) (gName3 4) tYes3 (b3 gMul (tVar3 4) (b3 gDiv (tVar3 1) (b3 gIx (tVar3 2) (tC3 (.int 0))))) [4]) tNil3)) (tVar3 2)))
    (tRet3 (tLc3 (iSeq3 (tCB3 gSortedT (tCons3 (tVar3 3) tNil3))) (gName3 5) tYes3 (b3 gDG (tVar3 3) (tVar3 5)) [5]))))
theorem r__law_by_order (ds : List D) (TT : Nat) (kk : D → Nat → Prop) (hl : ds.length = 1) (h : s__law_by_order ds TT kk) : t__law_by_order { nx := fun ρ => kk .non ρ.T, rt := fun d ρ => kk d ρ.T } ⟨ds.map .val ++ List.replicate 5 .un, TT⟩ := by
  obtain ⟨d, pts, m, rfl, hd, hp, hm, hm2, hlow, k⟩ := h
  -- behind the product
  have rest : ∀ (W : Int) (s : Slot), Mul W pts → ∀ d, seqD d (pts.map ptD) → byRest { nx := fun ρ => kk .non ρ.T, rt := fun d ρ => kk d ρ.T } ⟨[.val d, .val (.int W), s, .un, .un, .un], TT⟩ := by
    intro W s M d hd
    have hB := mul_few hp M
    have main : ∀ d, loop3 (gName3 2) (tDPutO 3 (tCB3 gTuple (tCons3 (tLc3 (iSeq3 (b3 gIx (tVar3 2) (tC3 (.int 1)))) (gName3 4) tYes3 (b3 gMul (tVar3 4) (b3 gDiv (tVar3 1) (b3 gIx (tVar3 2) (tC3 (.int 0))))) [4]) tNil3)) (tVar3 2)) (pts.map ptD)
        { nx := tRet3 (tLc3 (iSeq3 (tCB3 gSortedT (tCons3 (tVar3 3) tNil3))) (gName3 5) tYes3 (b3 gDG (tVar3 3) (tVar3 5)) [5]) { nx := fun ρ => kk .non ρ.T, rt := fun d ρ => kk d ρ.T }, rt := fun d ρ => kk d ρ.T } ⟨[.val d, .val (.int W), s, .own (.dT []), .un, .un], TT⟩ := fun d =>
      loop_dict M.pos hB pts [] [] s .un .nil (by have := hp.few; simp; omega) (fun p hpp => ⟨hp.pos p hpp, hp.bq p hpp, M.dvd p hpp, by rw [hp.dim p hpp]; exact hm2, hp.bn p hpp⟩) fun acc s s4 hD => by
        rw [List.nil_append] at hD
        obtain ⟨nss, R, e1, e2, e3, e4, e5, e6⟩ := dict_order hD hp M.pos M.dvd hlow
        show optK (keysInts acc) _
        rw [e1]
        refine ⟨fun ns hns => ?_, ?_⟩
        · obtain ⟨p, hpp, rfl⟩ := e2 ns hns
          exact scaled_ne (hp.dim p hpp) hm
        · refine sorted_go (by have := hp.few; omega) e3 (fun p hpR K K2 hK => ?_) (k R e6)
          show optK (keyA ((scaled W p).map D.int)) _
          rw [keyA_ints]
          show optK (valD acc (keyP W p)) _
          rw [e4 p hpR]
          exact hK _ rfl
    rcases hd with rfl | rfl
    · exact ⟨⟨by decide, (by decide : 3 < 6)⟩, main _⟩
    · exact ⟨⟨by decide, (by decide : 3 < 6)⟩, main _⟩
  have first : ∀ d, seqD d (pts.map ptD) → loop3 (gName3 2) (tAsg3 (b3 gMul (tVar3 1) (b3 gIx (tVar3 2) (tC3 (.int 0)))) (gName3 1)) (pts.map ptD) { nx := byRest { nx := fun ρ => kk .non ρ.T, rt := fun d ρ => kk d ρ.T }, rt := fun d ρ => kk d ρ.T } ⟨[.val d, .val (.int 1), .un, .un, .un, .un], TT⟩ := fun d hd =>
    loop_prod pts 1 1 .un (fun p hh => ⟨hp.pos p hh, hp.bq p hh⟩) (by decide) (show (1 : Int).natAbs < 2 ^ 1 by decide) (by decide) (by have := hp.few; omega) fun W s h0 _ hdv hb => rest W s ⟨h0, hdv, hb⟩ d hd
  rcases hd with rfl | rfl
  · exact first _ (.inl rfl)
  · exact first _ (.inr rfl)
/-! ### by the program -/
theorem dcGo_pts {ρ : Env3} {W : Int} {k : List (List Key × D) → Env3 → Prop} {g : G3} {tk tv : E3} {vs : List Nat} : ∀ (pts done : List Pt) (acc : List (List Key × D)), Dict W done acc → done.length + pts.length ≤ 1000 →
    (∀ p ∈ pts, ∀ (K : List Key → D → Env3 → Prop) (K2 : Env3 → Prop), (∀ ρ4, ρ4.wipe vs = ρ → K (keyP W p) (ptD p) ρ4) → g (ptD p) ρ (fun ρ1 => tYes3 ρ1 (fun b ρ2 => match b with | true => tk ρ2 (fun y ρ3 => tv ρ3 (fun z ρ4 => isT y fun ds => optK (keyA ds) fun ks => K ks z ρ4) (fun _ _ => False)) (fun _ _ => False) | false => K2 ρ2) (fun _ _ => False))) →
    (∀ acc, Dict W (done ++ pts) acc → k acc ρ) → dcGo g tYes3 tk tv vs (pts.map ptD) acc ρ k
  | [], done, acc, hD, hl, h, fin => fin acc (by rw [List.append_nil]; exact hD)
  | p :: r, done, acc, hD, hl, h, fin => by
    rw [List.length_cons] at hl
    refine h p (by simp) (fun ks z ρ4 => acc.length < sizeLine ∧ dcGo g tYes3 tk tv vs (r.map ptD) (putD acc ks z) (ρ4.wipe vs) k) _ fun ρ4 e => ⟨Nat.lt_of_lt_of_le (by have := hD.few; omega : acc.length < 1001) (by decide), ?_⟩
    rw [e]
    exact dcGo_pts r (done ++ [p]) _ (hD.put p) (by rw [List.length_append]; simp; omega) (fun z hz => h z (by simp [hz])) fun acc h => fin acc (by rw [List.append_assoc] at h; exact h)
theorem r_in_order (ds : List D) (TT : Nat) (kk : D → Nat → Prop) (hl : ds.length = 1) (h : s_in_order ds TT kk) : t_in_order { nx := fun ρ => kk .non ρ.T, rt := fun d ρ => kk d ρ.T } ⟨ds.map .val ++ List.replicate 5 .un, TT⟩ := by
  obtain ⟨d, pts, m, rfl, hd, hp, hm, hm2, hlow, k⟩ := h
  refine ⟨rfl, d, pts, m, rfl, hd, hp, fun W M => ?_⟩
  have hB := mul_few hp M
  have main : ∀ (d : D), dcGo (gName3 4) tYes3 (tCB3 gTuple (tCons3 (tLc3 (iSeq3 (b3 gIx (tVar3 4) (tC3 (.int 1)))) (gName3 3) tYes3 (b3 gMul (tVar3 3) (b3 gDiv (tVar3 1) (b3 gIx (tVar3 4) (tC3 (.int 0))))) [3]) tNil3)) (tVar3 4) [4] (pts.map ptD) [] ⟨[.val d, .val (.int W), .un, .un, .un, .un], TT⟩
      (fun acc ρ2 => tRet3 (tLc3 (iSeq3 (tCB3 gSortedT (tCons3 (tVar3 2) tNil3))) (gName3 5) tYes3 (b3 gDG (tVar3 2) (tVar3 5)) [5]) { nx := fun ρ => kk .non ρ.T, rt := fun d ρ => kk d ρ.T } ((Env3.back ⟨[.val d, .val (.int W), .un, .un, .un, .un], TT⟩ ρ2 [4]).put 2 (.val (.dT acc)))) := fun d => by
    refine dcGo_pts (W := W) pts [] [] .nil (by have := hp.few; simp; omega) (fun p hpp K K2 hK => ?_) fun acc hD => ?_
    · refine row_go (W := W) (by rw [hp.dim p hpp]; exact hm2) (fun n hn K K2 hK => ?_) ?_
      · exact ⟨⟨by have := hp.pos p hpp; omega, bd_log9 (hp.bq p hpp)⟩, (hp.bn p hpp n hn).cmul (quo_bd M.pos (hp.pos p hpp) (M.dvd p hpp) hB) (by decide) (by decide) (by decide), hK _ rfl⟩
      · show optK (keyA ((scaled W p).map D.int)) _
        rw [keyA_ints]
        exact hK _ rfl
    · rw [List.nil_append] at hD
      obtain ⟨nss, R, e1, e2, e3, e4, e5, e6⟩ := dict_order hD hp M.pos M.dvd hlow
      show optK (keysInts acc) _
      rw [e1]
      refine ⟨fun ns hns => ?_, ?_⟩
      · obtain ⟨p, hpp, rfl⟩ := e2 ns hns
        exact scaled_ne (hp.dim p hpp) hm
      · refine sorted_go (by have := hp.few; omega) e3 (fun p hpR K K2 hK => ?_) (k R e6)
        show optK (keyA ((scaled W p).map D.int)) _
        rw [keyA_ints]
        show optK (valD acc (keyP W p)) _
        rw [e4 p hpR]
        exact hK _ rfl
  rcases hd with rfl | rfl
  · exact main _
  · exact main _
end K16
/-! k16: lowest terms -/
namespace K16
open PySem PySem.Spec PyProof.Rows L2 L3
theorem fdiv_exact {P u : Int} (h : P ≠ 0) : (P * u).fdiv P = u := Int.mul_fdiv_cancel_left u h
theorem fdiv_of_eq {P u x : Int} (h : P ≠ 0) (e : x = P * u) : x.fdiv P = u := by
  subst e
  exact fdiv_exact h
theorem foldG_dvd : ∀ (ns : List Int) (a : Int), ns.foldl gcdI a ∣ a ∧ ∀ n ∈ ns, ns.foldl gcdI a ∣ n
  | [], a => ⟨Int.dvd_refl _, by simp⟩
  | n :: r, a => by
    have ih := foldG_dvd r (gcdI a n)
    have g1 : gcdI a n ∣ a := by unfold gcdI; exact Int.ofNat_dvd_left.mpr (Nat.gcd_dvd_left _ _)
    have g2 : gcdI a n ∣ n := by unfold gcdI; exact Int.ofNat_dvd_left.mpr (Nat.gcd_dvd_right _ _)
    refine ⟨Int.dvd_trans ih.1 g1, fun z hz => ?_⟩
    rcases List.mem_cons.mp hz with rfl | hz
    · exact Int.dvd_trans ih.1 g2
    · exact ih.2 z hz
theorem absI_dvd {q d : Int} (h : d ∣ absI q) : d ∣ q := by
  unfold absI at h
  split at h
  · exact (Int.dvd_neg).mp h
  · exact h
theorem part_dvd {q : Int} {ns : List Int} : partL q ns ∣ q ∧ ∀ n ∈ ns, partL q ns ∣ n := by
  have h := foldG_dvd ns (absI q)
  have h1 : gcdL q ns ∣ q := absI_dvd h.1
  have h2 : ∀ n ∈ ns, gcdL q ns ∣ n := h.2
  unfold partL
  split
  · rw [Int.zero_sub]
    exact ⟨Int.neg_dvd.mpr h1, fun n hn => Int.neg_dvd.mpr (h2 n hn)⟩
  · exact ⟨h1, h2⟩
theorem part_exact {q : Int} {ns : List Int} (h : q ≠ 0) : q = partL q ns * q.fdiv (partL q ns) ∧ ∀ n ∈ ns, n = partL q ns * n.fdiv (partL q ns) := by
  have hP := (partL_bd (ns := ns) h).1
  have hd := part_dvd (q := q) (ns := ns)
  refine ⟨?_, fun n hn => ?_⟩
  · obtain ⟨u, hu⟩ := hd.1
    rw [fdiv_of_eq hP hu]
    exact hu
  · obtain ⟨u, hu⟩ := hd.2 n hn
    rw [fdiv_of_eq hP hu]
    exact hu
/-- told by its parts -/
theorem low_parts {q : Int} {ns : List Int} (h : q ≠ 0) : q = partL q ns * (low q ns).1 ∧ ns = (low q ns).2.map (fun n => partL q ns * n) ∧ 0 < (low q ns).1 := by
  have hP := (partL_bd (ns := ns) h).1
  obtain ⟨e1, e2⟩ := part_exact (ns := ns) h
  have e1 : q = partL q ns * (low q ns).1 := e1
  refine ⟨e1, ?_, ?_⟩
  · have e3 : (low q ns).2.map (fun n => partL q ns * n) = ns := by
      show (ns.map fun n => n.fdiv (partL q ns)).map (fun n => partL q ns * n) = ns
      rw [List.map_map]
      conv => rhs; rw [← List.map_id ns]
      exact List.map_congr_left fun n hn => (e2 n hn).symm
    exact e3.symm
  · have g := (gcdL_pos (ns := ns) h).1
    generalize (low q ns).1 = u at e1
    refine Decidable.byContradiction fun hu => ?_
    unfold partL at e1
    split at e1
    · have z : (0 - gcdL q ns) * u = gcdL q ns * (-u) := by rw [Int.zero_sub, Int.neg_mul, Int.mul_neg]
      have z2 : 0 ≤ gcdL q ns * (-u) := Int.mul_nonneg (by omega) (by omega)
      omega
    · have z2 : 0 ≤ gcdL q ns * (-u) := Int.mul_nonneg (by omega) (by omega)
      rw [Int.mul_neg] at z2
      omega
theorem gcdL_mul (c q : Int) (ns : List Int) : gcdL (c * q) (ns.map fun n => c * n) = (c.natAbs : Int) * gcdL q ns := by
  unfold gcdL
  rw [← fold_mul c ns (absI q)]
  congr 1
  rw [absI_eq, absI_eq, Int.natAbs_mul]
  push_cast
  rfl
theorem partL_mul {c q : Int} {ns : List Int} (hc : c ≠ 0) (hq : q ≠ 0) : partL (c * q) (ns.map fun n => c * n) = c * partL q ns := by
  unfold partL
  rw [gcdL_mul]
  rcases Int.lt_or_gt_of_ne hc with c0 | c0 <;> rcases Int.lt_or_gt_of_ne hq with q0 | q0
  · have : 0 < c * q := Int.mul_pos_of_neg_of_neg c0 q0
    rw [if_neg (by omega), if_pos q0]
    have e : ((c.natAbs : Nat) : Int) = -c := by omega
    rw [e, Int.zero_sub, Int.neg_mul, Int.mul_neg]
  · have : c * q < 0 := Int.mul_neg_of_neg_of_pos c0 q0
    rw [if_pos this, if_neg (by omega)]
    have e : ((c.natAbs : Nat) : Int) = -c := by omega
    rw [e, Int.zero_sub, Int.neg_mul, Int.neg_neg]
  · have : c * q < 0 := Int.mul_neg_of_pos_of_neg c0 q0
    rw [if_pos this, if_pos q0]
    have e : ((c.natAbs : Nat) : Int) = c := by omega
    rw [e, Int.zero_sub, Int.zero_sub, Int.mul_neg]
  · have : 0 < c * q := Int.mul_pos c0 q0
    rw [if_neg (by omega), if_neg (by omega)]
    have e : ((c.natAbs : Nat) : Int) = c := by omega
    rw [e]
theorem low_mul {c q : Int} {ns : List Int} (hc : c ≠ 0) (hq : q ≠ 0) : low (c * q) (ns.map fun n => c * n) = low q ns := by
  have hP := (partL_bd (ns := ns) hq).1
  have hcP : c * partL q ns ≠ 0 := Int.mul_ne_zero hc hP
  obtain ⟨e1, e2⟩ := part_exact (ns := ns) hq
  unfold low
  rw [partL_mul hc hq]
  have key : ∀ x : Int, x = partL q ns * x.fdiv (partL q ns) → (c * x).fdiv (c * partL q ns) = x.fdiv (partL q ns) := fun x e => fdiv_of_eq hcP (by
    rw [Int.mul_assoc, ← e])
  refine Prod.ext (key q e1) ?_
  show (ns.map fun n => c * n).map (fun n => n.fdiv (c * partL q ns)) = ns.map fun n => n.fdiv (partL q ns)
  rw [List.map_map]
  exact List.map_congr_left fun n hn => key n (e2 n hn)
theorem low_low {q : Int} {ns : List Int} (hq : q ≠ 0) : Low (low q ns) := by
  obtain ⟨e1, e2, _⟩ := low_parts (ns := ns) hq
  have g := (gcdL_pos (ns := ns) hq).1
  have h := gcdL_mul (partL q ns) (low q ns).1 (low q ns).2
  rw [← e1, ← e2] at h
  have e : (((partL q ns).natAbs : Nat) : Int) = gcdL q ns := by
    unfold partL
    split <;> omega
  rw [e] at h
  show gcdL (low q ns).1 (low q ns).2 = 1
  have z : gcdL q ns * 1 = gcdL q ns * gcdL (low q ns).1 (low q ns).2 := by rw [Int.mul_one]; exact h
  exact (Int.eq_of_mul_eq_mul_left (by omega) z).symm
theorem low_same {p : Pt} (h0 : 0 < p.1) (hl : Low p) : low p.1 p.2 = p := by
  have hl : gcdL p.1 p.2 = 1 := hl
  unfold low partL
  rw [if_neg (by omega), hl]
  refine Prod.ext ?_ ?_
  · show p.1.fdiv 1 = p.1
    exact Int.fdiv_one _
  · show p.2.map (fun n => n.fdiv 1) = p.2
    conv => rhs; rw [← List.map_id p.2]
    exact List.map_congr_left fun n _ => Int.fdiv_one n
theorem part_le {P u n : Int} (hP : P ≠ 0) (h : n = P * u) : u.natAbs ≤ n.natAbs := by
  rw [h, Int.natAbs_mul]
  have : 1 ≤ P.natAbs := by omega
  calc u.natAbs = 1 * u.natAbs := by omega
    _ ≤ P.natAbs * u.natAbs := Nat.mul_le_mul_right _ this
/-- lowest terms of small numbers are small -/
theorem low_small {q : Int} {ns : List Int} {k : Nat} (hq : q ≠ 0) (hb : Bd k q) (hn : ∀ n ∈ ns, Bd k n) : Bd k (low q ns).1 ∧ (∀ n ∈ (low q ns).2, Bd k n) ∧ (low q ns).2.length = ns.length := by
  have hP := (partL_bd (ns := ns) hq).1
  obtain ⟨e1, e2, _⟩ := low_parts (ns := ns) hq
  refine ⟨hb.of_le (part_le hP e1), fun n hm => ?_, by unfold low; rw [List.length_map]⟩
  have : partL q ns * n ∈ ns := by
    have z : partL q ns * n ∈ (low q ns).2.map (fun n => partL q ns * n) := List.mem_map.mpr ⟨n, hm, rfl⟩
    rw [← e2] at z
    exact z
  exact (hn _ this).of_le (part_le hP rfl)
/-- two rows in order of the same points are one row -/
theorem lex_irrefl (l : List Int) : ¬ l < l := List.lt_irrefl l
theorem sorted_unique : ∀ {R R' : List Pt}, (∀ p, p ∈ R ↔ p ∈ R') → R.Pairwise lt2 → R'.Pairwise lt2 → (∀ p ∈ R, ∀ p' ∈ R, lt2 p p' → ¬ lt2 p' p) → R = R'
  | [], [], _, _, _, _ => rfl
  | [], y :: ys, h, _, _, _ => by have := (h y).mpr (by simp); simp at this
  | x :: xs, [], h, _, _, _ => by have := (h x).mp (by simp); simp at this
  | x :: xs, y :: ys, h, h1, h2, as => by
    have h1' := List.pairwise_cons.mp h1
    have h2' := List.pairwise_cons.mp h2
    have irr : ∀ p ∈ x :: xs, ¬ lt2 p p := fun p hp z => as p hp p hp z z
    have yx : y ∈ x :: xs := (h y).mpr (by simp)
    have xy : x ∈ y :: ys := (h x).mp (by simp)
    have e : x = y := by
      rcases List.mem_cons.mp xy with e | hx
      · exact e
      · rcases List.mem_cons.mp yx with e | hy
        · exact e.symm
        · exact (as x (by simp) y yx (h1'.1 y hy) (h2'.1 x hx)).elim
    subst e
    have hin : ∀ p, p ∈ xs ↔ p ∈ ys := fun p => by
      constructor
      · intro hp
        rcases List.mem_cons.mp ((h p).mp (by simp [hp])) with e | hp'
        · subst e; exact (irr p (by simp) (h1'.1 p hp)).elim
        · exact hp'
      · intro hp
        rcases List.mem_cons.mp ((h p).mpr (by simp [hp])) with e | hp'
        · subst e; exact (irr p (by simp) (h2'.1 p hp)).elim
        · exact hp'
    rw [sorted_unique hin h1'.2 h2'.2 fun p hp p' hp' => as p (by simp [hp]) p' (by simp [hp'])]
theorem ord_unique {pts pts' R R' : List Pt} (h : Ord pts R) (h' : Ord pts' R') (e : ∀ p, p ∈ pts ↔ p ∈ pts') : R = R' := by
  refine sorted_unique (fun p => by rw [h.mem, h'.mem, e]) h.asc h'.asc fun p _ p' _ h1 h2 => ?_
  exact List.lt_asymm h1 h2
end K16
/-! k16: a lap of the law, read -/
namespace K16
open PySem PySem.Spec PyProof.Rows L2 L3
theorem lcGo_drawM {α : Type} {g : G3} {tt : T3} {te : E3} {vs : List Nat} {sl : List Slot} {k : List D → Env3 → Prop} (M : Nat) (emb : α → D) (Ok : α → D → Prop) : ∀ (xs : List α) (acc : List D) (T : Nat), T + xs.length ≤ M →
    (∀ x ∈ xs, ∀ (T : Nat) (K : D → Env3 → Prop) (K2 : Env3 → Prop), T ≤ M → (∀ y T' ρ3, Ok x y → T' ≤ T + 1 → ρ3.wipe vs = ⟨sl, T'⟩ → K y ρ3) → g (emb x) ⟨sl, T⟩ (fun ρ1 => tt ρ1 (fun b ρ2 => match b with | true => te ρ2 K (fun _ _ => False) | false => K2 ρ2) (fun _ _ => False))) →
    acc.length + xs.length ≤ sizeLine → (∀ ys T', Paired Ok xs ys → T' ≤ T + xs.length → k (acc ++ ys) ⟨sl, T'⟩) → lcGo g tt te vs (xs.map emb) acc ⟨sl, T⟩ k
  | [], acc, T, _, _, _, q => by
    have z := q [] T .nil (Nat.le_refl _)
    rw [List.append_nil] at z
    exact z
  | x :: xs, acc, T, hM, h, hz, q => by
    rw [List.map_cons]
    rw [List.length_cons] at hM hz
    refine h x (by simp) T _ _ (by omega) fun y T' ρ3 hy hT e => ⟨by omega, ?_⟩
    rw [e]
    refine lcGo_drawM M emb Ok xs _ T' (by omega) (fun z hz => h z (by simp [hz])) (by rw [List.length_append, List.length_cons, List.length_nil]; omega) fun ys T2 hp hT2 => ?_
    rw [List.append_assoc]
    exact q (y :: ys) T2 (.cons hy hp) (by rw [List.length_cons]; omega)
theorem ne_same {d : D} {k : D → Prop} (hs : SeqAt.shaped d.py = true) (q : k (.bl false)) : gNe d d k := ⟨hs, hs, by rw [eqv_refl d.py (lay_of hs)]; exact q⟩
theorem eq_same {d : D} {k : D → Prop} (hs : SeqAt.shaped d.py = true) (q : k (.bl true)) : gEq d d k := ⟨hs, hs, by rw [eqv_refl d.py (lay_of hs)]; exact q⟩
theorem py_pt (p : Pt) : (ptD p).py = .tuple [.int p.1, .tuple (p.2.map .int)] := by
  show PyData.tuple [PyData.int p.1, PyData.tuple (pyA (p.2.map D.int))] = _
  rw [pyA_ints]
theorem lay_pt (p : Pt) : (ptD p).py.canLay0 = true ∧ (ptD p).py.depth ≤ 4 := by
  rw [py_pt]
  have := depth_ints' p.2
  simp only [PyData.canLay0, PyData.canLayAll0, lay_ints, PyData.depth, PyData.depthAll, Bool.and_self, true_and]
  omega
theorem shaped_pt (p : Pt) : SeqAt.shaped (ptD p).py = true := by
  obtain ⟨h1, h2⟩ := lay_pt p
  unfold SeqAt.shaped
  rw [h1, Bool.true_and]
  exact decide_eq_true (by omega)
theorem lay_pts : ∀ R : List Pt, PyData.canLayAll0 (pyA (R.map ptD)) = true ∧ PyData.depthAll (pyA (R.map ptD)) ≤ 4
  | [] => by simp [pyA, PyData.canLayAll0, PyData.depthAll]
  | p :: r => by
    obtain ⟨h1, h2⟩ := lay_pt p
    obtain ⟨h3, h4⟩ := lay_pts r
    simp only [List.map_cons, pyA, PyData.canLayAll0, PyData.depthAll, h1, h3, Bool.and_self, true_and]
    omega
theorem shaped_pts (R : List Pt) : SeqAt.shaped (D.lst (R.map ptD)).py = true := by
  obtain ⟨h1, h2⟩ := lay_pts R
  show (PyData.canLay0 (.list (pyA (R.map ptD))) && decide (PyData.depth (.list (pyA (R.map ptD))) ≤ 64)) = true
  simp only [PyData.canLay0, h1, PyData.depth, Bool.true_and]
  exact decide_eq_true (by omega)
/-- rows that were drawn -/
def Small (most n : Int) : Prop := n.natAbs ≤ most.natAbs
theorem paired_ints {most : Int} : ∀ {xs : List Nat} {ys : List D}, Paired (fun (_ : Nat) y => ∃ n, y = .int n ∧ Small most n) xs ys → ∃ ns : List Int, ys = ns.map D.int ∧ ns.length = xs.length ∧ ∀ n ∈ ns, Small most n
  | _, _, .nil => ⟨[], rfl, rfl, by simp⟩
  | _, _, .cons h t => by
    obtain ⟨n, rfl, hn⟩ := h
    obtain ⟨ns, rfl, h2, h3⟩ := paired_ints t
    exact ⟨n :: ns, rfl, by rw [List.length_cons, List.length_cons, h2], fun z hz => by rcases List.mem_cons.mp hz with rfl | hz; exact hn; exact h3 z hz⟩
/-- what a lap makes: a point in lowest terms, small, of m numbers -/
structure Made (m : Nat) (p : Pt) : Prop where
  pos : 0 < p.1
  low : Low p
  bq : Bd 210 p.1
  bn : ∀ n ∈ p.2, Bd 210 n
  dim : p.2.length = m
structure Most (most : Int) : Prop where
  pos : 1 ≤ most
  top : most ≤ 10 ^ 30
theorem Most.bd {most : Int} (h : Most most) : Bd 100 most := by
  have h1 := h.pos
  have h2 := h.top
  show most.natAbs < 2 ^ 100
  omega
theorem small_bd {most n : Int} (h : Most most) (s : Small most n) : Bd 100 n := h.bd.of_le s
theorem lap10 {E : Ends3} {s2 s3 s4 s6 s7 s8 s9 s10 s11 s13 s14 s15 s16 s17 s18 s19 : Slot} {pts : List Pt} {p : Pt} {T : Nat} (hl : pts.length ≤ 100)
    (fin : E.nx ⟨[.un, .val .pen, s2, s3, s4, .own (.lst ((pts ++ [p]).map ptD)), s6, s7, s8, s9, s10, s11, .val (ptD p), s13, s14, s15, s16, s17, s18, s19], T⟩) :
    t_law_f10 E ⟨[.un, .val .pen, s2, s3, s4, .own (.lst (pts.map ptD)), s6, s7, s8, s9, s10, s11, .val (ptD p), s13, s14, s15, s16, s17, s18, s19], T⟩ := by
  refine ⟨Nat.lt_of_lt_of_le (by rw [List.length_map]; omega : (pts.map ptD).length < 1000) (by decide), ?_⟩
  have e5 : pts.map ptD ++ [ptD p] = (pts ++ [p]).map ptD := by rw [List.map_append]; rfl
  show E.nx ⟨[.un, .val .pen, s2, s3, s4, .own (.lst (pts.map ptD ++ [ptD p])), s6, s7, s8, s9, s10, s11, .val (ptD p), s13, s14, s15, s16, s17, s18, s19], T⟩
  rw [e5]
  exact fin
theorem lap11 {E : Ends3} {s2 s3 s4 s6 s7 s9 s11 s13 s14 s15 s16 s17 s18 s19 : Slot} {pts : List Pt} {q : Int} {ns : List Int} {T : Nat} (hl : pts.length ≤ 100) (hq0 : q ≠ 0) (bq : Bd 100 q) (lns : ns.length ≤ 1000)
    (fin : ∀ s13, E.nx ⟨[.un, .val .pen, s2, s3, s4, .own (.lst ((pts ++ [low q ns]).map ptD)), s6, s7, .val (.lst (ns.map D.int)), s9, .val (.int q), s11, .val (ptD (low q ns)), s13, s14, s15, s16, s17, s18, s19], T⟩) :
    t_law_f11 E ⟨[.un, .val .pen, s2, s3, s4, .own (.lst (pts.map ptD)), s6, s7, .val (.lst (ns.map D.int)), s9, .val (.int q), s11, .val (ptD (low q ns)), s13, s14, s15, s16, s17, s18, s19], T⟩ := by
  have shp := shaped_pt (low q ns)
  have z := fun s13 => lap10 (p := low q ns) (s8 := .val (.lst (ns.map D.int))) (s10 := .val (.int q)) hl (fin s13)
  refine ⟨rfl, q, _, ns, rfl, .inl rfl, hq0, bq.mono (by decide), lns, ne_same shp ?_⟩
  refine ⟨rfl, q, _, ns, rfl, .inr rfl, hq0, bq.mono (by decide), lns, ?_⟩
  dsimp only [tVar3, Env3.rd, Env3.at]
  simp only [List.getElem?_cons_succ, List.getElem?_cons_zero]
  refine ne_same shp ?_
  refine ⟨rfl, 0 - q, _, ns, rfl, .inl rfl, by omega, bq.sub0.mono (by decide), lns, ?_⟩
  refine lcGo_map D.int (fun n => D.int (0 - n)) ns [] (fun n hn K K2 hK => hK _ rfl) (by rw [List.length_nil]; exact Nat.le_trans (by omega) (by decide : 1000 ≤ sizeLine)) ?_
  have e3 : [] ++ (ns.map fun n => D.int (0 - n)) = (ns.map fun n => -1 * n).map D.int := by
    rw [List.nil_append, List.map_map]
    exact List.map_congr_left fun n _ => congrArg D.int (by show 0 - n = -1 * n; omega)
  rw [e3]
  refine ⟨rfl, q, _, ns.map fun n => -1 * n, rfl, .inl rfl, hq0, bq.mono (by decide), by rw [List.length_map]; exact lns, ?_⟩
  have e4 : low (0 - q) ns = low q (ns.map fun n => -1 * n) := by
    have h := low_mul (c := -1) (q := 0 - q) (ns := ns) (by decide) (by omega)
    have e : -1 * (0 - q) = q := by omega
    rw [e] at h
    exact h.symm
  show gNe (ptD (low (0 - q) ns)) (ptD (low q (ns.map fun n => -1 * n))) _
  rw [e4]
  exact ne_same (shaped_pt _) (z _)
theorem lap12 {E : Ends3} {s2 s3 s4 s6 s7 s9 s12 s13 s14 s15 s16 s17 s18 s19 : Slot} {pts : List Pt} {q by_ : Int} {ns : List Int} {T : Nat} (hl : pts.length ≤ 100) (hq0 : q ≠ 0) (bq : Bd 100 q) (lns : ns.length ≤ 1000) (bns : ∀ n ∈ ns, Bd 100 n) (hby : by_ ≠ 0) (bby : Bd 100 by_)
    (fin : ∀ s13, E.nx ⟨[.un, .val .pen, s2, s3, s4, .own (.lst ((pts ++ [low q ns]).map ptD)), s6, s7, .val (.lst (ns.map D.int)), s9, .val (.int q), .val (.int by_), .val (ptD (low q ns)), s13, s14, s15, s16, s17, s18, s19], T⟩) :
    t_law_f12 E ⟨[.un, .val .pen, s2, s3, s4, .own (.lst (pts.map ptD)), s6, s7, .val (.lst (ns.map D.int)), s9, .val (.int q), .val (.int by_), s12, s13, s14, s15, s16, s17, s18, s19], T⟩ := by
  refine ⟨bq.cmul bby (by decide) (by decide) (by decide), ?_⟩
  refine lcGo_map D.int (fun n => D.int (n * by_)) ns [] (fun n hn K K2 hK => ⟨(bns n hn).cmul bby (by decide) (by decide) (by decide), hK _ rfl⟩) (by rw [List.length_nil]; exact Nat.le_trans (by omega) (by decide : 1000 ≤ sizeLine)) ?_
  have e1 : [] ++ (ns.map fun n => D.int (n * by_)) = (ns.map fun n => by_ * n).map D.int := by
    rw [List.nil_append, List.map_map]
    exact List.map_congr_left fun n _ => congrArg D.int (Int.mul_comm _ _)
  rw [e1]
  refine ⟨rfl, q * by_, _, ns.map fun n => by_ * n, rfl, .inl rfl, Int.mul_ne_zero hq0 hby, (bq.mul bby).mono (by decide), by rw [List.length_map]; exact lns, ?_⟩
  have e2 : low (q * by_) (ns.map fun n => by_ * n) = low q ns := by
    rw [Int.mul_comm q by_]
    exact low_mul hby hq0
  rw [e2]
  exact lap11 hl hq0 bq lns fin
theorem lap13 {E : Ends3} {s2 s3 s6 s7 s9 s10 s11 s12 s13 s14 s15 s16 s17 s18 s19 : Slot} {pts : List Pt} {most : Int} {ns : List Int} {T1 : Nat} (hl : pts.length ≤ 100) (hmost : Most most) (hT : T1 + 5 ≤ 1000000) (lns : ns.length ≤ 1000) (bns : ∀ n ∈ ns, Bd 100 n)
    (fin : ∀ q s11 s13 T', q ≠ 0 → Bd 100 q → T' ≤ T1 + 5 → E.nx ⟨[.un, .val .pen, s2, s3, .val (.int most), .own (.lst ((pts ++ [low q ns]).map ptD)), s6, s7, .val (.lst (ns.map D.int)), s9, .val (.int q), s11, .val (ptD (low q ns)), s13, s14, s15, s16, s17, s18, s19], T'⟩) :
    t_law_f13 E ⟨[.un, .val .pen, s2, s3, .val (.int most), .own (.lst (pts.map ptD)), s6, s7, .val (.lst (ns.map D.int)), s9, s10, s11, s12, s13, s14, s15, s16, s17, s18, s19], T1⟩ := by
  have hb := hmost.bd
  have h1 := hmost.pos
  have h2 := hmost.top
  have z3 : (3 : Nat) ≤ sizeLine := by decide
  have z5 : (5 : Nat) ≤ sizeLine := by decide
  have z2 : (2 : Nat) ≤ sizeLine := by decide
  refine ⟨z3, rfl, _, rfl, show T1 ≤ 1000000 by omega, by simp, by simp, fun x hx T2 hT2 => ?_⟩
  have hx : ∃ xi : Int, x = .int xi ∧ 1 ≤ xi ∧ xi ≤ 10 ^ 30 := by
    simp only [List.mem_cons, List.not_mem_nil, or_false] at hx
    rcases hx with rfl | rfl | rfl
    · exact ⟨1, rfl, by decide, by decide⟩
    · exact ⟨5, rfl, by decide, by decide⟩
    · exact ⟨most, rfl, h1, h2⟩
  obtain ⟨xi, rfl, x1, x2⟩ := hx
  have bx : Bd 100 xi := by show xi.natAbs < 2 ^ 100; omega
  have hT2 : T2 ≤ T1 + 1 := hT2
  refine ⟨rfl, xi, rfl, show T2 ≤ 1000000 by omega, Nat.lt_of_lt_of_le (bx.log (by decide)) (by decide), fun r T3 hT3 hr => ?_⟩
  have hT3 : T3 ≤ T2 + 1 := hT3
  have hr0 : 0 ≤ r ∧ r < 10 ^ 30 := by
    by_cases h : xi < 2
    · have := hr.1 h; omega
    · have := hr.2 (by omega); omega
  refine ⟨z5, rfl, _, rfl, show T3 ≤ 1000000 by omega, by simp, by simp, fun y hy T4 hT4 => ?_⟩
  have hT4 : T4 ≤ T3 + 1 := hT4
  have hy : ∃ by_ : Int, y = .int by_ ∧ by_ ≠ 0 ∧ Bd 100 by_ := by
    simp only [List.mem_cons, List.not_mem_nil, or_false] at hy
    rcases hy with rfl | rfl | rfl | rfl | rfl
    · exact ⟨1, rfl, by decide, show (1 : Int).natAbs < 2 ^ 100 by decide⟩
    · exact ⟨-1, rfl, by decide, show (-1 : Int).natAbs < 2 ^ 100 by decide⟩
    · exact ⟨2, rfl, by decide, show (2 : Int).natAbs < 2 ^ 100 by decide⟩
    · exact ⟨-6, rfl, by decide, show (-6 : Int).natAbs < 2 ^ 100 by decide⟩
    · exact ⟨most, rfl, by omega, hb⟩
  obtain ⟨by_, rfl, hby, bby⟩ := hy
  have hq0 : (1 : Int) + r ≠ 0 := by omega
  have bq : Bd 100 (1 + r) := by show (1 + r).natAbs < 2 ^ 100; omega
  exact ⟨z2, rfl, lap12 hl hq0 bq lns bns hby bby fun s13 => fin (1 + r) _ s13 T4 hq0 bq (by omega)⟩
theorem lap_read {E : Ends3} {s2 s6 s7 s8 s9 s10 s11 s12 s13 s14 s15 s16 s17 s18 s19 : Slot} {m : Nat} {most : Int} {pts : List Pt} {T : Nat} (hm : m ≤ 2) (hmost : Most most) (hT : T + 10 ≤ 1000000) (hl : pts.length ≤ 100)
    (fin : ∀ p s8 s9 s10 s11 s12 s13 T', Made m p → T' ≤ T + 10 → E.nx ⟨[.un, .val .pen, s2, .val (.int m), .val (.int most), .own (.lst ((pts ++ [p]).map ptD)), s6, s7, s8, s9, s10, s11, s12, s13, s14, s15, s16, s17, s18, s19], T'⟩) :
    t_law_f14 E ⟨[.un, .val .pen, s2, .val (.int m), .val (.int most), .own (.lst (pts.map ptD)), s6, s7, s8, s9, s10, s11, s12, s13, s14, s15, s16, s17, s18, s19], T⟩ := by
  have b2 : Bd 2 2 := show (2 : Int).natAbs < 2 ^ 2 by decide
  have hb := hmost.bd
  have h1 := hmost.pos
  have h2 := hmost.top
  refine ⟨⟨by omega, by omega⟩, ?_⟩
  have up : upto 0 ((m : Nat) : Int).toNat = (List.range m).map fun (i : Nat) => D.int (0 + (i : Int)) := rfl
  show lcGo _ _ _ _ (upto 0 ((m : Nat) : Int).toNat) [] _ _
  rw [up]
  refine lcGo_drawM (T + 10) (fun (i : Nat) => D.int (0 + (i : Int))) (fun _ y => ∃ n, y = .int n ∧ Small most n) (List.range m) [] T (by rw [List.length_range]; omega) (fun i _ T' K K2 hT' hK => ?_) (by rw [List.length_range]; exact Nat.le_trans (by simp; omega) (by decide : 1000 ≤ sizeLine)) fun ys T1 hys hT1 => ?_
  · refine ⟨b2.cmul hb (by decide) (by decide) (by decide), rfl, _, rfl, show T' ≤ 1000000 by omega, ?_, fun r T2 hT2 hr => ?_⟩
    · exact Nat.lt_of_lt_of_le (((b2.mul hb).add (show Bd (2 + 100) 1 by show (1 : Int).natAbs < 2 ^ 102; decide)).log (by decide)) (by decide)
    · refine hK _ T2 _ ⟨_, rfl, ?_⟩ hT2 rfl
      have := hr.2 (by omega)
      show (r - most).natAbs ≤ most.natAbs
      omega
  obtain ⟨ns, rfl, hns, hsm⟩ := paired_ints hys
  rw [List.length_range] at hns hT1
  have bns : ∀ n ∈ ns, Bd 100 n := fun n hn => small_bd hmost (hsm n hn)
  refine lap13 (T1 := T1) hl hmost (by omega) (by omega) bns fun q s11 s13 T' hq0 bq hT' => ?_
  obtain ⟨c1, c2, c3⟩ := low_small hq0 bq bns
  exact fin (low q ns) _ _ _ _ _ _ T' ⟨(low_parts hq0).2.2, low_low hq0, c1.mono (by decide), fun n hn => (c2 n hn).mono (by decide), by rw [c3]; exact hns⟩ (by omega)
end K16
/-! k16: means -/
namespace K16
open PySem PySem.Spec PyProof.Rows L2 L3
theorem perm_map {α β : Type} {f : α → β} {ys zs : List β} (h : ys.Perm zs) : ∀ l : List α, zs = l.map f → ∃ l' : List α, l'.Perm l ∧ ys = l'.map f := by
  induction h with
  | nil => intro l e; exact ⟨l, .refl _, e⟩
  | @cons x a b _ ih =>
    intro l e
    cases l with
    | nil => cases e
    | cons y l =>
      obtain ⟨e1, e2⟩ := List.cons.inj e
      obtain ⟨l', h1, h2⟩ := ih l e2
      exact ⟨y :: l', h1.cons y, by rw [List.map_cons, e1, h2]⟩
  | swap x y a =>
    intro l e
    cases l with
    | nil => cases e
    | cons p l =>
      obtain ⟨e1, e2⟩ := List.cons.inj e
      cases l with
      | nil => cases e2
      | cons p' l =>
        obtain ⟨e3, e4⟩ := List.cons.inj e2
        exact ⟨p' :: p :: l, .swap _ _ _, by rw [List.map_cons, List.map_cons, e1, e3, e4]⟩
  | @trans a b c _ _ ih1 ih2 =>
    intro l e
    obtain ⟨l2, h1, h2⟩ := ih2 l e
    obtain ⟨l3, h3, h4⟩ := ih1 l2 h2
    exact ⟨l3, h3.trans h1, h4⟩
theorem dot_range : ∀ (m : Nat) (cs ns : List Int), cs.length = m → ns.length = m → ((List.range m).map fun i => cs.getD i 0 * ns.getD i 0).sum = dot cs ns
  | 0, [], [], _, _ => rfl
  | m + 1, c :: cs, n :: ns, h1, h2 => by
    rw [List.range_succ_eq_map, List.map_cons, List.map_map, List.sum_cons]
    have ih := dot_range m cs ns (by simpa using h1) (by simpa using h2)
    have e : ((fun i => (c :: cs).getD i 0 * (n :: ns).getD i 0) ∘ Nat.succ) = fun i => cs.getD i 0 * ns.getD i 0 := by
      funext i
      simp
    rw [e, ih]
    unfold dot
    rw [List.zipWith_cons_cons, List.sum_cons]
    simp
theorem sum_mul (c : Int) : ∀ l : List Int, (l.map fun n => c * n).sum = c * l.sum
  | [] => by simp
  | x :: r => by rw [List.map_cons, List.sum_cons, List.sum_cons, sum_mul c r, Int.mul_add]
theorem getD_mul (c : Int) (l : List Int) (j : Nat) : (l.map fun n => c * n).getD j 0 = c * l.getD j 0 := by
  rw [List.getD_eq_getElem?_getD, List.getD_eq_getElem?_getD, List.getElem?_map]
  cases l[j]? with
  | none => simp
  | some x => simp
theorem cols_mul (c : Int) (m : Nat) (rows : List (List Int)) : cols m (rows.map fun r => r.map fun n => c * n) = (cols m rows).map fun n => c * n := by
  unfold cols
  rw [List.map_map]
  apply List.map_congr_left
  intro j _
  show ((rows.map fun r => r.map fun n => c * n).map fun r => r.getD j 0).sum = c * (rows.map fun r => r.getD j 0).sum
  rw [List.map_map, ← sum_mul, List.map_map]
  congr 1
  apply List.map_congr_left
  intro r _
  exact getD_mul c r j
theorem scaled_mul {W c : Int} {p : Pt} (h0 : 0 < p.1) (h : p.1 ∣ W) : scaled (c * W) p = (scaled W p).map fun n => c * n := by
  unfold scaled
  rw [List.map_map]
  apply List.map_congr_left
  intro n _
  show n * (c * W).fdiv p.1 = c * (n * W.fdiv p.1)
  have e : (c * W).fdiv p.1 = c * W.fdiv p.1 := by
    refine fdiv_of_eq (by omega) ?_
    have e := fdiv_mul_of h0 h
    calc c * W = c * (W.fdiv p.1 * p.1) := by rw [e]
      _ = p.1 * (c * W.fdiv p.1) := by rw [← Int.mul_assoc, Int.mul_comm]
  rw [e, ← Int.mul_assoc, Int.mul_comm n c, Int.mul_assoc]
/-- the mean, by a common multiple -/
def meanW (W : Int) (m : Nat) (pts : List Pt) : Pt := low (W * pts.length) (cols m (pts.map (scaled W)))
theorem mean_up {W c : Int} {m : Nat} {pts : List Pt} (hp : ∀ p ∈ pts, 0 < p.1) (hd : ∀ p ∈ pts, p.1 ∣ W) (hc : c ≠ 0) (hW : W ≠ 0) (hn : pts ≠ []) : meanW (c * W) m pts = meanW W m pts := by
  unfold meanW
  have e1 : pts.map (scaled (c * W)) = (pts.map (scaled W)).map fun r => r.map fun n => c * n := by
    rw [List.map_map]
    exact List.map_congr_left fun p hpp => scaled_mul (hp p hpp) (hd p hpp)
  have hl : (pts.length : Int) ≠ 0 := by
    have : pts.length ≠ 0 := fun z => hn (List.eq_nil_of_length_eq_zero z)
    omega
  rw [e1, cols_mul, Int.mul_assoc]
  exact low_mul hc (Int.mul_ne_zero hW hl)
theorem mean_eq {W W' : Int} {m : Nat} {pts : List Pt} (hp : ∀ p ∈ pts, 0 < p.1) (h : Mul W pts) (h' : Mul W' pts) (hn : pts ≠ []) : meanW W m pts = meanW W' m pts := by
  have h1 := h.pos
  have h2 := h'.pos
  rw [← mean_up (c := W') hp h.dvd (by omega) (by omega) hn, ← mean_up (c := W) (W := W') hp h'.dvd (by omega) (by omega) hn, Int.mul_comm]
theorem cols_same {m : Nat} {r : List Int} (h : r.length = m) : ∀ k : Nat, cols m (List.replicate k r) = r.map fun n => (k : Int) * n := by
  intro k
  unfold cols
  apply List.ext_getElem?
  intro j
  rw [List.getElem?_map, List.getElem?_map]
  by_cases hj : j < m
  · rw [List.getElem?_range hj, List.getElem?_eq_getElem (by omega)]
    refine congrArg some ?_
    show ((List.replicate k r).map fun r => r.getD j 0).sum = (k : Int) * r[j]'(by omega)
    have e : (List.replicate k r).map (fun r => r.getD j 0) = List.replicate k (r.getD j 0) := by rw [List.map_replicate]
    rw [e]
    have e2 : r.getD j 0 = r[j]'(by omega) := by
      rw [List.getD_eq_getElem?_getD, List.getElem?_eq_getElem (by omega)]; rfl
    rw [e2]
    induction k with
    | zero => simp
    | succ k ih =>
      have e : (List.replicate k r).map (fun r => r.getD j 0) = List.replicate k (r.getD j 0) := by rw [List.map_replicate]
      rw [List.replicate_succ, List.sum_cons, ih e]
      push_cast
      rw [Int.add_mul, Int.one_mul, Int.add_comm]
  · rw [List.getElem?_eq_none_iff.mpr (by rw [List.length_range]; omega), List.getElem?_eq_none_iff.mpr (by omega)]
    rfl
/-- the mean of one point, so many times -/
theorem mean_one {W : Int} {m : Nat} {p : Pt} {k : Nat} (hk : 0 < k) (h0 : 0 < p.1) (hl : Low p) (hd : p.2.length = m) (hW : 0 < W) (hdv : p.1 ∣ W) : meanW W m (List.replicate k p) = p := by
  unfold meanW
  have e1 : (List.replicate k p).map (scaled W) = List.replicate k (scaled W p) := by rw [List.map_replicate]
  have e2 : (scaled W p).length = m := by unfold scaled; rw [List.length_map]; exact hd
  rw [e1, cols_same e2, List.length_replicate]
  have e := fdiv_mul_of h0 hdv
  have pz := fdiv_pos_of h0 hW hdv
  have e3 : W * (k : Int) = ((k : Int) * W.fdiv p.1) * p.1 := by
    rw [Int.mul_assoc, e, Int.mul_comm]
  have e4 : (scaled W p).map (fun n => (k : Int) * n) = p.2.map fun n => ((k : Int) * W.fdiv p.1) * n := by
    unfold scaled
    rw [List.map_map]
    apply List.map_congr_left
    intro n _
    show (k : Int) * (n * W.fdiv p.1) = (k : Int) * W.fdiv p.1 * n
    rw [Int.mul_comm n, Int.mul_assoc]
  have hc : (k : Int) * W.fdiv p.1 ≠ 0 := Int.mul_ne_zero (by omega) (by omega)
  rw [e3, e4, low_mul hc (by omega)]
  exact low_same h0 hl
end K16
/-! k16: a turn of the law, read: values, order -/
namespace K16
open PySem PySem.Spec PyProof.Rows L2 L3
theorem atI_ints {xs : List Int} {i : Nat} (h : i < xs.length) : atI (xs.map D.int) (0 + (i : Int)) = some (.int (xs.getD i 0)) := by
  unfold atI
  rw [ixN_of (by omega) (by rw [List.length_map]; omega)]
  show (xs.map D.int)[(0 + (i : Int)).toNat]? = _
  have e : (0 + (i : Int)).toNat = i := by omega
  rw [e, List.getElem?_map, List.getD_eq_getElem?_getD, List.getElem?_eq_getElem h]
  rfl
theorem upto_range (m : Nat) : upto 0 ((m : Nat) : Int).toNat = (List.range m).map fun (i : Nat) => D.int (0 + (i : Int)) := rfl
structure Plane (m : Nat) (pl : Pt) : Prop where
  bb : Bd 101 pl.1
  bc : ∀ c ∈ pl.2, Bd 101 c
  dim : pl.2.length = m
theorem val7 {E : Ends3} {s2 s4 s5 s6 s7 s8 s9 s10 s11 s12 s13 s16 s17 s18 s19 : Slot} {m : Nat} {pl p : Pt} {T : Nat} (hm : m ≤ 2) (hpl : Plane m pl) (hp : Made m p)
    (fin : ∀ s9, E.nx ⟨[.un, .val .pen, s2, .val (.int m), s4, s5, s6, s7, s8, s9, s10, s11, s12, s13, .val (ptD pl), .val (ptD p), s16, s17, s18, s19], T⟩) :
    t_law_f7 E ⟨[.un, .val .pen, s2, .val (.int m), s4, s5, s6, s7, s8, s9, s10, s11, s12, s13, .val (ptD pl), .val (ptD p), s16, s17, s18, s19], T⟩ := by
  have h3 : Bd 1000 pl.1 := hpl.bb.mono (by decide)
  have h4 : Bd 1000 p.1 := hp.bq.mono (by decide)
  have h5 : ∀ c ∈ pl.2, Bd 1000 c := fun c hc => (hpl.bc c hc).mono (by decide)
  have h6 : ∀ c ∈ p.2, Bd 1000 c := fun c hc => (hp.bn c hc).mono (by decide)
  have h7 : p.2.length ≤ 1000 := by rw [hp.dim]; omega
  refine ⟨rfl, pl, p, rfl, h3, h4, h5, h6, h7, ?_⟩
  refine ⟨h3.cmul h4 (by decide) (by decide) (by decide), ⟨by omega, by omega⟩, ?_⟩
  show lcGo _ _ _ _ (upto 0 ((m : Nat) : Int).toNat) [] _ _
  rw [upto_range]
  refine lcGo_map (fun (i : Nat) => D.int (0 + (i : Int))) (fun i => D.int (pl.2.getD i 0 * p.2.getD i 0)) (List.range m) [] (fun i hi K K2 hK => ?_) (by rw [List.length_range]; exact Nat.le_trans (by simp; omega) (by decide : 1000 ≤ sizeLine)) ?_
  · have hi := List.mem_range.mp hi
    have a1 := atI_ints (xs := pl.2) (i := i) (by rw [hpl.dim]; exact hi)
    have a2 := atI_ints (xs := p.2) (i := i) (by rw [hp.dim]; exact hi)
    show optK (atI (pl.2.map D.int) (0 + (i : Int))) _
    rw [a1]
    show optK (atI (p.2.map D.int) (0 + (i : Int))) _
    rw [a2]
    have m1 : pl.2.getD i 0 ∈ pl.2 := by
      have hlt : i < pl.2.length := by rw [hpl.dim]; exact hi
      rw [List.getD_eq_getElem?_getD, List.getElem?_eq_getElem hlt]
      exact List.getElem_mem hlt
    have m2 : p.2.getD i 0 ∈ p.2 := by
      have hlt : i < p.2.length := by rw [hp.dim]; exact hi
      rw [List.getD_eq_getElem?_getD, List.getElem?_eq_getElem hlt]
      exact List.getElem_mem hlt
    exact ⟨(h5 _ m1).cmul (h6 _ m2) (by decide) (by decide) (by decide), hK _ rfl⟩
  · have e : ([] ++ (List.range m).map fun i => D.int (pl.2.getD i 0 * p.2.getD i 0)) = ((List.range m).map fun i => pl.2.getD i 0 * p.2.getD i 0).map D.int := by
      rw [List.nil_append, List.map_map]; rfl
    rw [e]
    show optK (allInts _) _
    rw [allInts_of]
    dsimp only [optK, gAdd]
    rw [dot_range m pl.2 p.2 hpl.dim hp.dim]
    refine ne_same (shaped_int _) ?_
    refine ⟨rfl, pl, p, rfl, h3, h4, h5, h6, h7, ?_⟩
    refine ⟨rfl, pl, p, rfl, h3, h4, h5, h6, h7, ?_⟩
    exact ne_same (shaped_int _) (fin _)
theorem loop7 {E : Ends3} {s2 s4 s5 s6 s7 s8 s10 s11 s12 s13 s16 s17 s18 s19 : Slot} {m : Nat} {pl : Pt} {T : Nat} (hm : m ≤ 2) (hpl : Plane m pl) : ∀ (pts : List Pt) (s9 : Slot) (d15 : D), (∀ p ∈ pts, Made m p) →
    (∀ s9 d15, E.nx ⟨[.un, .val .pen, s2, .val (.int m), s4, s5, s6, s7, s8, s9, s10, s11, s12, s13, .val (ptD pl), .val d15, s16, s17, s18, s19], T⟩) →
    loop3 (gName3 15) t_law_f7 (pts.map ptD) E ⟨[.un, .val .pen, s2, .val (.int m), s4, s5, s6, s7, s8, s9, s10, s11, s12, s13, .val (ptD pl), .val d15, s16, s17, s18, s19], T⟩
  | [], s9, d15, _, fin => fin s9 d15
  | p :: r, s9, d15, h, fin => val7 hm hpl (h p (by simp)) fun s9 => loop7 hm hpl r s9 _ (fun z hz => h z (by simp [hz])) fin
theorem loop7a {E : Ends3} {s2 s4 s5 s6 s7 s8 s9 s10 s11 s12 s13 s15 s16 s17 s18 s19 : Slot} {m : Nat} {pl p : Pt} {r : List Pt} {T : Nat} (hm : m ≤ 2) (hpl : Plane m pl) (h : ∀ z ∈ p :: r, Made m z)
    (fin : ∀ s9 d15, E.nx ⟨[.un, .val .pen, s2, .val (.int m), s4, s5, s6, s7, s8, s9, s10, s11, s12, s13, .val (ptD pl), .val d15, s16, s17, s18, s19], T⟩) :
    loop3 (gName3 15) t_law_f7 ((p :: r).map ptD) E ⟨[.un, .val .pen, s2, .val (.int m), s4, s5, s6, s7, s8, s9, s10, s11, s12, s13, .val (ptD pl), s15, s16, s17, s18, s19], T⟩ :=
  val7 hm hpl (h p (by simp)) fun s9 => loop7 hm hpl r s9 _ (fun z hz => h z (by simp [hz])) fin
/-! ### the last test: means -/
/-- the frame between two turns -/
def Sh (σ : List Slot) : Prop := ∃ s2 s3 s4 s5 s6 s7 s8 s9 s10 s11 s12 s13 s14 s15 s16 s17 s18 s19, σ = [.un, .val .pen, s2, s3, s4, s5, s6, s7, s8, s9, s10, s11, s12, s13, s14, s15, s16, s17, s18, s19]
theorem Sh.mk {s2 s3 s4 s5 s6 s7 s8 s9 s10 s11 s12 s13 s14 s15 s16 s17 s18 s19 : Slot} : Sh [.un, .val .pen, s2, s3, s4, s5, s6, s7, s8, s9, s10, s11, s12, s13, s14, s15, s16, s17, s18, s19] := ⟨_, _, _, _, _, _, _, _, _, _, _, _, _, _, _, _, _, _, rfl⟩
theorem pts_of {m : Nat} {pts : List Pt} (h : ∀ p ∈ pts, Made m p) (hl : pts.length ≤ 9) : Pts m pts := ⟨fun p hp => (h p hp).pos, fun p hp => (h p hp).bq, fun p hp => (h p hp).bn, fun p hp => (h p hp).dim, hl⟩
theorem cut_take {α : Type} (xs : List α) (k : Nat) : cutL xs none (some (k : Int)) = xs.take k := by
  unfold cutL
  rw [show HT.sIx xs.length xs.length (some (k : Int)) = min k xs.length from HT.sIx_nat xs.length xs.length k, HT.sIx_none, Nat.sub_zero, List.drop_zero]
  exact (List.take_eq_take_min ..).symm
theorem last1 {E : Ends3} {s2 s3 s4 s6 s7 s8 s9 s10 s11 s12 s13 s14 s15 : Slot} {m : Nat} {p : Pt} {r sh : List Pt} {W W' : Int} {T : Nat} (hm : m ≤ 2) (hp : ∀ z ∈ p :: r, Made m z) (hr : (p :: r).length ≤ 6) (hsh : ∀ z ∈ sh, Made m z) (h9 : sh.length ≤ 9) (hne : sh ≠ []) (M : Mul W sh) (M' : Mul W' sh)
    (fin : ∀ σ, Sh σ → E.nx ⟨σ, T⟩) :
    t_law_f1 E ⟨[.un, .val .pen, s2, s3, s4, .val (.lst ((p :: r).map ptD)), s6, s7, s8, s9, s10, s11, s12, s13, s14, s15, .val (.lst (sh.map ptD)), .val (ptD (meanW W m sh)), .val (.int W'), .val (.lst ((cols m (sh.map (scaled W'))).map D.int))], T⟩ := by
  have b4 : Bd 4 ((sh.map ptD).length : Int) := by
    show (((sh.map ptD).length : Nat) : Int).natAbs < 2 ^ 4
    rw [List.length_map]
    omega
  have bW := mul_few (pts_of hsh h9) M'
  have hl0 : sh.length ≠ 0 := fun z => hne (List.eq_nil_of_length_eq_zero z)
  have hp0 := hp p (by simp)
  refine ⟨bW.cmul b4 (by decide) (by decide) (by decide), ?_⟩
  refine ⟨rfl, W' * ((sh.map ptD).length : Int), _, cols m (sh.map (scaled W')), rfl, .inl rfl, ?_, (bW.mul b4).mono (by decide), ?_, ?_⟩
  · rw [List.length_map]
    have := M'.pos
    exact Int.mul_ne_zero (by omega) (by omega)
  · unfold cols
    rw [List.length_map, List.length_range]
    omega
  rw [List.length_map]
  show gNe (ptD (meanW W m sh)) (ptD (meanW W' m sh)) _
  rw [mean_eq (fun z hz => (hsh z hz).pos) M M' hne]
  refine ne_same (shaped_pt _) ?_
  -- middle(some[:1])
  have one : ∀ k : Nat, 0 < k → k ≤ 9 → Pts m (List.replicate k p) := fun k _ hk => pts_of (fun z hz => by rw [List.eq_of_mem_replicate hz]; exact hp0) (by rw [List.length_replicate]; exact hk)
  have got : ∀ (k : Nat) (V : Int), 0 < k → Mul V (List.replicate k p) → low (V * (List.replicate k p).length) (cols m ((List.replicate k p).map (scaled V))) = p := fun k V hk MV =>
    mean_one hk hp0.pos hp0.low hp0.dim MV.pos (MV.dvd p (by
      obtain ⟨j, rfl⟩ : ∃ j, k = j + 1 := ⟨k - 1, by omega⟩
      rw [List.replicate_succ]; simp))
  have cut1 : cutL ((p :: r).map ptD) none (some 1) = [ptD p] := cut_take _ 1
  refine ⟨rfl, _, [p], m, rfl, .inl ?_, one 1 (by decide) (by decide), by omega, by simp, fun V MV => ?_⟩
  · exact congrArg D.lst cut1
  have e1 := got 1 V (by decide) MV
  rw [show ([p] : List Pt) = List.replicate 1 p from rfl, e1]
  have a0 : atI ((p :: r).map ptD) 0 = some (ptD p) := by
    unfold atI
    rw [ixN_of (by decide) (by rw [List.length_map, List.length_cons]; omega)]
    rfl
  dsimp only [b3, tVar3, Env3.rd, tC3, gIx, Env3.at]
  simp only [List.getElem?_cons_succ, List.getElem?_cons_zero]
  rw [a0]
  dsimp only [optK]
  refine ne_same (shaped_pt p) ?_
  -- middle(points=some[:1] * 3)
  show ((-(2 ^ 63) ≤ (3 : Int) ∧ (3 : Int) < 2 ^ 63 ∧ (cutL ((p :: r).map ptD) none (some 1)).length * (3 : Int).toNat ≤ sizeLine) ∧ _)
  rw [cut1]
  refine ⟨⟨by decide, by decide, (by decide : 3 ≤ sizeLine)⟩, ?_⟩
  refine ⟨rfl, _, [p, p, p], m, rfl, .inl rfl, one 3 (by decide) (by decide), by omega, by simp, fun V MV => ?_⟩
  have e3 := got 3 V (by decide) MV
  rw [show ([p, p, p] : List Pt) = List.replicate 3 p from rfl, e3]
  dsimp only [b3, tVar3, Env3.rd, tC3, gIx, Env3.at]
  simp only [List.getElem?_cons_succ, List.getElem?_cons_zero]
  rw [a0]
  dsimp only [optK]
  exact ne_same (shaped_pt p) (fin _ Sh.mk)
end K16
/-! k16: a turn of the law, read: from the mixing on -/
namespace K16
open PySem PySem.Spec PyProof.Rows L2 L3
theorem last3 {E : Ends3} {s2 s4 s6 s7 s8 s9 s10 s11 s12 s13 s14 s19 : Slot} {d15 : D} {m : Nat} {p : Pt} {r sh : List Pt} {W W' : Int} {T : Nat} (hm : m ≤ 2) (hp : ∀ z ∈ p :: r, Made m z) (hr : (p :: r).length ≤ 6) (hsh : ∀ z ∈ sh, Made m z) (h9 : sh.length ≤ 9) (hne : sh ≠ []) (M : Mul W sh) (M' : Mul W' sh)
    (fin : ∀ σ, Sh σ → E.nx ⟨σ, T⟩) :
    t_law_f3 E ⟨[.un, .val .pen, s2, .val (.int m), s4, .val (.lst ((p :: r).map ptD)), s6, s7, s8, s9, s10, s11, s12, s13, s14, .val d15, .val (.lst (sh.map ptD)), .val (ptD (meanW W m sh)), .val (.int W'), s19], T⟩ := by
  have bW := mul_few (pts_of hsh h9) M'
  refine ⟨⟨by omega, by omega⟩, ?_⟩
  show lcGo _ _ _ _ (upto 0 ((m : Nat) : Int).toNat) [] _ _
  rw [upto_range]
  refine lcGo_map (fun (i : Nat) => D.int (0 + (i : Int))) (fun j => D.int ((sh.map (scaled W')).map fun r => r.getD j 0).sum) (List.range m) [] (fun j hj K K2 hK => ?_) (by rw [List.length_range]; exact Nat.le_trans (by simp; omega) (by decide : 1000 ≤ sizeLine)) ?_
  · have hj := List.mem_range.mp hj
    refine lcGo_map ptD (fun z => D.int (z.2.getD j 0 * W'.fdiv z.1)) sh [] (fun z hz K K2 hK => ?_) (by rw [List.length_nil]; exact Nat.le_trans (by omega) (by decide : 1000 ≤ sizeLine)) ?_
    · have hzm := hsh z hz
      have a1 := atI_ints (xs := z.2) (i := j) (by rw [hzm.dim]; exact hj)
      show optK (atI (z.2.map D.int) (0 + (j : Int))) _
      rw [a1]
      have m1 : z.2.getD j 0 ∈ z.2 := by
        have hlt : j < z.2.length := by rw [hzm.dim]; exact hj
        rw [List.getD_eq_getElem?_getD, List.getElem?_eq_getElem hlt]
        exact List.getElem_mem hlt
      exact ⟨⟨by have := hzm.pos; omega, bd_log9 hzm.bq⟩, (hzm.bn _ m1).cmul (quo_bd M'.pos hzm.pos (M'.dvd z hz) bW) (by decide) (by decide) (by decide), hK _ rfl⟩
    · have e : ([] ++ sh.map fun z => D.int (z.2.getD j 0 * W'.fdiv z.1)) = (sh.map fun z => z.2.getD j 0 * W'.fdiv z.1).map D.int := by
        rw [List.nil_append, List.map_map]; rfl
      rw [e]
      show optK (allInts _) _
      rw [allInts_of]
      have e2 : (sh.map fun z => z.2.getD j 0 * W'.fdiv z.1).sum = ((sh.map (scaled W')).map fun r => r.getD j 0).sum := by
        rw [List.map_map]
        congr 1
        apply List.map_congr_left
        intro z _
        show z.2.getD j 0 * W'.fdiv z.1 = (scaled W' z).getD j 0
        unfold scaled
        have := getD_mul (W'.fdiv z.1) z.2 j
        rw [Int.mul_comm, ← this]
        congr 1
        exact List.map_congr_left fun n _ => Int.mul_comm _ _
      dsimp only [optK]
      rw [e2]
      exact hK _ rfl
  · have e : ([] ++ (List.range m).map fun j => D.int ((sh.map (scaled W')).map fun r => r.getD j 0).sum) = (cols m (sh.map (scaled W'))).map D.int := by
      unfold cols
      rw [List.nil_append, List.map_map]; rfl
    rw [e]
    exact last1 hm hp hr hsh h9 hne M M' fin
theorem loop2 {E : Ends3} {s2 s3 s4 s5 s6 s7 s8 s9 s10 s11 s12 s13 s14 s16 s17 s19 : Slot} {T : Nat} : ∀ (pts : List Pt) (w : Int) (b : Nat) (s : D), (∀ p ∈ pts, 0 < p.1 ∧ Bd 210 p.1) → 0 < w → Bd b w → 0 < b → b + 210 * pts.length ≤ 3000 →
    (∀ W s, 0 < W → w ∣ W → (∀ p ∈ pts, p.1 ∣ W) → Bd (b + 210 * pts.length) W → E.nx ⟨[.un, .val .pen, s2, s3, s4, s5, s6, s7, s8, s9, s10, s11, s12, s13, s14, .val s, s16, s17, .val (.int W), s19], T⟩) →
    loop3 (gName3 15) t_law_f2 (pts.map ptD) E ⟨[.un, .val .pen, s2, s3, s4, s5, s6, s7, s8, s9, s10, s11, s12, s13, s14, .val s, s16, s17, .val (.int w), s19], T⟩
  | [], w, b, s, hp, h0, hb, hb0, hl, fin => fin w s h0 (Int.dvd_refl _) (by simp) hb
  | p :: r, w, b, s, hp, h0, hb, hb0, hl, fin => by
    obtain ⟨p0, pb⟩ := hp p (by simp)
    rw [List.length_cons] at hl
    refine ⟨hb.cmul pb hb0 (by decide) (by omega), ?_⟩
    refine loop2 r (w * p.1) (b + 210) _ (fun z hz => hp z (by simp [hz])) (Int.mul_pos h0 p0) (hb.mul pb) (by omega) (by omega) fun W s hW hd hr hB => ?_
    refine fin W s hW (Int.dvd_trans (Int.dvd_mul_right _ _) hd) (fun z hz => ?_) (by rw [List.length_cons]; exact hB.mono (by omega))
    rcases List.mem_cons.mp hz with rfl | hz
    · exact Int.dvd_trans (Int.dvd_mul_left _ _) hd
    · exact hr z hz
theorem last5 {E : Ends3} {s2 s4 s6 s7 s8 s9 s10 s11 s12 s13 s14 s17 s18 s19 : Slot} {d15 : D} {m : Nat} {p : Pt} {r sh : List Pt} {T : Nat} (hm : m ≤ 2) (hp : ∀ z ∈ p :: r, Made m z) (hr : (p :: r).length ≤ 6) (hsh : ∀ z ∈ sh, Made m z) (h9 : sh.length ≤ 9) (hne : sh ≠ [])
    (fin : ∀ σ, Sh σ → E.nx ⟨σ, T⟩) :
    t_law_f5 E ⟨[.un, .val .pen, s2, .val (.int m), s4, .val (.lst ((p :: r).map ptD)), s6, s7, s8, s9, s10, s11, s12, s13, s14, .val d15, .val (.lst (sh.map ptD)), s17, s18, s19], T⟩ := by
  refine ⟨rfl, _, sh, m, rfl, .inl rfl, pts_of hsh h9, by omega, hne, fun W M => ⟨by show 2 ≤ sizeLine; decide, rfl, ?_⟩⟩
  refine loop2 sh 1 1 _ (fun z hz => ⟨(hsh z hz).pos, (hsh z hz).bq⟩) (by decide) (show (1 : Int).natAbs < 2 ^ 1 by decide) (by decide) (by omega) fun W' s h0 _ hd hb => ?_
  exact last3 (W := W) (W' := W') hm hp hr hsh h9 hne M ⟨h0, hd, hb⟩ fin
theorem last6 {E : Ends3} {s2 s4 s6 s7 s8 s9 s10 s11 s12 s13 s14 s17 s18 s19 : Slot} {d15 : D} {m : Nat} {p : Pt} {r sh : List Pt} {T : Nat} (h0 : 0 < m) (hm : m ≤ 2) (hp : ∀ z ∈ p :: r, Made m z) (hr : (p :: r).length ≤ 6) (hperm : sh.Perm ((p :: r) ++ (p :: r).take 2))
    (fin : ∀ σ, Sh σ → E.nx ⟨σ, T⟩) :
    t_law_f6 E ⟨[.un, .val .pen, s2, .val (.int m), s4, .val (.lst ((p :: r).map ptD)), s6, s7, s8, s9, s10, s11, s12, s13, s14, .val d15, .val (.lst (sh.map ptD)), s17, s18, s19], T⟩ := by
  have hin : ∀ z, z ∈ sh ↔ z ∈ p :: r := fun z => by
    rw [hperm.mem_iff, List.mem_append]
    exact ⟨fun h => h.elim id fun h => List.mem_of_mem_take h, .inl⟩
  have hsh : ∀ z ∈ sh, Made m z := fun z hz => hp z ((hin z).mp hz)
  have h9 : sh.length ≤ 9 := by
    have := hperm.length_eq
    rw [List.length_append, List.length_take] at this
    omega
  have hne : sh ≠ [] := fun z => by
    have := (hin p).mpr (by simp)
    rw [z] at this
    simp at this
  have P1 := pts_of hsh h9
  have P2 := pts_of hp (by omega)
  have l1 : ∀ z ∈ sh, Low z := fun z hz => (hsh z hz).low
  have l2 : ∀ z ∈ p :: r, Low z := fun z hz => (hp z hz).low
  refine ⟨rfl, _, sh, m, rfl, .inl rfl, P1, h0, by omega, l1, fun R1 O1 => ?_⟩
  refine ⟨rfl, _, sh, m, rfl, .inl rfl, P1, h0, by omega, l1, fun R2 O2 => ?_⟩
  obtain rfl := ord_unique O1 O2 fun _ => Iff.rfl
  show gNe (.lst (R1.map ptD)) (.lst (R1.map ptD)) _
  refine ne_same (shaped_pts R1) ?_
  refine ⟨rfl, _, sh, m, rfl, .inr rfl, P1, h0, by omega, l1, fun R3 O3 => ?_⟩
  refine ⟨rfl, _, p :: r, m, rfl, .inl rfl, P2, h0, by omega, l2, fun R4 O4 => ?_⟩
  obtain rfl := ord_unique O3 O4 hin
  show gNe (.lst (R3.map ptD)) (.lst (R3.map ptD)) _
  exact ne_same (shaped_pts R3) (last5 hm hp hr hsh h9 hne fin)
theorem last8 {E : Ends3} {s2 s4 s6 s7 s8 s9 s10 s11 s12 s13 s14 s16 s17 s18 s19 : Slot} {d15 : D} {m : Nat} {p : Pt} {r : List Pt} {T : Nat} (h0 : 0 < m) (hm : m ≤ 2) (hp : ∀ z ∈ p :: r, Made m z) (hr : (p :: r).length ≤ 6) (hT : T + 20 ≤ 1000000)
    (fin : ∀ σ T', Sh σ → T' ≤ T + 8 → E.nx ⟨σ, T'⟩) :
    t_law_f8 E ⟨[.un, .val .pen, s2, .val (.int m), s4, .val (.lst ((p :: r).map ptD)), s6, s7, s8, s9, s10, s11, s12, s13, s14, .val d15, s16, s17, s18, s19], T⟩ := by
  have cut2 : cutL ((p :: r).map ptD) none (some 2) = ((p :: r).take 2).map ptD := by
    rw [List.map_take]
    exact cut_take _ 2
  show ((((p :: r).map ptD).length + (cutL ((p :: r).map ptD) none (some 2)).length ≤ sizeLine) ∧ _)
  rw [cut2]
  have lt : ((p :: r).take 2).length ≤ 2 := by rw [List.length_take]; omega
  refine ⟨Nat.le_trans (by rw [List.length_map, List.length_map]; omega) (by decide : 1000 ≤ sizeLine), ?_⟩
  have le : ((p :: r).map ptD ++ ((p :: r).take 2).map ptD).length ≤ 8 := by rw [List.length_append, List.length_map, List.length_map]; omega
  refine ⟨rfl, _, (p :: r).map ptD ++ ((p :: r).take 2).map ptD, rfl, .inl rfl, show T + _ ≤ 1000000 by omega, by omega, fun ys hys T' hT' => ?_⟩
  have hT' : T' ≤ T + ((p :: r).map ptD ++ ((p :: r).take 2).map ptD).length := hT'
  obtain ⟨sh, hsh, rfl⟩ := perm_map hys ((p :: r) ++ (p :: r).take 2) (by rw [List.map_append])
  exact last6 h0 hm hp hr hsh fun σ hσ => fin σ T' hσ (by omega)
end K16
/-! k16: the law, read -/
namespace K16
open PySem PySem.Spec PyProof.Rows L2 L3
theorem upto_succ (lo : Int) (n : Nat) : upto lo (n + 1) = .int lo :: upto (lo + 1) n := by
  unfold upto
  rw [List.range_succ_eq_map, List.map_cons, List.map_map]
  refine congr (congrArg List.cons ?_) ?_
  · simp
  · apply List.map_congr_left
    intro i _
    show D.int (lo + ((i + 1 : Nat) : Int)) = D.int (lo + 1 + (i : Int))
    congr 1
    omega
theorem laps {E : Ends3} {s2 s6 s14 s15 s16 s17 s18 s19 : Slot} {m : Nat} {most : Int} (hm : m ≤ 2) (hmost : Most most) : ∀ (n : Nat) (lo : Int) (pts : List Pt) (T : Nat) (s7 s8 s9 s10 s11 s12 s13 : Slot), (∀ p ∈ pts, Made m p) → pts.length + n ≤ 90 → T + 10 * n ≤ 999000 →
    (∀ (pts' : List Pt) (T' : Nat) (s7 s8 s9 s10 s11 s12 s13 : Slot), (∀ p ∈ pts', Made m p) → pts'.length = pts.length + n → T' ≤ T + 10 * n → E.nx ⟨[.un, .val .pen, s2, .val (.int m), .val (.int most), .own (.lst (pts'.map ptD)), s6, s7, s8, s9, s10, s11, s12, s13, s14, s15, s16, s17, s18, s19], T'⟩) →
    loop3 (gName3 7) t_law_f14 (upto lo n) E ⟨[.un, .val .pen, s2, .val (.int m), .val (.int most), .own (.lst (pts.map ptD)), s6, s7, s8, s9, s10, s11, s12, s13, s14, s15, s16, s17, s18, s19], T⟩
  | 0, lo, pts, T, s7, s8, s9, s10, s11, s12, s13, hp, hl, hT, fin => fin pts T _ _ _ _ _ _ _ hp rfl (Nat.le_refl _)
  | n + 1, lo, pts, T, s7, s8, s9, s10, s11, s12, s13, hp, hl, hT, fin => by
    rw [upto_succ]
    refine lap_read (T := T) hm hmost (by omega) (by omega) fun p s8 s9 s10 s11 s12 s13 T1 hpm hT1 => ?_
    refine laps hm hmost n (lo + 1) (pts ++ [p]) T1 _ _ _ _ _ _ _ (fun z hz => ?_) (by rw [List.length_append]; simp; omega) (by omega) fun pts' T' t7 t8 t9 t10 t11 t12 t13 h1 h2 h3 => ?_
    · rcases List.mem_append.mp hz with hz | hz
      · exact hp z hz
      · obtain rfl : z = p := by simpa using hz
        exact hpm
    · exact fin pts' T' _ _ _ _ _ _ _ h1 (by rw [h2, List.length_append]; simp; omega) (by omega)
theorem turn9 {E : Ends3} {s2 s4 s6 s7 s8 s9 s10 s11 s12 s13 s15 s16 s17 s18 s19 : Slot} {m : Nat} {pl p : Pt} {r : List Pt} {T : Nat} (h0 : 0 < m) (hm : m ≤ 2) (hpl : Plane m pl) (hp : ∀ z ∈ p :: r, Made m z) (hr : (p :: r).length ≤ 6) (hT : T + 20 ≤ 1000000)
    (fin : ∀ σ T', Sh σ → T' ≤ T + 8 → E.nx ⟨σ, T'⟩) :
    t_law_f9 E ⟨[.un, .val .pen, s2, .val (.int m), s4, .own (.lst ((p :: r).map ptD)), s6, s7, s8, s9, s10, s11, s12, s13, .val (ptD pl), s15, s16, s17, s18, s19], T⟩ :=
  loop7a (s5 := .val (.lst ((p :: r).map ptD))) hm hpl hp fun s9 d15 => last8 h0 hm hp hr hT fin
theorem turn15 {E : Ends3} {s2 s6 s7 s8 s9 s10 s11 s12 s13 s14 s15 s16 s17 s18 s19 : Slot} {m : Nat} {most : Int} {p : Pt} {r : List Pt} {T : Nat} (h0 : 0 < m) (hm : m ≤ 2) (hmost : Most most) (hp : ∀ z ∈ p :: r, Made m z) (hr : (p :: r).length ≤ 6) (hT : T + 30 ≤ 1000000)
    (fin : ∀ σ T', Sh σ → T' ≤ T + 11 → E.nx ⟨σ, T'⟩) :
    t_law_f15 E ⟨[.un, .val .pen, s2, .val (.int m), .val (.int most), .own (.lst ((p :: r).map ptD)), s6, s7, s8, s9, s10, s11, s12, s13, s14, s15, s16, s17, s18, s19], T⟩ := by
  have b2 : Bd 2 2 := show (2 : Int).natAbs < 2 ^ 2 by decide
  have hb := hmost.bd
  have h1 := hmost.pos
  have h2 := hmost.top
  refine ⟨b2.cmul hb (by decide) (by decide) (by decide), rfl, _, rfl, show T ≤ 1000000 by omega, ?_, fun b T1 hT1 hbr => ?_⟩
  · exact Nat.lt_of_lt_of_le (((b2.mul hb).add (show Bd (2 + 100) 1 by show (1 : Int).natAbs < 2 ^ 102; decide)).log (by decide)) (by decide)
  have hT1 : T1 ≤ T + 1 := hT1
  have hbr := hbr.2 (by omega)
  refine ⟨⟨by omega, by omega⟩, ?_⟩
  show lcGo _ _ _ _ (upto 0 ((m : Nat) : Int).toNat) [] ⟨_, T1⟩ _
  rw [upto_range]
  refine lcGo_drawM (T1 + 2) (fun (i : Nat) => D.int (0 + (i : Int))) (fun _ y => ∃ n, y = .int n ∧ Small 100 n) (List.range m) [] T1 (by rw [List.length_range]; omega) (fun i _ T' K K2 hT' hK => ?_) (by rw [List.length_range]; exact Nat.le_trans (by simp; omega) (by decide : 1000 ≤ sizeLine)) fun ys T2 hys hT2 => ?_
  · refine ⟨rfl, 99, rfl, show T' ≤ 1000000 by omega, by decide, fun x T2 hT2 hx => hK _ T2 _ ⟨_, rfl, ?_⟩ hT2 rfl⟩
    have hx := hx.2 (by decide)
    show (x - 49).natAbs ≤ (100 : Int).natAbs
    omega
  obtain ⟨cs, rfl, hcs, hsm⟩ := paired_ints hys
  rw [List.length_range] at hcs hT2
  refine ⟨by show 2 ≤ sizeLine; decide, ?_⟩
  refine turn9 (pl := (b - most, cs)) (T := T2) h0 hm ⟨?_, fun c hc => ?_, hcs⟩ hp hr (by omega) fun σ T' hσ h => fin σ T' hσ (by omega)
  · show (b - most).natAbs < 2 ^ 101
    omega
  · have hc : c.natAbs ≤ (100 : Int).natAbs := hsm c hc
    show c.natAbs < 2 ^ 101
    have : (100 : Int).natAbs = 100 := rfl
    omega
theorem turn18 {E : Ends3} {s2 s3 s4 s5 s6 s7 s8 s9 s10 s11 s12 s13 s14 s15 s16 s17 s18 s19 : Slot} {T : Nat} (hT : T + 200 ≤ 900000) (fin : ∀ σ T', Sh σ → T' ≤ T + 100 → E.nx ⟨σ, T'⟩) :
    t_law_f18 E ⟨[.un, .val .pen, s2, s3, s4, s5, s6, s7, s8, s9, s10, s11, s12, s13, s14, s15, s16, s17, s18, s19], T⟩ := by
  refine ⟨rfl, 2, rfl, show T ≤ 1000000 by omega, by decide, fun r T1 hT1 hr => ?_⟩
  have hT1 : T1 ≤ T + 1 := hT1
  have hr := hr.2 (by decide)
  refine ⟨⟨by decide, by decide, by decide⟩, ⟨by decide, by decide, by decide⟩, by show 4 ≤ sizeLine; decide, rfl, _, rfl, show T1 ≤ 1000000 by omega, by simp, by simp, fun x hx T2 hT2 => ?_⟩
  have hT2 : T2 ≤ T1 + 1 := hT2
  have hx : ∃ most : Int, x = .int most ∧ Most most := by
    simp only [List.mem_cons, List.not_mem_nil, or_false] at hx
    rcases hx with rfl | rfl | rfl | rfl
    · exact ⟨3, rfl, by decide, by decide⟩
    · exact ⟨20, rfl, by decide, by decide⟩
    · exact ⟨_, rfl, by decide, by decide⟩
    · exact ⟨_, rfl, by decide, by decide⟩
  obtain ⟨most, rfl, hmost⟩ := hx
  obtain ⟨m, hm0, hm, em⟩ : ∃ m : Nat, 0 < m ∧ m ≤ 2 ∧ 1 + r = (m : Int) := ⟨(1 + r).toNat, by omega, by omega, by omega⟩
  refine ⟨by show 2 ≤ sizeLine; decide, rfl, ?_⟩
  have z0 : (0 : Nat) ≤ sizeLine := by decide
  show t_law_f17 E ⟨[.un, .val .pen, s2, .val (.int (1 + r)), .val (.int most), s5, s6, s7, s8, s9, s10, s11, s12, s13, s14, s15, s16, s17, s18, s19], T2⟩
  rw [em]
  refine ⟨z0, z0, ⟨⟨by decide, (by decide : 5 < 20)⟩, by decide, (by decide : 6 < 20)⟩, ?_⟩
  refine ⟨rfl, 6, rfl, show T2 ≤ 1000000 by omega, by decide, fun k T3 hT3 hk => ?_⟩
  have hT3 : T3 ≤ T2 + 1 := hT3
  have hk := hk.2 (by decide)
  refine ⟨⟨by omega, by omega⟩, ?_⟩
  show loop3 (gName3 7) t_law_f14 (upto 0 (1 + k).toNat) _ ⟨[.un, .val .pen, s2, .val (.int m), .val (.int most), .own (.lst ([].map ptD)), .own (.lst []), s7, s8, s9, s10, s11, s12, s13, s14, s15, s16, s17, s18, s19], T3⟩
  refine laps hm hmost (1 + k).toNat 0 [] T3 _ _ _ _ _ _ _ (by simp) (by simp; omega) (by omega) fun pts' T' t7 t8 t9 t10 t11 t12 t13 h1 h2 h3 => ?_
  cases pts' with
  | nil => simp at h2; omega
  | cons p rr =>
    exact turn15 hm0 hm hmost h1 (by rw [h2]; simp; omega) (by omega) fun σ T'' hσ h => fin σ T'' hσ (by omega)
theorem turns {E : Ends3} : ∀ (n : Nat) (lo : Int) (σ : List Slot) (T : Nat), T + 100 * n ≤ 800000 → Sh σ → (∀ σ T', Sh σ → E.nx ⟨σ, T'⟩) → loop3 (gName3 2) t_law_f18 (upto lo n) E ⟨σ, T⟩
  | 0, lo, σ, T, hT, hσ, fin => fin σ T hσ
  | n + 1, lo, σ, T, hT, hσ, fin => by
    rw [upto_succ]
    obtain ⟨s2, s3, s4, s5, s6, s7, s8, s9, s10, s11, s12, s13, s14, s15, s16, s17, s18, s19, rfl⟩ := hσ
    exact turn18 (T := T) (by omega) fun σ T' hσ h => turns n (lo + 1) σ T' (by omega) hσ fin
/-! ### the constants -/
def three : List Pt := [(3, [1, 2]), (3, [1, 1]), (1, [0, 5])]
def threeR : List Pt := [(1, [0, 5]), (3, [1, 1]), (3, [1, 2])]
theorem three_pts : Pts 2 three := by
  refine ⟨?_, ?_, ?_, ?_, by decide⟩
  · decide
  · intro p hp
    show p.1.natAbs < 2 ^ 210
    revert p
    decide
  · intro p hp n hn
    show n.natAbs < 2 ^ 210
    revert n
    revert p
    decide
  · decide
theorem three_low : ∀ p ∈ three, Low p := by
  intro p hp
  show gcdL p.1 p.2 = 1
  revert p
  decide +kernel
theorem three_ord : Ord three threeR := by
  refine ⟨fun p => ?_, ?_⟩
  · unfold three threeR
    simp only [List.mem_cons, List.not_mem_nil, or_false]
    constructor
    · rintro (h | h | h) <;> simp [h]
    · rintro (h | h | h) <;> simp [h]
  · unfold threeR
    simp only [List.pairwise_cons]
    refine ⟨?_, ?_, ?_, .nil⟩
    · intro p hp
      show (_ : List Int) < _
      revert p
      decide +kernel
    · intro p hp
      show (_ : List Int) < _
      revert p
      decide +kernel
    · intro p hp
      cases hp
theorem law_consts {k : D → Env3 → Prop} {ρ : Env3} (h : k (.bl true) ρ) : t_law_f19 { nx := fun _ => False, rt := k } ρ := by
  have z1 : (1 : Nat) ≤ sizeLine := by decide
  have z2 : (2 : Nat) ≤ sizeLine := by decide
  have z3 : (3 : Nat) ≤ sizeLine := by decide
  have e1 : low 1 [0] = (1, [0]) := by decide +kernel
  have e2 : low (-3) [0, 0] = (1, [0, 0]) := by decide +kernel
  refine ⟨z1, rfl, 1, _, [0], rfl, .inl rfl, by decide, show (1 : Int).natAbs < 2 ^ 1900 by decide, by decide, z1, z2, ?_⟩
  show gEq (ptD (low 1 [0])) (ptD (1, [0])) _
  rw [e1]
  refine eq_same (shaped_pt _) ?_
  refine ⟨z2, rfl, -3, _, [0, 0], rfl, .inl rfl, by decide, show (-3 : Int).natAbs < 2 ^ 1900 by decide, by decide, z2, z2, ?_⟩
  show gEq (ptD (low (-3) [0, 0])) (ptD (1, [0, 0])) _
  rw [e2]
  refine eq_same (shaped_pt _) ?_
  refine ⟨z2, z2, z2, z2, z2, z2, z3, rfl, _, three, 2, rfl, .inl rfl, three_pts, by decide, by decide, three_low, fun R O => ?_⟩
  obtain rfl := ord_unique O three_ord fun _ => Iff.rfl
  refine ⟨z2, z2, z2, z2, z2, z2, z3, ?_⟩
  show gEq (.lst (threeR.map ptD)) (.lst (threeR.map ptD)) _
  exact eq_same (shaped_pts _) h
theorem law_read : LawRest 18 t_law := by
  refine ⟨⟨by decide, by decide⟩, ?_⟩
  show loop3 (gName3 2) t_law_f18 (upto 0 6) _ ⟨lawStart 18, 0⟩
  exact turns 6 0 (lawStart 18) 0 (by decide) Sh.mk fun σ T' _ => law_consts rfl
end K16
/-! k16: the mean, read -/
namespace K16
open PySem PySem.Spec PyProof.Rows L2 L3
theorem rowsD_of : ∀ rows : List (List Int), rowsD (rows.map fun r => D.lst (r.map D.int)) = some (rows.map fun r => r.map D.int)
  | [] => rfl
  | r :: rs => by
    rw [List.map_cons, List.map_cons]
    show (rowsD _).map _ = _
    rw [rowsD_of rs]
    rfl
theorem colD_of {m : Nat} {j : Nat} (hj : j < m) : ∀ {rows : List (List Int)}, (∀ r ∈ rows, r.length = m) → colD j (rows.map fun r => r.map D.int) = (rows.map fun r => r.getD j 0).map D.int
  | [], _ => rfl
  | r :: rs, h => by
    have hr : j < r.length := by rw [h r (by simp)]; exact hj
    have ih := colD_of hj (rows := rs) fun z hz => h z (by simp [hz])
    unfold colD at ih ⊢
    rw [List.map_cons, List.filterMap_cons, List.getElem?_map, List.getElem?_eq_getElem hr]
    show D.int r[j] :: _ = _
    rw [ih, List.map_cons, List.map_cons, List.getD_eq_getElem?_getD, List.getElem?_eq_getElem hr]
    rfl
theorem r_middle (ds : List D) (TT : Nat) (kk : D → Nat → Prop) (hl : ds.length = 1) (h : s_middle ds TT kk) : t_middle { nx := fun ρ => kk .non ρ.T, rt := fun d ρ => kk d ρ.T } ⟨ds.map .val ++ List.replicate 5 .un, TT⟩ := by
  obtain ⟨d, pts, m, rfl, hd, hp, hm, hne, k⟩ := h
  have h9 := hp.few
  have hl0 : pts.length ≠ 0 := fun z => hne (List.eq_nil_of_length_eq_zero z)
  refine ⟨rfl, d, pts, m, rfl, hd, hp, fun W M => ?_⟩
  have hB := mul_few hp M
  have b4 : Bd 4 ((pts.length : Nat) : Int) := by
    show ((pts.length : Nat) : Int).natAbs < 2 ^ 4
    omega
  have rl : ∀ r ∈ pts.map (scaled W), r.length = m := fun r hr => by
    obtain ⟨p, hpp, rfl⟩ := List.mem_map.mp hr
    unfold scaled
    rw [List.length_map]
    exact hp.dim p hpp
  have ll : lenOf ((pts.map (scaled W)).map fun r => r.map D.int) = m := by
    cases pts with
    | nil => exact (hne rfl).elim
    | cons p r =>
      show ((scaled W p).map D.int).length = m
      rw [List.length_map]
      exact rl (scaled W p) (by simp)
  -- behind the rows
  have tail : ∀ (d : D) (s4 s3 : Slot), seqD d (pts.map ptD) → tRet3 (tFn3 2 s_lowest (tCons3 (b3 gMul (tVar3 1) (tCB3 gLen (tCons3 (tVar3 0) tNil3))) (tCons3 (tLc3 (iZipS (tVar3 2)) (gName3 5) tYes3 (tCB3 gSum (tCons3 (tVar3 5) tNil3)) [5]) tNil3))) { nx := fun ρ => kk .non ρ.T, rt := fun d ρ => kk d ρ.T }
      ⟨[.val d, .val (.int W), .val (.lst ((pts.map (scaled W)).map fun r => D.lst (r.map D.int))), s3, s4, .un], TT⟩ := by
    intro d s4 s3 hd
    have fin : (CMulW W ((pts.length : Nat) : Int) ∨ CMul W ((pts.length : Nat) : Int)) ∧ tLc3 (iZipS (tVar3 2)) (gName3 5) tYes3 (tCB3 gSum (tCons3 (tVar3 5) tNil3)) [5] ⟨[.val d, .val (.int W), .val (.lst ((pts.map (scaled W)).map fun r => D.lst (r.map D.int))), s3, s4, .un], TT⟩
        (fun e ρ2 => [D.int (W * ((pts.length : Nat) : Int)), e].length = 2 ∧ s_lowest [D.int (W * ((pts.length : Nat) : Int)), e] ρ2.T fun d T' => kk d T') (fun _ _ => False) := by
      refine ⟨hB.cmul b4 (by decide) (by decide) (by decide), ?_⟩
      show optK (rowsD ((pts.map (scaled W)).map fun r => D.lst (r.map D.int))) _
      rw [rowsD_of]
      refine ⟨⟨fun z => ?_, ?_, fun r hr => ?_⟩, ?_⟩
      · have := congrArg List.length z
        rw [List.length_map, List.length_map, List.length_nil] at this
        exact hl0 this
      · rw [List.length_map, List.length_map]
        exact h9
      · rw [ll]
        obtain ⟨q, hq, rfl⟩ := List.mem_map.mp hr
        rw [List.length_map]
        exact rl q hq
      · unfold zipD
        rw [ll]
        refine lcGo_map (fun j => D.tup (colD j ((pts.map (scaled W)).map fun r => r.map D.int))) (fun j => D.int ((pts.map (scaled W)).map fun r => r.getD j 0).sum) (List.range m) [] (fun j hj K K2 hK => ?_) (by rw [List.length_nil, List.length_range]; exact Nat.le_trans (by omega) (by decide : 1000 ≤ sizeLine)) ?_
        · have hj := List.mem_range.mp hj
          show optK (allInts (colD j ((pts.map (scaled W)).map fun r => r.map D.int))) _
          rw [colD_of hj rl, allInts_of]
          exact hK _ rfl
        · have e : ([] ++ (List.range m).map fun j => D.int ((pts.map (scaled W)).map fun r => r.getD j 0).sum) = (cols m (pts.map (scaled W))).map D.int := by
            unfold cols
            rw [List.nil_append, List.map_map]; rfl
          rw [e]
          refine ⟨rfl, W * ((pts.length : Nat) : Int), _, cols m (pts.map (scaled W)), rfl, .inl rfl, ?_, (hB.mul b4).mono (by decide), ?_, k W M⟩
          · have := M.pos
            exact Int.mul_ne_zero (by omega) (by omega)
          · unfold cols
            rw [List.length_map, List.length_range]
            exact hm
    have el : (((pts.map ptD).length : Nat) : Int) = ((pts.length : Nat) : Int) := by rw [List.length_map]
    rcases hd with rfl | rfl
    · show ((CMulW W (((pts.map ptD).length : Nat) : Int) ∨ CMul W (((pts.map ptD).length : Nat) : Int)) ∧ _)
      rw [el]
      exact fin
    · show ((CMulW W (((pts.map ptD).length : Nat) : Int) ∨ CMul W (((pts.map ptD).length : Nat) : Int)) ∧ _)
      rw [el]
      exact fin
  have rows : ∀ (d : D), seqD d (pts.map ptD) → lcGo (gName3 4) tYes3 (tLc3 (iSeq3 (b3 gIx (tVar3 4) (tC3 (.int 1)))) (gName3 3) tYes3 (b3 gMul (tVar3 3) (b3 gDiv (tVar3 1) (b3 gIx (tVar3 4) (tC3 (.int 0))))) [3]) [4] (pts.map ptD) [] ⟨[.val d, .val (.int W), .un, .un, .un, .un], TT⟩
      (fun acc ρ2 => tRet3 (tFn3 2 s_lowest (tCons3 (b3 gMul (tVar3 1) (tCB3 gLen (tCons3 (tVar3 0) tNil3))) (tCons3 (tLc3 (iZipS (tVar3 2)) (gName3 5) tYes3 (tCB3 gSum (tCons3 (tVar3 5) tNil3)) [5]) tNil3))) { nx := fun ρ => kk .non ρ.T, rt := fun d ρ => kk d ρ.T } ((Env3.back ⟨[.val d, .val (.int W), .un, .un, .un, .un], TT⟩ ρ2 [4]).put 2 (.val (.lst acc)))) := by
    intro d hd
    refine lcGo_map ptD (fun p => D.lst ((scaled W p).map D.int)) pts [] (fun p hpp K K2 hK => ?_) (by rw [List.length_nil]; exact Nat.le_trans (by omega) (by decide : 1000 ≤ sizeLine)) ?_
    · refine row_go (W := W) (by rw [hp.dim p hpp]; exact hm) (fun n hn K K2 hK => ?_) (hK _ rfl)
      exact ⟨⟨by have := hp.pos p hpp; omega, bd_log9 (hp.bq p hpp)⟩, (hp.bn p hpp n hn).cmul (quo_bd M.pos (hp.pos p hpp) (M.dvd p hpp) hB) (by decide) (by decide) (by decide), hK _ rfl⟩
    · have e : ([] ++ pts.map fun p => D.lst ((scaled W p).map D.int)) = (pts.map (scaled W)).map fun r => D.lst (r.map D.int) := by
        rw [List.nil_append, List.map_map]; rfl
      rw [e]
      exact tail d _ _ hd
  rcases hd with rfl | rfl
  · exact rows _ (.inl rfl)
  · exact rows _ (.inr rfl)
end K16
namespace K16
open PySem PySem.Spec PyProof.Rows L2 L3
theorem all_mk {l : PySem.W.OpenLaw} {w : World} {K : PySem.W.Frag} {h : Heap} {mg : Str → Option Value} {fa : Addr} (X : K.In h) (G : h.Ns mainGlobals mg) (hfa : mg "law" = some (.ref fa))
    {fn_lowest : Addr} {od_lowest an_lowest : Option Addr} {sl_lowest : Array (Option Value)} {oc_lowest kV_lowest dc_lowest pm_lowest cd_lowest ct_lowest : Value}
    {fn_value : Addr} {od_value an_value : Option Addr} {sl_value : Array (Option Value)} {oc_value kV_value dc_value pm_value cd_value ct_value : Value}
    {fn_whole_of : Addr} {od_whole_of an_whole_of : Option Addr} {sl_whole_of : Array (Option Value)} {oc_whole_of kV_whole_of dc_whole_of pm_whole_of cd_whole_of ct_whole_of : Value}
    {fn_in_order : Addr} {od_in_order an_in_order : Option Addr} {sl_in_order : Array (Option Value)} {oc_in_order kV_in_order dc_in_order pm_in_order cd_in_order ct_in_order : Value}
    {fn_middle : Addr} {od_middle an_middle : Option Addr} {sl_middle : Array (Option Value)} {oc_middle kV_middle dc_middle pm_middle cd_middle ct_middle : Value}
    {fn__law_pen : Addr} {od__law_pen an__law_pen : Option Addr} {sl__law_pen : Array (Option Value)} {oc__law_pen kV__law_pen dc__law_pen pm__law_pen cd__law_pen ct__law_pen : Value}
    {fn__law_draw : Addr} {od__law_draw an__law_draw : Option Addr} {sl__law_draw : Array (Option Value)} {oc__law_draw kV__law_draw dc__law_draw pm__law_draw cd__law_draw ct__law_draw : Value}
    {fn__law_pick : Addr} {od__law_pick an__law_pick : Option Addr} {sl__law_pick : Array (Option Value)} {oc__law_pick kV__law_pick dc__law_pick pm__law_pick cd__law_pick ct__law_pick : Value}
    {fn__law_mixed : Addr} {od__law_mixed an__law_mixed : Option Addr} {sl__law_mixed : Array (Option Value)} {oc__law_mixed kV__law_mixed dc__law_mixed pm__law_mixed cd__law_mixed ct__law_mixed : Value}
    {fn__law_gcd : Addr} {od__law_gcd an__law_gcd : Option Addr} {sl__law_gcd : Array (Option Value)} {oc__law_gcd kV__law_gcd dc__law_gcd pm__law_gcd cd__law_gcd ct__law_gcd : Value}
    {fn__law_lowest : Addr} {od__law_lowest an__law_lowest : Option Addr} {sl__law_lowest : Array (Option Value)} {oc__law_lowest kV__law_lowest dc__law_lowest pm__law_lowest cd__law_lowest ct__law_lowest : Value}
    {fn__law_value : Addr} {od__law_value an__law_value : Option Addr} {sl__law_value : Array (Option Value)} {oc__law_value kV__law_value dc__law_value pm__law_value cd__law_value ct__law_value : Value}
    {fn__law_by_order : Addr} {od__law_by_order an__law_by_order : Option Addr} {sl__law_by_order : Array (Option Value)} {oc__law_by_order kV__law_by_order dc__law_by_order pm__law_by_order cd__law_by_order ct__law_by_order : Value}
    {fn_law : Addr} {od_law an_law : Option Addr} {sl_law : Array (Option Value)} {oc_law kV_law dc_law pm_law cd_law ct_law : Value}
    (a_lowest : PySem.W.nsIn K mainGlobals "lowest" = some (some (.ref fn_lowest)))
    (l_lowest : K.lookup fn_lowest = some ⟨oc_lowest, od_lowest, .func (PySem.W.fnOf "lowest" "lowest" (defArgs (top 2)) (defBody (top 2)) (defScope (top 2)) .none kV_lowest dc_lowest pm_lowest an_lowest cd_lowest ct_lowest), sl_lowest⟩)
    (c_lowest : PySem.W.codeIn K cd_lowest "lowest" = true)
    (k_lowest : PySem.W.keepIn K (.ref fn_lowest) = true)
    (a_value : PySem.W.nsIn K mainGlobals "value" = some (some (.ref fn_value)))
    (l_value : K.lookup fn_value = some ⟨oc_value, od_value, .func (PySem.W.fnOf "value" "value" (defArgs (top 3)) (defBody (top 3)) (defScope (top 3)) .none kV_value dc_value pm_value an_value cd_value ct_value), sl_value⟩)
    (c_value : PySem.W.codeIn K cd_value "value" = true)
    (k_value : PySem.W.keepIn K (.ref fn_value) = true)
    (a_whole_of : PySem.W.nsIn K mainGlobals "whole_of" = some (some (.ref fn_whole_of)))
    (l_whole_of : K.lookup fn_whole_of = some ⟨oc_whole_of, od_whole_of, .func (PySem.W.fnOf "whole_of" "whole_of" (defArgs (top 4)) (defBody (top 4)) (defScope (top 4)) .none kV_whole_of dc_whole_of pm_whole_of an_whole_of cd_whole_of ct_whole_of), sl_whole_of⟩)
    (c_whole_of : PySem.W.codeIn K cd_whole_of "whole_of" = true)
    (k_whole_of : PySem.W.keepIn K (.ref fn_whole_of) = true)
    (a_in_order : PySem.W.nsIn K mainGlobals "in_order" = some (some (.ref fn_in_order)))
    (l_in_order : K.lookup fn_in_order = some ⟨oc_in_order, od_in_order, .func (PySem.W.fnOf "in_order" "in_order" (defArgs (top 5)) (defBody (top 5)) (defScope (top 5)) .none kV_in_order dc_in_order pm_in_order an_in_order cd_in_order ct_in_order), sl_in_order⟩)
    (c_in_order : PySem.W.codeIn K cd_in_order "in_order" = true)
    (k_in_order : PySem.W.keepIn K (.ref fn_in_order) = true)
    (a_middle : PySem.W.nsIn K mainGlobals "middle" = some (some (.ref fn_middle)))
    (l_middle : K.lookup fn_middle = some ⟨oc_middle, od_middle, .func (PySem.W.fnOf "middle" "middle" (defArgs (top 6)) (defBody (top 6)) (defScope (top 6)) .none kV_middle dc_middle pm_middle an_middle cd_middle ct_middle), sl_middle⟩)
    (c_middle : PySem.W.codeIn K cd_middle "middle" = true)
    (k_middle : PySem.W.keepIn K (.ref fn_middle) = true)
    (a__law_pen : PySem.W.nsIn K mainGlobals "_law_pen" = some (some (.ref fn__law_pen)))
    (l__law_pen : K.lookup fn__law_pen = some ⟨oc__law_pen, od__law_pen, .func (PySem.W.fnOf "_law_pen" "_law_pen" (defArgs (top 8)) (defBody (top 8)) (defScope (top 8)) .none kV__law_pen dc__law_pen pm__law_pen an__law_pen cd__law_pen ct__law_pen), sl__law_pen⟩)
    (c__law_pen : PySem.W.codeIn K cd__law_pen "_law_pen" = true)
    (k__law_pen : PySem.W.keepIn K (.ref fn__law_pen) = true)
    (a__law_draw : PySem.W.nsIn K mainGlobals "_law_draw" = some (some (.ref fn__law_draw)))
    (l__law_draw : K.lookup fn__law_draw = some ⟨oc__law_draw, od__law_draw, .func (PySem.W.fnOf "_law_draw" "_law_draw" (defArgs (top 9)) (defBody (top 9)) (defScope (top 9)) .none kV__law_draw dc__law_draw pm__law_draw an__law_draw cd__law_draw ct__law_draw), sl__law_draw⟩)
    (c__law_draw : PySem.W.codeIn K cd__law_draw "_law_draw" = true)
    (k__law_draw : PySem.W.keepIn K (.ref fn__law_draw) = true)
    (a__law_pick : PySem.W.nsIn K mainGlobals "_law_pick" = some (some (.ref fn__law_pick)))
    (l__law_pick : K.lookup fn__law_pick = some ⟨oc__law_pick, od__law_pick, .func (PySem.W.fnOf "_law_pick" "_law_pick" (defArgs (top 10)) (defBody (top 10)) (defScope (top 10)) .none kV__law_pick dc__law_pick pm__law_pick an__law_pick cd__law_pick ct__law_pick), sl__law_pick⟩)
    (c__law_pick : PySem.W.codeIn K cd__law_pick "_law_pick" = true)
    (k__law_pick : PySem.W.keepIn K (.ref fn__law_pick) = true)
    (a__law_mixed : PySem.W.nsIn K mainGlobals "_law_mixed" = some (some (.ref fn__law_mixed)))
    (l__law_mixed : K.lookup fn__law_mixed = some ⟨oc__law_mixed, od__law_mixed, .func (PySem.W.fnOf "_law_mixed" "_law_mixed" (defArgs (top 11)) (defBody (top 11)) (defScope (top 11)) .none kV__law_mixed dc__law_mixed pm__law_mixed an__law_mixed cd__law_mixed ct__law_mixed), sl__law_mixed⟩)
    (c__law_mixed : PySem.W.codeIn K cd__law_mixed "_law_mixed" = true)
    (k__law_mixed : PySem.W.keepIn K (.ref fn__law_mixed) = true)
    (a__law_gcd : PySem.W.nsIn K mainGlobals "_law_gcd" = some (some (.ref fn__law_gcd)))
    (l__law_gcd : K.lookup fn__law_gcd = some ⟨oc__law_gcd, od__law_gcd, .func (PySem.W.fnOf "_law_gcd" "_law_gcd" (defArgs (top 12)) (defBody (top 12)) (defScope (top 12)) .none kV__law_gcd dc__law_gcd pm__law_gcd an__law_gcd cd__law_gcd ct__law_gcd), sl__law_gcd⟩)
    (c__law_gcd : PySem.W.codeIn K cd__law_gcd "_law_gcd" = true)
    (k__law_gcd : PySem.W.keepIn K (.ref fn__law_gcd) = true)
    (a__law_lowest : PySem.W.nsIn K mainGlobals "_law_lowest" = some (some (.ref fn__law_lowest)))
    (l__law_lowest : K.lookup fn__law_lowest = some ⟨oc__law_lowest, od__law_lowest, .func (PySem.W.fnOf "_law_lowest" "_law_lowest" (defArgs (top 13)) (defBody (top 13)) (defScope (top 13)) .none kV__law_lowest dc__law_lowest pm__law_lowest an__law_lowest cd__law_lowest ct__law_lowest), sl__law_lowest⟩)
    (c__law_lowest : PySem.W.codeIn K cd__law_lowest "_law_lowest" = true)
    (k__law_lowest : PySem.W.keepIn K (.ref fn__law_lowest) = true)
    (a__law_value : PySem.W.nsIn K mainGlobals "_law_value" = some (some (.ref fn__law_value)))
    (l__law_value : K.lookup fn__law_value = some ⟨oc__law_value, od__law_value, .func (PySem.W.fnOf "_law_value" "_law_value" (defArgs (top 14)) (defBody (top 14)) (defScope (top 14)) .none kV__law_value dc__law_value pm__law_value an__law_value cd__law_value ct__law_value), sl__law_value⟩)
    (c__law_value : PySem.W.codeIn K cd__law_value "_law_value" = true)
    (k__law_value : PySem.W.keepIn K (.ref fn__law_value) = true)
    (a__law_by_order : PySem.W.nsIn K mainGlobals "_law_by_order" = some (some (.ref fn__law_by_order)))
    (l__law_by_order : K.lookup fn__law_by_order = some ⟨oc__law_by_order, od__law_by_order, .func (PySem.W.fnOf "_law_by_order" "_law_by_order" (defArgs (top 15)) (defBody (top 15)) (defScope (top 15)) .none kV__law_by_order dc__law_by_order pm__law_by_order an__law_by_order cd__law_by_order ct__law_by_order), sl__law_by_order⟩)
    (c__law_by_order : PySem.W.codeIn K cd__law_by_order "_law_by_order" = true)
    (k__law_by_order : PySem.W.keepIn K (.ref fn__law_by_order) = true)
    (a_law : PySem.W.nsIn K mainGlobals "law" = some (some (.ref fn_law)))
    (l_law : K.lookup fn_law = some ⟨oc_law, od_law, .func (PySem.W.fnOf "law" "law" (defArgs (top 16)) (defBody (top 16)) (defScope (top 16)) .none kV_law dc_law pm_law an_law cd_law ct_law), sl_law⟩)
    (c_law : PySem.W.codeIn K cd_law "law" = true)
    (k_law : PySem.W.keepIn K (.ref fn_law) = true)
    (b_abs : PySem.W.nsIn K mainGlobals "abs" = some none)
    (b_gcd : PySem.W.nsIn K mainGlobals "gcd" = some (some (.builtin "math.gcd")))
    (b_int : PySem.W.nsIn K mainGlobals "int" = some none)
    (b_len : PySem.W.nsIn K mainGlobals "len" = some none)
    (b_list : PySem.W.nsIn K mainGlobals "list" = some none)
    (b_range : PySem.W.nsIn K mainGlobals "range" = some none)
    (b_sorted : PySem.W.nsIn K mainGlobals "sorted" = some none)
    (b_sum : PySem.W.nsIn K mainGlobals "sum" = some none)
    (b_tuple : PySem.W.nsIn K mainGlobals "tuple" = some none)
    (b_zip : PySem.W.nsIn K mainGlobals "zip" = some none)
    : ∃ fd : FuncData, (∀ (s : Shared) (v : Value), BindsTo s fd ⟨[v], []⟩ [("script", v)]) ∧ ∀ base : Heap, K.In base → base.Ns mainGlobals mg → FnOk l.prog w K mg base CX0 3 fa fd ["script"] (spLaw K) := by
  have e := hfa.symm.trans (PySem.W.mg_of X G a_law)
  cases e
  have T : Txt mg := ⟨PySem.W.mg_none_of X G b_abs, PySem.W.mg_of X G b_gcd, PySem.W.mg_none_of X G b_int, PySem.W.mg_none_of X G b_len, PySem.W.mg_none_of X G b_list, PySem.W.mg_none_of X G b_range, PySem.W.mg_none_of X G b_sorted, PySem.W.mg_none_of X G b_sum, PySem.W.mg_none_of X G b_tuple, PySem.W.mg_none_of X G b_zip⟩
  have F_lowest := fun_mk (st := (top 2)) l_lowest c_lowest k_lowest
  have B_lowest := F_lowest.binds (ps := ["q", "numbers"]) fun _ _ _ _ _ _ us hl => match us, hl with | [_, _], _ => rfl
  have F_value := fun_mk (st := (top 3)) l_value c_value k_value
  have B_value := F_value.binds (ps := ["plane", "point"]) fun _ _ _ _ _ _ us hl => match us, hl with | [_, _], _ => rfl
  have F_whole_of := fun_mk (st := (top 4)) l_whole_of c_whole_of k_whole_of
  have B_whole_of := F_whole_of.binds (ps := ["points"]) fun _ _ _ _ _ _ us hl => match us, hl with | [_], _ => rfl
  have F_in_order := fun_mk (st := (top 5)) l_in_order c_in_order k_in_order
  have B_in_order := F_in_order.binds (ps := ["points"]) fun _ _ _ _ _ _ us hl => match us, hl with | [_], _ => rfl
  have F_middle := fun_mk (st := (top 6)) l_middle c_middle k_middle
  have B_middle := F_middle.binds (ps := ["points"]) fun _ _ _ _ _ _ us hl => match us, hl with | [_], _ => rfl
  have F__law_pen := fun_mk (st := (top 8)) l__law_pen c__law_pen k__law_pen
  have B__law_pen := F__law_pen.binds (ps := ["script"]) fun _ _ _ _ _ _ us hl => match us, hl with | [_], _ => rfl
  have F__law_draw := fun_mk (st := (top 9)) l__law_draw c__law_draw k__law_draw
  have B__law_draw := F__law_draw.binds (ps := ["pen", "many"]) fun _ _ _ _ _ _ us hl => match us, hl with | [_, _], _ => rfl
  have F__law_pick := fun_mk (st := (top 10)) l__law_pick c__law_pick k__law_pick
  have B__law_pick := F__law_pick.binds (ps := ["pen", "some"]) fun _ _ _ _ _ _ us hl => match us, hl with | [_, _], _ => rfl
  have F__law_mixed := fun_mk (st := (top 11)) l__law_mixed c__law_mixed k__law_mixed
  have B__law_mixed := F__law_mixed.binds (ps := ["pen", "some"]) fun _ _ _ _ _ _ us hl => match us, hl with | [_, _], _ => rfl
  have F__law_gcd := fun_mk (st := (top 12)) l__law_gcd c__law_gcd k__law_gcd
  have B__law_gcd := F__law_gcd.binds (ps := ["one", "other"]) fun _ _ _ _ _ _ us hl => match us, hl with | [_, _], _ => rfl
  have F__law_lowest := fun_mk (st := (top 13)) l__law_lowest c__law_lowest k__law_lowest
  have B__law_lowest := F__law_lowest.binds (ps := ["q", "numbers"]) fun _ _ _ _ _ _ us hl => match us, hl with | [_, _], _ => rfl
  have F__law_value := fun_mk (st := (top 14)) l__law_value c__law_value k__law_value
  have B__law_value := F__law_value.binds (ps := ["plane", "point"]) fun _ _ _ _ _ _ us hl => match us, hl with | [_, _], _ => rfl
  have F__law_by_order := fun_mk (st := (top 15)) l__law_by_order c__law_by_order k__law_by_order
  have B__law_by_order := F__law_by_order.binds (ps := ["points"]) fun _ _ _ _ _ _ us hl => match us, hl with | [_], _ => rfl
  have F_law := fun_mk (st := (top 16)) l_law c_law k_law
  have B_law := F_law.binds (ps := ["script"]) fun _ _ _ _ _ _ us hl => match us, hl with | [_], _ => rfl
  refine ⟨PySem.W.fnOf "law" "law" (defArgs (top 16)) (defBody (top 16)) (defScope (top 16)) .none kV_law dc_law pm_law an_law cd_law ct_law, fun s v => .of_eq rfl, fun base _ _ => ?_⟩
  have G_lowest : Has l.prog w K mg base 1 "lowest" ["q", "numbers"] 2 s_lowest (top 2) fn_lowest _ := ⟨ok_lowest  F_lowest T r_lowest, PySem.W.mg_of X G a_lowest, F_lowest, B_lowest⟩
  have G_value : Has l.prog w K mg base 1 "value" ["plane", "point"] 2 s_value (top 3) fn_value _ := ⟨ok_value  F_value T r_value, PySem.W.mg_of X G a_value, F_value, B_value⟩
  have G_whole_of : Has l.prog w K mg base 1 "whole_of" ["points"] 1 s_whole_of (top 4) fn_whole_of _ := ⟨ok_whole_of  F_whole_of T r_whole_of, PySem.W.mg_of X G a_whole_of, F_whole_of, B_whole_of⟩
  have G__law_draw : Has l.prog w K mg base 1 "_law_draw" ["pen", "many"] 2 s__law_draw (top 9) fn__law_draw _ := ⟨ok__law_draw  F__law_draw T r__law_draw, PySem.W.mg_of X G a__law_draw, F__law_draw, B__law_draw⟩
  have G__law_gcd : Has l.prog w K mg base 1 "_law_gcd" ["one", "other"] 2 s__law_gcd (top 12) fn__law_gcd _ := ⟨ok__law_gcd  F__law_gcd T r__law_gcd, PySem.W.mg_of X G a__law_gcd, F__law_gcd, B__law_gcd⟩
  have G__law_value : Has l.prog w K mg base 1 "_law_value" ["plane", "point"] 2 s__law_value (top 14) fn__law_value _ := ⟨ok__law_value  F__law_value T r__law_value, PySem.W.mg_of X G a__law_value, F__law_value, B__law_value⟩
  have G__law_by_order : Has l.prog w K mg base 1 "_law_by_order" ["points"] 1 s__law_by_order (top 15) fn__law_by_order _ := ⟨ok__law_by_order  F__law_by_order T r__law_by_order, PySem.W.mg_of X G a__law_by_order, F__law_by_order, B__law_by_order⟩
  have G_in_order : Has l.prog w K mg base 2 "in_order" ["points"] 1 s_in_order (top 5) fn_in_order _ := ⟨ok_in_order G_whole_of F_in_order T r_in_order, PySem.W.mg_of X G a_in_order, F_in_order, B_in_order⟩
  have G_middle : Has l.prog w K mg base 2 "middle" ["points"] 1 s_middle (top 6) fn_middle _ := ⟨ok_middle G_lowest G_whole_of F_middle T r_middle, PySem.W.mg_of X G a_middle, F_middle, B_middle⟩
  have G__law_pick : Has l.prog w K mg base 2 "_law_pick" ["pen", "some"] 2 s__law_pick (top 10) fn__law_pick _ := ⟨ok__law_pick G__law_draw F__law_pick T r__law_pick, PySem.W.mg_of X G a__law_pick, F__law_pick, B__law_pick⟩
  have G__law_mixed : Has l.prog w K mg base 2 "_law_mixed" ["pen", "some"] 2 s__law_mixed (top 11) fn__law_mixed _ := ⟨ok__law_mixed G__law_draw F__law_mixed T r__law_mixed, PySem.W.mg_of X G a__law_mixed, F__law_mixed, B__law_mixed⟩
  have G__law_lowest : Has l.prog w K mg base 2 "_law_lowest" ["q", "numbers"] 2 s__law_lowest (top 13) fn__law_lowest _ := ⟨ok__law_lowest G__law_gcd F__law_lowest T r__law_lowest, PySem.W.mg_of X G a__law_lowest, F__law_lowest, B__law_lowest⟩
  exact ok_law G__law_by_order G__law_draw G__law_lowest G__law_mixed G__law_pick G__law_value G_in_order G_lowest G_middle G_value F__law_pen (PySem.W.mg_of X G a__law_pen) B__law_pen F_law T law_read
theorem walk {l : PySem.W.OpenLaw} {q : Program} {loose : List Str} {XP : (Str → Option Value) → Heap → Prop} {YP : World → Heap → Prop} {d : DefRec} {K : Params → PySem.W.Frag} (hn : l.most = some 63) (hdf : d.params.defaults = []) (hY : ∀ (w : World) (h : Heap), YP w h → (K w.params).In h)
    (F : ∀ (w : World) (mg : Str → Option Value) (fa : Addr) (h : Heap), (K w.params).In h → h.Ns mainGlobals mg → mg d.name = some (.ref fa) → ∃ fd : FuncData, (∀ (s : Shared) (u : Value), BindsTo s fd ⟨[u], []⟩ [("script", u)]) ∧ ∀ base : Heap, (K w.params).In base → base.Ns mainGlobals mg → FnOk l.prog w (K w.params) mg base CX0 3 fa fd ["script"] (spLaw (K w.params))) :
    PySem.W.WalkO q loose XP YP l.row.toRowW d [] (fun f vs => PySem.call f vs) :=
  L2.walk_of (n := 63) (k := 3) (x := "script") (CX := fun _ => CX0) (sp := fun w => spLaw (K w.params)) hn (by decide) hdf ⟨rfl, by decide, by decide⟩ hY F (fun _ _ a ns hl _ hS => ⟨a, ns, rfl, hS, hl, fun _ => rfl⟩) fun _ _ _ _ _ z => z
end K16
open PySem PySem.W PyProof.Rows
set_option maxRecDepth 100000 in
set_option maxHeartbeats 0 in
theorem PySem.Challenge.cw_termmaps_k16_points_and_planes_holds : PySem.Challenge.rw_termmaps_k16_points_and_planes.Holds := by
  w_on; o_law; k_head; (case hw => w_witness2)
  k_fill
  refine K16.walk (l := PySem.Challenge.rw_termmaps_k16_points_and_planes) rfl rfl (fun w h Y => PySem.W.kIn_of Y) ?F
  case F =>
    intro w mg fa h KX G hmg
    refine' K16.all_mk KX G hmg ?a_lowest ?l_lowest ?c_lowest ?k_lowest ?a_value ?l_value ?c_value ?k_value ?a_whole_of ?l_whole_of ?c_whole_of ?k_whole_of ?a_in_order ?l_in_order ?c_in_order ?k_in_order ?a_middle ?l_middle ?c_middle ?k_middle ?a__law_pen ?l__law_pen ?c__law_pen ?k__law_pen ?a__law_draw ?l__law_draw ?c__law_draw ?k__law_draw ?a__law_pick ?l__law_pick ?c__law_pick ?k__law_pick ?a__law_mixed ?l__law_mixed ?c__law_mixed ?k__law_mixed ?a__law_gcd ?l__law_gcd ?c__law_gcd ?k__law_gcd ?a__law_lowest ?l__law_lowest ?c__law_lowest ?k__law_lowest ?a__law_value ?l__law_value ?c__law_value ?k__law_value ?a__law_by_order ?l__law_by_order ?c__law_by_order ?k__law_by_order ?a_law ?l_law ?c_law ?k_law ?b_abs ?b_gcd ?b_int ?b_len ?b_list ?b_range ?b_sorted ?b_sum ?b_tuple ?b_zip
    (case a_lowest => k_is)
    (case l_lowest => k_is)
    (case c_lowest => k_is)
    (case k_lowest => k_is)
    (case a_value => k_is)
    (case l_value => k_is)
    (case c_value => k_is)
    (case k_value => k_is)
    (case a_whole_of => k_is)
    (case l_whole_of => k_is)
    (case c_whole_of => k_is)
    (case k_whole_of => k_is)
    (case a_in_order => k_is)
    (case l_in_order => k_is)
    (case c_in_order => k_is)
    (case k_in_order => k_is)
    (case a_middle => k_is)
    (case l_middle => k_is)
    (case c_middle => k_is)
    (case k_middle => k_is)
    (case a__law_pen => k_is)
    (case l__law_pen => k_is)
    (case c__law_pen => k_is)
    (case k__law_pen => k_is)
    (case a__law_draw => k_is)
    (case l__law_draw => k_is)
    (case c__law_draw => k_is)
    (case k__law_draw => k_is)
    (case a__law_pick => k_is)
    (case l__law_pick => k_is)
    (case c__law_pick => k_is)
    (case k__law_pick => k_is)
    (case a__law_mixed => k_is)
    (case l__law_mixed => k_is)
    (case c__law_mixed => k_is)
    (case k__law_mixed => k_is)
    (case a__law_gcd => k_is)
    (case l__law_gcd => k_is)
    (case c__law_gcd => k_is)
    (case k__law_gcd => k_is)
    (case a__law_lowest => k_is)
    (case l__law_lowest => k_is)
    (case c__law_lowest => k_is)
    (case k__law_lowest => k_is)
    (case a__law_value => k_is)
    (case l__law_value => k_is)
    (case c__law_value => k_is)
    (case k__law_value => k_is)
    (case a__law_by_order => k_is)
    (case l__law_by_order => k_is)
    (case c__law_by_order => k_is)
    (case k__law_by_order => k_is)
    (case a_law => k_is)
    (case l_law => k_is)
    (case c_law => k_is)
    (case k_law => k_is)
    (case b_abs => k_is)
    (case b_gcd => k_is)
    (case b_int => k_is)
    (case b_len => k_is)
    (case b_list => k_is)
    (case b_range => k_is)
    (case b_sorted => k_is)
    (case b_sum => k_is)
    (case b_tuple => k_is)
    (case b_zip => k_is)
