import PyProof.Rows.All
import Wide.All
import OpenK.AllK
import Wide.FinOn
import HandS.ForMost
import HandS.EndBits
import HandS.IsInst
import HandS.TupAny
import HandS.Style
import PySem.Challenge.RW_ballastway_k04_sums_and_products
set_option Elab.async false
set_option linter.all false
set_option maxRecDepth 100000
namespace BK
open PySem PySem.Spec L2
set_option autoImplicit false
/-! ### data, slots, results -/
inductive D where
  | non | bl (b : Bool) | int (i : Int) | str (x : Str)
  /-- rol: a list that is read alone (the script) -/
  | lst (xs : List D) | tup (xs : List D) | ins (c : Nat) (fs : List D) | rol (xs : List D)
inductive R where
  | va (d : D) | tm (ds : List D) | bw (j : Nat) (ds : List D)
inductive Slot where
  | un | va (d : D) | ow (ds : List D)
abbrev Gm := List Slot
inductive Out where
  | nx (g : Gm) | rt (r : R) | bk (g : Gm) | ct (g : Gm)
def R.d : R → D
  | .va d => d
  | .tm ds => .lst ds
  | .bw _ ds => .lst ds
def R.isBw : R → Bool
  | .bw _ _ => true
  | _ => false
/-- the fields of an instance of the c-th class, in the order in which they are stored -/
def fldsOf : Nat → List Str
  | 0 => ["length"]
  | 1 => ["length", "name", "bears", "wide", "most"]
  | 2 => ["pieces", "rounds", "shuts"]
  | 3 => ["name", "speed", "wheels"]
  | 4 => ["cart", "way", "start", "crossings", "ended"]
  | 5 => ["road", "loads", "sends"]
  | _ => []
/-! ### data in a heap -/
mutual
inductive Den (K : PySem.W.Frag) (ca : Nat → Addr) (F : Hp) : V → D → Prop
  | non : Den K ca F .non .non
  | bl (b : Bool) : Den K ca F (.bl b) (.bl b)
  | int (i : Int) : Den K ca F (.int i) (.int i)
  | str (x : Str) : Den K ca F (.str x) (.str x)
  | lst {a : Addr} {xs : List V} {ds : List D} : Rd F a (.lst xs) → Dens K ca F xs ds → Den K ca F (.ref a) (.lst ds)
  | tup {a : Addr} {xs : List V} {ds : List D} : SqT K F a xs → Dens K ca F xs ds → Den K ca F (.ref a) (.tup ds)
  | ins {a dx : Addr} {fs : List (Str × V)} {c : Nat} {ds : List D} : F a = some (.ins (ca c) dx fs) → fs.map (·.1) = fldsOf c → Dens K ca F (fs.map (·.2)) ds → Den K ca F (.ref a) (.ins c ds)
  | rol {a : Addr} {xs : List V} {ds : List D} : SqL K F a xs → Dens K ca F xs ds → Den K ca F (.ref a) (.rol ds)
inductive Dens (K : PySem.W.Frag) (ca : Nat → Addr) (F : Hp) : List V → List D → Prop
  | nil : Dens K ca F [] []
  | cons {v : V} {vs : List V} {d : D} {ds : List D} : Den K ca F v d → Dens K ca F vs ds → Dens K ca F (v :: vs) (d :: ds)
end
theorem Same.rd {H H' : Hp} {a : Addr} {o : HO} (e : Same H H') (h : Rd H a o) : Rd H' a o := by
  rcases h with h | ⟨u, h⟩
  · exact .inl (e _ _ h)
  · exact .inr ⟨u, e _ _ h⟩
theorem Same.seqT {K : PySem.W.Frag} {H H' : Hp} {a : Addr} {xs : List V} (e : Same H H') (h : SqT K H a xs) : SqT K H' a xs := by
  rcases h with (h | ⟨o, h⟩) | h
  · exact .inl (.inl (e _ _ h))
  · exact .inl (.inr ⟨o, e _ _ h⟩)
  · exact .inr h
section
variable {K : PySem.W.Frag} {ca : Nat → Addr} {F F' : Hp}
mutual
theorem Den.mono (s : Same F F') : ∀ {v : V} {d : D}, Den K ca F v d → Den K ca F' v d
  | _, _, .non => .non
  | _, _, .bl b => .bl b
  | _, _, .int i => .int i
  | _, _, .str x => .str x
  | _, _, .lst h hs => .lst (Same.rd s h) (Dens.mono s hs)
  | _, _, .tup h hs => .tup (Same.seqT s h) (Dens.mono s hs)
  | _, _, .ins h e hs => .ins (s _ _ h) e (Dens.mono s hs)
  | _, _, .rol h hs => .rol (s.seq h) (Dens.mono s hs)
theorem Dens.mono (s : Same F F') : ∀ {vs : List V} {ds : List D}, Dens K ca F vs ds → Dens K ca F' vs ds
  | _, _, .nil => .nil
  | _, _, .cons h hs => .cons (Den.mono s h) (Dens.mono s hs)
end
theorem Dens.length : ∀ {vs : List V} {ds : List D}, Dens K ca F vs ds → vs.length = ds.length
  | _, _, .nil => rfl
  | _, _, .cons _ hs => congrArg (· + 1) (Dens.length hs)
theorem Dens.get : ∀ {vs : List V} {ds : List D}, Dens K ca F vs ds → ∀ {i : Nat} {v : V} {d : D}, vs[i]? = some v → ds[i]? = some d → Den K ca F v d
  | _, _, .cons h _, 0, v, d, e1, e2 => by
    have e1 := Option.some.inj e1
    have e2 := Option.some.inj e2
    subst e1; subst e2
    exact h
  | _, _, .cons _ hs, i + 1, v, d, e1, e2 => Dens.get hs (i := i) (by simpa using e1) (by simpa using e2)
theorem Dens.getV {vs : List V} {ds : List D} (h : Dens K ca F vs ds) {i : Nat} {d : D} (e : ds[i]? = some d) : ∃ v, vs[i]? = some v ∧ Den K ca F v d := by
  have hl : i < vs.length := by rw [h.length]; exact (List.getElem?_eq_some_iff.mp e).1
  exact ⟨vs[i], List.getElem?_eq_getElem hl, h.get (List.getElem?_eq_getElem hl) e⟩
theorem Dens.getD {vs : List V} {ds : List D} (h : Dens K ca F vs ds) {i : Nat} {v : V} (e : vs[i]? = some v) : ∃ d, ds[i]? = some d ∧ Den K ca F v d := by
  have hl : i < ds.length := by rw [← h.length]; exact (List.getElem?_eq_some_iff.mp e).1
  exact ⟨ds[i], List.getElem?_eq_getElem hl, h.get e (List.getElem?_eq_getElem hl)⟩
theorem Dens.append : ∀ {vs ws : List V} {ds es : List D}, Dens K ca F vs ds → Dens K ca F ws es → Dens K ca F (vs ++ ws) (ds ++ es)
  | _, _, _, _, .nil, s => s
  | _, _, _, _, .cons r t, s => .cons r (Dens.append t s)
theorem Dens.one {v : V} {d : D} (h : Den K ca F v d) : Dens K ca F [v] [d] := .cons h .nil
theorem Dens.take : ∀ {vs : List V} {ds : List D} (n : Nat), Dens K ca F vs ds → Dens K ca F (vs.take n) (ds.take n)
  | _, _, 0, _ => .nil
  | _, _, _ + 1, .nil => .nil
  | _, _, n + 1, .cons r t => .cons r (Dens.take n t)
theorem Dens.drop : ∀ {vs : List V} {ds : List D} (n : Nat), Dens K ca F vs ds → Dens K ca F (vs.drop n) (ds.drop n)
  | _, _, 0, r => r
  | _, _, _ + 1, .nil => .nil
  | _, _, n + 1, .cons _ t => Dens.drop n t
theorem Dens.dropLast {vs : List V} {ds : List D} (h : Dens K ca F vs ds) : Dens K ca F vs.dropLast ds.dropLast := by
  rw [List.dropLast_eq_take, List.dropLast_eq_take, h.length]
  exact h.take _
theorem Dens.eraseIdx : ∀ {vs : List V} {ds : List D} (i : Nat), Dens K ca F vs ds → Dens K ca F (vs.eraseIdx i) (ds.eraseIdx i)
  | _, _, _, .nil => .nil
  | _, _, 0, .cons _ t => t
  | _, _, n + 1, .cons r t => .cons r (Dens.eraseIdx n t)
theorem Dens.set : ∀ {vs : List V} {ds : List D} {v : V} {d : D} (i : Nat), Den K ca F v d → Dens K ca F vs ds → Dens K ca F (vs.set i v) (ds.set i d)
  | _, _, _, _, _, _, .nil => .nil
  | _, _, _, _, 0, h, .cons _ t => .cons h t
  | _, _, _, _, n + 1, h, .cons r t => .cons r (Dens.set n h t)
theorem Dens.reverse {vs : List V} {ds : List D} (h : Dens K ca F vs ds) : Dens K ca F vs.reverse ds.reverse := by
  induction vs generalizing ds with
  | nil => cases h; exact .nil
  | cons v vs ih =>
    cases h with
    | cons h hs =>
      rw [List.reverse_cons, List.reverse_cons]
      exact (ih hs).append (.one h)
theorem Dens.ints : ∀ {ns : List Int}, Dens K ca F (ns.map V.int) (ns.map D.int)
  | [] => .nil
  | n :: ns => .cons (.int n) Dens.ints
theorem Dens.ints_of : ∀ {vs : List V} {ns : List Int}, Dens K ca F vs (ns.map D.int) → vs = ns.map V.int
  | _, [], h => by cases h; rfl
  | _, n :: ns, h => by
    cases h with
    | cons h hs =>
      cases h
      rw [Dens.ints_of hs]
      rfl
theorem Dens.bls_of : ∀ {vs : List V} {ns : List Bool}, Dens K ca F vs (ns.map D.bl) → vs = ns.map V.bl
  | _, [], h => by cases h; rfl
  | _, n :: ns, h => by
    cases h with
    | cons h hs =>
      cases h
      rw [Dens.bls_of hs]
      rfl
theorem Dens.strs_of : ∀ {vs : List V} {ns : List Str}, Dens K ca F vs (ns.map D.str) → vs = ns.map V.str
  | _, [], h => by cases h; rfl
  | _, n :: ns, h => by
    cases h with
    | cons h hs =>
      cases h
      rw [Dens.strs_of hs]
      rfl
end
/-! ### heaps that grow -/
/-- all that was tracked stays; what is frozen grows by what is new alone -/
structure Ext (H F H' F' : Hp) : Prop where
  hh : Same H H'
  ff : Same F F'
  fh : Same F' H'
  nw : ∀ a, F' a ≠ none → F a ≠ none ∨ H a = none
theorem Ext.refl {H F : Hp} (s : Same F H) : Ext H F H F := ⟨Same.refl _, Same.refl _, s, fun _ h => .inl h⟩
theorem Ext.trans {H F H1 F1 H2 F2 : Hp} (a : Ext H F H1 F1) (b : Ext H1 F1 H2 F2) : Ext H F H2 F2 :=
  ⟨a.hh.trans b.hh, a.ff.trans b.ff, b.fh, fun x h => by
    rcases b.nw x h with h | h
    · exact a.nw x h
    · exact .inr (a.hh.free h)⟩
theorem Ext.keepN {H F H' F' : Hp} (x : Ext H F H' F') {a : Addr} {o : HO} (h : H a = some o) (f : F a = none) : F' a = none := by
  cases q : F' a with
  | none => rfl
  | some u =>
    rcases x.nw a (by rw [q]; exact fun z => nomatch z) with z | z
    · exact absurd f z
    · rw [h] at z; cases z
theorem same_upd {H : Hp} {p : Addr} {o : HO} (h : H p = none) : Same H (upd H p o) := fun b x e => by
  rw [upd_ne (ne_of_none e h)]
  exact e
theorem Same.updB {F H : Hp} {p : Addr} {o : HO} (s : Same F H) : Same (upd F p o) (upd H p o) := fun b x e => by
  by_cases hb : b = p
  · subst hb
    rw [upd_same] at e ⊢
    exact e
  · rw [upd_ne hb] at e ⊢
    exact s b x e
/-- a new object, frozen -/
theorem Ext.new {H F : Hp} (s : Same F H) {p : Addr} (o : HO) (h : H p = none) : Ext H F (upd H p o) (upd F p o) :=
  ⟨same_upd h, same_upd (s.free h), Same.updB s, fun a q => by
    by_cases e : a = p
    · subst e; exact .inr h
    · rw [upd_ne e] at q; exact .inl q⟩
/-- a new object, not frozen -/
theorem Ext.newO {H F : Hp} (s : Same F H) {p : Addr} (o : HO) (h : H p = none) : Ext H F (upd H p o) F :=
  ⟨same_upd h, Same.refl _, s.trans (same_upd h), fun a q => .inl q⟩
/-- something new is frozen -/
theorem Ext.frz {H F H1 F1 : Hp} (x : Ext H F H1 F1) {p : Addr} {o : HO} (h : H p = none) (h1 : H1 p = some o) (f : F1 p = none) : Ext H F H1 (upd F1 p o) :=
  ⟨x.hh, x.ff.trans (same_upd f), fun b u e => by
    by_cases q : b = p
    · subst q; rw [upd_same] at e; rw [h1, e]
    · rw [upd_ne q] at e; exact x.fh b u e, fun a q => by
    by_cases e : a = p
    · subst e; exact .inr h
    · rw [upd_ne e] at q; exact x.nw a q⟩
/-! ### a result and its value -/
/-- B: which own list of the body's (its slot, its address); H: the heap at the expression's beginning -/
abbrev BT := Nat → Addr → List D → Prop
def RV (K : PySem.W.Frag) (ca : Nat → Addr) (B : BT) (H F' H' : Hp) (v : V) : R → Prop
  | .va d => Den K ca F' v d
  | .tm ds => ∃ a vs, v = .ref a ∧ H a = none ∧ F' a = none ∧ H' a = some (.lst vs) ∧ Dens K ca F' vs ds
  | .bw j ds => ∃ a vs, v = .ref a ∧ B j a ds ∧ F' a = none ∧ H' a = some (.lst vs) ∧ Dens K ca F' vs ds
theorem RV.mono {K : PySem.W.Frag} {ca : Nat → Addr} {B : BT} {H F1 H1 F2 H2 : Hp} {v : V} {r : R} (x : Ext H1 F1 H2 F2) (h : RV K ca B H F1 H1 v r) : RV K ca B H F2 H2 v r := by
  cases r with
  | va d => exact Den.mono x.ff h
  | tm ds =>
    obtain ⟨a, vs, rfl, h1, h2, h3, h4⟩ := h
    exact ⟨a, vs, rfl, h1, x.keepN h3 h2, x.hh _ _ h3, h4.mono x.ff⟩
  | bw j ds =>
    obtain ⟨a, vs, rfl, h1, h2, h3, h4⟩ := h
    exact ⟨a, vs, rfl, h1, x.keepN h3 h2, x.hh _ _ h3, h4.mono x.ff⟩
/-- the expression began sooner -/
theorem RV.back {K : PySem.W.Frag} {ca : Nat → Addr} {B : BT} {Ha H F1 H1 : Hp} {v : V} {r : R} (s : Same Ha H) (h : RV K ca B H F1 H1 v r) : RV K ca B Ha F1 H1 v r := by
  cases r with
  | va d => exact h
  | tm ds =>
    obtain ⟨a, vs, rfl, h1, h2⟩ := h
    exact ⟨a, vs, rfl, s.free h1, h2⟩
  | bw j ds => exact h
/-- a list is read -/
theorem RV.lst {K : PySem.W.Frag} {ca : Nat → Addr} {B : BT} {H F' H' : Hp} {v : V} {r : R} {ds : List D} (s : Same F' H') (h : RV K ca B H F' H' v r) (e : r.d = .lst ds) : ∃ a vs, v = .ref a ∧ Rd H' a (.lst vs) ∧ Dens K ca F' vs ds := by
  cases r with
  | va d =>
    obtain rfl : d = .lst ds := e
    cases h with
    | lst h hs => exact ⟨_, _, rfl, Same.rd s h, hs⟩
  | tm es =>
    obtain rfl : es = ds := by injection e
    obtain ⟨a, vs, rfl, _, _, h3, h4⟩ := h
    exact ⟨a, vs, rfl, .inl h3, h4⟩
  | bw j es =>
    obtain rfl : es = ds := by injection e
    obtain ⟨a, vs, rfl, _, _, h3, h4⟩ := h
    exact ⟨a, vs, rfl, .inl h3, h4⟩
/-- what is no list is a value -/
def D.isLst : D → Bool
  | .lst _ => true
  | _ => false
theorem RV.den {K : PySem.W.Frag} {ca : Nat → Addr} {B : BT} {H F' H' : Hp} {v : V} {r : R} {d : D} (h : RV K ca B H F' H' v r) (e : r.d = d) (n : d.isLst = false) : Den K ca F' v d := by
  cases r with
  | va d' => exact e ▸ h
  | tm es => subst e; cases n
  | bw j es => subst e; cases n
/-- a result that is no borrowed list becomes a value -/
theorem RV.froze {K : PySem.W.Frag} {ca : Nat → Addr} {B : BT} {H F H1 F1 : Hp} {v : V} {r : R} (x : Ext H F H1 F1) (h : RV K ca B H F1 H1 v r) (n : r.isBw = false) : ∃ F2, Ext H F H1 F2 ∧ Same F1 F2 ∧ Den K ca F2 v r.d := by
  cases r with
  | va d => exact ⟨F1, x, Same.refl _, h⟩
  | tm ds =>
    obtain ⟨a, vs, rfl, h1, h2, h3, h4⟩ := h
    exact ⟨_, x.frz h1 h3 h2, same_upd h2, .lst (.inl upd_same) (h4.mono (same_upd h2))⟩
  | bw j ds => cases n
end BK
namespace BK
open PySem PySem.Spec L2
set_option autoImplicit false
/-! ### the state of a body -/
structure SR (K : PySem.W.Frag) (ca : Nat → Addr) (H0 F0 : Hp) (σ : L2.St) (H F : Hp) (Γ : Gm) : Prop where
  ext : Ext H0 F0 H F
  len : σ.length = Γ.length
  va : ∀ (i : Nat) (d : D), Γ[i]? = some (.va d) → ∃ v, σ[i]? = some (some v) ∧ Den K ca F v d
  ow : ∀ (i : Nat) (ds : List D), Γ[i]? = some (.ow ds) → ∃ a vs, σ[i]? = some (some (.ref a)) ∧ H0 a = none ∧ F a = none ∧ H a = some (.lst vs) ∧ Dens K ca F vs ds
  ap : ∀ (i j : Nat) (ds es : List D) (a : Addr), i ≠ j → Γ[i]? = some (.ow ds) → Γ[j]? = some (.ow es) → σ[i]? = some (some (.ref a)) → σ[j]? = some (some (.ref a)) → False
section
variable {K : PySem.W.Frag} {ca : Nat → Addr} {H0 F0 H F H' F' : Hp} {σ : L2.St} {Γ : Gm}
theorem SR.mono (S : SR K ca H0 F0 σ H F Γ) (x : Ext H F H' F') : SR K ca H0 F0 σ H' F' Γ :=
  ⟨S.ext.trans x, S.len, fun i d h => let ⟨v, h1, h2⟩ := S.va i d h; ⟨v, h1, h2.mono x.ff⟩,
    fun i ds h => let ⟨a, vs, h1, h2, h3, h4, h5⟩ := S.ow i ds h; ⟨a, vs, h1, h2, x.keepN h4 h3, x.hh _ _ h4, h5.mono x.ff⟩, S.ap⟩
theorem get_set {α : Type} {l : List α} {i j : Nat} {x y : α} (h : (l.set i x)[j]? = some y) : (i = j ∧ y = x ∧ i < l.length) ∨ (i ≠ j ∧ l[j]? = some y) := by
  by_cases e : i = j
  · subst e
    rw [List.getElem?_set] at h
    simp only [if_true] at h
    split at h
    · exact .inl ⟨rfl, (Option.some.inj h).symm, by assumption⟩
    · cases h
  · rw [List.getElem?_set_ne e] at h
    exact .inr ⟨e, h⟩
theorem SR.lt (S : SR K ca H0 F0 σ H F Γ) {i : Nat} (h : i < Γ.length) : i < σ.length := by rw [S.len]; exact h
/-- a value is stored -/
theorem SR.setVa (S : SR K ca H0 F0 σ H F Γ) {i : Nat} {v : V} {d : D} (h : Den K ca F v d) : SR K ca H0 F0 (σ.set i (some v)) H F (Γ.set i (.va d)) := by
  refine ⟨S.ext, by rw [List.length_set, List.length_set]; exact S.len, fun j e hj => ?_, fun j ds hj => ?_, fun j k ds es a n hj hk sj sk => ?_⟩
  · rcases get_set hj with ⟨rfl, e1, hl⟩ | ⟨n, hj⟩
    · injection e1 with e1; subst e1
      exact ⟨v, List.getElem?_set_self (S.lt hl), h⟩
    · rw [List.getElem?_set_ne n]; exact S.va j e hj
  · rcases get_set hj with ⟨rfl, e1, hl⟩ | ⟨n, hj⟩
    · cases e1
    · rw [List.getElem?_set_ne n]; exact S.ow j ds hj
  · rcases get_set hj with ⟨rfl, e1, hl⟩ | ⟨n1, hj⟩
    · cases e1
    · rcases get_set hk with ⟨rfl, e1, hl⟩ | ⟨n2, hk⟩
      · cases e1
      · rw [List.getElem?_set_ne n1] at sj
        rw [List.getElem?_set_ne n2] at sk
        exact S.ap j k ds es a n hj hk sj sk
/-- a slot is forgotten -/
theorem SR.setUn (S : SR K ca H0 F0 σ H F Γ) {i : Nat} (v : Option V) : SR K ca H0 F0 (σ.set i v) H F (Γ.set i .un) := by
  refine ⟨S.ext, by rw [List.length_set, List.length_set]; exact S.len, fun j e hj => ?_, fun j ds hj => ?_, fun j k ds es a n hj hk sj sk => ?_⟩
  · rcases get_set hj with ⟨rfl, e1, hl⟩ | ⟨n, hj⟩
    · cases e1
    · rw [List.getElem?_set_ne n]; exact S.va j e hj
  · rcases get_set hj with ⟨rfl, e1, hl⟩ | ⟨n, hj⟩
    · cases e1
    · rw [List.getElem?_set_ne n]; exact S.ow j ds hj
  · rcases get_set hj with ⟨rfl, e1, hl⟩ | ⟨n1, hj⟩
    · cases e1
    · rcases get_set hk with ⟨rfl, e1, hl⟩ | ⟨n2, hk⟩
      · cases e1
      · rw [List.getElem?_set_ne n1] at sj
        rw [List.getElem?_set_ne n2] at sk
        exact S.ap j k ds es a n hj hk sj sk
/-- a new list is stored -/
theorem SR.setTm (S : SR K ca H0 F0 σ H F Γ) (x : Ext H F H' F') {i : Nat} {v : V} {ds : List D} {B : BT} (h : RV K ca B H F' H' v (.tm ds)) : SR K ca H0 F0 (σ.set i (some v)) H' F' (Γ.set i (.ow ds)) := by
  have S' := S.mono x
  obtain ⟨a, vs, rfl, h1, h2, h3, h4⟩ := h
  refine ⟨S'.ext, by rw [List.length_set, List.length_set]; exact S.len, fun j e hj => ?_, fun j es hj => ?_, fun j k es fs b n hj hk sj sk => ?_⟩
  · rcases get_set hj with ⟨rfl, e1, hl⟩ | ⟨n, hj⟩
    · cases e1
    · rw [List.getElem?_set_ne n]; exact S'.va j e hj
  · rcases get_set hj with ⟨rfl, e1, hl⟩ | ⟨n, hj⟩
    · injection e1 with e1; subst e1
      exact ⟨a, vs, List.getElem?_set_self (S.lt hl), S.ext.hh.free h1, h2, h3, h4⟩
    · rw [List.getElem?_set_ne n]; exact S'.ow j es hj
  · have key : ∀ {j : Nat} {es : List D}, Γ[j]? = some (.ow es) → σ[j]? = some (some (.ref a)) → False := fun {j es} g s => by
      obtain ⟨c, ws, s', _, _, g4, _⟩ := S.ow j es g
      rw [s] at s'
      cases s'
      rw [h1] at g4; cases g4
    rcases get_set hj with ⟨rfl, e1, hl⟩ | ⟨n1, hj⟩
    · rw [List.getElem?_set_self (S.lt hl)] at sj
      cases sj
      rcases get_set hk with ⟨rfl, e1, hl⟩ | ⟨n2, hk⟩
      · exact n rfl
      · rw [List.getElem?_set_ne n2] at sk
        exact key hk sk
    · rcases get_set hk with ⟨rfl, e1, hl⟩ | ⟨n2, hk⟩
      · rw [List.getElem?_set_self (S.lt hl)] at sk
        cases sk
        rw [List.getElem?_set_ne n1] at sj
        exact key hj sj
      · rw [List.getElem?_set_ne n1] at sj
        rw [List.getElem?_set_ne n2] at sk
        exact S.ap j k es fs b n hj hk sj sk
/-- an own list is frozen -/
theorem SR.frz (S : SR K ca H0 F0 σ H F Γ) {i : Nat} {ds : List D} (h : Γ[i]? = some (.ow ds)) : ∃ F', Same F F' ∧ SR K ca H0 F0 σ H F' (Γ.set i (.va (.lst ds))) := by
  obtain ⟨a, vs, s, h1, h2, h3, h4⟩ := S.ow i ds h
  have sm : Same F (upd F a (.lst vs)) := same_upd h2
  refine ⟨upd F a (.lst vs), sm, S.ext.frz h1 h3 h2, by rw [List.length_set]; exact S.len, fun j e hj => ?_, fun j es hj => ?_, fun j k es fs b n hj hk sj sk => ?_⟩
  · rcases get_set hj with ⟨rfl, e1, hl⟩ | ⟨n, hj⟩
    · injection e1 with e1; subst e1
      exact ⟨_, s, .lst (.inl upd_same) (h4.mono sm)⟩
    · obtain ⟨v, g1, g2⟩ := S.va j e hj
      exact ⟨v, g1, g2.mono sm⟩
  · rcases get_set hj with ⟨rfl, e1, hl⟩ | ⟨n, hj⟩
    · cases e1
    · obtain ⟨b, ws, g1, g2, g3, g4, g5⟩ := S.ow j es hj
      have hb : b ≠ a := fun e => by subst e; exact S.ap i j ds es b n h hj s g1
      exact ⟨b, ws, g1, g2, by rw [upd_ne hb]; exact g3, g4, g5.mono sm⟩
  · rcases get_set hj with ⟨rfl, e1, hl⟩ | ⟨n1, hj⟩
    · cases e1
    · rcases get_set hk with ⟨rfl, e1, hl⟩ | ⟨n2, hk⟩
      · cases e1
      · exact S.ap j k es fs b n hj hk sj sk
/-- an own list is changed -/
theorem SR.upd (S : SR K ca H0 F0 σ H F Γ) {i : Nat} {ds es : List D} {a : Addr} {ws : List V} (h : Γ[i]? = some (.ow ds)) (s : σ[i]? = some (some (.ref a))) (hw : Dens K ca F ws es) :
    SR K ca H0 F0 σ (upd H a (.lst ws)) F (Γ.set i (.ow es)) := by
  obtain ⟨a', vs, s', h1, h2, h3, h4⟩ := S.ow i ds h
  rw [s] at s'
  cases s'
  refine ⟨⟨fun b o e => ?_, S.ext.ff, fun b o e => ?_, S.ext.nw⟩, by rw [List.length_set]; exact S.len, fun j e hj => ?_, fun j fs hj => ?_, fun j k fs gs b n hj hk sj sk => ?_⟩
  · rw [upd_ne (ne_of_none e h1)]; exact S.ext.hh b o e
  · rw [upd_ne (ne_of_none e h2)]; exact S.ext.fh b o e
  · rcases get_set hj with ⟨rfl, e1, hl⟩ | ⟨n, hj⟩
    · cases e1
    · exact S.va j e hj
  · rcases get_set hj with ⟨rfl, e1, hl⟩ | ⟨n, hj⟩
    · injection e1 with e1; subst e1
      exact ⟨a, ws, s, h1, h2, upd_same, hw⟩
    · obtain ⟨b, us, g1, g2, g3, g4, g5⟩ := S.ow j fs hj
      have hb : b ≠ a := fun e => by subst e; exact S.ap i j ds fs b n h hj s g1
      exact ⟨b, us, g1, g2, g3, by rw [upd_ne hb]; exact g4, g5⟩
  · rcases get_set hj with ⟨rfl, e1, hl⟩ | ⟨n1, hj⟩
    · rcases get_set hk with ⟨rfl, e2, hl2⟩ | ⟨n2, hk⟩
      · exact n rfl
      · exact S.ap i k ds gs b n h hk sj sk
    · rcases get_set hk with ⟨rfl, e1, hl⟩ | ⟨n2, hk⟩
      · exact S.ap j i fs ds b n hj h sj sk
      · exact S.ap j k fs gs b n hj hk sj sk
end
/-! ### the judgements over data -/
/-- the own lists of a body at the slots -/
def BB (σ : L2.St) (Γ : Gm) : BT := fun j a ds => σ[j]? = some (some (.ref a)) ∧ Γ[j]? = some (.ow ds)
abbrev RVs (K : PySem.W.Frag) (ca : Nat → Addr) (B : BT) (H F' H' : Hp) : List V → List R → Prop := Paired (RV K ca B H F' H')
theorem RVs.mono {K : PySem.W.Frag} {ca : Nat → Addr} {B : BT} {H F1 H1 F2 H2 : Hp} (x : Ext H1 F1 H2 F2) : ∀ {vs : List V} {rs : List R}, RVs K ca B H F1 H1 vs rs → RVs K ca B H F2 H2 vs rs
  | _, _, .nil => .nil
  | _, _, .cons h hs => .cons (h.mono x) (RVs.mono x hs)
theorem RVs.back {K : PySem.W.Frag} {ca : Nat → Addr} {B : BT} {Ha H F1 H1 : Hp} (s : Same Ha H) : ∀ {vs : List V} {rs : List R}, RVs K ca B H F1 H1 vs rs → RVs K ca B Ha F1 H1 vs rs
  | _, _, .nil => .nil
  | _, _, .cons h hs => .cons (h.back s) (RVs.back s hs)
def tEV (K : PySem.W.Frag) (ca : Nat → Addr) (m : Gm → Option R) : TE := fun σ H Q => ∃ H0 F0 F Γ r, SR K ca H0 F0 σ H F Γ ∧ m Γ = some r ∧ ∀ v H' F', Ext H F H' F' → RV K ca (BB σ Γ) H F' H' v r → Q v H'
def tTV (K : PySem.W.Frag) (ca : Nat → Addr) (m : Gm → Option Bool) : TT := fun σ H Q => ∃ H0 F0 F Γ b, SR K ca H0 F0 σ H F Γ ∧ m Γ = some b ∧ ∀ H' F', Ext H F H' F' → Q b H'
def tAV (K : PySem.W.Frag) (ca : Nat → Addr) (m : Gm → Option (List R)) : TA := fun σ H Q => ∃ H0 F0 F Γ rs, SR K ca H0 F0 σ H F Γ ∧ m Γ = some rs ∧ ∀ vs H' F', Ext H F H' F' → RVs K ca (BB σ Γ) H F' H' vs rs → Q vs H'
/-- slots outside T stay -/
def Kp (T : List Nat) (σ σ' : L2.St) : Prop := ∀ j, j ∉ T → σ'[j]? = σ[j]?
def KpG (T : List Nat) (g : Gm) : Out → Prop
  | .nx g' => ∀ j, j ∉ T → g'[j]? = g[j]?
  | .rt _ => True
  | .bk g' => ∀ j, j ∉ T → g'[j]? = g[j]?
  | .ct g' => ∀ j, j ∉ T → g'[j]? = g[j]?
def PostO (K : PySem.W.Frag) (ca : Nat → Addr) (D : Ends) (H0 F0 Fs : Hp) (σ : L2.St) (T : List Nat) : Out → Prop
  | .nx g => ∀ σ' H' F', SR K ca H0 F0 σ' H' F' g → Same Fs F' → Kp T σ σ' → D.nx σ' H'
  | .rt r => ∀ v H' F', Ext H0 F0 H' F' → RV K ca (fun _ _ _ => False) H0 F' H' v r → D.rt v H'
  | .bk g => ∀ σ' H' F', SR K ca H0 F0 σ' H' F' g → Same Fs F' → Kp T σ σ' → D.bk σ' H'
  | .ct g => ∀ σ' H' F', SR K ca H0 F0 σ' H' F' g → Same Fs F' → Kp T σ σ' → D.ct σ' H'
def tSV (K : PySem.W.Frag) (ca : Nat → Addr) (m : Gm → Option Out) (T : List Nat) : TS := fun D σ H => ∃ H0 F0 F Γ o, SR K ca H0 F0 σ H F Γ ∧ m Γ = some o ∧ PostO K ca D H0 F0 F σ T o
abbrev EV (X : Cx) (ca : Nat → Addr) (e : Expr) (m : Gm → Option R) : Prop := PE X e (tEV X.K ca m)
abbrev TV (X : Cx) (ca : Nat → Addr) (e : Expr) (m : Gm → Option Bool) : Prop := PT X e (tTV X.K ca m)
abbrev WV (X : Cx) (ca : Nat → Addr) (e : Expr) (m : Gm → Option Bool) : Prop := PW X e (tTV X.K ca m)
abbrev AV (X : Cx) (ca : Nat → Addr) (es : List Expr) (m : Gm → Option (List R)) : Prop := PA X es (tAV X.K ca m)
structure SV (X : Cx) (ca : Nat → Addr) (st : Stmt) (m : Gm → Option Out) (T : List Nat) : Prop where
  ps : PS X st (tSV X.K ca m T)
  kp : ∀ g o, m g = some o → KpG T g o
structure SVs (X : Cx) (ca : Nat → Addr) (st : List Stmt) (m : Gm → Option Out) (T : List Nat) : Prop where
  ps : PSs X st (tSV X.K ca m T)
  kp : ∀ g o, m g = some o → KpG T g o
section
variable {X : Cx}
theorem pe_imp {e : Expr} {t t' : TE} (h : PE X e t) (i : ∀ σ H Q, t' σ H Q → t σ H Q) : PE X e t' := ⟨fun pins s σ H Q I q => h.run pins s σ H Q I (i σ H Q q)⟩
theorem pt_imp {e : Expr} {t t' : TT} (h : PT X e t) (i : ∀ σ H Q, t' σ H Q → t σ H Q) : PT X e t' := ⟨fun pins s σ H Q I q => h.run pins s σ H Q I (i σ H Q q)⟩
theorem pw_imp {e : Expr} {t t' : TT} (h : PW X e t) (i : ∀ σ H Q, t' σ H Q → t σ H Q) : PW X e t' := ⟨fun wh pins s σ H Q I q => h.run wh pins s σ H Q I (i σ H Q q)⟩
theorem pa_imp {es : List Expr} {t t' : TA} (h : PA X es t) (i : ∀ σ H Q, t' σ H Q → t σ H Q) : PA X es t' := ⟨fun pos pins s σ H Q I q => h.run pos pins s σ H Q I (i σ H Q q)⟩
theorem ps_imp {st : Stmt} {t t' : TS} (h : PS X st t) (i : ∀ D σ H, t' D σ H → t D σ H) : PS X st t' := ⟨fun pins s σ H D I q => h.run pins s σ H D I (i D σ H q)⟩
theorem pss_imp {st : List Stmt} {t t' : TS} (h : PSs X st t) (i : ∀ D σ H, t' D σ H → t D σ H) : PSs X st t' := ⟨fun pins s σ H D I q => h.run pins s σ H D I (i D σ H q)⟩
end
/-! ### expressions -/
def eV (i : Nat) : Gm → Option R := fun g => match g[i]? with
  | some (.va d) => some (.va d)
  | some (.ow ds) => some (.bw i ds)
  | _ => none
def eC (d : D) : Gm → Option R := fun _ => some (.va d)
def e1 (f : R → Option R) (a : Gm → Option R) : Gm → Option R := fun g => (a g).bind f
def e2 (f : R → R → Option R) (a b : Gm → Option R) : Gm → Option R := fun g => (a g).bind fun x => (b g).bind fun y => f x y
def aN : Gm → Option (List R) := fun _ => some []
def R.fz : R → R
  | .tm ds => .va (.lst ds)
  | r => r
/-- arguments: a temporary list is frozen at once -/
def aC (a : Gm → Option R) (b : Gm → Option (List R)) : Gm → Option (List R) := fun g => (a g).bind fun x => (b g).bind fun y => some (x.fz :: y)
def eA (f : List R → Option R) (a : Gm → Option (List R)) : Gm → Option R := fun g => (a g).bind f
section
variable {X : Cx} {ca : Nat → Addr}
theorem ev_var {i : Nat} {x : Str} {pos : Pos} (h : PE X (.Name x pos) (tVar i)) : EV X ca (.Name x pos) (eV i) := by
  refine pe_imp h fun σ H Q ⟨H0, F0, F, Γ, r, S, e, q⟩ => ?_
  unfold eV at e
  split at e
  · rename_i d g
    cases e
    obtain ⟨v, s, h1⟩ := S.va i d g
    exact ⟨v, s, q v H F (.refl S.ext.fh) h1⟩
  · rename_i ds g
    cases e
    obtain ⟨a, vs, s, h1, h2, h3, h4⟩ := S.ow i ds g
    exact ⟨_, s, q _ H F (.refl S.ext.fh) ⟨a, vs, rfl, ⟨s, g⟩, h2, h3, h4⟩⟩
  · cases e
theorem ev_c {e : Expr} {v : V} {d : D} (h : PE X e (tC v)) (hd : ∀ F, Den X.K ca F v d) : EV X ca e (eC d) := by
  refine pe_imp h fun σ H Q ⟨H0, F0, F, Γ, r, S, e, q⟩ => ?_
  cases e
  exact q v H F (.refl S.ext.fh) (hd F)
/-- an operator by values -/
def OpD (K : PySem.W.Frag) (ca : Nat → Addr) (r : R2) (f : R → R → Option R) : Prop :=
  ∀ {B : BT} {Hs F H : Hp} {v w : V} {x y z : R} {Q : VK}, Same F H → RV K ca B Hs F H v x → RV K ca B Hs F H w y → f x y = some z → (∀ u H' F', Ext H F H' F' → RV K ca B H F' H' u z → Q u H') → r v w H Q
def UnD (K : PySem.W.Frag) (ca : Nat → Addr) (r : V → Hp → VK → Prop) (f : R → Option R) : Prop :=
  ∀ {B : BT} {Hs F H : Hp} {v : V} {x z : R} {Q : VK}, Same F H → RV K ca B Hs F H v x → f x = some z → (∀ u H' F', Ext H F H' F' → RV K ca B H F' H' u z → Q u H') → r v H Q
def CallD (K : PySem.W.Frag) (ca : Nat → Addr) (r : List V → Hp → VK → Prop) (f : List R → Option R) : Prop :=
  ∀ {B : BT} {Hs F H : Hp} {vs : List V} {xs : List R} {z : R} {Q : VK}, Same F H → RVs K ca B Hs F H vs xs → f xs = some z → (∀ u H' F', Ext H F H' F' → RV K ca B H F' H' u z → Q u H') → r vs H Q
theorem t_op {r : R2} {f : R → R → Option R} {m n : Gm → Option R} (o : OpD X.K ca r f) : ∀ σ H Q, tEV X.K ca (e2 f m n) σ H Q → tOp r (tEV X.K ca m) (tEV X.K ca n) σ H Q := by
  rintro σ H Q ⟨H0, F0, F, Γ, z, S, e, q⟩
  unfold e2 at e
  obtain ⟨x, ex, e⟩ := Option.bind_eq_some_iff.mp e
  obtain ⟨y, ey, e⟩ := Option.bind_eq_some_iff.mp e
  refine ⟨H0, F0, F, Γ, x, S, ex, fun v H1 F1 x1 r1 => ⟨H0, F0, F1, Γ, y, S.mono x1, ey, fun w H2 F2 x2 r2 => ?_⟩⟩
  exact o x2.fh (r1.mono x2) (r2.back x1.hh) e fun u H3 F3 x3 r3 => q u H3 F3 ((x1.trans x2).trans x3) (r3.back (x1.hh.trans x2.hh))
theorem t_un {r : V → Hp → VK → Prop} {f : R → Option R} {m : Gm → Option R} (o : UnD X.K ca r f) : ∀ σ H Q, tEV X.K ca (e1 f m) σ H Q → tUn r (tEV X.K ca m) σ H Q := by
  rintro σ H Q ⟨H0, F0, F, Γ, z, S, e, q⟩
  unfold e1 at e
  obtain ⟨x, ex, e⟩ := Option.bind_eq_some_iff.mp e
  refine ⟨H0, F0, F, Γ, x, S, ex, fun v H1 F1 x1 r1 => ?_⟩
  exact o x1.fh r1 e fun u H3 F3 x3 r3 => q u H3 F3 (x1.trans x3) (r3.back x1.hh)
theorem t_call {r : List V → Hp → VK → Prop} {f : List R → Option R} {m : Gm → Option (List R)} (o : CallD X.K ca r f) : ∀ σ H Q, tEV X.K ca (eA f m) σ H Q → tCB r (tAV X.K ca m) σ H Q := by
  rintro σ H Q ⟨H0, F0, F, Γ, z, S, e, q⟩
  unfold eA at e
  obtain ⟨x, ex, e⟩ := Option.bind_eq_some_iff.mp e
  refine ⟨H0, F0, F, Γ, x, S, ex, fun v H1 F1 x1 r1 => ?_⟩
  exact o x1.fh r1 e fun u H3 F3 x3 r3 => q u H3 F3 (x1.trans x3) (r3.back x1.hh)
variable {a b e : Expr} {es : List Expr} {m n : Gm → Option R} {ms : Gm → Option (List R)} {pos p : Pos}
theorem ev_op {op : Operator} {r : R2} {f : R → R → Option R} (ho : OpR X (binaryOp op) r) (o : OpD X.K ca r f) (ha : EV X ca a m) (hb : EV X ca b n) : EV X ca (.BinOp a op b pos) (e2 f m n) := pe_imp (pe_op ho ha hb) (t_op o)
theorem ev_un {op : UnaryOp} {r : V → Hp → VK → Prop} {f : R → Option R} (ho : UnR X (unaryOp op) r) (o : UnD X.K ca r f) (ha : EV X ca a m) : EV X ca (.UnaryOp op a pos) (e1 f m) := pe_imp (pe_un ho ha) (t_un o)
theorem ev_cmp {op : CmpOp} {r : R2} {f : R → R → Option R} (ho : OpR X (compareOp op) r) (o : OpD X.K ca r f) (ha : EV X ca a m) (hb : EV X ca b n) (hm : behindInMarks op b = false) : EV X ca (.Compare a [op] [b] pos) (e2 f m n) := pe_imp (pe_cmpR ho ha hb hm) (t_op o)
theorem ev_ix {r : R2} {f : R → R → Option R} (hr : IxR X r) (o : OpD X.K ca r f) (ha : EV X ca a m) (hb : EV X ca b n) (hs : PlainIx b) : EV X ca (.Subscript a b pos) (e2 f m n) := pe_imp (pe_ix hr ha hb hs) (t_op o)
theorem av_nil : AV X ca [] aN := by
  refine pa_imp pa_nil ?_
  rintro σ H Q ⟨H0, F0, F, Γ, z, S, e, q⟩
  cases e
  exact q [] H F (.refl S.ext.fh) .nil
theorem RV.fz {K : PySem.W.Frag} {B : BT} {H F H1 F1 : Hp} {v : V} {r : R} (x : Ext H F H1 F1) (h : RV K ca B H F1 H1 v r) : ∃ F2, Ext H F H1 F2 ∧ RV K ca B H F2 H1 v r.fz := by
  cases r with
  | va d => exact ⟨F1, x, h⟩
  | tm ds =>
    obtain ⟨F2, x2, _, h2⟩ := RV.froze x h rfl
    exact ⟨F2, x2, h2⟩
  | bw j ds => exact ⟨F1, x, h⟩
theorem av_cons (ha : EV X ca e m) (hr : AV X ca es ms) (hs : starEach (e :: es) X.env = (false, eval e X.env) :: starEach es X.env := by rfl) : AV X ca (e :: es) (aC m ms) := by
  refine pa_imp (pa_cons ha hr hs) ?_
  rintro σ H Q ⟨H0, F0, F, Γ, z, S, e, q⟩
  unfold aC at e
  obtain ⟨x, ex, e⟩ := Option.bind_eq_some_iff.mp e
  obtain ⟨y, ey, e⟩ := Option.bind_eq_some_iff.mp e
  cases e
  refine ⟨H0, F0, F, Γ, x, S, ex, fun v H1 F1 x1 r1 => ?_⟩
  obtain ⟨F1', x1', r1'⟩ := RV.fz x1 r1
  exact ⟨H0, F0, F1', Γ, y, S.mono x1', ey, fun w H2 F2 x2 r2 => q _ _ F2 (x1'.trans x2) (.cons (r1'.mono x2) (r2.back x1'.hh))⟩
end
end BK
namespace BK
open PySem PySem.Spec L2
set_option autoImplicit false
/-! ### tests -/
def bC (f : R → R → Option R) (a b : Gm → Option R) : Gm → Option Bool := fun g => (e2 f a b g).bind fun r => match r with
  | .va (.bl k) => some k
  | _ => none
def bE (a : Gm → Option R) : Gm → Option Bool := fun g => (a g).bind fun r => match r with
  | .va (.bl k) => some k
  | _ => none
def bNot (a : Gm → Option Bool) : Gm → Option Bool := fun g => (a g).map (!·)
def bAnd (a b : Gm → Option Bool) : Gm → Option Bool := fun g => (a g).bind fun k => if k = true then b g else some false
def bOr (a b : Gm → Option Bool) : Gm → Option Bool := fun g => (a g).bind fun k => if k = true then some true else b g
/-- .. as values -/
def eB (a : Gm → Option Bool) : Gm → Option R := fun g => (a g).map fun k => .va (.bl k)
def eAnd (a b : Gm → Option R) : Gm → Option R := fun g => (bE a g).bind fun k => if k = true then b g else some (.va (.bl false))
def eOr (a b : Gm → Option R) : Gm → Option R := fun g => (bE a g).bind fun k => if k = true then some (.va (.bl true)) else b g
section
variable {X : Cx} {ca : Nat → Addr} {a b e : Expr} {rest : List Expr} {m n : Gm → Option R} {k l : Gm → Option Bool} {pos : Pos}
theorem bE_some {g : Gm} {c : Bool} : bE m g = some c ↔ m g = some (.va (.bl c)) := by
  unfold bE
  cases q : m g with
  | none => simp
  | some r =>
    simp only [Option.bind_some]
    split
    · simp
    · rename_i h
      constructor
      · intro z; cases z
      · intro z; cases z; exact absurd rfl (h _)
theorem t_test {σ : L2.St} {H : Hp} {Q : Bool → Hp → Prop} (h : tTV X.K ca (bE m) σ H Q) : tEV X.K ca m σ H (fun x H1 => ∃ c, x = .bl c ∧ Q c H1) := by
  obtain ⟨H0, F0, F, Γ, c, S, e, q⟩ := h
  refine ⟨H0, F0, F, Γ, _, S, bE_some.mp e, fun v H' F' x r => ?_⟩
  cases r
  exact ⟨c, rfl, q H' F' x⟩
/-- a value that is a bool, as a test -/
theorem tv_val (h : EV X ca e m) (he : ∀ whole, isTrue e X.env whole = (do let v ← whole; standAt e.pos; holding [v] (truthy v)) := by intro _; rfl) : TV X ca e (bE m) := pt_imp (pt_val h he) fun σ H Q q => t_test q
theorem tv_cmp {op : CmpOp} {r : R2} {f : R → R → Option R} (ho : OpR X (compareOp op) r) (o : OpD X.K ca r f) (ha : EV X ca a m) (hb : EV X ca b n) (hm : behindInMarks op b = false) : TV X ca (.Compare a [op] [b] pos) (bE (e2 f m n)) :=
  pt_imp (pt_cmpR ho ha hb hm) fun σ H Q q => t_op o _ _ _ (t_test q)
theorem tv_not (h : TV X ca a k) : TV X ca (.UnaryOp .Not a pos) (bNot k) := by
  refine pt_imp (pt_not h) ?_
  rintro σ H Q ⟨H0, F0, F, Γ, c, S, e, q⟩
  unfold bNot at e
  cases z : k Γ with
  | none => rw [z] at e; cases e
  | some d =>
    rw [z] at e
    cases e
    exact ⟨H0, F0, F, Γ, d, S, z, q⟩
theorem wv_one (h : TV X ca a k) : WV X ca (.BoolOp .And [a] pos) k := pw_and1 h
theorem wv_one' (h : TV X ca a k) : WV X ca (.BoolOp .Or [a] pos) k := pw_or1 h
theorem wv_and (ha : TV X ca a k) (hb : WV X ca (.BoolOp .And (b :: rest) pos) l) : WV X ca (.BoolOp .And (a :: b :: rest) pos) (bAnd k l) := by
  refine pw_imp (pw_and ha hb) ?_
  rintro σ H Q ⟨H0, F0, F, Γ, c, S, e, q⟩
  unfold bAnd at e
  obtain ⟨d, ed, e⟩ := Option.bind_eq_some_iff.mp e
  refine ⟨H0, F0, F, Γ, d, S, ed, fun H1 F1 x1 => ?_⟩
  cases d with
  | true => exact iteT ⟨H0, F0, F1, Γ, c, S.mono x1, by simpa using e, fun H2 F2 x2 => q H2 F2 (x1.trans x2)⟩
  | false =>
    obtain rfl : false = c := by simpa using e
    exact iteF (q H1 F1 x1)
theorem wv_or (ha : TV X ca a k) (hb : WV X ca (.BoolOp .Or (b :: rest) pos) l) : WV X ca (.BoolOp .Or (a :: b :: rest) pos) (bOr k l) := by
  refine pw_imp (pw_or ha hb) ?_
  rintro σ H Q ⟨H0, F0, F, Γ, c, S, e, q⟩
  unfold bOr at e
  obtain ⟨d, ed, e⟩ := Option.bind_eq_some_iff.mp e
  refine ⟨H0, F0, F, Γ, d, S, ed, fun H1 F1 x1 => ?_⟩
  cases d with
  | false => exact iteF ⟨H0, F0, F1, Γ, c, S.mono x1, by simpa using e, fun H2 F2 x2 => q H2 F2 (x1.trans x2)⟩
  | true =>
    obtain rfl : true = c := by simpa using e
    exact iteT (q H1 F1 x1)
theorem tv_w (h : WV X ca e k) : TV X ca e k := h.pt
/-- and, or, not as values -/
theorem ev_one {op} (h : EV X ca a m) : EV X ca (.BoolOp op [a] pos) m := pe_one h
theorem ev_and (ha : EV X ca a m) (hb : EV X ca (.BoolOp .And (b :: rest) pos) n) : EV X ca (.BoolOp .And (a :: b :: rest) pos) (eAnd m n) := by
  refine pe_imp (pe_and ha hb) ?_
  rintro σ H Q ⟨H0, F0, F, Γ, z, S, e, q⟩
  unfold eAnd at e
  obtain ⟨d, ed, e⟩ := Option.bind_eq_some_iff.mp e
  refine ⟨H0, F0, F, Γ, _, S, bE_some.mp ed, fun v H1 F1 x1 r1 => ?_⟩
  cases r1
  refine ⟨d, rfl, ?_⟩
  cases d with
  | true => exact iteT ⟨H0, F0, F1, Γ, z, S.mono x1, by simpa using e, fun w H2 F2 x2 r2 => q w H2 F2 (x1.trans x2) (r2.back x1.hh)⟩
  | false =>
    obtain rfl : R.va (.bl false) = z := by simpa using e
    exact iteF (q _ H1 F1 x1 (.bl false))
theorem ev_or (ha : EV X ca a m) (hb : EV X ca (.BoolOp .Or (b :: rest) pos) n) : EV X ca (.BoolOp .Or (a :: b :: rest) pos) (eOr m n) := by
  refine pe_imp (pe_or ha hb) ?_
  rintro σ H Q ⟨H0, F0, F, Γ, z, S, e, q⟩
  unfold eOr at e
  obtain ⟨d, ed, e⟩ := Option.bind_eq_some_iff.mp e
  refine ⟨H0, F0, F, Γ, _, S, bE_some.mp ed, fun v H1 F1 x1 r1 => ?_⟩
  cases r1
  refine ⟨d, rfl, ?_⟩
  cases d with
  | false => exact iteF ⟨H0, F0, F1, Γ, z, S.mono x1, by simpa using e, fun w H2 F2 x2 r2 => q w H2 F2 (x1.trans x2) (r2.back x1.hh)⟩
  | true =>
    obtain rfl : R.va (.bl true) = z := by simpa using e
    exact iteT (q _ H1 F1 x1 (.bl true))
/-- not x as a value -/
def eNot (a : Gm → Option R) : Gm → Option R := fun g => (bE a g).map fun k => .va (.bl (!k))
theorem ev_not (ha : EV X ca a m) : EV X ca (.UnaryOp .Not a pos) (eNot m) := by
  refine pe_imp (pe_not ha) ?_
  rintro σ H Q ⟨H0, F0, F, Γ, z, S, e, q⟩
  unfold eNot at e
  cases ed : bE m Γ with
  | none => rw [ed] at e; cases e
  | some d =>
    rw [ed] at e
    cases e
    refine ⟨H0, F0, F, Γ, _, S, bE_some.mp ed, fun v H1 F1 x1 r1 => ?_⟩
    cases r1
    exact ⟨d, rfl, q _ H1 F1 x1 (.bl _)⟩
end
/-! ### statements -/
def sNil : Gm → Option Out := fun g => some (.nx g)
def sCons (m n : Gm → Option Out) : Gm → Option Out := fun g => (m g).bind fun o => match o with
  | .nx g' => n g'
  | .rt r => some (.rt r)
  | .bk g' => some (.bk g')
  | .ct g' => some (.ct g')
def retR : R → R
  | .bw _ ds => .tm ds
  | r => r
def sRet (m : Gm → Option R) : Gm → Option Out := fun g => (m g).map fun r => .rt (retR r)
def sRetN : Gm → Option Out := fun _ => some (.rt (.va .non))
def setR (g : Gm) (i : Nat) : R → Option Gm
  | .va d => some (g.set i (.va d))
  | .tm ds => some (g.set i (.ow ds))
  | .bw _ _ => none
def sSet (i : Nat) (m : Gm → Option R) : Gm → Option Out := fun g => (m g).bind fun r => (setR g i r).map .nx
def sIf (c : Gm → Option Bool) (t u : Gm → Option Out) : Gm → Option Out := fun g => (c g).bind fun k => if k = true then t g else u g
def sExp (m : Gm → Option R) : Gm → Option Out := fun g => (m g).map fun _ => .nx g
def sBk : Gm → Option Out := fun g => some (.bk g)
def sCt : Gm → Option Out := fun g => some (.ct g)
def sNv : Gm → Option Out := fun _ => none
/-- a while of at most so many turns -/
def sWh (c : Gm → Option Bool) (b : Gm → Option Out) : Nat → Gm → Option Out
  | 0, _ => none
  | n + 1, g => (c g).bind fun k => if k = true then (b g).bind fun o => match o with
      | .nx g' => sWh c b n g'
      | .ct g' => sWh c b n g'
      | .bk g' => some (.nx g')
      | .rt r => some (.rt r)
    else some (.nx g)
section
variable {X : Cx} {ca : Nat → Addr} {st : Stmt} {rest : List Stmt} {m n : Gm → Option Out} {me : Gm → Option R} {e : Expr} {T T' : List Nat} {pos : Pos}
theorem Kp.refl {T : List Nat} {σ : L2.St} : Kp T σ σ := fun _ _ => rfl
theorem Kp.trans {T T' U : List Nat} {σ σ' σ'' : L2.St} (a : Kp T σ σ') (b : Kp T' σ' σ'') (h1 : ∀ j ∈ T, j ∈ U) (h2 : ∀ j ∈ T', j ∈ U) : Kp U σ σ'' := fun j hj => by
  rw [b j fun z => hj (h2 j z), a j fun z => hj (h1 j z)]
theorem Kp.mono {T U : List Nat} {σ σ' : L2.St} (a : Kp T σ σ') (h1 : ∀ j ∈ T, j ∈ U) : Kp U σ σ' := fun j hj => a j fun z => hj (h1 j z)
theorem KpG.mono {T U : List Nat} {g : Gm} {o : Out} (h1 : ∀ j ∈ T, j ∈ U) (a : KpG T g o) : KpG U g o := by
  cases o with
  | nx g' => exact fun j hj => a j fun z => hj (h1 j z)
  | rt r => trivial
  | bk g' => exact fun j hj => a j fun z => hj (h1 j z)
  | ct g' => exact fun j hj => a j fun z => hj (h1 j z)
theorem KpG.after {T T' U : List Nat} {g g' : Gm} {o : Out} (a : KpG T g (.nx g')) (b : KpG T' g' o) (h1 : ∀ j ∈ T, j ∈ U) (h2 : ∀ j ∈ T', j ∈ U) : KpG U g o := by
  have a : ∀ j, j ∉ T → g'[j]? = g[j]? := a
  cases o with
  | nx g2 => exact fun j hj => ((b : ∀ j, j ∉ T' → g2[j]? = g'[j]?) j fun z => hj (h2 j z)).trans (a j fun z => hj (h1 j z))
  | rt r => trivial
  | bk g2 => exact fun j hj => ((b : ∀ j, j ∉ T' → g2[j]? = g'[j]?) j fun z => hj (h2 j z)).trans (a j fun z => hj (h1 j z))
  | ct g2 => exact fun j hj => ((b : ∀ j, j ∉ T' → g2[j]? = g'[j]?) j fun z => hj (h2 j z)).trans (a j fun z => hj (h1 j z))
theorem PostO.mono {K : PySem.W.Frag} {D : Ends} {H0 F0 Fs F1 : Hp} {σ σ1 : L2.St} {T T' U : List Nat} {o : Out} (s : Same Fs F1) (k : Kp T σ σ1) (h1 : ∀ j ∈ T, j ∈ U) (h2 : ∀ j ∈ T', j ∈ U) (p : PostO K ca D H0 F0 Fs σ U o) : PostO K ca D H0 F0 F1 σ1 T' o := by
  cases o with
  | nx g => exact fun σ2 H2 F2 S2 s2 k2 => p σ2 H2 F2 S2 (s.trans s2) (k.trans k2 h1 h2)
  | rt r => exact p
  | bk g => exact fun σ2 H2 F2 S2 s2 k2 => p σ2 H2 F2 S2 (s.trans s2) (k.trans k2 h1 h2)
  | ct g => exact fun σ2 H2 F2 S2 s2 k2 => p σ2 H2 F2 S2 (s.trans s2) (k.trans k2 h1 h2)
theorem svs_nil : SVs X ca [] sNil [] := by
  refine ⟨pss_imp pss_nil ?_, fun g o e => ?_⟩
  · rintro D σ H ⟨H0, F0, F, Γ, o, S, e, p⟩
    cases e
    exact p σ H F S (Same.refl _) .refl
  · cases e
    exact fun j _ => rfl
theorem svs_cons (h1 : SV X ca st m T) (h2 : SVs X ca rest n T') : SVs X ca (st :: rest) (sCons m n) (T ++ T') := by
  have i1 : ∀ j ∈ T, j ∈ T ++ T' := fun j h => List.mem_append_left _ h
  have i2 : ∀ j ∈ T', j ∈ T ++ T' := fun j h => List.mem_append_right _ h
  refine ⟨pss_imp (pss_cons h1.ps h2.ps) ?_, fun g o e => ?_⟩
  · rintro D σ H ⟨H0, F0, F, Γ, o, S, e, p⟩
    unfold sCons at e
    obtain ⟨o1, e1, e⟩ := Option.bind_eq_some_iff.mp e
    refine ⟨H0, F0, F, Γ, o1, S, e1, ?_⟩
    cases o1 with
    | nx g1 =>
      intro σ1 H1 F1 S1 s1 k1
      exact ⟨H0, F0, F1, g1, o, S1, e, PostO.mono s1 k1 i1 i2 p⟩
    | rt r => cases e; exact p
    | bk g2 => cases e; exact fun σ2 H2 F2 S2 s2 k2 => p σ2 H2 F2 S2 s2 (k2.mono i1)
    | ct g2 => cases e; exact fun σ2 H2 F2 S2 s2 k2 => p σ2 H2 F2 S2 s2 (k2.mono i1)
  · unfold sCons at e
    obtain ⟨o1, e1, e⟩ := Option.bind_eq_some_iff.mp e
    have k1 := h1.kp g o1 e1
    cases o1 with
    | nx g1 => exact k1.after (h2.kp g1 o e) i1 i2
    | rt r => cases e; trivial
    | bk g1 => cases e; exact k1.mono i1
    | ct g1 => cases e; exact k1.mono i1
theorem ret_rv {K : PySem.W.Frag} {H0 F0 F H F' H' : Hp} {σ : L2.St} {Γ : Gm} {v : V} {r : R} (S : SR K ca H0 F0 σ H F Γ) (x : Ext H F H' F') (h : RV K ca (BB σ Γ) H F' H' v r) : RV K ca (fun _ _ _ => False) H0 F' H' v (retR r) := by
  cases r with
  | va d => exact h
  | tm ds =>
    obtain ⟨a, vs, rfl, h1, h2⟩ := h
    exact ⟨a, vs, rfl, S.ext.hh.free h1, h2⟩
  | bw j ds =>
    obtain ⟨a, vs, rfl, ⟨s, g⟩, h2, h3, h4⟩ := h
    obtain ⟨b, ws, s', g1, _⟩ := S.ow j ds g
    rw [s] at s'
    cases s'
    exact ⟨a, vs, rfl, g1, h2, h3, h4⟩
theorem sv_ret (he : EV X ca e me) : SV X ca (.Return (some e) pos) (sRet me) [] := by
  refine ⟨ps_imp (ps_ret he) ?_, fun g o e => ?_⟩
  · rintro D σ H ⟨H0, F0, F, Γ, o, S, e, p⟩
    unfold sRet at e
    cases z : me Γ with
    | none => rw [z] at e; cases e
    | some r =>
      rw [z] at e
      cases e
      exact ⟨H0, F0, F, Γ, r, S, z, fun v H' F' x h => p v H' F' (S.ext.trans x) (ret_rv S x h)⟩
  · unfold sRet at e
    cases z : me g with
    | none => rw [z] at e; cases e
    | some r => rw [z] at e; cases e; trivial
theorem sv_retN : SV X ca (.Return none pos) sRetN [] := by
  refine ⟨ps_imp ps_retN ?_, fun g o e => ?_⟩
  · rintro D σ H ⟨H0, F0, F, Γ, o, S, e, p⟩
    cases e
    exact p .non H F S.ext .non
  · cases e; trivial
theorem kpg_set {i : Nat} {g : Gm} {s : Slot} : KpG [i] g (.nx (g.set i s)) := fun j hj => by
  rw [List.getElem?_set_ne]
  intro z
  exact hj (by simp [z])
theorem kp_set {i : Nat} {σ : L2.St} {v : Option V} : Kp [i] σ (σ.set i v) := fun j hj => by
  rw [List.getElem?_set_ne]
  intro z
  exact hj (by simp [z])
theorem setR_kp {i : Nat} {g g' : Gm} {r : R} (h : setR g i r = some g') : KpG [i] g (.nx g') := by
  cases r with
  | va d => cases h; exact kpg_set
  | tm ds => cases h; exact kpg_set
  | bw j ds => cases h
theorem SR.setR {K : PySem.W.Frag} {H0 F0 F H F' H' : Hp} {σ : L2.St} {Γ Γ' : Gm} {v : V} {r : R} {i : Nat} {B : BT} (S : SR K ca H0 F0 σ H F Γ) (x : Ext H F H' F') (h : RV K ca B H F' H' v r) (e : setR Γ i r = some Γ') : SR K ca H0 F0 (σ.set i (some v)) H' F' Γ' := by
  cases r with
  | va d => cases e; exact (S.mono x).setVa h
  | tm ds => cases e; exact S.setTm x h
  | bw j ds => cases e
theorem sv_set {i : Nat} {x : Str} {pos' : Pos} (hN : X.N.Nodup) (hi : X.N[i]? = some x) (hx : Loc X.env.scope x) (he : EV X ca e me) (hs : swapsWith e (some (.Name x pos')) pos.line X.env = pure false := by rfl) (hf : X.fn x = true ∨ X.env.scope.names.lookup x = some .local := by first | exact .inl rfl | exact .inr rfl | assumption) :
    SV X ca (.Assign [.Name x pos'] e pos) (sSet i me) [i] := by
  refine ⟨ps_imp (ps_set hN hi hx he hs hf) ?_, fun g o e => ?_⟩
  · rintro D σ H ⟨H0, F0, F, Γ, o, S, e, p⟩
    unfold sSet at e
    obtain ⟨r, er, e⟩ := Option.bind_eq_some_iff.mp e
    cases z : setR Γ i r with
    | none => rw [z] at e; cases e
    | some g' =>
      rw [z] at e
      cases e
      exact ⟨H0, F0, F, Γ, r, S, er, fun v H' F' x h => p _ H' F' (S.setR x h z) x.ff kp_set⟩
  · unfold sSet at e
    obtain ⟨r, er, e⟩ := Option.bind_eq_some_iff.mp e
    cases z : setR g i r with
    | none => rw [z] at e; cases e
    | some g' => rw [z] at e; cases e; exact setR_kp z
theorem sv_if {c : Expr} {a b : List Stmt} {mc : Gm → Option Bool} (hc : TV X ca c mc) (ha : SVs X ca a m T) (hb : SVs X ca b n T') : SV X ca (.If c a b pos) (sIf mc m n) (T ++ T') := by
  have i1 : ∀ j ∈ T, j ∈ T ++ T' := fun j h => List.mem_append_left _ h
  have i2 : ∀ j ∈ T', j ∈ T ++ T' := fun j h => List.mem_append_right _ h
  refine ⟨ps_imp (ps_if hc ha.ps hb.ps) ?_, fun g o e => ?_⟩
  · rintro D σ H ⟨H0, F0, F, Γ, o, S, e, p⟩
    unfold sIf at e
    obtain ⟨k, ek, e⟩ := Option.bind_eq_some_iff.mp e
    refine ⟨H0, F0, F, Γ, k, S, ek, fun H1 F1 x1 => ?_⟩
    cases k with
    | true => exact iteT ⟨H0, F0, F1, Γ, o, S.mono x1, by simpa using e, PostO.mono (T := []) x1.ff .refl (fun _ z => nomatch z) i1 p⟩
    | false => exact iteF ⟨H0, F0, F1, Γ, o, S.mono x1, by simpa using e, PostO.mono (T := []) x1.ff .refl (fun _ z => nomatch z) i2 p⟩
  · unfold sIf at e
    obtain ⟨k, ek, e⟩ := Option.bind_eq_some_iff.mp e
    split at e
    · exact (ha.kp g o e).mono i1
    · exact (hb.kp g o e).mono i2
theorem sv_expr (he : EV X ca e me) (hs : swapsWith e none pos.line X.env = pure false := by rfl) : SV X ca (.Expr e pos) (sExp me) [] := by
  refine ⟨ps_imp (ps_expr he hs) ?_, fun g o e => ?_⟩
  · rintro D σ H ⟨H0, F0, F, Γ, o, S, e, p⟩
    unfold sExp at e
    cases z : me Γ with
    | none => rw [z] at e; cases e
    | some r =>
      rw [z] at e
      cases e
      exact ⟨H0, F0, F, Γ, r, S, z, fun v H' F' x h => p σ H' F' (S.mono x) x.ff .refl⟩
  · unfold sExp at e
    cases z : me g with
    | none => rw [z] at e; cases e
    | some r => rw [z] at e; cases e; exact fun j _ => rfl
theorem sv_pass : SV X ca (.Pass pos) sNil [] := by
  refine ⟨ps_imp ps_pass ?_, fun g o e => ?_⟩
  · rintro D σ H ⟨H0, F0, F, Γ, o, S, e, p⟩
    cases e
    exact p σ H F S (Same.refl _) .refl
  · cases e
    exact fun j _ => rfl
theorem sv_break : SV X ca (.Break pos) sBk [] := by
  refine ⟨ps_imp ps_break ?_, fun g o e => ?_⟩
  · rintro D σ H ⟨H0, F0, F, Γ, o, S, e, p⟩
    cases e
    exact p σ H F S (Same.refl _) .refl
  · cases e
    exact fun j _ => rfl
theorem sv_continue : SV X ca (.Continue pos) sCt [] := by
  refine ⟨ps_imp ps_continue ?_, fun g o e => ?_⟩
  · rintro D σ H ⟨H0, F0, F, Γ, o, S, e, p⟩
    cases e
    exact p σ H F S (Same.refl _) .refl
  · cases e
    exact fun j _ => rfl
/-- what is never come to -/
theorem sv_never : SV X ca st sNv [] := by
  refine ⟨ps_imp ps_never ?_, fun g o e => ?_⟩
  · rintro D σ H ⟨H0, F0, F, Γ, o, S, e, p⟩
    cases e
  · cases e
theorem sv_while {c : Expr} {body : List Stmt} {mc : Gm → Option Bool} {N : Nat} (hp : PassesOwn (model X.prog X.w) X.A X.env X.xe) (hc : TV X ca c mc) (hb : SVs X ca body m T) : SV X ca (.While c body [] pos) (sWh mc m N) T := by
  have kp : ∀ n g o, sWh mc m n g = some o → KpG T g o := by
    intro n
    induction n with
    | zero => intro g o e; cases e
    | succ n ih =>
      intro g o e
      unfold sWh at e
      obtain ⟨k, ek, e⟩ := Option.bind_eq_some_iff.mp e
      split at e
      · obtain ⟨o1, e1, e⟩ := Option.bind_eq_some_iff.mp e
        have k1 := hb.kp g o1 e1
        cases o1 with
        | nx g1 => exact KpG.after k1 (ih g1 o e) (fun _ z => z) fun _ z => z
        | ct g1 => exact KpG.after (show KpG T g (.nx g1) from k1) (ih g1 o e) (fun _ z => z) fun _ z => z
        | bk g1 => cases e; exact k1
        | rt r => cases e; trivial
      · cases e; exact fun j _ => rfl
  refine ⟨ps_imp (ps_while hp hc hb.ps) ?_, kp N⟩
  rintro D σ H ⟨H0, F0, F, Γ, o, S, e, p⟩
  refine ⟨fun n σ1 H1 => ∃ F1 g, SR X.K ca H0 F0 σ1 H1 F1 g ∧ sWh mc m n g = some o ∧ PostO X.K ca D H0 F0 F1 σ1 T o, ⟨N, F, Γ, S, e, p⟩, ?_⟩
  rintro n σ1 H1 ⟨F1, g, S1, e1, p1⟩
  cases n with
  | zero => cases e1
  | succ n =>
    unfold sWh at e1
    obtain ⟨k, ek, e1⟩ := Option.bind_eq_some_iff.mp e1
    refine ⟨H0, F0, F1, g, k, S1, ek, fun H2 F2 x2 => ?_⟩
    cases k with
    | true =>
      refine iteT ?_
      rw [if_pos rfl] at e1
      obtain ⟨o1, eo, e1⟩ := Option.bind_eq_some_iff.mp e1
      refine ⟨fun σ' H' => ∃ F' g', SR X.K ca H0 F0 σ' H' F' g' ∧ sWh mc m n g' = some o ∧ PostO X.K ca D H0 F0 F' σ' T o, fun σ' H' h => ⟨n, Nat.lt_succ_self n, h⟩, H0, F0, F2, g, o1, S1.mono x2, eo, ?_⟩
      cases o1 with
      | nx g1 => exact fun σ3 H3 F3 S3 s3 k3 => ⟨F3, g1, S3, e1, PostO.mono (x2.ff.trans s3) k3 (fun _ z => z) (fun _ z => z) p1⟩
      | ct g1 => exact fun σ3 H3 F3 S3 s3 k3 => ⟨F3, g1, S3, e1, PostO.mono (x2.ff.trans s3) k3 (fun _ z => z) (fun _ z => z) p1⟩
      | bk g1 => cases e1; exact fun σ3 H3 F3 S3 s3 k3 => p1 σ3 H3 F3 S3 (x2.ff.trans s3) k3
      | rt r => cases e1; exact p1
    | false =>
      refine iteF ?_
      rw [if_neg Bool.false_ne_true] at e1
      cases e1
      exact p1 σ1 H2 F2 (S1.mono x2) x2.ff .refl
end
end BK
namespace BK
open PySem PySem.Spec L2
set_option autoImplicit false
/-! ### targets, what is walked, for -/
def gN (i : Nat) : D → Gm → Option Gm := fun d g => some (g.set i (.va d))
def gE : List D → Gm → Option Gm := fun ds g => match ds with
  | [] => some g
  | _ => none
def gC (f : D → Gm → Option Gm) (r : List D → Gm → Option Gm) : List D → Gm → Option Gm := fun ds g => match ds with
  | d :: ds => (f d g).bind (r ds)
  | _ => none
def gT (f : List D → Gm → Option Gm) : D → Gm → Option Gm := fun d g => match d with
  | .tup ds => f ds g
  | _ => none
def tGV (K : PySem.W.Frag) (ca : Nat → Addr) (f : D → Gm → Option Gm) (T : List Nat) : TG := fun v σ H Q => ∃ H0 F0 F Γ d Γ', SR K ca H0 F0 σ H F Γ ∧ Den K ca F v d ∧ f d Γ = some Γ' ∧ ∀ σ', SR K ca H0 F0 σ' H F Γ' → Kp T σ σ' → Q σ' H
def tGVs (K : PySem.W.Frag) (ca : Nat → Addr) (f : List D → Gm → Option Gm) (T : List Nat) : TGs := fun vs σ H Q => ∃ H0 F0 F Γ ds Γ', SR K ca H0 F0 σ H F Γ ∧ Dens K ca F vs ds ∧ f ds Γ = some Γ' ∧ ∀ σ', SR K ca H0 F0 σ' H F Γ' → Kp T σ σ' → Q σ' H
structure GV (X : Cx) (ca : Nat → Addr) (e : Expr) (f : D → Gm → Option Gm) (T : List Nat) : Prop where
  pg : PG X e (tGV X.K ca f T)
  kp : ∀ d g g', f d g = some g' → KpG T g (.nx g')
  ln : ∀ d g g', f d g = some g' → g'.length = g.length
structure GVs (X : Cx) (ca : Nat → Addr) (es : List Expr) (f : List D → Gm → Option Gm) (T : List Nat) : Prop where
  pg : PGs X es (tGVs X.K ca f T)
  kp : ∀ d g g', f d g = some g' → KpG T g (.nx g')
  ln : ∀ d g g', f d g = some g' → g'.length = g.length
section
variable {X : Cx}
theorem pg_imp {e : Expr} {t t' : TG} (h : PG X e t) (i : ∀ v σ H Q, t' v σ H Q → t v σ H Q) : PG X e t' := ⟨fun pins s σ H v u Q I r q => h.run pins s σ H v u Q I r (i v σ H Q q)⟩
theorem pgs_imp {es : List Expr} {t t' : TGs} (h : PGs X es t) (i : ∀ v σ H Q, t' v σ H Q → t v σ H Q) : PGs X es t' := ⟨fun pins s σ H v u Q I r q => h.run pins s σ H v u Q I r (i v σ H Q q)⟩
theorem pi_imp {tg e : Expr} {t t' : TI} (h : PI X tg e t) (i : ∀ σ H R, t' σ H R → t σ H R) : PI X tg e t' := ⟨fun pins s σ H R I q => h.run pins s σ H R I (i σ H R q)⟩
variable {ca : Nat → Addr} {pos : Pos}
theorem gv_name {i : Nat} {x : Str} (hN : X.N.Nodup) (hi : X.N[i]? = some x) (hx : Loc X.env.scope x) (hf : X.fn x = true ∨ X.env.scope.names.lookup x = some .local := by first | exact .inl rfl | exact .inr rfl | assumption) : GV X ca (.Name x pos) (gN i) [i] := by
  refine ⟨pg_imp (pg_name hN hi hx hf) ?_, fun d g g' e => ?_, fun d g g' e => by cases e; exact List.length_set⟩
  · rintro v σ H Q ⟨H0, F0, F, Γ, d, Γ', S, h, e, q⟩
    cases e
    exact q _ (S.setVa h) kp_set
  · cases e
    exact kpg_set
theorem gvs_nil : GVs X ca [] gE [] := by
  refine ⟨pgs_imp pgs_nil ?_, fun d g g' e => ?_, fun d g g' e => ?_⟩
  rotate_left 2
  · cases d with
    | nil => cases e; rfl
    | cons d ds => cases e
  · rintro vs σ H Q ⟨H0, F0, F, Γ, ds, Γ', S, h, e, q⟩
    cases ds with
    | nil => cases h; cases e; exact ⟨rfl, q σ S .refl⟩
    | cons d ds => cases e
  · cases d with
    | nil => cases e; exact fun j _ => rfl
    | cons d ds => cases e
theorem gvs_cons {e : Expr} {es : List Expr} {f : D → Gm → Option Gm} {r : List D → Gm → Option Gm} {T T' : List Nat} (h1 : GV X ca e f T) (h2 : GVs X ca es r T')
    (hs : (assignEach (e :: es) X.env).map (·.2) = assign e X.env :: (assignEach es X.env).map (·.2) := by rfl) : GVs X ca (e :: es) (gC f r) (T ++ T') := by
  have i1 : ∀ j ∈ T, j ∈ T ++ T' := fun j h => List.mem_append_left _ h
  have i2 : ∀ j ∈ T', j ∈ T ++ T' := fun j h => List.mem_append_right _ h
  refine ⟨pgs_imp (pgs_cons h1.pg h2.pg hs) ?_, fun d g g' e => ?_, fun d g g' e => ?_⟩
  rotate_left 2
  · cases d with
    | nil => cases e
    | cons d ds =>
      have e : (f d g).bind (r ds) = some g' := e
      obtain ⟨g1, e1, e2⟩ := Option.bind_eq_some_iff.mp e
      rw [h2.ln _ _ _ e2, h1.ln _ _ _ e1]
  · rintro vs σ H Q ⟨H0, F0, F, Γ, ds, Γ', S, h, e, q⟩
    cases ds with
    | nil => cases e
    | cons d ds =>
      cases h with
      | cons h hs =>
        have e : (f d Γ).bind (r ds) = some Γ' := e
        obtain ⟨g1, e1, e2⟩ := Option.bind_eq_some_iff.mp e
        exact ⟨_, _, rfl, H0, F0, F, Γ, d, g1, S, h, e1, fun σ1 S1 k1 => ⟨H0, F0, F, g1, ds, Γ', S1, hs, e2, fun σ2 S2 k2 => q σ2 S2 (k1.trans k2 i1 i2)⟩⟩
  · cases d with
    | nil => cases e
    | cons d ds =>
      have e : (f d g).bind (r ds) = some g' := e
      obtain ⟨g1, e1, e2⟩ := Option.bind_eq_some_iff.mp e
      exact KpG.after (h1.kp _ _ _ e1) (h2.kp _ _ _ e2) i1 i2
theorem gv_tup {es : List Expr} {k : Nat} {f : List D → Gm → Option Gm} {T : List Nat} (hc : X.calm = true) (h : GVs X ca es f T) (hl : ∀ ds g g', f ds g = some g' → ds.length = (assignEach es X.env).length)
    (hst : (assignEach es X.env).findIdx? (·.1) = none := by rfl) : GV X ca (.Tuple es k pos) (gT f) T := by
  refine ⟨pg_imp (pg_tup (n := (assignEach es X.env).length) hc h.pg rfl hst) ?_, fun d g g' e => ?_, fun d g g' e => ?_⟩
  rotate_left 2
  · unfold gT at e
    split at e
    · exact h.ln _ _ _ e
    · cases e
  · rintro v σ H Q ⟨H0, F0, F, Γ, d, Γ', S, h, e, q⟩
    unfold gT at e
    split at e
    · cases h with
      | tup h hs =>
        refine ⟨_, _, rfl, Same.seqT S.ext.fh h, ?_, H0, F0, F, Γ, _, Γ', S, hs, e, q⟩
        rw [hs.length]
        exact hl _ _ _ e
    · cases e
  · unfold gT at e
    split at e
    · exact h.kp _ _ _ e
    · cases e
/-- target = value, the target a tuple of names -/
def sAsg (m : Gm → Option R) (f : D → Gm → Option Gm) : Gm → Option Out := fun g => (m g).bind fun r => match r with
  | .va d => (f d g).map .nx
  | _ => none
theorem sv_asg {tg e : Expr} {m : Gm → Option R} {f : D → Gm → Option Gm} {T : List Nat} (he : EV X ca e m) (hg : GV X ca tg f T) (hs : swapsWithSole [tg] e pos.line X.env = pure false := by rfl) (hw : swappedStores [tg] e X.env = pure none := by rfl)
    (h1 : (assignEach [tg] X.env).map (·.2) = [assign tg X.env] := by rfl) : SV X ca (.Assign [tg] e pos) (sAsg m f) T := by
  refine ⟨ps_imp (ps_asg he hg.pg hs hw h1) ?_, fun g o e => ?_⟩
  · rintro D σ H ⟨H0, F0, F, Γ, o, S, e, p⟩
    unfold sAsg at e
    obtain ⟨r, er, e⟩ := Option.bind_eq_some_iff.mp e
    cases r with
    | va d =>
      obtain ⟨g', z, e⟩ := Option.map_eq_some_iff.mp (show (f d Γ).map Out.nx = some o from e)
      subst e
      exact ⟨H0, F0, F, Γ, _, S, er, fun v H' F' x h => ⟨H0, F0, F', Γ, d, g', S.mono x, h, z, fun σ' S' k' => p σ' H' F' S' x.ff k'⟩⟩
    | tm ds => cases e
    | bw j ds => cases e
  · unfold sAsg at e
    obtain ⟨r, er, e⟩ := Option.bind_eq_some_iff.mp e
    cases r with
    | va d =>
      obtain ⟨g', z, e⟩ := Option.map_eq_some_iff.mp (show (f d g).map Out.nx = some o from e)
      subst e
      exact hg.kp _ _ _ z
    | tm ds => cases e
    | bw j ds => cases e
/-- a, b = x, y with plain names: both are values -/
def sPar (i j : Nat) (a b : Gm → Option R) : Gm → Option Out := fun g => (a g).bind fun x => (b g).bind fun y => match x.fz, y.fz with
  | .va d, .va e => some (.nx ((g.set i (.va d)).set j (.va e)))
  | _, _ => none
theorem sv_par {i j : Nat} {x y : Str} {a b : Expr} {ma mb : Gm → Option R} {px py pt : Pos} {kt k2 pt2} (hc : X.calm = true) (hN : X.N.Nodup) (hi : X.N[i]? = some x) (hj : X.N[j]? = some y) (hij : i ≠ j)
    (hx : X.env.scope.names.lookup x = some .local) (hy : X.env.scope.names.lookup y = some .local) (ha : AV X ca [a, b] (aC ma (aC mb aN)))
    (hw : swappedStores [.Tuple [.Name x px, .Name y py] kt pt] (.Tuple [a, b] k2 pt2) X.env = pure (some [x, y]))
    (hs : swapsWithSole [.Tuple [.Name x px, .Name y py] kt pt] (.Tuple [a, b] k2 pt2) pos.line X.env = pure false := by rfl) :
    SV X ca (.Assign [.Tuple [.Name x px, .Name y py] kt pt] (.Tuple [a, b] k2 pt2) pos) (sPar i j ma mb) [i, j] := by
  refine ⟨ps_imp (ps_par hc hN hi hj hij hx hy ha hw hs) ?_, fun g o e => ?_⟩
  · rintro D σ H ⟨H0, F0, F, Γ, o, S, e, p⟩
    unfold sPar at e
    obtain ⟨u, eu, e⟩ := Option.bind_eq_some_iff.mp e
    obtain ⟨w, ew, e⟩ := Option.bind_eq_some_iff.mp e
    refine ⟨H0, F0, F, Γ, [u.fz, w.fz], S, by simp [aC, aN, eu, ew], fun vs H' F' x h => ?_⟩
    cases h with
    | cons h1 h =>
      cases h with
      | cons h2 h =>
        cases h
        refine ⟨_, _, rfl, ?_⟩
        split at e
        · rename_i q1 q2
          rw [q1] at h1
          rw [q2] at h2
          cases e
          exact p _ H' F' (((S.mono x).setVa h1).setVa h2) x.ff (Kp.trans kp_set kp_set (by simp) (by simp))
        · cases e
  · unfold sPar at e
    obtain ⟨u, eu, e⟩ := Option.bind_eq_some_iff.mp e
    obtain ⟨w, ew, e⟩ := Option.bind_eq_some_iff.mp e
    split at e
    · cases e
      exact KpG.after (g' := g.set i _) kpg_set kpg_set (by simp) (by simp)
    · cases e
/-- name op= e (op by values) -/
def sAug (i : Nat) (f : R → R → Option R) (m : Gm → Option R) : Gm → Option Out := fun g => (eV i g).bind fun x => (m g).bind fun y => (f x y).bind fun r => (setR g i r).map .nx
theorem sv_aug {i : Nat} {x : Str} {e : Expr} {m : Gm → Option R} {op : Operator} {ti : TIp} {f : R → R → Option R} {pos' : Pos} (hN : X.N.Nodup) (hi : X.N[i]? = some x) (hx : Loc X.env.scope x) (he : EV X ca e m) (ho : PIp X op ti) (o : OpD X.K ca ti f)
    (hf : X.fn x = true ∨ X.env.scope.names.lookup x = some .local := by first | exact .inl rfl | exact .inr rfl | assumption) : SV X ca (.AugAssign (.Name x pos') op e pos) (sAug i f m) [i] := by
  refine ⟨ps_imp (ps_aug hN hi hx he ho hf) ?_, fun g o e => ?_⟩
  · rintro D σ H ⟨H0, F0, F, Γ, oo, S, e, p⟩
    unfold sAug at e
    obtain ⟨u, eu, e⟩ := Option.bind_eq_some_iff.mp e
    obtain ⟨w, ew, e⟩ := Option.bind_eq_some_iff.mp e
    obtain ⟨r, er, e⟩ := Option.bind_eq_some_iff.mp e
    cases z : setR Γ i r with
    | none => rw [z] at e; cases e
    | some g' =>
      rw [z] at e
      cases e
      unfold eV at eu
      have key : ∃ v, σ[i]? = some (some v) ∧ RV X.K ca (BB σ Γ) H F H v u := by
        split at eu
        · rename_i d g
          cases eu
          obtain ⟨v, s, h1⟩ := S.va i d g
          exact ⟨v, s, h1⟩
        · rename_i ds g
          cases eu
          obtain ⟨a, vs, s, h1, h2, h3, h4⟩ := S.ow i ds g
          exact ⟨_, s, a, vs, rfl, ⟨s, g⟩, h2, h3, h4⟩
        · cases eu
      obtain ⟨v, s, hv⟩ := key
      refine ⟨v, s, H0, F0, F, Γ, w, S, ew, fun y H' F' x h => ?_⟩
      exact o x.fh (hv.mono x) h er fun u2 H2 F2 x2 r2 => p _ H2 F2 (S.setR (x.trans x2) (r2.back x.hh) z) (x.ff.trans x2.ff) kp_set
  · unfold sAug at e
    obtain ⟨u, eu, e⟩ := Option.bind_eq_some_iff.mp e
    obtain ⟨w, ew, e⟩ := Option.bind_eq_some_iff.mp e
    obtain ⟨r, er, e⟩ := Option.bind_eq_some_iff.mp e
    cases z : setR g i r with
    | none => rw [z] at e; cases e
    | some g' => rw [z] at e; cases e; exact setR_kp z
/-! ### what a for walks -/
/-- J yields the data ds, one a turn, as long as the frozen part F1 stands and the own lists in PL stand as they are -/
structure JOk (K : PySem.W.Frag) (ca : Nat → Addr) (F1 : Hp) (J : It) (PL : List (Nat × Addr × List D)) (ds : List D) : Prop where
  go : ∀ (i : Nat) (d : D) (H F : Hp), ds[i]? = some d → Same F1 F → Same F H → (∀ p ∈ PL, ∃ vs, H p.2.1 = some (.lst vs) ∧ Dens K ca F vs p.2.2) → J.go i H ∧ ∀ x H', J.yld i H x H' → ∃ F', Ext H F H' F' ∧ Den K ca F' x d
  stop : ∀ (H F : Hp), Same F1 F → Same F H → (∀ p ∈ PL, ∃ vs, H p.2.1 = some (.lst vs) ∧ Dens K ca F vs p.2.2) → J.stop ds.length H
def tIV (K : PySem.W.Frag) (ca : Nat → Addr) (mi : Gm → Option (List Nat × List D)) : TI := fun σ H R => ∃ H0 F0 F Γ p, SR K ca H0 F0 σ H F Γ ∧ mi Γ = some p ∧
  ∀ J H' F' PL, Ext H F H' F' → JOk K ca F' J PL p.2 → (∀ q ∈ PL, q.1 ∈ p.1 ∧ BB σ Γ q.1 q.2.1 q.2.2) → R J H'
abbrev IV (X : Cx) (ca : Nat → Addr) (tg e : Expr) (mi : Gm → Option (List Nat × List D)) : Prop := PI X tg e (tIV X.K ca mi)
def forL (f : D → Gm → Option Gm) (b : Gm → Option Out) : List D → Gm → Option Out
  | [], g => some (.nx g)
  | d :: ds, g => (f d g).bind fun g1 => (b g1).bind fun o => match o with
    | .nx g2 => forL f b ds g2
    | .ct g2 => forL f b ds g2
    | .bk g2 => some (.nx g2)
    | .rt r => some (.rt r)
def sFor (mi : Gm → Option (List Nat × List D)) (f : D → Gm → Option Gm) (b : Gm → Option Out) (T : List Nat) : Gm → Option Out := fun g => (mi g).bind fun p => if p.1.all (fun j => !T.contains j) = true then forL f b p.2 g else none
theorem forL_kp {f : D → Gm → Option Gm} {b : Gm → Option Out} {T T' : List Nat} (hf : ∀ d g g', f d g = some g' → KpG T g (.nx g')) (hb : ∀ g o, b g = some o → KpG T' g o) : ∀ (ds : List D) (g : Gm) (o : Out), forL f b ds g = some o → KpG (T ++ T') g o
  | [], g, o, e => by
    cases e
    exact fun j _ => rfl
  | d :: ds, g, o, e => by
    have i1 : ∀ j ∈ T, j ∈ T ++ T' := fun j h => List.mem_append_left _ h
    have i2 : ∀ j ∈ T', j ∈ T ++ T' := fun j h => List.mem_append_right _ h
    unfold forL at e
    obtain ⟨g1, e1, e⟩ := Option.bind_eq_some_iff.mp e
    obtain ⟨o1, e2, e⟩ := Option.bind_eq_some_iff.mp e
    have k := KpG.after (hf _ _ _ e1) (hb _ _ e2) i1 i2
    cases o1 with
    | nx g2 => exact KpG.after k (forL_kp hf hb ds g2 o e) (fun _ z => z) fun _ z => z
    | ct g2 => exact KpG.after (show KpG (T ++ T') g (.nx g2) from k) (forL_kp hf hb ds g2 o e) (fun _ z => z) fun _ z => z
    | bk g2 => cases e; exact k
    | rt r => cases e; trivial
theorem sv_for {tg iter : Expr} {body : List Stmt} {mi : Gm → Option (List Nat × List D)} {f : D → Gm → Option Gm} {b : Gm → Option Out} {T T' U : List Nat} (hp : PassesOwn (model X.prog X.w) X.A X.env X.xe) (hc : X.calm = true) (hi : IV X ca tg iter mi) (hg : GV X ca tg f T) (hb : SVs X ca body b T')
    (hU : U = T ++ T') (hs : ∀ x, foldedSetIterable iter X.env x = pure x := by intro _; rfl) : SV X ca (.For tg iter body [] pos) (sFor mi f b U) U := by
  subst hU
  have i1 : ∀ j ∈ T, j ∈ T ++ T' := fun j h => List.mem_append_left _ h
  have i2 : ∀ j ∈ T', j ∈ T ++ T' := fun j h => List.mem_append_right _ h
  refine ⟨ps_imp (ps_for hp hc hi hg.pg hb.ps hs) ?_, fun g o e => ?_⟩
  · rintro D σ H ⟨H0, F0, F, Γ, o, S, e, p⟩
    unfold sFor at e
    obtain ⟨⟨ps, ds⟩, em, e⟩ := Option.bind_eq_some_iff.mp e
    by_cases hall : (ps.all fun j => !(T ++ T').contains j) = true
    · rw [if_pos hall] at e
      refine ⟨H0, F0, F, Γ, (ps, ds), S, em, fun J H1 F1 PL x1 jo hPL => ?_⟩
      have hj : ∀ q ∈ PL, q.1 ∉ T ++ T' := fun q hq hm => by
        have := List.all_eq_true.mp hall q.1 (hPL q hq).1
        simp at this
        rcases List.mem_append.mp hm with z | z
        · exact this.1 z
        · exact this.2 z
      refine ⟨fun i m σ' H' => ∃ F' g, m = ds.length - i ∧ SR X.K ca H0 F0 σ' H' F' g ∧ Same F1 F' ∧ forL f b (ds.drop i) g = some o ∧ PostO X.K ca D H0 F0 F' σ' (T ++ T') o ∧ i ≤ ds.length ∧ (∀ q ∈ PL, BB σ' g q.1 q.2.1 q.2.2),
        ⟨_, F1, Γ, rfl, S.mono x1, Same.refl _, e, PostO.mono (T := []) x1.ff .refl (fun _ z => nomatch z) (fun _ z => z) p, Nat.zero_le _, fun q hq => (hPL q hq).2⟩, ?_⟩
      rintro i m σ2 H2 ⟨F2, g, rfl, S2, s2, e2, p2, hi2, hb2⟩
      have hpin : ∀ q ∈ PL, ∃ vs, H2 q.2.1 = some (.lst vs) ∧ Dens X.K ca F2 vs q.2.2 := fun q hq => by
        obtain ⟨z1, z2⟩ := hb2 q hq
        obtain ⟨a, vs, y1, _, _, y4, y5⟩ := S2.ow _ _ z2
        rw [z1] at y1
        cases y1
        exact ⟨vs, y4, y5⟩
      by_cases hlt : i < ds.length
      · have hd : ds[i]? = some ds[i] := List.getElem?_eq_getElem hlt
        have ed : ds.drop i = ds[i] :: ds.drop (i + 1) := List.drop_eq_getElem_cons hlt
        rw [ed] at e2
        unfold forL at e2
        obtain ⟨g1, eg, e2⟩ := Option.bind_eq_some_iff.mp e2
        obtain ⟨o1, eo, e2⟩ := Option.bind_eq_some_iff.mp e2
        obtain ⟨jgo, jy⟩ := jo.go i _ H2 F2 hd s2 S2.ext.fh hpin
        refine .inr ⟨jgo, fun σ' H' => ∃ F' g, SR X.K ca H0 F0 σ' H' F' g ∧ Same F1 F' ∧ forL f b (ds.drop (i + 1)) g = some o ∧ PostO X.K ca D H0 F0 F' σ' (T ++ T') o ∧ (∀ q ∈ PL, BB σ' g q.1 q.2.1 q.2.2), fun σ' H' ⟨F', g', w1, w2, w3, w4, w5⟩ => ⟨ds.length - (i + 1), by omega, F', g', rfl, w1, w2, w3, w4, hlt, w5⟩, fun x H3 y => ?_⟩
        obtain ⟨F3, x3, d3⟩ := jy x H3 y
        refine ⟨H0, F0, F3, g, _, g1, S2.mono x3, d3, eg, fun σ4 S4 k4 => ⟨H0, F0, F3, g1, o1, S4, eo, ?_⟩⟩
        have kg1 : KpG (T ++ T') g (.nx g1) := (hg.kp _ _ _ eg).mono i1
        have kg := hb.kp _ _ eo
        have step : ∀ (g5 : Gm) (σ5 : L2.St) (H5 F5 : Hp), KpG T' g1 (.nx g5) → SR X.K ca H0 F0 σ5 H5 F5 g5 → Same F3 F5 → Kp T' σ4 σ5 → forL f b (ds.drop (i + 1)) g5 = some o →
            ∃ F' g, SR X.K ca H0 F0 σ5 H5 F' g ∧ Same F1 F' ∧ forL f b (ds.drop (i + 1)) g = some o ∧ PostO X.K ca D H0 F0 F' σ5 (T ++ T') o ∧ (∀ q ∈ PL, BB σ5 g q.1 q.2.1 q.2.2) := fun g5 σ5 H5 F5 kg S5 s5 k5 e5 => by
          have kk : Kp (T ++ T') σ2 σ5 := k4.trans k5 i1 i2
          have kkg : KpG (T ++ T') g (.nx g5) := KpG.after kg1 kg (fun _ z => z) i2
          have sf : Same F2 F5 := x3.ff.trans s5
          refine ⟨F5, g5, S5, s2.trans sf, e5, PostO.mono sf kk (fun _ z => z) (fun _ z => z) p2, fun q hq => ⟨?_, ?_⟩⟩
          · rw [kk _ (hj q hq)]; exact (hb2 q hq).1
          · rw [(kkg : ∀ j, j ∉ T ++ T' → g5[j]? = g[j]?) _ (hj q hq)]; exact (hb2 q hq).2
        cases o1 with
        | nx g5 => exact fun σ5 H5 F5 S5 s5 k5 => step g5 σ5 H5 F5 kg S5 s5 k5 e2
        | ct g5 => exact fun σ5 H5 F5 S5 s5 k5 => step g5 σ5 H5 F5 kg S5 s5 k5 e2
        | bk g5 => cases e2; exact fun σ5 H5 F5 S5 s5 k5 => p2 σ5 H5 F5 S5 (x3.ff.trans s5) (k4.trans k5 i1 i2)
        | rt r => cases e2; exact p2
      · have ei : i = ds.length := by omega
        subst ei
        rw [List.drop_length] at e2
        cases e2
        exact .inl ⟨jo.stop H2 F2 s2 S2.ext.fh hpin, p2 σ2 H2 F2 S2 (Same.refl _) .refl⟩
    · rw [if_neg hall] at e
      cases e
  · unfold sFor at e
    obtain ⟨⟨ps, ds⟩, em, e⟩ := Option.bind_eq_some_iff.mp e
    split at e
    · exact forL_kp hg.kp hb.kp ds g o e
    · cases e
end
end BK
namespace BK
open PySem PySem.Spec L2
set_option autoImplicit false
/-! ### operators on data -/
def LIM : Nat := 16777216
theorem lim_eq : sizeLine = LIM := sizeLine_eq
/-- equal data, to a depth -/
def eqL (f : D → D → Bool) : List D → List D → Bool
  | [], [] => true
  | x :: xs, y :: ys => f x y && eqL f xs ys
  | _, _ => false
def eqn : Nat → D → D → Bool
  | _, .non, .non => true
  | _, .bl a, .bl b => a == b
  | _, .bl a, .int j => (if a then 1 else 0) == j
  | _, .int i, .bl b => i == (if b then 1 else 0)
  | _, .int i, .int j => i == j
  | _, .str x, .str y => x == y
  | n + 1, .lst xs, .lst ys => eqL (eqn n) xs ys
  | n + 1, .tup xs, .tup ys => eqL (eqn n) xs ys
  | _, _, _ => false
/-- data that == reads, to a depth -/
def okn : Nat → D → Bool
  | _, .non => true
  | _, .bl _ => true
  | _, .int _ => true
  | _, .str x => PyData.strOk x
  | n + 1, .lst xs => xs.all (okn n)
  | n + 1, .tup xs => xs.all (okn n)
  | _, _ => false
mutual
def toPy : D → PyData
  | .non => .none
  | .bl b => .bool b
  | .int i => .int i
  | .str x => .str x
  | .lst xs => .list (toPys xs)
  | .tup xs => .tuple (toPys xs)
  | .ins _ _ => .dict []
  | .rol _ => .dict []
def toPys : List D → List PyData
  | [] => []
  | x :: xs => toPy x :: toPys xs
end
theorem okn_lay : ∀ (n : Nat) (d : D), okn n d = true → (toPy d).canLay0 = true ∧ (toPy d).depth ≤ n := by
  intro n
  induction n with
  | zero =>
    intro d h
    cases d <;> simp_all [okn, toPy, PyData.canLay0, PyData.depth]
  | succ n ih =>
    have all : ∀ xs : List D, xs.all (okn n) = true → PyData.canLayAll0 (toPys xs) = true ∧ PyData.depthAll (toPys xs) ≤ n := by
      intro xs
      induction xs with
      | nil => intro _; simp [toPys, PyData.canLayAll0, PyData.depthAll]
      | cons x xs ihx =>
        intro h
        rw [List.all_cons, Bool.and_eq_true] at h
        obtain ⟨h1, h2⟩ := ih x h.1
        obtain ⟨h3, h4⟩ := ihx h.2
        simp only [toPys, PyData.canLayAll0, PyData.depthAll]
        refine ⟨by rw [h1, h3]; rfl, by omega⟩
    intro d h
    cases d with
    | lst xs =>
      obtain ⟨h1, h2⟩ := all xs h
      simp only [toPy, PyData.canLay0, PyData.depth]
      exact ⟨h1, by omega⟩
    | tup xs =>
      obtain ⟨h1, h2⟩ := all xs h
      simp only [toPy, PyData.canLay0, PyData.depth]
      exact ⟨h1, by omega⟩
    | _ => simp_all [okn, toPy, PyData.canLay0, PyData.depth]
theorem okn_shaped {n : Nat} {d : D} (h : okn n d = true) (hn : n ≤ 64) : SeqAt.shaped (toPy d) = true := by
  obtain ⟨h1, h2⟩ := okn_lay n d h
  unfold SeqAt.shaped
  rw [h1, decide_eq_true (by omega)]
  rfl
theorem eqn_py : ∀ (n : Nat) (d e : D), okn n d = true → okn n e = true → PyData.eqv (toPy d) (toPy e) = eqn n d e := by
  intro n
  induction n with
  | zero =>
    intro d e h1 h2
    cases d <;> cases e <;> simp_all [okn, eqn, toPy, PyData.eqv]
  | succ n ih =>
    have all : ∀ xs ys : List D, xs.all (okn n) = true → ys.all (okn n) = true → PyData.eqvAll (toPys xs) (toPys ys) = eqL (eqn n) xs ys := by
      intro xs
      induction xs with
      | nil =>
        intro ys _ _
        cases ys <;> simp [toPys, eqL, PyData.eqvAll]
      | cons x xs ihx =>
        intro ys h1 h2
        cases ys with
        | nil => simp [toPys, eqL, PyData.eqvAll]
        | cons y ys =>
          rw [List.all_cons, Bool.and_eq_true] at h1 h2
          simp only [toPys, eqL, PyData.eqvAll]
          rw [ih x y h1.1 h2.1, ihx ys h1.2 h2.2]
    intro d e h1 h2
    cases d <;> cases e <;> first
      | (simp only [toPy, PyData.eqv, eqn]; exact all _ _ h1 h2)
      | simp_all [okn, eqn, toPy, PyData.eqv]
section
variable {K : PySem.W.Frag} {ca : Nat → Addr} {F H : Hp}
theorem rd_l {a : Addr} {xs : List V} (h : Rd H a (.lst xs)) : SqL K H a xs := .inl h
mutual
theorem Den.dp (s : Same F H) : ∀ (d : D) {v : V}, (toPy d).canLay0 = true → Den K ca F v d → Dp K H v (toPy d)
  | .non, _, _, h => by cases h; exact .non
  | .bl b, _, _, h => by cases h; exact .bl b
  | .int i, _, _, h => by cases h; exact .int i
  | .str x, _, _, h => by cases h; exact .str x
  | .lst xs, _, e, h => by
    cases h with
    | lst h hs => exact .lst (rd_l (Same.rd s h)) (Dens.dp s xs (by simpa [toPy, PyData.canLay0] using e) hs)
  | .tup xs, _, e, h => by
    cases h with
    | tup h hs => exact .tup (Same.seqT s h) (Dens.dp s xs (by simpa [toPy, PyData.canLay0] using e) hs)
  | .ins c fs, _, e, h => by simp [toPy, PyData.canLay0] at e
  | .rol fs, _, e, h => by simp [toPy, PyData.canLay0] at e
theorem Dens.dp (s : Same F H) : ∀ (ds : List D) {vs : List V}, PyData.canLayAll0 (toPys ds) = true → Dens K ca F vs ds → DpAll K H vs (toPys ds)
  | [], _, _, h => by cases h; exact .nil
  | d :: ds, _, e, h => by
    cases h with
    | cons h hs =>
      have e' : (toPy d).canLay0 = true ∧ PyData.canLayAll0 (toPys ds) = true := by simpa [toPys, PyData.canLayAll0] using e
      exact .cons (Den.dp s d e'.1 h) (Dens.dp s ds e'.2 hs)
end
theorem RV.dp {B : BT} {Hs : Hp} {v : V} {r : R} (s : Same F H) (h : RV K ca B Hs F H v r) {n : Nat} (o : okn n r.d = true) : Dp K H v (toPy r.d) := by
  have e := (okn_lay n _ o).1
  cases q : r.d with
  | lst ds =>
    rw [q] at e
    obtain ⟨a, vs, rfl, h1, h2⟩ := RV.lst s h q
    exact .lst (rd_l h1) (Dens.dp s ds (by simpa [toPy, PyData.canLay0] using e) h2)
  | _ => rw [q] at e; exact Den.dp s _ e (RV.den h q rfl)
end
/-! ### numbers -/
def CMulB (i j : Int) : Prop := i.natAbs.log2 + j.natAbs.log2 < 134000000
instance (i j : Int) : Decidable (CMulB i j) := by unfold CMulB; infer_instance
theorem CMulB.ok {i j : Int} (h : CMulB i j) : IntMulOk i j := by
  have b : ∀ x : Int, Builtin.Int.intBits x ≤ x.natAbs.log2 + 1 := fun x => by
    unfold Builtin.Int.intBits
    split <;> omega
  have h1 := b i
  have h2 := b j
  have h3 : i.natAbs.log2 + j.natAbs.log2 < 134000000 := h
  have e : bitsLine = 134217728 := by decide
  unfold IntMulOk
  intro z
  rw [Bool.and_eq_true] at z
  have z2 := z.2
  unfold Builtin.Int.intTooBig at z2
  have z3 := of_decide_eq_true z2
  rw [e] at z3
  omega
def CDivB (i j : Int) : Prop := j ≠ 0 ∧ j.natAbs.log2 < 9000
instance (i j : Int) : Decidable (CDivB i j) := by unfold CDivB; infer_instance
instance (i j : Int) : Decidable (CPow i j) := by unfold CPow; infer_instance
section
variable {X : Cx}
theorem op_mulB : OpR X (binaryOp .Mult) (rI CMulB fun i j => .int (i * j)) := opI fun _ _ _ _ _ _ _ hc q => PyProof.Rows.mul_int q hc.ok
theorem op_fdivB : OpR X (binaryOp .FloorDiv) (rI CDivB fun i j => .int (i.fdiv j)) := opI fun _ _ _ _ _ _ _ hc q => PyProof.Rows.floordiv_int hc.1 q (.inl (PyProof.noPylong_of_log2 hc.2))
/-- list + list, what is read -/
def rCatR : R2 := fun x y H Q => ∃ l b xs zs, x = .ref l ∧ y = .ref b ∧ Rd H l (.lst xs) ∧ Rd H b (.lst zs) ∧ xs.length + zs.length ≤ sizeLine ∧ ∀ p, H p = none → Q (.ref p) (upd H p (.lst (xs ++ zs)))
theorem op_catR : OpR X (binaryOp .Add) rCatR := by
  intro pins s σ H x y v u Q I rx ry h
  obtain ⟨l, b, xs, zs, rfl, rfl, hH, hB, hz, q⟩ := h
  cases rx
  cases ry
  obtain ⟨z, its, n, r, e⟩ := hH.ok I.hok
  obtain ⟨z2, its2, n2, r2, e2⟩ := hB.ok I.hok
  have hl := r.length
  have hl2 := r2.length
  refine PySem.P.add_list e e2 ?_ (by rw [List.size_toArray, List.size_toArray]; omega)
  have ea : its.toArray ++ its2.toArray = (its ++ its2).toArray := by simp
  rw [ea]
  exact ⟨.ref _, _, I.lnew (t' := s.toks) (r.append r2) (by rw [List.length_append]; omega), rfl, q _ I.fresh⟩
end
/-- a result of an operation on numbers -/
def oI (C : Int → Int → Prop) [∀ i j, Decidable (C i j)] (h : Int → Int → D) : R → R → Option R
  | .va (.int i), .va (.int j) => if C i j then some (.va (h i j)) else none
  | _, _ => none
section
variable {K : PySem.W.Frag} {ca : Nat → Addr}
theorem od_I {C : Int → Int → Prop} [∀ i j, Decidable (C i j)] {h : Int → Int → D} {g : Int → Int → V} (hg : ∀ F i j, Den K ca F (g i j) (h i j)) : OpD K ca (rI C g) (oI C h) := by
  intro B H0 F H v w x y z Q s rx ry e q
  unfold oI at e
  split at e
  · split at e
    · rename_i i j hc
      cases e
      cases rx
      cases ry
      exact ⟨i, j, rfl, rfl, hc, q _ H F (.refl s) (hg F i j)⟩
    · cases e
  · cases e
theorem od_I0 {h : Int → Int → D} {g : Int → Int → V} (hg : ∀ F i j, Den K ca F (g i j) (h i j)) : OpD K ca (rI0 g) (oI (fun _ _ => True) h) := by
  intro B H0 F H v w x y z Q s rx ry e q
  unfold oI at e
  split at e
  · rename_i i j
    rw [if_pos trivial] at e
    cases e
    cases rx
    cases ry
    exact ⟨i, j, rfl, rfl, q _ H F (.refl s) (hg F i j)⟩
  · cases e
def uI (h : Int → D) : R → Option R
  | .va (.int i) => some (.va (h i))
  | _ => none
theorem ud_I {h : Int → D} {g : Int → V} (hg : ∀ F i, Den K ca F (g i) (h i)) : UnD K ca (rU g) (uI h) := by
  intro B H0 F H v x z Q s rx e q
  unfold uI at e
  split at e
  · rename_i i
    cases e
    cases rx
    exact ⟨i, rfl, q _ H F (.refl s) (hg F i)⟩
  · cases e
end
/-- + -/
def oAdd : R → R → Option R := fun a b => match a.d, b.d with
  | .int i, .int j => some (.va (.int (i + j)))
  | .str x, .str y => if x.length + y.length ≤ LIM then some (.va (.str (x ++ y))) else none
  | .lst xs, .lst ys => if xs.length + ys.length ≤ LIM then some (.tm (xs ++ ys)) else none
  | .tup xs, .tup ys => if xs.length + ys.length ≤ LIM then some (.va (.tup (xs ++ ys))) else none
  | _, _ => none
def rAddA (K : PySem.W.Frag) : R2 := fun x y H Q => rI0 (fun i j => .int (i + j)) x y H Q ∨ (∃ i j, x = .str i ∧ y = .str j ∧ i.length + j.length ≤ sizeLine ∧ Q (.str (i ++ j)) H) ∨ rCatR x y H Q ∨ rCatA K x y H Q
theorem op_addA {X : Cx} : OpR X (binaryOp .Add) (rAddA X.K) := op_add.or (op_add_str.or (op_catR.or op_catA))
theorem od_add {K : PySem.W.Frag} {ca : Nat → Addr} : OpD K ca (rAddA K) oAdd := by
  intro B H0 F H v w x y z Q s rx ry e q
  unfold oAdd at e
  split at e
  · rename_i i j h1 h2
    cases e
    cases RV.den rx h1 rfl
    cases RV.den ry h2 rfl
    exact .inl ⟨i, j, rfl, rfl, q _ H F (.refl s) (.int _)⟩
  · rename_i i j h1 h2
    split at e
    · rename_i hl
      cases e
      cases RV.den rx h1 rfl
      cases RV.den ry h2 rfl
      exact .inr (.inl ⟨i, j, rfl, rfl, by rw [lim_eq]; exact hl, q _ H F (.refl s) (.str _)⟩)
    · cases e
  · rename_i xs ys h1 h2
    split at e
    · rename_i hl
      cases e
      obtain ⟨a, vs, rfl, r1, d1⟩ := RV.lst s rx h1
      obtain ⟨b, ws, rfl, r2, d2⟩ := RV.lst s ry h2
      refine .inr (.inr (.inl ⟨a, b, vs, ws, rfl, rfl, r1, r2, by rw [lim_eq, d1.length, d2.length]; exact hl, fun p hp => ?_⟩))
      exact q _ _ F (.newO s _ hp) ⟨p, _, rfl, hp, s.free hp, upd_same, d1.append d2⟩
    · cases e
  · rename_i xs ys h1 h2
    split at e
    · rename_i hl
      cases e
      cases RV.den rx h1 rfl with
      | tup t1 d1 =>
        cases RV.den ry h2 rfl with
        | tup t2 d2 =>
          refine .inr (.inr (.inr ⟨_, _, _, _, rfl, rfl, Same.seqT s t1, Same.seqT s t2, by rw [lim_eq, d1.length, d2.length]; exact hl, fun z => ?_, fun z1 z2 => ?_, fun _ _ p hp => ?_⟩))
          · subst z
            cases d1
            exact q _ H F (.refl s) (.tup t2 d2)
          · subst z2
            cases d2
            exact q _ H F (.refl s) (by rw [List.append_nil]; exact .tup t1 d1)
          · exact q _ _ _ (.new s (.tup _) hp) (.tup (SqT.of upd_same) ((d1.append d2).mono (same_upd (s.free hp))))
    · cases e
  · cases e
/-- * -/
def strRep (x : Str) (n : Int) : Str := ⟨((List.replicate n.toNat x.cps.toList).flatten).toArray⟩
theorem foldl_repA (x : Array Nat) : ∀ (k : Nat) (acc : List Nat), (List.replicate k x).foldl (· ++ ·) acc.toArray = (acc ++ (List.replicate k x.toList).flatten).toArray
  | 0, acc => by simp
  | k + 1, acc => by
    rw [List.replicate_succ, List.foldl_cons]
    have e : acc.toArray ++ x = (acc ++ x.toList).toArray := by simp
    rw [e, foldl_repA x k]
    simp [List.replicate_succ]
theorem strRep_len (x : Str) (n : Int) : (strRep x n).length = x.length * n.toNat := by
  show ((List.replicate n.toNat x.cps.toList).flatten).toArray.size = x.cps.size * n.toNat
  rw [List.size_toArray, PyProof.Rows.lm_len_rep_flat, Array.length_toList, Nat.mul_comm]
def rMulS : R2 := fun x y H Q => ∃ z n, x = .str z ∧ y = .int n ∧ -(2 ^ 63) ≤ n ∧ n < 2 ^ 63 ∧ z.length * n.toNat ≤ sizeLine ∧ Q (.str (strRep z n)) H
theorem op_mulS {X : Cx} : OpR X (binaryOp .Mult) rMulS := by
  intro pins s σ H x y v u Q I rx ry h
  obtain ⟨z, n, rfl, rfl, h1, h2, hz, q⟩ := h
  obtain ⟨t, rfl⟩ := rx
  obtain ⟨t', rfl⟩ := ry
  have hs : sizeLine = 16777216 := sizeLine_eq
  refine PySem.P.mul_str (by rw [decide_eq_false (by omega), decide_eq_false (by omega)]; rfl) (fun a b => ?_) (fun a b => ?_) ?_
  · rw [Bool.or_eq_false_iff] at b
    have n1 : 1 ≤ n := by omega
    intro c
    have hz' : (z.length : Int) * n ≤ 16777216 := by
      have : ((z.length * n.toNat : Nat) : Int) ≤ 16777216 := by omega
      rw [Int.natCast_mul, Int.toNat_of_nonneg (by omega)] at this
      exact this
    have c2 : (z.length : Int) * n > 2 ^ 63 - 1 := Int.lt_of_lt_of_le (Int.lt_mul_of_ediv_lt (by omega) c) (Int.le_refl _)
    omega
  · show decide (z.length * n.toNat > sizeLine) = false
    exact decide_eq_false (by omega)
  · by_cases a : n < 1
    · rw [if_pos a]
      have e : strRep z n = Str.empty := by
        unfold strRep
        rw [show n.toNat = 0 by omega]
        rfl
      refine ⟨by decide, ?_⟩
      exact ⟨.str _, H, I.tok _, ⟨_, rfl⟩, by rw [← e]; exact q⟩
    · rw [if_neg a]
      by_cases b : (n == 1 || z.length == 0) = true
      · rw [if_pos b]
        have e : strRep z n = z := by
          rw [Bool.or_eq_true, beq_iff_eq, beq_iff_eq] at b
          unfold strRep
          rcases b with b | b
          · subst b
            simp
          · have : z.cps = #[] := Array.eq_empty_of_size_eq_zero b
            obtain ⟨c⟩ := z
            simp only at this
            subst this
            simp
        exact ⟨.str _, H, I, ⟨_, rfl⟩, by rw [← e]; exact q⟩
      · rw [if_neg b]
        have e : (⟨(List.replicate n.toNat z.cps).foldl (· ++ ·) #[]⟩ : Str) = strRep z n := by
          have := foldl_repA z.cps n.toNat []
          unfold strRep
          rw [show (#[] : Array Nat) = ([] : List Nat).toArray from rfl, this, List.nil_append]
        rw [e]
        refine ⟨?_, ?_⟩
        · rw [strRep_len]; exact hz
        · exact ⟨.str _, H, I.tok _, ⟨_, rfl⟩, q⟩
def oMul : R → R → Option R := fun a b => match a.d, b.d with
  | .int i, .int j => if CMulB i j then some (.va (.int (i * j))) else none
  | .str x, .int n => if -(2 ^ 63) ≤ n ∧ n < 2 ^ 63 ∧ x.length * n.toNat ≤ LIM then some (.va (.str (strRep x n))) else none
  | .lst xs, .int n => if -(2 ^ 63) ≤ n ∧ n < 2 ^ 63 ∧ xs.length * n.toNat ≤ LIM then some (.tm (List.replicate n.toNat xs).flatten) else none
  | _, _ => none
def rRepR : R2 := fun x y H Q => ∃ l k xs, x = .ref l ∧ y = .int k ∧ H l = some (.lst xs) ∧ -(2 ^ 63) ≤ k ∧ k < 2 ^ 63 ∧ xs.length * k.toNat ≤ sizeLine ∧
  ∀ p, H p = none → Q (.ref p) (upd H p (.lst (List.replicate k.toNat xs).flatten))
def rMulA : R2 := fun x y H Q => rI CMulB (fun i j => .int (i * j)) x y H Q ∨ rMulS x y H Q ∨ rRep x y H Q
theorem op_mulA {X : Cx} : OpR X (binaryOp .Mult) rMulA := op_mulB.or (op_mulS.or op_rep)
theorem Dens.rep {K : PySem.W.Frag} {ca : Nat → Addr} {F : Hp} {vs : List V} {ds : List D} (h : Dens K ca F vs ds) : ∀ k : Nat, Dens K ca F (List.replicate k vs).flatten (List.replicate k ds).flatten
  | 0 => .nil
  | k + 1 => by
    rw [List.replicate_succ, List.replicate_succ, List.flatten_cons, List.flatten_cons]
    exact h.append (h.rep k)
/-- a list that a temporary or an own one is: it can be written -/
def R.wr : R → Bool
  | .va _ => false
  | _ => true
theorem RV.wrt {K : PySem.W.Frag} {ca : Nat → Addr} {B : BT} {H F' H' : Hp} {v : V} {r : R} {ds : List D} (h : RV K ca B H F' H' v r) (e : r.d = .lst ds) (w : r.wr = true) : ∃ a vs, v = .ref a ∧ H' a = some (.lst vs) ∧ Dens K ca F' vs ds := by
  cases r with
  | va d => cases w
  | tm es =>
    obtain rfl : es = ds := by injection e
    obtain ⟨a, vs, rfl, _, _, h3, h4⟩ := h
    exact ⟨a, vs, rfl, h3, h4⟩
  | bw j es =>
    obtain rfl : es = ds := by injection e
    obtain ⟨a, vs, rfl, _, _, h3, h4⟩ := h
    exact ⟨a, vs, rfl, h3, h4⟩
/-- * of a written list -/
def oMulA : R → R → Option R := fun a b => match a.d with
  | .lst _ => if a.wr = true then oMul a b else none
  | _ => oMul a b
theorem od_mul {K : PySem.W.Frag} {ca : Nat → Addr} : OpD K ca rMulA oMulA := by
  intro B H0 F H v w x y z Q s rx ry e q
  have e' : oMul x y = some z ∧ (∀ xs, x.d = .lst xs → x.wr = true) := by
    unfold oMulA at e
    split at e
    · split at e
      · exact ⟨e, fun _ _ => by assumption⟩
      · cases e
    · rename_i h
      exact ⟨e, fun xs z => absurd z (h xs)⟩
  obtain ⟨e, hw⟩ := e'
  unfold oMul at e
  split at e
  · rename_i i j h1 h2
    split at e
    · rename_i hc
      cases e
      cases RV.den rx h1 rfl
      cases RV.den ry h2 rfl
      exact .inl ⟨i, j, rfl, rfl, hc, q _ H F (.refl s) (.int _)⟩
    · cases e
  · rename_i i j h1 h2
    split at e
    · rename_i hc
      cases e
      cases RV.den rx h1 rfl
      cases RV.den ry h2 rfl
      exact .inr (.inl ⟨i, j, rfl, rfl, hc.1, hc.2.1, by rw [lim_eq]; exact hc.2.2, q _ H F (.refl s) (.str _)⟩)
    · cases e
  · rename_i xs j h1 h2
    split at e
    · rename_i hc
      cases e
      obtain ⟨a, vs, rfl, r1, d1⟩ := RV.wrt rx h1 (hw _ h1)
      cases RV.den ry h2 rfl
      refine .inr (.inr ⟨a, j, vs, rfl, rfl, r1, hc.1, hc.2.1, by rw [lim_eq, d1.length]; exact hc.2.2, fun p hp => ?_⟩)
      exact q _ _ F (.newO s _ hp) ⟨p, _, rfl, hp, s.free hp, upd_same, d1.rep _⟩
    · cases e
  · cases e
/-! ### comparisons -/
def oCmp (p : Int → Int → Bool) : R → R → Option R := oI (fun _ _ => True) fun i j => .bl (p i j)
section
variable {K : PySem.W.Frag} {ca : Nat → Addr}
theorem od_cmp {p : Int → Int → Bool} : OpD K ca (rI0 fun i j => .bl (p i j)) (oCmp p) := od_I0 fun _ _ _ => .bl _
def oLt := oCmp fun i j => decide (i < j)
def oLe := oCmp fun i j => decide (i ≤ j)
def oGt := oCmp fun i j => decide (j < i)
def oGe := oCmp fun i j => decide (j ≤ i)
def eqR (a b : R) : Option Bool := match a.d, b.d with
  | .str x, .str y => some (decide (x = y))
  | d, e => if (okn 8 d && okn 8 e) = true then some (eqn 8 d e) else none
def oEq : R → R → Option R := fun a b => (eqR a b).map fun k => .va (.bl k)
def oNe : R → R → Option R := fun a b => (eqR a b).map fun k => .va (.bl (!k))
def rEqA (K : PySem.W.Frag) : R2 := fun x y H Q => rEq x y H Q ∨ rEqD K x y H Q
def rNeA (K : PySem.W.Frag) : R2 := fun x y H Q => rNe x y H Q ∨ rNeD K x y H Q
theorem op_eqA {X : Cx} (hu : X.A.units + 64 < cLine) : OpR X (compareOp .Eq) (rEqA X.K) := op_eq.or (op_eqD hu)
theorem op_neA {X : Cx} (hu : X.A.units + 64 < cLine) : OpR X (compareOp .NotEq) (rNeA X.K) := op_ne.or (op_neD hu)
theorem eqR_cases {B : BT} {Hs F H : Hp} {v w : V} {x y : R} {k : Bool} (s : Same F H) (rx : RV K ca B Hs F H v x) (ry : RV K ca B Hs F H w y) (e : eqR x y = some k) :
    (scal v w = true ∧ k = decide (v = w)) ∨ ∃ d f, Dp K H v d ∧ Dp K H w f ∧ SeqAt.shaped d = true ∧ SeqAt.shaped f = true ∧ k = PyData.eqv d f := by
  unfold eqR at e
  split at e
  · rename_i a b h1 h2
    cases e
    cases RV.den rx h1 rfl
    cases RV.den ry h2 rfl
    refine .inl ⟨rfl, ?_⟩
    by_cases h : a = b
    · subst h; simp
    · rw [decide_eq_false h, decide_eq_false (fun z => h (V.str.inj z))]
  · split at e
    · rename_i h
      cases e
      rw [Bool.and_eq_true] at h
      exact .inr ⟨_, _, RV.dp s rx h.1, RV.dp s ry h.2, okn_shaped h.1 (by decide), okn_shaped h.2 (by decide), (eqn_py 8 _ _ h.1 h.2).symm⟩
    · cases e
theorem od_eq : OpD K ca (rEqA K) oEq := by
  intro B H0 F H v w x y z Q s rx ry e q
  unfold oEq at e
  obtain ⟨k, ek, rfl⟩ := Option.map_eq_some_iff.mp e
  rcases eqR_cases s rx ry ek with ⟨h1, h2⟩ | ⟨d, f, h1, h2, h3, h4, h5⟩
  · exact .inl ⟨h1, by rw [← h2]; exact q _ H F (.refl s) (.bl _)⟩
  · exact .inr ⟨d, f, h1, h2, h3, h4, by rw [← h5]; exact q _ H F (.refl s) (.bl _)⟩
theorem od_ne : OpD K ca (rNeA K) oNe := by
  intro B H0 F H v w x y z Q s rx ry e q
  unfold oNe at e
  obtain ⟨k, ek, rfl⟩ := Option.map_eq_some_iff.mp e
  rcases eqR_cases s rx ry ek with ⟨h1, h2⟩ | ⟨d, f, h1, h2, h3, h4, h5⟩
  · exact .inl ⟨h1, by rw [← h2]; exact q _ H F (.refl s) (.bl _)⟩
  · exact .inr ⟨d, f, h1, h2, h3, h4, by rw [← h5]; exact q _ H F (.refl s) (.bl _)⟩
/-- is None -/
def D.isNon : D → Bool
  | .non => true
  | _ => false
theorem RV.non_iff {B : BT} {Hs F H : Hp} {v : V} {x : R} (rx : RV K ca B Hs F H v x) : decide (v = .non) = x.d.isNon := by
  cases x with
  | va d => cases rx <;> rfl
  | tm ds => obtain ⟨a, vs, rfl, _⟩ := rx; rfl
  | bw j ds => obtain ⟨a, vs, rfl, _⟩ := rx; rfl
def oIs : R → R → Option R := fun a b => match b with
  | .va .non => some (.va (.bl a.d.isNon))
  | _ => none
def oIsN : R → R → Option R := fun a b => match b with
  | .va .non => some (.va (.bl (!a.d.isNon)))
  | _ => none
theorem od_is : OpD K ca (fun x y H Q => y = .non ∧ Q (.bl (decide (x = .non))) H) oIs := by
  intro B H0 F H v w x y z Q s rx ry e q
  unfold oIs at e
  split at e
  · cases e
    cases ry
    exact ⟨rfl, by rw [RV.non_iff rx]; exact q _ H F (.refl s) (.bl _)⟩
  · cases e
theorem od_isn : OpD K ca (fun x y H Q => y = .non ∧ Q (.bl (!decide (x = .non))) H) oIsN := by
  intro B H0 F H v w x y z Q s rx ry e q
  unfold oIsN at e
  split at e
  · cases e
    cases ry
    exact ⟨rfl, by rw [RV.non_iff rx]; exact q _ H F (.refl s) (.bl _)⟩
  · cases e
/-- in: flat items of a list or tuple; one sign in a text -/
def inR (a b : R) : Option Bool := match a.d, b.d with
  | .str ⟨c⟩, .str z => match c.toList with
    | [c] => some (decide (c ∈ z.cps.toList))
    | _ => none
  | d, .lst ds => if (okn 0 d && ds.all (okn 0)) = true then some (ds.any fun e => eqn 0 e d) else none
  | d, .tup ds => if (okn 0 d && ds.all (okn 0)) = true then some (ds.any fun e => eqn 0 e d) else none
  | _, _ => none
def oIn : R → R → Option R := fun a b => (inR a b).map fun k => .va (.bl k)
def oNin : R → R → Option R := fun a b => (inR a b).map fun k => .va (.bl (!k))
def rInA (K : PySem.W.Frag) : R2 := fun x y H Q => rIn K false x y H Q ∨ ∃ (c : Nat) (z : Str), x = .str ⟨#[c]⟩ ∧ y = .str z ∧ Q (.bl (decide (c ∈ z.cps.toList))) H
def rNinA (K : PySem.W.Frag) : R2 := fun x y H Q => rIn K true x y H Q ∨ ∃ (c : Nat) (z : Str), x = .str ⟨#[c]⟩ ∧ y = .str z ∧ Q (.bl (!decide (c ∈ z.cps.toList))) H
theorem op_inA {X : Cx} : OpR X (compareOp .In) (rInA X.K) := op_in_seq.or op_in_sign
theorem op_ninA {X : Cx} : OpR X (compareOp .NotIn) (rNinA X.K) := op_notIn_seq.or op_notIn_sign
theorem flat_of {F : Hp} {v : V} {d : D} (h : Den K ca F v d) (o : okn 0 d = true) : flatV v = true := by
  cases h <;> first | rfl | (simp [okn] at o)
theorem flats_of {F : Hp} : ∀ {vs : List V} {ds : List D}, Dens K ca F vs ds → ds.all (okn 0) = true → vs.all flatV = true
  | _, _, .nil, _ => rfl
  | _, _, .cons h hs, o => by
    rw [List.all_cons, Bool.and_eq_true] at o ⊢
    exact ⟨flat_of h o.1, flats_of hs o.2⟩
theorem eqV_of {F : Hp} {v w : V} {d e : D} (h : Den K ca F v d) (o : okn 0 d = true) (h' : Den K ca F w e) (o' : okn 0 e = true) : eqV v w = eqn 0 d e := by
  cases h <;> cases h' <;> first | rfl | (simp [okn] at o) | (simp [okn] at o')
theorem inV_of {F : Hp} {v : V} {d : D} (h : Den K ca F v d) (o : okn 0 d = true) : ∀ {vs : List V} {ds : List D}, Dens K ca F vs ds → ds.all (okn 0) = true → inV v vs = ds.any fun e => eqn 0 e d
  | _, _, .nil, _ => rfl
  | _, _, .cons g gs, o2 => by
    rw [List.all_cons, Bool.and_eq_true] at o2
    have ih := inV_of h o gs o2.2
    unfold inV at ih ⊢
    rw [List.any_cons, List.any_cons, ih, eqV_of g o2.1 h o]
theorem okn0_nolst {d : D} (o : okn 0 d = true) : d.isLst = false := by
  cases d <;> first | rfl | (simp [okn] at o)
theorem inR_cases {B : BT} {Hs F H : Hp} {v w : V} {x y : R} {k : Bool} (s : Same F H) (rx : RV K ca B Hs F H v x) (ry : RV K ca B Hs F H w y) (e : inR x y = some k) :
    (∃ p xs, w = .ref p ∧ (SqL K H p xs ∨ SqT K H p xs) ∧ flatV v = true ∧ xs.all flatV = true ∧ k = inV v xs) ∨ ∃ (c : Nat) (z : Str), v = .str ⟨#[c]⟩ ∧ w = .str z ∧ k = decide (c ∈ z.cps.toList) := by
  unfold inR at e
  split at e
  · rename_i c z h1 h2
    split at e
    · rename_i c' hc
      cases e
      cases RV.den rx h1 rfl
      cases RV.den ry h2 rfl
      have : c = #[c'] := by
        apply Array.ext'
        rw [hc]
      subst this
      exact .inr ⟨c', z, rfl, rfl, rfl⟩
    · cases e
  · rename_i ds h2 _
    split at e
    · rename_i h
      cases e
      rw [Bool.and_eq_true] at h
      obtain ⟨a, vs, rfl, r2, d2⟩ := RV.lst s ry (by assumption)
      have dx := RV.den rx rfl (okn0_nolst h.1)
      exact .inl ⟨a, vs, rfl, .inl (rd_l r2), flat_of dx h.1, flats_of d2 h.2, (inV_of dx h.1 d2 h.2).symm⟩
    · cases e
  · rename_i ds h2 _
    split at e
    · rename_i h
      cases e
      rw [Bool.and_eq_true] at h
      have dx := RV.den rx rfl (okn0_nolst h.1)
      cases RV.den ry (by assumption) rfl with
      | tup t1 d1 => exact .inl ⟨_, _, rfl, .inr (Same.seqT s t1), flat_of dx h.1, flats_of d1 h.2, (inV_of dx h.1 d1 h.2).symm⟩
    · cases e
  · cases e
theorem od_in : OpD K ca (rInA K) oIn := by
  intro B H0 F H v w x y z Q s rx ry e q
  unfold oIn at e
  obtain ⟨k, ek, rfl⟩ := Option.map_eq_some_iff.mp e
  rcases inR_cases s rx ry ek with ⟨p, xs, h1, h2, h3, h4, h5⟩ | ⟨c, z, h1, h2, h3⟩
  · exact .inl ⟨p, xs, h1, h2, h3, h4, by rw [if_neg Bool.false_ne_true, ← h5]; exact q _ H F (.refl s) (.bl _)⟩
  · exact .inr ⟨c, z, h1, h2, by rw [← h3]; exact q _ H F (.refl s) (.bl _)⟩
theorem od_nin : OpD K ca (rNinA K) oNin := by
  intro B H0 F H v w x y z Q s rx ry e q
  unfold oNin at e
  obtain ⟨k, ek, rfl⟩ := Option.map_eq_some_iff.mp e
  rcases inR_cases s rx ry ek with ⟨p, xs, h1, h2, h3, h4, h5⟩ | ⟨c, z, h1, h2, h3⟩
  · exact .inl ⟨p, xs, h1, h2, h3, h4, by rw [if_pos rfl, ← h5]; exact q _ H F (.refl s) (.bl _)⟩
  · exact .inr ⟨c, z, h1, h2, by rw [← h3]; exact q _ H F (.refl s) (.bl _)⟩
end
end BK
namespace BK
open PySem PySem.Spec L2
set_option autoImplicit false
/-! ### items, slices, displays -/
def oIx : R → R → Option R := fun a b => match a.d, b.d with
  | .lst xs, .int i => (atI xs i).map .va
  | .tup xs, .int i => (atI xs i).map .va
  | .rol xs, .int i => (atI xs i).map .va
  | .str z, .int i => if z.length ≤ LIM then (atI z.cps.toList i).map fun c => .va (.str ⟨#[c]⟩) else none
  | _, _ => none
section
variable {K : PySem.W.Frag} {ca : Nat → Addr}
theorem atI_den {F : Hp} {vs : List V} {ds : List D} (h : Dens K ca F vs ds) {i : Int} {d : D} (e : atI ds i = some d) : ∃ v, atI vs i = some v ∧ Den K ca F v d := by
  unfold atI at e ⊢
  rw [h.length]
  obtain ⟨j, e1, e2⟩ := Option.bind_eq_some_iff.mp e
  obtain ⟨v, e3, e4⟩ := h.getV e2
  exact ⟨v, by rw [e1]; exact e3, e4⟩
theorem od_ix : OpD K ca (rIx K) oIx := by
  intro B H0 F H v w x y z Q s rx ry e q
  unfold oIx at e
  split at e
  · rename_i xs i h1 h2
    obtain ⟨d, ed, rfl⟩ := Option.map_eq_some_iff.mp e
    obtain ⟨a, vs, rfl, r1, d1⟩ := RV.lst s rx h1
    cases RV.den ry h2 rfl
    obtain ⟨u, e1, e2⟩ := atI_den d1 ed
    exact .inl ⟨a, vs, i, u, rfl, rfl, rd_l r1, e1, q _ H F (.refl s) e2⟩
  · rename_i xs i h1 h2
    obtain ⟨d, ed, rfl⟩ := Option.map_eq_some_iff.mp e
    cases RV.den rx h1 rfl with
    | tup t1 d1 =>
      cases RV.den ry h2 rfl
      obtain ⟨u, e1, e2⟩ := atI_den d1 ed
      exact .inr (.inl ⟨_, _, i, u, rfl, rfl, Same.seqT s t1, e1, q _ H F (.refl s) e2⟩)
  · rename_i xs i h1 h2
    obtain ⟨d, ed, rfl⟩ := Option.map_eq_some_iff.mp e
    cases RV.den rx h1 rfl with
    | rol t1 d1 =>
      cases RV.den ry h2 rfl
      obtain ⟨u, e1, e2⟩ := atI_den d1 ed
      exact .inl ⟨_, _, i, u, rfl, rfl, s.seq t1, e1, q _ H F (.refl s) e2⟩
  · rename_i zz i h1 h2
    split at e
    · rename_i hl
      obtain ⟨c, ed, rfl⟩ := Option.map_eq_some_iff.mp e
      cases RV.den rx h1 rfl
      cases RV.den ry h2 rfl
      exact .inr (.inr ⟨zz, i, c, rfl, rfl, by rw [lim_eq]; exact hl, ed, q _ H F (.refl s) (.str _)⟩)
    · cases e
  · cases e
/-- the items of xs[lo:hi] -/
def cutL {α : Type} (xs : List α) (lo hi : Option Int) : List α := (xs.drop (HT.sIx xs.length 0 lo)).take (HT.sIx xs.length xs.length hi - HT.sIx xs.length 0 lo)
theorem Dens.cut {F : Hp} {vs : List V} {ds : List D} (h : Dens K ca F vs ds) (lo hi : Option Int) : Dens K ca F (cutV vs lo hi) (cutL ds lo hi) := by
  unfold cutV cutL
  rw [h.length]
  exact (h.drop _).take _
def tOV (K : PySem.W.Frag) (ca : Nat → Addr) (m : Gm → Option (Option Int)) : TO := fun σ H Q => ∃ H0 F0 F Γ o, SR K ca H0 F0 σ H F Γ ∧ m Γ = some o ∧ ∀ H' F', Ext H F H' F' → Q o H'
def pN : Gm → Option (Option Int) := fun _ => some none
def pS (m : Gm → Option R) : Gm → Option (Option Int) := fun g => (m g).bind fun r => match r with
  | .va (.int i) => some (some i)
  | _ => none
def oSl (a : R) (lo hi : Option Int) : Option R := match a.d with
  | .lst xs => some (.tm (cutL xs lo hi))
  | .tup xs => some (.va (.tup (cutL xs lo hi)))
  | .rol xs => some (.tm (cutL xs lo hi))
  | .str z => if z.length ≤ LIM then some (.va (.str (cutS z lo hi))) else none
  | _ => none
def eSl (m : Gm → Option R) (l h : Gm → Option (Option Int)) : Gm → Option R := fun g => (m g).bind fun a => (l g).bind fun lo => (h g).bind fun hi => oSl a lo hi
def rSlAll (K : PySem.W.Frag) : V → Option Int → Option Int → Hp → VK → Prop := fun x lo hi H Q => rSlL K x lo hi H Q ∨ rSlA K x lo hi H Q ∨ rSlS x lo hi H Q
end
section
variable {X : Cx} {ca : Nat → Addr} {a b e : Expr} {es : List Expr} {m n : Gm → Option R} {ms : Gm → Option (List R)} {pos p : Pos}
abbrev OV (X : Cx) (ca : Nat → Addr) (e : Option Expr) (m : Gm → Option (Option Int)) : Prop := PO X e (tOV X.K ca m)
theorem po_imp {e : Option Expr} {t t' : TO} (h : PO X e t) (i : ∀ σ H Q, t' σ H Q → t σ H Q) : PO X e t' := ⟨fun pins s σ H Q I q => h.run pins s σ H Q I (i σ H Q q)⟩
theorem ov_none : OV X ca none pN := by
  refine po_imp po_none ?_
  rintro σ H Q ⟨H0, F0, F, Γ, o, S, e, q⟩
  cases e
  exact q H F (.refl S.ext.fh)
theorem ov_some (h : EV X ca e m) : OV X ca (some e) (pS m) := by
  refine po_imp (po_some h) ?_
  rintro σ H Q ⟨H0, F0, F, Γ, o, S, e, q⟩
  unfold pS at e
  obtain ⟨r, er, e⟩ := Option.bind_eq_some_iff.mp e
  split at e
  · cases e
    refine ⟨H0, F0, F, Γ, _, S, er, fun v H' F' x h => ?_⟩
    cases h
    exact ⟨_, rfl, q H' F' x⟩
  · cases e
theorem sl_all : SlR X (rSlAll X.K) := sl_list.or (sl_tupA.or sl_str)
theorem ev_slice {l h : Option Expr} {ml mh : Gm → Option (Option Int)} {p2 : Pos} (he : EV X ca e m) (hl : OV X ca l ml) (hh : OV X ca h mh) : EV X ca (.Subscript e (.Slice l h none p2) pos) (eSl m ml mh) := by
  refine pe_imp (pe_slice sl_all he hl hh) ?_
  rintro σ H Q ⟨H0, F0, F, Γ, z, S, e, q⟩
  unfold eSl at e
  obtain ⟨r, er, e⟩ := Option.bind_eq_some_iff.mp e
  obtain ⟨lo, el, e⟩ := Option.bind_eq_some_iff.mp e
  obtain ⟨hi, eh, e⟩ := Option.bind_eq_some_iff.mp e
  refine ⟨H0, F0, F, Γ, r, S, er, fun v H1 F1 x1 r1 => ⟨H0, F0, F1, Γ, lo, S.mono x1, el, fun H2 F2 x2 => ⟨H0, F0, F2, Γ, hi, (S.mono x1).mono x2, eh, fun H3 F3 x3 => ?_⟩⟩⟩
  have x13 := x2.trans x3
  have x03 := x1.trans x13
  have s3 := x3.fh
  have r3 := r1.mono x13
  unfold oSl at e
  split at e
  · rename_i xs h1
    cases e
    obtain ⟨a, vs, rfl, g1, d1⟩ := RV.lst s3 r3 h1
    refine .inl ⟨a, vs, rfl, rd_l g1, fun p hp => ?_⟩
    exact q _ _ F3 (x03.trans (.newO s3 _ hp)) ⟨p, _, rfl, x03.hh.free hp, s3.free hp, upd_same, d1.cut lo hi⟩
  · rename_i xs h1
    cases e
    cases RV.den r3 h1 rfl with
    | tup t1 d1 =>
      refine .inr (.inl ⟨_, _, rfl, Same.seqT s3 t1, fun w => ?_, fun _ p hp => ?_⟩)
      · refine q _ H3 F3 x03 ?_
        have : cutL xs lo hi = xs := by
          unfold cutL
          rw [d1.length] at w
          rw [w.1, w.2]
          simp
        rw [this]
        exact .tup t1 d1
      · exact q _ _ _ (x03.trans (.new s3 (.tup _) hp)) (.tup (SqT.of upd_same) ((d1.cut lo hi).mono (same_upd (s3.free hp))))
  · rename_i xs h1
    cases e
    cases RV.den r3 h1 rfl with
    | rol t1 d1 =>
      refine .inl ⟨_, _, rfl, s3.seq t1, fun p hp => ?_⟩
      exact q _ _ F3 (x03.trans (.newO s3 _ hp)) ⟨p, _, rfl, x03.hh.free hp, s3.free hp, upd_same, d1.cut lo hi⟩
  · rename_i zz h1
    split at e
    · rename_i hl
      cases e
      cases RV.den r3 h1 rfl
      exact .inr (.inr ⟨zz, rfl, by rw [lim_eq]; exact hl, q _ H3 F3 x03 (.str _)⟩)
    · cases e
  · cases e
theorem RVs.den {K : PySem.W.Frag} {B : BT} {Hs F H : Hp} : ∀ {vs : List V} {rs : List R}, RVs K ca B Hs F H vs rs → (rs.all fun r => !r.wr) = true → Dens K ca F vs (rs.map R.d)
  | _, _, .nil, _ => .nil
  | _, _, .cons (b := r) h hs, o => by
    rw [List.all_cons, Bool.and_eq_true] at o
    cases r with
    | va d => exact .cons h (RVs.den hs o.2)
    | tm ds => exact absurd o.1 (by simp [R.wr])
    | bw j ds => exact absurd o.1 (by simp [R.wr])
theorem RVs.length {K : PySem.W.Frag} {B : BT} {Hs F H : Hp} {vs : List V} {rs : List R} (h : RVs K ca B Hs F H vs rs) : vs.length = rs.length := Paired.length h
/-- displays -/
def oTup (rs : List R) : Option R := if (rs.all (fun r => !r.wr) && decide (rs.length ≤ LIM)) = true then some (.va (.tup (rs.map R.d))) else none
def oLst (rs : List R) : Option R := if (rs.all (fun r => !r.wr) && decide (rs.length ≤ LIM)) = true then some (.tm (rs.map R.d)) else none
theorem ev_tup {x1 : Nat} (h : AV X ca es ms) : EV X ca (.Tuple es x1 pos) (eA oTup ms) := by
  refine pe_imp (pe_tup h) ?_
  rintro σ H Q ⟨H0, F0, F, Γ, z, S, e, q⟩
  unfold eA at e
  obtain ⟨rs, er, e⟩ := Option.bind_eq_some_iff.mp e
  refine ⟨H0, F0, F, Γ, rs, S, er, fun vs H1 F1 x1 r1 => ?_⟩
  unfold oTup at e
  split at e
  · rename_i h
    cases e
    rw [Bool.and_eq_true, decide_eq_true_eq] at h
    refine ⟨by rw [lim_eq, RVs.length r1]; exact h.2, fun p hp => ?_⟩
    exact q _ _ _ (x1.trans (.new x1.fh (.tup _) hp)) (.tup (SqT.of upd_same) ((RVs.den r1 h.1).mono (same_upd (x1.fh.free hp))))
  · cases e
theorem ev_lst (h : AV X ca es ms) : EV X ca (.List es pos) (eA oLst ms) := by
  refine pe_imp (pe_lst h) ?_
  rintro σ H Q ⟨H0, F0, F, Γ, z, S, e, q⟩
  unfold eA at e
  obtain ⟨rs, er, e⟩ := Option.bind_eq_some_iff.mp e
  refine ⟨H0, F0, F, Γ, rs, S, er, fun vs H1 F1 x1 r1 => ?_⟩
  unfold oLst at e
  split at e
  · rename_i h
    cases e
    rw [Bool.and_eq_true, decide_eq_true_eq] at h
    refine ⟨by rw [lim_eq, RVs.length r1]; exact h.2, fun p hp => ?_⟩
    exact q _ _ F1 (x1.trans (.newO x1.fh _ hp)) ⟨p, _, rfl, x1.hh.free hp, x1.fh.free hp, upd_same, RVs.den r1 h.1⟩
  · cases e
/-- own lists grow: x.append(e) -/
def sApp (i : Nat) (m : Gm → Option R) : Gm → Option Out := fun g => match g[i]? with
  | some (.ow ds) => (m g).bind fun r => if (!r.isBw && decide (ds.length < LIM)) = true then some (.nx (g.set i (.ow (ds ++ [r.d])))) else none
  | _ => none
theorem sv_app {i : Nat} {x : Str} {pos p1 p2 p3 : Pos} (hx : PE X (.Name x p1) (tVar i)) (he : EV X ca e m) (hs1 : starEach [e] X.env = (false, eval e X.env) :: starEach [] X.env := by rfl)
    (h : PE X (.Call (.Attribute (.Name x p1) "append" p2) [e] [] p3) (tBM X.K "list" rAppend (tVar i) (tCons (tEV X.K ca m) tNil)))
    (hs : swapsWith (.Call (.Attribute (.Name x p1) "append" p2) [e] [] p3) none pos.line X.env = pure false := by rfl) : SV X ca (.Expr (.Call (.Attribute (.Name x p1) "append" p2) [e] [] p3) pos) (sApp i m) [i] := by
  refine ⟨ps_imp (ps_expr h hs) ?_, fun g o e => ?_⟩
  · rintro D σ H ⟨H0, F0, F, Γ, o, S, e, p⟩
    unfold sApp at e
    split at e
    · rename_i ds hg
      obtain ⟨r, er, e⟩ := Option.bind_eq_some_iff.mp e
      split at e
      · rename_i hc
        cases e
        rw [Bool.and_eq_true, decide_eq_true_eq] at hc
        obtain ⟨a, vs, s, h1, h2, h3, h4⟩ := S.ow i ds hg
        refine ⟨_, s, .inl ⟨rfl, vs, SqL.of h3⟩, H0, F0, F, Γ, r, S, er, fun v H1 F1 x1 r1 => ?_⟩
        obtain ⟨F2, x2, s2, d2⟩ := RV.froze x1 r1 (by simpa using hc.1)
        refine ⟨a, vs, v, rfl, rfl, x2.hh _ _ h3, by rw [lim_eq, h4.length]; exact hc.2, ?_⟩
        have S2 := S.mono x2
        exact p σ _ F2 (S2.upd hg s ((h4.mono x2.ff).append (.one d2))) x2.ff .refl
      · cases e
    · cases e
  · unfold sApp at e
    split at e
    · obtain ⟨r, er, e⟩ := Option.bind_eq_some_iff.mp e
      split at e
      · cases e
        exact kpg_set
      · cases e
    · cases e
/-- an own list is frozen, at no cost: ahead of a statement -/
def sFz (i : Nat) (m : Gm → Option Out) : Gm → Option Out := fun g => match g[i]? with
  | some (.ow ds) => m (g.set i (.va (.lst ds)))
  | _ => m g
theorem sv_fz {i : Nat} {st : Stmt} {m : Gm → Option Out} {T : List Nat} (h : SV X ca st m T) : SV X ca st (sFz i m) (i :: T) := by
  have i2 : ∀ j ∈ T, j ∈ i :: T := fun j h => List.mem_cons_of_mem _ h
  refine ⟨ps_imp h.ps ?_, fun g o e => ?_⟩
  · rintro D σ H ⟨H0, F0, F, Γ, o, S, e, p⟩
    unfold sFz at e
    split at e
    · rename_i ds hg
      obtain ⟨F', sf, S'⟩ := S.frz hg
      exact ⟨H0, F0, F', _, o, S', e, PostO.mono (T := []) sf .refl (fun _ z => nomatch z) i2 p⟩
    · exact ⟨H0, F0, F, Γ, o, S, e, PostO.mono (T := []) (Same.refl _) .refl (fun _ z => nomatch z) i2 p⟩
  · unfold sFz at e
    split at e
    · exact KpG.after (g' := g.set i _) (T := [i]) kpg_set (h.kp _ _ e) (by simp) i2
    · exact (h.kp _ _ e).mono i2
end
end BK
namespace BK
open PySem PySem.Spec L2
open PyProof.Rows (envOfC)
set_option autoImplicit false
/-! ### calls of the text's own defs -/
abbrev NB : BT := fun _ _ _ => False
abbrev Phi := List D → Option R
def spOf (K : PySem.W.Frag) (ca : Nat → Addr) (φ : Phi) : Sp := fun vs H Q _ => ∃ ds F r, Same F H ∧ Dens K ca F vs ds ∧ φ ds = some r ∧ ∀ v H' F', Ext H F H' F' → RV K ca NB H F' H' v r → Q v H'
/-- a def as its callers see it: its value is φ's; dds: the defaults that fill up -/
structure Callee (P : Program) (w : World) (K : PySem.W.Frag) (mg : Str → Option Value) (base : Heap) (ca : Nat → Addr) (k : Nat) (x : Str) (φ : Phi) (dds : List D) : Prop where
  ex : ∃ (f : Addr) (fd : FuncData) (ps : List Str) (dvs : List V) (ds : List Value), FnOk P w K mg base CX0 k f fd ps (spOf K ca φ) ∧ mg x = some (.ref f) ∧ PySem.W.keepIn K (.ref f) = true ∧ Binds K fd ps ds ∧ Vals dvs ds ∧ ∀ F, Dens K ca F dvs dds
theorem Callee.mono {P : Program} {w : World} {K : PySem.W.Frag} {mg : Str → Option Value} {base : Heap} {ca : Nat → Addr} {j k : Nat} {x : Str} {φ : Phi} {dds : List D} (C : Callee P w K mg base ca j x φ dds) (h : j ≤ k) : Callee P w K mg base ca k x φ dds := by
  obtain ⟨f, fd, ps, dvs, ds, F, r⟩ := C.ex
  exact ⟨f, fd, ps, dvs, ds, F.mono h, r⟩
/-- no list within -/
def lfn : Nat → D → Bool
  | _, .non => true
  | _, .bl _ => true
  | _, .int _ => true
  | _, .str _ => true
  | n + 1, .tup xs => xs.all (lfn n)
  | n + 1, .ins _ xs => xs.all (lfn n)
  | _, _ => false
def R.lf : R → Bool
  | .va d => lfn 8 d
  | .tm ds => ds.all (lfn 8)
  | .bw _ _ => false
theorem lf_den {K : PySem.W.Frag} {ca : Nat → Addr} {F F' : Hp} (h : ∀ b o, F b = some o → (∀ xs, o ≠ .lst xs) → F' b = some o) : ∀ (n : Nat) {d : D} {v : V}, lfn n d = true → Den K ca F v d → Den K ca F' v d := by
  have all : ∀ (g : D → Bool), (∀ {d : D} {v : V}, g d = true → Den K ca F v d → Den K ca F' v d) → ∀ {ds : List D} {vs : List V}, ds.all g = true → Dens K ca F vs ds → Dens K ca F' vs ds := by
    intro g hg ds vs e hd
    induction ds generalizing vs with
    | nil => cases hd; exact .nil
    | cons d ds ih =>
      cases hd with
      | cons h1 h2 =>
        rw [List.all_cons, Bool.and_eq_true] at e
        exact .cons (hg e.1 h1) (ih e.2 h2)
  have tup : ∀ {a : Addr} {xs : List V}, SqT K F a xs → SqT K F' a xs := by
    rintro a xs ((z | ⟨o, z⟩) | z)
    · exact .inl (.inl (h _ _ z (by intro ys; intro q; cases q)))
    · exact .inl (.inr ⟨o, h _ _ z (by intro ys; intro q; cases q)⟩)
    · exact .inr z
  intro n
  induction n with
  | zero =>
    intro d v e hd
    cases hd <;> first
      | (simp [lfn] at e; done)
      | constructor
  | succ n ih =>
    intro d v e hd
    cases hd with
    | lst _ _ => simp [lfn] at e
    | rol _ _ => simp [lfn] at e
    | tup t hs => exact .tup (tup t) (all (lfn n) ih e hs)
    | ins t e2 hs => exact .ins (h _ _ t (by intro ys; intro q; cases q)) e2 (all (lfn n) ih e hs)
    | non => exact .non
    | bl b => exact .bl b
    | int i => exact .int i
    | str x => exact .str x
theorem lf_dens {K : PySem.W.Frag} {ca : Nat → Addr} {F F' : Hp} (h : ∀ b o, F b = some o → (∀ xs, o ≠ .lst xs) → F' b = some o) : ∀ {ds : List D} {vs : List V}, ds.all (lfn 8) = true → Dens K ca F vs ds → Dens K ca F' vs ds
  | [], _, _, hd => by cases hd; exact .nil
  | d :: ds, _, e, hd => by
    cases hd with
    | cons h1 h2 =>
      rw [List.all_cons, Bool.and_eq_true] at e
      exact .cons (lf_den h 8 e.1 h1) (lf_dens h e.2 h2)
def R.isTm : R → Bool
  | .tm _ => true
  | _ => false
/-- the call by values: where an own list is lent the answer has no list within -/
def callR (φ : Phi) (dds : List D) (rs : List R) : Option R := if (rs.any R.isTm) = true then none else (φ (rs.map R.d ++ dds)).bind fun r => if (!rs.any R.isBw || r.lf) = true then some r else none
section
variable {X : Cx} {ca : Nat → Addr}
theorem call_core {H0 F0 H F : Hp} {σ : L2.St} {Γ : Gm} {vs dvs : List V} {rs : List R} {dds : List D} {φ : Phi} {z : R} {Hs : Hp} {Q : VK} {E : XK} (S : SR X.K ca H0 F0 σ H F Γ) (hr : RVs X.K ca (BB σ Γ) Hs F H vs rs) (hd : Dens X.K ca F dvs dds) (e : callR φ dds rs = some z)
    (q : ∀ v H' F', Ext H F H' F' → RV X.K ca (BB σ Γ) H F' H' v z → Q v H') : spOf X.K ca φ (vs ++ dvs) H Q E := by
  classical
  unfold callR at e
  split at e
  · cases e
  rename_i htm
  obtain ⟨r, er, e⟩ := Option.bind_eq_some_iff.mp e
  by_cases hlf : (!rs.any R.isBw || r.lf) = true
  rotate_left
  · rw [if_neg hlf] at e
    cases e
  rw [if_pos hlf] at e
  cases e
  have s := S.ext.fh
  -- what is lent
  let Bp : Addr → Prop := fun b => ∃ j ds vs, BB σ Γ j b ds ∧ F b = none ∧ H b = some (.lst vs) ∧ rs.any R.isBw = true
  let F3 : Hp := fun b => if Bp b then H b else F b
  have s13 : Same F F3 := fun b o h => by
    show (if Bp b then H b else F b) = some o
    by_cases hb : Bp b
    · obtain ⟨_, _, _, _, h2, _⟩ := hb
      rw [h2] at h; cases h
    · rw [if_neg hb]; exact h
  have s3 : Same F3 H := fun b o h => by
    have h : (if Bp b then H b else F b) = some o := h
    by_cases hb : Bp b
    · rw [if_pos hb] at h; exact h
    · rw [if_neg hb] at h; exact s b o h
  have dens : ∀ {us : List V} {ts : List R}, RVs X.K ca (BB σ Γ) Hs F H us ts → (∀ t ∈ ts, t.isTm = false) → (∀ t ∈ ts, t.isBw = true → rs.any R.isBw = true) → Dens X.K ca F3 us (ts.map R.d) := by
    intro us ts h
    induction h with
    | nil => intro _ _; exact .nil
    | cons h hs ih =>
      rename_i v t us ts
      intro g1 g2
      refine .cons ?_ (ih (fun t ht => g1 t (List.mem_cons_of_mem _ ht)) fun t ht => g2 t (List.mem_cons_of_mem _ ht))
      cases t with
      | va d => exact Den.mono s13 h
      | tm ds => exact absurd (g1 _ List.mem_cons_self) (by simp [R.isTm])
      | bw j ds =>
        obtain ⟨a, ws, rfl, hb, h2, h3, h4⟩ := h
        have hB : Bp a := ⟨j, ds, ws, hb, h2, h3, g2 _ List.mem_cons_self rfl⟩
        refine .lst (.inl ?_) (h4.mono s13)
        show (if Bp a then H a else F a) = some (.lst ws)
        rw [if_pos hB]; exact h3
  have htm' : ∀ t ∈ rs, t.isTm = false := fun t ht => by
    cases q : t.isTm with
    | false => rfl
    | true => exact absurd (List.any_eq_true.mpr ⟨t, ht, q⟩) htm
  refine ⟨rs.map R.d ++ dds, F3, z, s3, (dens hr htm' fun t ht hb => List.any_eq_true.mpr ⟨t, ht, hb⟩).append (hd.mono s13), er, fun v H' F4 x4 r4 => ?_⟩
  let F5 : Hp := fun b => if Bp b then none else F4 b
  have s15 : Same F F5 := fun b o h => by
    show (if Bp b then none else F4 b) = some o
    by_cases hb : Bp b
    · obtain ⟨_, _, _, _, h2, _⟩ := hb
      rw [h2] at h; cases h
    · rw [if_neg hb]; exact x4.ff _ _ (s13 b o h)
  have s54 : Same F5 F4 := fun b o h => by
    have h : (if Bp b then none else F4 b) = some o := h
    by_cases hb : Bp b
    · rw [if_pos hb] at h; cases h
    · rw [if_neg hb] at h; exact h
  have x5 : Ext H F H' F5 := ⟨x4.hh, s15, s54.trans x4.fh, fun b h => by
    have h : (if Bp b then none else F4 b) ≠ none := h
    by_cases hb : Bp b
    · rw [if_pos hb] at h; exact absurd rfl h
    · rw [if_neg hb] at h
      rcases x4.nw b h with z | z
      · have z : (if Bp b then H b else F b) ≠ none := z
        rw [if_neg hb] at z
        exact .inl z
      · exact .inr z⟩
  by_cases hbw : rs.any R.isBw = true
  · have lf : z.lf = true := by
      rw [hbw] at hlf
      simpa using hlf
    have res : ∀ b o, F4 b = some o → (∀ xs, o ≠ .lst xs) → F5 b = some o := fun b o h hn => by
      show (if Bp b then none else F4 b) = some o
      by_cases hb : Bp b
      · exfalso
        obtain ⟨_, _, ws, _, h2, h3, _⟩ := id hb
        have h4 : F3 b = some (.lst ws) := by
          show (if Bp b then H b else F b) = _
          rw [if_pos hb]; exact h3
        have h5 := x4.ff _ _ h4
        rw [h] at h5
        cases h5
        exact hn ws rfl
      · rw [if_neg hb]; exact h
    refine q v H' F5 x5 ?_
    cases z with
    | va d => exact lf_den res 8 lf r4
    | tm ds =>
      obtain ⟨a, ws, rfl, h1, h2, h3, h4⟩ := r4
      refine ⟨a, ws, rfl, h1, ?_, h3, lf_dens res lf h4⟩
      show (if Bp a then none else F4 a) = none
      split
      · rfl
      · exact h2
    | bw j ds => cases lf
  · have e5 : F5 = F4 := funext fun b => by
      show (if Bp b then none else F4 b) = F4 b
      rw [if_neg fun ⟨_, _, _, _, _, _, z⟩ => hbw z]
    rw [e5] at x5
    refine q v H' F4 x5 ?_
    cases z with
    | va d => exact r4
    | tm ds => exact r4
    | bw j ds =>
      obtain ⟨_, _, _, h, _⟩ := r4
      exact h.elim
variable {k j : Nat} {x : Str} {φ : Phi} {dds : List D} {p pos : Pos} {e : Expr} {es : List Expr} {ms : Gm → Option (List R)}
theorem t_fn {dvs : List V} {E : XK} (hd : ∀ F, Dens X.K ca F dvs dds) {σ : L2.St} {H : Hp} {Q : VK} (h : tEV X.K ca (eA (callR φ dds) ms) σ H Q) : tCall (spOf X.K ca φ) dvs E (tAV X.K ca ms) σ H Q := by
  obtain ⟨H0, F0, F, Γ, z, S, e, q⟩ := h
  unfold eA at e
  obtain ⟨rs, er, e⟩ := Option.bind_eq_some_iff.mp e
  refine ⟨H0, F0, F, Γ, rs, S, er, fun vs H1 F1 x1 r1 => ?_⟩
  exact call_core (S.mono x1) r1 (hd F1) e fun v H2 F2 x2 r2 => q v H2 F2 (x1.trans x2) (r2.back x1.hh)
theorem ev_fn (C : Callee X.prog X.w X.K X.mg X.base ca j x φ dds) (hr : Room j X.A) (hg : Gl X x) (ha : AV X ca (e :: es) ms) (hdb : (x == ("__debug__" : Str)) = false := by decide)
    (he : starEach (e :: es) X.env = (false, eval e X.env) :: starEach es X.env := by rfl) (hpl : (backTo pos (starEach es X.env)).any (·.1) = false := by rfl) : EV X ca (.Call (.Name x p) (e :: es) [] pos) (eA (callR φ dds) ms) := by
  obtain ⟨f, fd, ps, dvs, ds, G, hm, hk, hb, hv, hd⟩ := C.ex
  exact pe_imp (pe_call G hr hg hm hk hb hv pass0 ha hdb he hpl) fun σ H Q h => t_fn hd h
theorem ev_fn0 (C : Callee X.prog X.w X.K X.mg X.base ca j x φ dds) (hr : Room j X.A) (hg : Gl X x) (hdb : (x == ("__debug__" : Str)) = false := by decide) : EV X ca (.Call (.Name x p) [] [] pos) (eA (callR φ dds) aN) := by
  obtain ⟨f, fd, ps, dvs, ds, G, hm, hk, hb, hv, hd⟩ := C.ex
  refine pe_imp (pe_call0 G hr hg hm hk hb hv pass0 hdb) fun σ H Q h => ?_
  obtain ⟨H0, F0, F, Γ, z, S, e, q⟩ := h
  exact call_core (E := E0) (Hs := H) S (rs := []) .nil (hd F) e q
end
/-! ### a def by its body -/
/-- the def as a function of data -/
def phi (m : Gm → Option Out) (N n : Nat) : Phi := fun ds => if ds.length = n then match m (ds.map Slot.va ++ List.replicate (N - n) Slot.un) with
  | some (.rt r) => some (retR r)
  | some (.nx _) => some (.va .non)
  | _ => none
  else none
theorem start_get {N : List Str} {vs : List V} {i : Nat} {v : V} (h : vs[i]? = some v) : (L2.start N vs)[i]? = some (some v) := by
  unfold L2.start
  have hi : i < vs.length := (List.getElem?_eq_some_iff.mp h).1
  rw [List.getElem?_append_left (by simpa using hi), List.getElem?_map, h]
  rfl
theorem sr_start {K : PySem.W.Frag} {ca : Nat → Addr} {H F : Hp} {N : List Str} {vs : List V} {ds : List D} (s : Same F H) (h : Dens K ca F vs ds) : SR K ca H F (L2.start N vs) H F (ds.map Slot.va ++ List.replicate (N.length - ds.length) Slot.un) := by
  have key : ∀ (i : Nat) (x : Slot), (ds.map Slot.va ++ List.replicate (N.length - ds.length) Slot.un)[i]? = some x → x = .un ∨ ∃ d, x = .va d ∧ ds[i]? = some d := by
    intro i x e
    by_cases hi : i < ds.length
    · rw [List.getElem?_append_left (by simpa using hi), List.getElem?_map] at e
      cases q : ds[i]? with
      | none => rw [q] at e; cases e
      | some d => rw [q] at e; cases e; exact .inr ⟨d, rfl, rfl⟩
    · rw [List.getElem?_append_right (by simpa using hi), List.getElem?_replicate] at e
      split at e
      · cases e; exact .inl rfl
      · cases e
  refine ⟨.refl s, ?_, fun i d e => ?_, fun i es e => ?_, fun i j es fs a n e1 e2 => ?_⟩
  · unfold L2.start
    rw [List.length_append, List.length_append, List.length_map, List.length_map, List.length_replicate, List.length_replicate, h.length]
  · rcases key i _ e with z | ⟨d', z, g⟩
    · cases z
    · cases z
      obtain ⟨v, h1, h2⟩ := h.getV g
      exact ⟨v, start_get h1, h2⟩
  · rcases key i _ e with z | ⟨d', z, g⟩ <;> cases z
  · rcases key i _ e1 with z | ⟨d', z, g⟩ <;> cases z
section
variable {P : Program} {w : World} {K : PySem.W.Frag} {mg : Str → Option Value} {base : Heap} {ca : Nat → Addr}
theorem fn_ok {x qual : Str} {st : Stmt} {f : Addr} {fd : FuncData} {N ps : List Str} {k n nN : Nat} {m : Gm → Option Out} {T : List Nat} {φ : Phi} (F : Fun K x qual st f fd) (S : FnScope N ps (defScope st)) (hn : ps.length = n) (hN : N.length = nN) (hφ : φ = phi m nN n)
    (hbody : ∀ (cdv : Value) (A : Around) (outer : List Env) (s : Shared) (H : Hp) (E : XK), Room k (A.deeper (envOfC qual (defScope st) s.heap.objs.size f cdv)) →
      SVs (cxOf CX0 P w K mg base N qual (defScope st) f cdv A outer s H E).nox ca (defBody st) m T) : FnOk P w K mg base CX0 (k + 1) f fd ps (spOf K ca φ) := by
  subst hφ
  subst hn
  subst hN
  refine F.ok S (fun vs H Q E ⟨ds, F0, r, s, h, e, _⟩ => ?_) (fun cdv A outer s H vs Q E hr ⟨ds, F0, r, sm, h, e, q⟩ => ?_)
  · unfold phi at e
    split at e
    · rw [h.length]; assumption
    · cases e
  · have hb := hbody cdv A outer s H E hr
    refine ⟨_, hb.ps, ?_⟩
    unfold phi at e
    split at e
    · rename_i hl
      have S0 : SR K ca H F0 (L2.start N vs) H F0 (ds.map Slot.va ++ List.replicate (N.length - ps.length) Slot.un) := by
        rw [← hl]
        exact sr_start sm h
      split at e
      · rename_i r' em
        cases e
        refine ⟨H, F0, F0, _, _, S0, em, fun v H' F' x rv => q v H' F' x ?_⟩
        cases r' with
        | va d => exact rv
        | tm ds => exact rv
        | bw j ds =>
          obtain ⟨_, _, _, z, _⟩ := rv
          exact z.elim
      · rename_i g em
        cases e
        exact ⟨H, F0, F0, _, _, S0, em, fun σ' H' F' S' _ _ => q _ H' F' S'.ext .non⟩
      · cases e
    · cases e
theorem fn_callee {x qual : Str} {st : Stmt} {f : Addr} {fd : FuncData} {ps : List Str} {k : Nat} {φ : Phi} {ds : List Value} {dvs : List V} {dds : List D} (F : Fun K x qual st f fd) (G : FnOk P w K mg base CX0 k f fd ps (spOf K ca φ)) (hm : mg x = some (.ref f)) (hb : Binds K fd ps ds) (hv : Vals dvs ds) (hd : ∀ F, Dens K ca F dvs dds) :
    Callee P w K mg base ca k x φ dds := ⟨f, fd, ps, dvs, ds, G, hm, F.kp, hb, hv, hd⟩
end
end BK
namespace BK
open PySem PySem.Spec L2
open PyProof.Rows (envOfC)
set_option autoImplicit false
/-! ### what is walked -/
def listR : R → Option (List Nat × List D)
  | .bw j ds => some ([j], ds)
  | .tm ds => some ([], ds)
  | .va (.lst ds) => some ([], ds)
  | .va (.rol ds) => some ([], ds)
  | _ => none
def signs (z : Str) : List D := z.cps.toList.map fun c => .str ⟨#[c]⟩
def seqR : R → Option (List Nat × List D)
  | .va (.tup ds) => some ([], ds)
  | .va (.str z) => some ([], signs z)
  | r => listR r
def iSeq (m : Gm → Option R) : Gm → Option (List Nat × List D) := fun g => (m g).bind seqR
section
variable {X : Cx} {ca : Nat → Addr}
theorem pi_or {tg e : Expr} {t t' : TI} (h : PI X tg e t) (h' : PI X tg e t') : PI X tg e (fun σ H R => t σ H R ∨ t' σ H R) := ⟨fun pins s σ H R I q => by
  rcases q with q | q
  · exact h.run pins s σ H R I q
  · exact h'.run pins s σ H R I q⟩
/-- a list walked: what J needs -/
structure LOk (K : PySem.W.Frag) (ca : Nat → Addr) (F1 : Hp) (a : Addr) (PL : List (Nat × Addr × List D)) (ds : List D) : Prop where
  rd : ∀ (H F : Hp), Same F1 F → Same F H → (∀ p ∈ PL, ∃ vs, H p.2.1 = some (.lst vs) ∧ Dens K ca F vs p.2.2) → ∃ vs, SqL K H a vs ∧ Dens K ca F vs ds
theorem LOk.mono {K : PySem.W.Frag} {F1 F2 : Hp} {a : Addr} {PL PL' : List (Nat × Addr × List D)} {ds : List D} (h : LOk K ca F1 a PL ds) (s : Same F1 F2) (i : ∀ p ∈ PL, p ∈ PL') : LOk K ca F2 a PL' ds :=
  ⟨fun H F s1 s2 q => h.rd H F (s.trans s1) s2 fun p hp => q p (i p hp)⟩
/-- a list result is ready to be walked -/
theorem RV.walk {K : PySem.W.Frag} {σ : L2.St} {Γ : Gm} {H F H1 F1 : Hp} {v : V} {r : R} {ps : List Nat} {ds : List D} (x : Ext H F H1 F1) (h : RV K ca (BB σ Γ) H F1 H1 v r) (e : listR r = some (ps, ds)) :
    ∃ a F2 PL, v = .ref a ∧ Ext H F H1 F2 ∧ Same F1 F2 ∧ LOk K ca F2 a PL ds ∧ ∀ q ∈ PL, q.1 ∈ ps ∧ BB σ Γ q.1 q.2.1 q.2.2 := by
  cases r with
  | bw j es =>
    cases e
    obtain ⟨a, vs, rfl, hb, h2, h3, h4⟩ := h
    refine ⟨a, F1, [(j, a, ds)], rfl, x, Same.refl _, ⟨fun H' F' s1 s2 q => ?_⟩, fun q hq => ?_⟩
    · obtain ⟨ws, g1, g2⟩ := q _ (List.mem_singleton.mpr rfl)
      exact ⟨ws, SqL.of g1, g2⟩
    · rw [List.mem_singleton] at hq
      subst hq
      exact ⟨by simp, hb⟩
  | tm es =>
    cases e
    obtain ⟨a, vs, rfl, h1, h2, h3, h4⟩ := h
    exact ⟨a, upd F1 a (.lst vs), [], rfl, x.frz h1 h3 h2, same_upd h2, ⟨fun H' F' s1 s2 _ => ⟨vs, SqL.of (s2 _ _ (s1 _ _ upd_same)), h4.mono ((same_upd h2).trans s1)⟩⟩, fun q hq => by cases hq⟩
  | va d =>
    cases d <;> first
      | (cases e; done)
      | (cases e
         cases h with
         | lst h hs => exact ⟨_, F1, [], rfl, x, Same.refl _, ⟨fun H' F' s1 s2 _ => ⟨_, rd_l (Same.rd (s1.trans s2) h), hs.mono s1⟩⟩, fun q hq => by cases hq⟩)
      | (cases e
         cases h with
         | rol h hs => exact ⟨_, F1, [], rfl, x, Same.refl _, ⟨fun H' F' s1 s2 _ => ⟨_, (s1.trans s2).seq h, hs.mono s1⟩⟩, fun q hq => by cases hq⟩)
/-- .. of an argument (no temporary) -/
def listA : R → Option (List Nat × List D)
  | .bw j ds => some ([j], ds)
  | .va (.lst ds) => some ([], ds)
  | .va (.rol ds) => some ([], ds)
  | _ => none
theorem RV.walkA {K : PySem.W.Frag} {σ : L2.St} {Γ : Gm} {Hs H1 F1 : Hp} {v : V} {r : R} {ps : List Nat} {ds : List D} (h : RV K ca (BB σ Γ) Hs F1 H1 v r) (e : listA r = some (ps, ds)) :
    ∃ a PL, v = .ref a ∧ LOk K ca F1 a PL ds ∧ ∀ q ∈ PL, q.1 ∈ ps ∧ BB σ Γ q.1 q.2.1 q.2.2 := by
  cases r with
  | bw j es =>
    cases e
    obtain ⟨a, vs, rfl, hb, h2, h3, h4⟩ := h
    refine ⟨a, [(j, a, ds)], rfl, ⟨fun H' F' s1 s2 q => ?_⟩, fun q hq => ?_⟩
    · obtain ⟨ws, g1, g2⟩ := q _ (List.mem_singleton.mpr rfl)
      exact ⟨ws, SqL.of g1, g2⟩
    · rw [List.mem_singleton] at hq
      subst hq
      exact ⟨by simp, hb⟩
  | tm es => cases e
  | va d =>
    cases d <;> first
      | (cases e; done)
      | (cases e
         cases h with
         | lst h hs => exact ⟨_, [], rfl, ⟨fun H' F' s1 s2 _ => ⟨_, rd_l (Same.rd (s1.trans s2) h), hs.mono s1⟩⟩, fun q hq => by cases hq⟩)
      | (cases e
         cases h with
         | rol h hs => exact ⟨_, [], rfl, ⟨fun H' F' s1 s2 _ => ⟨_, (s1.trans s2).seq h, hs.mono s1⟩⟩, fun q hq => by cases hq⟩)
theorem jok_list {K : PySem.W.Frag} {F1 : Hp} {a : Addr} {PL : List (Nat × Addr × List D)} {ds : List D} (h : LOk K ca F1 a PL ds) : JOk K ca F1 (Itl K a) PL ds := by
  refine ⟨fun i d H F e s1 s2 q => ?_, fun H F s1 s2 q => ?_⟩
  · obtain ⟨vs, g1, g2⟩ := h.rd H F s1 s2 q
    obtain ⟨v, e1, e2⟩ := g2.getV e
    refine ⟨⟨vs, v, g1, e1⟩, ?_⟩
    rintro x H' ⟨rfl, y⟩
    have := y vs g1
    rw [e1] at this
    cases this
    exact ⟨F, .refl s2, e2⟩
  · obtain ⟨vs, g1, g2⟩ := h.rd H F s1 s2 q
    exact ⟨vs, g1, by rw [g2.length]; exact Nat.le_refl _⟩
variable {tg e : Expr} {es : List Expr} {m : Gm → Option R} {ms : Gm → Option (List R)} {p pos : Pos}
theorem iv_seq (he : EV X ca e m) : IV X ca tg e (iSeq m) := by
  refine pi_imp (pi_or (pi_list he) (pi_or (pi_tup he) (pi_str he))) ?_
  rintro σ H R' ⟨H0, F0, F, Γ, ⟨ps, ds⟩, S, e, q⟩
  unfold iSeq at e
  obtain ⟨r, er, e⟩ := Option.bind_eq_some_iff.mp e
  have lst : listR r = some (ps, ds) → iList X.K (tEV X.K ca m) σ H R' := fun e => by
    refine ⟨H0, F0, F, Γ, r, S, er, fun v H1 F1 x1 r1 => ?_⟩
    obtain ⟨a, F2, PL, rfl, x2, s2, lo, hb⟩ := RV.walk x1 r1 e
    refine ⟨a, rfl, ?_, q _ H1 F2 PL x2 (jok_list lo) hb⟩
    have hpin : ∀ p ∈ PL, ∃ vs, H1 p.2.1 = some (.lst vs) ∧ Dens X.K ca F2 vs p.2.2 := fun p hp => by
      obtain ⟨z1, z2⟩ := (hb p hp).2
      obtain ⟨a, vs, y1, _, _, y4, y5⟩ := (S.mono x2).ow _ _ z2
      rw [z1] at y1
      cases y1
      exact ⟨vs, y4, y5⟩
    obtain ⟨vs, g1, _⟩ := lo.rd H1 F2 (Same.refl _) x2.fh hpin
    exact ⟨vs, g1⟩
  unfold seqR at e
  split at e
  · rename_i es
    cases e
    refine .inr (.inl ⟨H0, F0, F, Γ, _, S, er, fun v H1 F1 x1 r1 => ?_⟩)
    cases r1 with
    | @tup a xs _ t hs =>
      refine ⟨_, rfl, ⟨_, Same.seqT x1.fh t⟩, q _ H1 F1 [] x1 ⟨fun i d H2 F2 e s1 s2 _ => ?_, fun H2 F2 s1 s2 _ => ?_⟩ fun q hq => by cases hq⟩
      · obtain ⟨v, e1, e2⟩ := hs.getV e
        have t2 := Same.seqT (s1.trans s2) t
        refine ⟨⟨_, v, t2, e1⟩, ?_⟩
        rintro x H' ⟨rfl, y⟩
        have := y _ t2
        rw [e1] at this
        cases this
        exact ⟨F2, .refl s2, e2.mono s1⟩
      · exact ⟨_, Same.seqT (s1.trans s2) t, by rw [hs.length]; exact Nat.le_refl _⟩
  · rename_i z
    cases e
    refine .inr (.inr ⟨H0, F0, F, Γ, _, S, er, fun v H1 F1 x1 r1 => ?_⟩)
    cases r1
    refine ⟨z, rfl, q _ H1 F1 [] x1 ⟨fun i d H2 F2 e s1 s2 _ => ?_, fun H2 F2 s1 s2 _ => ?_⟩ fun q hq => by cases hq⟩
    · have hi : i < (signs z).length := (List.getElem?_eq_some_iff.mp e).1
      have hz : (signs z).length = z.cps.size := by simp [signs]
      refine ⟨by show i < z.cps.size; omega, ?_⟩
      rintro x H' ⟨rfl, c, hc, rfl⟩
      refine ⟨F2, .refl s2, ?_⟩
      have hs : (signs z)[i]? = some (.str ⟨#[c]⟩) := by
        unfold signs
        rw [List.getElem?_map, Array.getElem?_toList, hc]
        rfl
      have e : (signs z)[i]? = some d := e
      rw [hs] at e
      cases e
      exact .str _
    · show z.cps.size ≤ (signs z).length
      simp [signs]
  · exact .inl (lst e)
/-! ranges -/
def rangeL (lo : Int) : Nat → List D
  | 0 => []
  | n + 1 => .int lo :: rangeL (lo + 1) n
theorem rangeL_length (n : Nat) : ∀ lo, (rangeL lo n).length = n := by
  induction n with
  | zero => intro _; rfl
  | succ n ih => intro lo; show (rangeL (lo + 1) n).length + 1 = n + 1; rw [ih]
theorem rangeL_get (n : Nat) : ∀ (lo : Int) (i : Nat), i < n → (rangeL lo n)[i]? = some (.int (lo + i)) := by
  induction n with
  | zero => intro _ i h; omega
  | succ n ih =>
    intro lo i h
    cases i with
    | zero => show some (D.int lo) = _; simp
    | succ i =>
      show (rangeL (lo + 1) n)[i]? = _
      rw [ih (lo + 1) i (by omega)]
      congr 2
      omega
def rg1R (rs : List R) : Option (List Nat × List D) := match rs with
  | [.va (.int j)] => if -(2 ^ 62) ≤ j ∧ j < 2 ^ 62 then some ([], rangeL 0 j.toNat) else none
  | _ => none
def rg2R (rs : List R) : Option (List Nat × List D) := match rs with
  | [.va (.int i), .va (.int j)] => if -(2 ^ 62) ≤ i ∧ i < 2 ^ 62 ∧ -(2 ^ 62) ≤ j ∧ j < 2 ^ 62 then some ([], rangeL i (j - i).toNat) else none
  | _ => none
def iA (f : List R → Option (List Nat × List D)) (ms : Gm → Option (List R)) : Gm → Option (List Nat × List D) := fun g => (ms g).bind f
theorem jok_rng {K : PySem.W.Frag} {F1 : Hp} {PL : List (Nat × Addr × List D)} (lo : Int) (n : Nat) : JOk K ca F1 (Itr lo n) PL (rangeL lo n) := by
  refine ⟨fun i d H F e s1 s2 q => ?_, fun H F s1 s2 q => ?_⟩
  · have hi : i < n := by
      have := (List.getElem?_eq_some_iff.mp e).1
      rw [rangeL_length] at this
      exact this
    rw [rangeL_get n lo i hi] at e
    cases e
    refine ⟨hi, ?_⟩
    rintro x H' ⟨rfl, rfl⟩
    exact ⟨F, .refl s2, .int _⟩
  · show n ≤ (rangeL lo n).length
    rw [rangeL_length]
    exact Nat.le_refl _
theorem iv_rg1 {a : Expr} (hg : Gl X "range") (hm : X.mg "range" = none) (ha : AV X ca [a] ms) (hs : starEach [a] X.env = [(false, eval a X.env)] := by rfl) : IV X ca tg (.Call (.Name "range" p) [a] [] pos) (iA rg1R ms) := by
  refine pi_imp (pi_range1 hg hm ha hs) ?_
  rintro σ H R' ⟨H0, F0, F, Γ, ⟨ps, ds⟩, S, e, q⟩
  unfold iA at e
  obtain ⟨rs, er, e⟩ := Option.bind_eq_some_iff.mp e
  refine ⟨H0, F0, F, Γ, rs, S, er, fun vs H1 F1 x1 r1 => ?_⟩
  unfold rg1R at e
  split at e
  · split at e
    · rename_i h
      cases e
      cases r1 with
      | cons h1 hs =>
        cases hs
        cases h1
        exact ⟨_, rfl, h.1, h.2, q _ H1 F1 [] x1 (jok_rng 0 _) fun q hq => by cases hq⟩
    · cases e
  · cases e
theorem iv_rg2 {a b : Expr} (hg : Gl X "range") (hm : X.mg "range" = none) (ha : AV X ca [a, b] ms) (hs : starEach [a, b] X.env = [(false, eval a X.env), (false, eval b X.env)] := by rfl) (hs2 : starEach [b] X.env = [(false, eval b X.env)] := by rfl) : IV X ca tg (.Call (.Name "range" p) [a, b] [] pos) (iA rg2R ms) := by
  refine pi_imp (pi_range2 hg hm ha hs hs2) ?_
  rintro σ H R' ⟨H0, F0, F, Γ, ⟨ps, ds⟩, S, e, q⟩
  unfold iA at e
  obtain ⟨rs, er, e⟩ := Option.bind_eq_some_iff.mp e
  refine ⟨H0, F0, F, Γ, rs, S, er, fun vs H1 F1 x1 r1 => ?_⟩
  unfold rg2R at e
  split at e
  · split at e
    · rename_i h
      cases e
      cases r1 with
      | cons h1 hs =>
        cases hs with
        | cons h2 hs =>
          cases hs
          cases h1
          cases h2
          exact ⟨_, _, rfl, h, q _ H1 F1 [] x1 (jok_rng _ _) fun q hq => by cases hq⟩
    · cases e
  · cases e
/-! enumerate, zip, reversed -/
def enumL : Nat → List D → List D
  | _, [] => []
  | n, d :: ds => .tup [.int (n : Int), d] :: enumL (n + 1) ds
theorem enumL_get : ∀ (ds : List D) (n i : Nat), (enumL n ds)[i]? = (ds[i]?).map fun d => .tup [.int ((n + i : Nat) : Int), d]
  | [], n, i => by simp [enumL]
  | d :: ds, n, 0 => by simp [enumL]
  | d :: ds, n, i + 1 => by
    show (enumL (n + 1) ds)[i]? = (ds[i]?).map _
    rw [enumL_get ds (n + 1) i, show n + 1 + i = n + (i + 1) by omega]
theorem enumL_length : ∀ (ds : List D) (n : Nat), (enumL n ds).length = ds.length
  | [], _ => rfl
  | d :: ds, n => congrArg (· + 1) (enumL_length ds (n + 1))
def zipL : List D → List D → List D
  | a :: as, b :: bs => .tup [a, b] :: zipL as bs
  | _, _ => []
theorem zipL_get : ∀ (as bs : List D) (i : Nat) (d : D), (zipL as bs)[i]? = some d → ∃ a b, as[i]? = some a ∧ bs[i]? = some b ∧ d = .tup [a, b]
  | [], _, i, d, h => by simp [zipL] at h
  | a :: as, [], i, d, h => by simp [zipL] at h
  | a :: as, b :: bs, 0, d, h => by
    cases h
    exact ⟨a, b, rfl, rfl, rfl⟩
  | a :: as, b :: bs, i + 1, d, h => zipL_get as bs i d h
theorem zipL_length : ∀ (as bs : List D), (zipL as bs).length = min as.length bs.length
  | [], _ => by simp [zipL]
  | a :: as, [] => by simp [zipL]
  | a :: as, b :: bs => by
    show (zipL as bs).length + 1 = _
    rw [zipL_length as bs, List.length_cons, List.length_cons]
    omega
def enR (rs : List R) : Option (List Nat × List D) := match rs with
  | [r] => (listA r).map fun p => (p.1, enumL 0 p.2)
  | _ => none
def zpR (rs : List R) : Option (List Nat × List D) := match rs with
  | [r, s] => (listA r).bind fun p => (listA s).map fun q => (p.1 ++ q.1, zipL p.2 q.2)
  | _ => none
def rvR (rs : List R) : Option (List Nat × List D) := match rs with
  | [r] => (listA r).map fun p => (p.1, p.2.reverse)
  | _ => none
theorem pair_den {K : PySem.W.Frag} {H F : Hp} {a : Addr} {v w : V} {d e : D} (s : Same F H) (n : H a = none) (h1 : Den K ca F v d) (h2 : Den K ca F w e) : ∃ F', Ext H F (upd H a (.tup [v, w])) F' ∧ Den K ca F' (.ref a) (.tup [d, e]) :=
  ⟨_, .new s _ n, .tup (SqT.of upd_same) (.cons (h1.mono (same_upd (s.free n))) (.cons (h2.mono (same_upd (s.free n))) .nil))⟩
theorem pins_ok {K : PySem.W.Frag} {H0 F0 H F : Hp} {σ : L2.St} {Γ : Gm} {PL : List (Nat × Addr × List D)} {ps : List Nat} (S : SR K ca H0 F0 σ H F Γ) (hb : ∀ q ∈ PL, q.1 ∈ ps ∧ BB σ Γ q.1 q.2.1 q.2.2) : ∀ p ∈ PL, ∃ vs, H p.2.1 = some (.lst vs) ∧ Dens K ca F vs p.2.2 := fun p hp => by
  obtain ⟨z1, z2⟩ := (hb p hp).2
  obtain ⟨a, vs, y1, _, _, y4, y5⟩ := S.ow _ _ z2
  rw [z1] at y1
  cases y1
  exact ⟨vs, y4, y5⟩
theorem iv_enum {elts : List Expr} {kk : Nat} {tpos : Pos} (hg : Gl X "enumerate") (hm : X.mg "enumerate" = none) (ha : AV X ca [e] ms) (hs : starEach [e] X.env = [(false, eval e X.env)] := by rfl) : IV X ca (.Tuple elts kk tpos) (.Call (.Name "enumerate" p) [e] [] pos) (iA enR ms) := by
  refine pi_imp (pi_enum hg hm ha hs) ?_
  rintro σ H R' ⟨H0, F0, F, Γ, ⟨ps, ds⟩, S, e, q⟩
  unfold iA at e
  obtain ⟨rs, er, e⟩ := Option.bind_eq_some_iff.mp e
  refine ⟨H0, F0, F, Γ, rs, S, er, fun vs H1 F1 x1 r1 => ?_⟩
  unfold enR at e
  split at e
  · rename_i r
    obtain ⟨⟨ps1, ds1⟩, el, e⟩ := Option.map_eq_some_iff.mp e
    cases e
    cases r1 with
    | cons h1 hs =>
      cases hs
      obtain ⟨a, PL, rfl, lo, hb⟩ := RV.walkA h1 el
      obtain ⟨ws, g1, _⟩ := lo.rd H1 F1 (Same.refl _) x1.fh (pins_ok (S.mono x1) hb)
      refine ⟨a, ws, rfl, g1, q _ H1 F1 PL x1 ⟨fun i d H3 F3 e s1 s3 qp => ?_, fun H3 F3 s1 s3 qp => ?_⟩ hb⟩
      · obtain ⟨us, k1, k2⟩ := lo.rd H3 F3 s1 s3 qp
        have e : (enumL 0 ds1)[i]? = some d := e
        rw [enumL_get] at e
        obtain ⟨d', ed, rfl⟩ := Option.map_eq_some_iff.mp e
        obtain ⟨v, e1, e2⟩ := k2.getV ed
        refine ⟨⟨us, v, k1, e1⟩, ?_⟩
        rintro x H' ⟨T, y, rfl, hT, rfl, hy⟩
        have := hy us k1
        rw [e1] at this
        cases this
        rw [Nat.zero_add]
        exact pair_den s3 hT (.int _) e2
      · obtain ⟨us, k1, k2⟩ := lo.rd H3 F3 s1 s3 qp
        refine ⟨us, k1, ?_⟩
        rw [k2.length]
        show ds1.length ≤ (enumL 0 ds1).length
        rw [enumL_length]
        exact Nat.le_refl _
  · cases e
theorem iv_zip {e2 : Expr} {elts : List Expr} {kk : Nat} {tpos : Pos} (hg : Gl X "zip") (hm : X.mg "zip" = none) (ha : AV X ca [e, e2] ms)
    (hs : starEach [e, e2] X.env = (false, eval e X.env) :: starEach [e2] X.env := by rfl) (hpl : (backTo pos (starEach [e2] X.env)).any (·.1) = false := by rfl) : IV X ca (.Tuple elts kk tpos) (.Call (.Name "zip" p) [e, e2] [] pos) (iA zpR ms) := by
  refine pi_imp (pi_zip hg hm ha hs hpl) ?_
  rintro σ H R' ⟨H0, F0, F, Γ, ⟨ps, ds⟩, S, e, q⟩
  unfold iA at e
  obtain ⟨rs, er, e⟩ := Option.bind_eq_some_iff.mp e
  refine ⟨H0, F0, F, Γ, rs, S, er, fun vs H1 F1 x1 r1 => ?_⟩
  unfold zpR at e
  split at e
  · rename_i r s
    obtain ⟨⟨ps1, ds1⟩, el, e⟩ := Option.bind_eq_some_iff.mp e
    obtain ⟨⟨ps2, ds2⟩, el2, e⟩ := Option.map_eq_some_iff.mp e
    cases e
    cases r1 with
    | cons h1 hs =>
      cases hs with
      | cons h2 hs =>
        cases hs
        obtain ⟨a, PL, rfl, lo, hb⟩ := RV.walkA h1 el
        obtain ⟨b, PL', rfl, lo', hb'⟩ := RV.walkA h2 el2
        have hbb : ∀ q ∈ PL ++ PL', q.1 ∈ ps1 ++ ps2 ∧ BB σ Γ q.1 q.2.1 q.2.2 := fun q hq => by
          rcases List.mem_append.mp hq with z | z
          · exact ⟨List.mem_append_left _ (hb q z).1, (hb q z).2⟩
          · exact ⟨List.mem_append_right _ (hb' q z).1, (hb' q z).2⟩
        have lo := lo.mono (PL' := PL ++ PL') (Same.refl _) fun p hp => List.mem_append_left _ hp
        have lo' := lo'.mono (PL' := PL ++ PL') (Same.refl _) fun p hp => List.mem_append_right _ hp
        have pk := pins_ok (S.mono x1) hbb
        obtain ⟨ws, g1, _⟩ := lo.rd H1 F1 (Same.refl _) x1.fh pk
        obtain ⟨ws', g1', _⟩ := lo'.rd H1 F1 (Same.refl _) x1.fh pk
        refine ⟨a, b, ws, ws', rfl, g1, g1', q _ H1 F1 _ x1 ⟨fun i d H3 F3 e s1 s3 qp => ?_, fun H3 F3 s1 s3 qp => ?_⟩ hbb⟩
        · obtain ⟨us, k1, k2⟩ := lo.rd H3 F3 s1 s3 qp
          obtain ⟨us', k1', k2'⟩ := lo'.rd H3 F3 s1 s3 qp
          obtain ⟨da, db, ea, eb, rfl⟩ := zipL_get ds1 ds2 i d e
          obtain ⟨v, e1, e2⟩ := k2.getV ea
          obtain ⟨v', e1', e2'⟩ := k2'.getV eb
          refine ⟨⟨us, us', v, v', k1, k1', e1, e1'⟩, ?_⟩
          rintro x H' ⟨T, y, y', rfl, hT, rfl, hy, hy'⟩
          have q1 := hy us k1
          have q2 := hy' us' k1'
          rw [e1] at q1
          rw [e1'] at q2
          cases q1
          cases q2
          exact pair_den s3 hT e2 e2'
        · obtain ⟨us, k1, k2⟩ := lo.rd H3 F3 s1 s3 qp
          obtain ⟨us', k1', k2'⟩ := lo'.rd H3 F3 s1 s3 qp
          refine ⟨us, us', k1, k1', ?_⟩
          rw [k2.length, k2'.length]
          show ds1.length ≤ (zipL ds1 ds2).length ∨ ds2.length ≤ (zipL ds1 ds2).length
          rw [zipL_length]
          omega
  · cases e
theorem iv_rev (hg : Gl X "reversed") (hm : X.mg "reversed" = none) (ha : AV X ca [e] ms) (hs : starEach [e] X.env = [(false, eval e X.env)] := by rfl) : IV X ca tg (.Call (.Name "reversed" p) [e] [] pos) (iA rvR ms) := by
  refine pi_imp (pi_reversed hg hm ha hs) ?_
  rintro σ H R' ⟨H0, F0, F, Γ, ⟨ps, ds⟩, S, e, q⟩
  unfold iA at e
  obtain ⟨rs, er, e⟩ := Option.bind_eq_some_iff.mp e
  refine ⟨H0, F0, F, Γ, rs, S, er, fun vs H1 F1 x1 r1 => ?_⟩
  unfold rvR at e
  split at e
  · rename_i r
    obtain ⟨⟨ps1, ds1⟩, el, e⟩ := Option.map_eq_some_iff.mp e
    cases e
    cases r1 with
    | cons h1 hs =>
      cases hs
      obtain ⟨a, PL, rfl, lo, hb⟩ := RV.walkA h1 el
      obtain ⟨ws, g1, g2⟩ := lo.rd H1 F1 (Same.refl _) x1.fh (pins_ok (S.mono x1) hb)
      have hl := g2.length
      refine ⟨a, ws, rfl, g1, q _ H1 F1 PL x1 ⟨fun i d H3 F3 e s1 s3 qp => ?_, fun H3 F3 s1 s3 qp => ?_⟩ hb⟩
      · obtain ⟨us, k1, k2⟩ := lo.rd H3 F3 s1 s3 qp
        have e : ds1.reverse[i]? = some d := e
        have hi : i < ds1.length := by simpa using (List.getElem?_eq_some_iff.mp e).1
        rw [List.getElem?_reverse hi] at e
        obtain ⟨v, e1, e2⟩ := k2.getV e
        rw [← hl] at e1
        refine ⟨⟨by omega, us, v, k1, e1⟩, ?_⟩
        rintro x H' ⟨rfl, hy⟩
        have := hy us k1
        rw [e1] at this
        cases this
        exact ⟨F3, .refl s3, e2⟩
      · show ws.length ≤ ds1.reverse.length
        rw [List.length_reverse, hl]
        exact Nat.le_refl _
  · cases e
end
/-! ### comprehensions -/
def wipeG (g : Gm) : List Nat → Gm
  | [] => g
  | v :: vs => (wipeG g vs).set v .un
def compL (f : D → Gm → Option Gm) (c : Gm → Option Bool) (el : Gm → Option R) (g : Gm) : List D → Option (List D)
  | [] => some []
  | d :: ds => (f d g).bind fun g1 => (c g1).bind fun k => if k = true then (el g1).bind fun r => if r.isBw = true then none else (compL f c el g ds).map (r.d :: ·) else compL f c el g ds
def bY : Gm → Option Bool := fun _ => some true
def eLc (mi : Gm → Option (List Nat × List D)) (f : D → Gm → Option Gm) (c : Gm → Option Bool) (el : Gm → Option R) (own : List Nat) : Gm → Option R := fun g => (mi g).bind fun p => if p.2.length ≤ LIM then (compL f c el (wipeG g own) p.2).map .tm else none
theorem compL_len {f : D → Gm → Option Gm} {c : Gm → Option Bool} {el : Gm → Option R} {g : Gm} : ∀ {ds es : List D}, compL f c el g ds = some es → es.length ≤ ds.length
  | [], es, h => by cases h; exact Nat.le_refl _
  | d :: ds, es, h => by
    unfold compL at h
    obtain ⟨g1, _, h⟩ := Option.bind_eq_some_iff.mp h
    obtain ⟨k, _, h⟩ := Option.bind_eq_some_iff.mp h
    split at h
    · obtain ⟨r, _, h⟩ := Option.bind_eq_some_iff.mp h
      split at h
      · cases h
      · obtain ⟨fs, e, rfl⟩ := Option.map_eq_some_iff.mp h
        have := compL_len e
        simp only [List.length_cons]
        omega
    · have := compL_len h
      simp only [List.length_cons]
      omega
theorem SR.wipe {K : PySem.W.Frag} {ca : Nat → Addr} {H0 F0 H F : Hp} {σ : L2.St} {Γ : Gm} (S : SR K ca H0 F0 σ H F Γ) : ∀ vs : List Nat, SR K ca H0 F0 (L2.wipe σ vs) H F (wipeG Γ vs)
  | [] => S
  | v :: vs => (SR.wipe S vs).setUn none
theorem wipe_kp {σ σ' : L2.St} : ∀ {vs : List Nat}, σ.length = σ'.length → (∀ j, j ∉ vs → σ'[j]? = σ[j]?) → L2.wipe σ' vs = L2.wipe σ vs := by
  intro vs hl h
  have key : ∀ (vs : List Nat) (τ : L2.St) (j : Nat), (L2.wipe τ vs)[j]? = if j ∈ vs then (if j < τ.length then some none else none) else τ[j]? := by
    intro vs
    induction vs with
    | nil => intro τ j; simp [L2.wipe]
    | cons v vs ih =>
      intro τ j
      unfold L2.wipe
      rw [List.getElem?_set, ih τ j, wipe_length]
      by_cases e : v = j
      · subst e
        simp
      · simp [e, List.mem_cons, Ne.symm e]
  apply List.ext_getElem?
  intro j
  rw [key, key]
  by_cases hj : j ∈ vs
  · rw [if_pos hj, if_pos hj, hl]
  · rw [if_neg hj, if_neg hj]
    exact h j hj
section
variable {X : Cx} {ca : Nat → Addr}
def tTs (K : PySem.W.Frag) (ca : Nat → Addr) (c : Gm → Option Bool) : TT := tTV K ca c
theorem pts_imp {ifs : List Expr} {t t' : TT} (h : PTs X ifs t) (i : ∀ σ H Q, t' σ H Q → t σ H Q) : PTs X ifs t' := ⟨fun pins s σ H Q I q => h.run pins s σ H Q I (i σ H Q q)⟩
abbrev CV (X : Cx) (ca : Nat → Addr) (ifs : List Expr) (c : Gm → Option Bool) : Prop := PTs X ifs (tTV X.K ca c)
theorem cv_nil : CV X ca [] bY := by
  refine pts_imp pts_nil ?_
  rintro σ H Q ⟨H0, F0, F, Γ, b, S, e, q⟩
  cases e
  exact q H F (.refl S.ext.fh)
theorem cv_one {c : Expr} {k : Gm → Option Bool} (h : TV X ca c k) : CV X ca [c] k := pts_one h
theorem wipe_get {σ : L2.St} : ∀ {vs : List Nat} {j : Nat}, j ∉ vs → (L2.wipe σ vs)[j]? = σ[j]?
  | [], j, h => rfl
  | v :: vs, j, h => by
    unfold L2.wipe
    rw [List.getElem?_set_ne fun e => h (by simp [e]), wipe_get fun e => h (List.mem_cons_of_mem _ e)]
theorem wipeG_length (g : Gm) : ∀ vs : List Nat, (wipeG g vs).length = g.length
  | [] => rfl
  | v :: vs => by unfold wipeG; rw [List.length_set, wipeG_length g vs]
theorem t_lc {K : PySem.W.Frag} {mi : Gm → Option (List Nat × List D)} {f : D → Gm → Option Gm} {c : Gm → Option Bool} {el : Gm → Option R} {own T : List Nat} (hT : ∀ j ∈ T, j ∈ own) (hln : ∀ d g g', f d g = some g' → g'.length = g.length) : ∀ σ H Q, tEV K ca (eLc mi f c el own) σ H Q → tLc (tIV K ca mi) (tGV K ca f T) (tTV K ca c) (tEV K ca el) own σ H Q := by
  rintro σ H Q ⟨H0, F0, F, Γ, z, S, e, q⟩
  unfold eLc at e
  obtain ⟨⟨ps, ds⟩, em, e⟩ := Option.bind_eq_some_iff.mp e
  by_cases hlen : ds.length ≤ LIM
  rotate_left
  · rw [if_neg hlen] at e; cases e
  rw [if_pos hlen] at e
  obtain ⟨es, ee, rfl⟩ := Option.map_eq_some_iff.mp e
  refine ⟨H0, F0, F, Γ, (ps, ds), S, em, fun J H1 F1 PL x1 jo hPL A hA => ?_⟩
  have S1 := S.mono x1
  -- the comprehension's list stands at A, not frozen
  refine ⟨fun i m H' => ∃ F' acc out, m = ds.length - i ∧ i ≤ ds.length ∧ Ext H1 F1 H' F' ∧ F' A = none ∧ H' A = some (.lst acc) ∧ Dens K ca F' acc out ∧ out.length ≤ i ∧ (compL f c el (wipeG Γ own) (ds.drop i)).map (out ++ ·) = some es,
    ⟨_, F1, [], [], rfl, Nat.zero_le _, .newO x1.fh _ hA, x1.fh.free hA, upd_same, .nil, Nat.zero_le _, by
      show (compL f c el (wipeG Γ own) ds).map _ = _
      rw [show compL f c el (wipeG Γ own) ds = some es from ee]; rfl⟩, ?_⟩
  rintro i m H2 ⟨F2, acc, out, rfl, hi, x2, fA, hA2, hd, ho, he⟩
  have S2 := S1.mono x2
  have pk := pins_ok S2 hPL
  by_cases hlt : i < ds.length
  · have hd' : ds[i]? = some ds[i] := List.getElem?_eq_getElem hlt
    have ed : ds.drop i = ds[i] :: ds.drop (i + 1) := List.drop_eq_getElem_cons hlt
    obtain ⟨fs, e1, rfl⟩ := Option.map_eq_some_iff.mp he
    rw [ed] at e1
    unfold compL at e1
    obtain ⟨g1, eg, e1⟩ := Option.bind_eq_some_iff.mp e1
    obtain ⟨k, ek, e1⟩ := Option.bind_eq_some_iff.mp e1
    obtain ⟨jgo, jy⟩ := jo.go i _ H2 F2 hd' x2.ff x2.fh pk
    refine .inr ⟨jgo, fun H' => ∃ F' acc out', Ext H1 F1 H' F' ∧ F' A = none ∧ H' A = some (.lst acc) ∧ Dens K ca F' acc out' ∧ out'.length ≤ i + 1 ∧ (compL f c el (wipeG Γ own) (ds.drop (i + 1))).map (out' ++ ·) = some (out ++ fs), fun H' ⟨F', acc', out', w1, w2, w3, w4, w5, w6⟩ => ⟨ds.length - (i + 1), by omega, F', acc', out', rfl, hlt, w1, w2, w3, w4, w5, w6⟩, fun x H3 y => ?_⟩
    obtain ⟨F3, x3, d3⟩ := jy x H3 y
    have S3 := (S2.mono x3).wipe own
    refine ⟨H0, F0, F3, _, _, g1, S3, d3, eg, fun σ4 S4 k4 => ⟨?_, ?_⟩⟩
    · refine wipe_kp ?_ fun j hj => ?_
      · rw [S4.len, hln _ _ _ eg, wipeG_length, S.len]
      · rw [k4 j fun z => hj (hT j z), wipe_get hj]
    · have x23 := x2.trans x3
      have fA3 : F3 A = none := x3.keepN hA2 fA
      refine ⟨H0, F0, F3, g1, k, S4, ek, fun H5 F5 x5 => ?_⟩
      have x25 := x23.trans x5
      have x35 := x3.trans x5
      have hA5 : H5 A = some (.lst acc) := x35.hh _ _ hA2
      have fA5 : F5 A = none := x35.keepN hA2 fA
      have hd5 := hd.mono x35.ff
      cases k with
      | true =>
        refine iteT ?_
        rw [if_pos rfl] at e1
        obtain ⟨r, er, e1⟩ := Option.bind_eq_some_iff.mp e1
        by_cases hb : r.isBw = true
        · rw [if_pos hb] at e1; cases e1
        rw [if_neg hb] at e1
        obtain ⟨rest, erest, rfl⟩ := Option.map_eq_some_iff.mp e1
        refine ⟨H0, F0, F5, g1, r, S4.mono x5, er, fun v H6 F6 x6 r6 => ?_⟩
        have hA6 : H6 A = some (.lst acc) := x6.hh _ _ hA5
        obtain ⟨F7, x7, s7, d7⟩ := RV.froze x6 r6 (by simpa using hb)
        have fA7 : F7 A = none := x7.keepN hA5 fA5
        have x27 := x25.trans x7
        refine ⟨acc, hA6, ?_, F7, acc ++ [v], out ++ [r.d], ?_, fA7, upd_same, (hd5.mono x7.ff).append (.one d7), ?_, ?_⟩
        · rw [lim_eq, hd.length]
          omega
        · refine ⟨fun b o h => ?_, x27.ff, fun b o h => ?_, x27.nw⟩
          · rw [upd_ne (ne_of_none h hA)]; exact x27.hh b o h
          · rw [upd_ne (ne_of_none h fA7)]; exact x27.fh b o h
        · rw [List.length_append]
          simp only [List.length_cons, List.length_nil]
          omega
        · rw [erest]
          simp
      | false =>
        refine iteF ?_
        rw [if_neg Bool.false_ne_true] at e1
        refine ⟨F5, acc, out, x25, fA5, hA5, hd5, by omega, ?_⟩
        rw [e1]
        rfl
  · have ei : i = ds.length := by omega
    subst ei
    rw [List.drop_length] at he
    have he : some (out ++ []) = some es := he
    rw [List.append_nil] at he
    cases he
    refine .inl ⟨jo.stop H2 F2 x2.ff x2.fh pk, ?_⟩
    exact q _ H2 F2 (x1.trans x2) ⟨A, acc, rfl, x1.hh.free hA, fA, hA2, hd⟩
theorem gN_ln {i : Nat} : ∀ d g g', gN i d g = some g' → g'.length = g.length := fun d g g' e => by cases e; exact List.length_set
theorem gE_ln : ∀ d g g', gE d g = some g' → g'.length = g.length := fun d g g' e => by
  cases d with
  | nil => cases e; rfl
  | cons d ds => cases e
theorem gC_ln {f : D → Gm → Option Gm} {r : List D → Gm → Option Gm} (h1 : ∀ d g g', f d g = some g' → g'.length = g.length) (h2 : ∀ d g g', r d g = some g' → g'.length = g.length) : ∀ d g g', gC f r d g = some g' → g'.length = g.length := fun d g g' e => by
  cases d with
  | nil => cases e
  | cons d ds =>
    have e : (f d g).bind (r ds) = some g' := e
    obtain ⟨g1, e1, e2⟩ := Option.bind_eq_some_iff.mp e
    rw [h2 _ _ _ e2, h1 _ _ _ e1]
theorem gT_ln {r : List D → Gm → Option Gm} (h : ∀ d g g', r d g = some g' → g'.length = g.length) : ∀ d g g', gT r d g = some g' → g'.length = g.length := fun d g g' e => by
  unfold gT at e
  split at e
  · exact h _ _ _ e
  · cases e
theorem ev_lc {elt tg iter : Expr} {ifs : List Expr} {scope : Scope} {own : List (Str × Nat)} {pos : Pos} {mi : Gm → Option (List Nat × List D)} {f : D → Gm → Option Gm} {c : Gm → Option Bool} {el : Gm → Option R} {T ow : List Nat} (hc : X.calm = true) (hN : X.N.Nodup) (hi : IV X ca tg iter mi) (ok : BlkOk X.N X.env.scope scope own) (how : ow = own.map (·.2))
    (hg : ∀ (s : Shared) (H : Hp) (C : Addr) (cl : List (Str × Addr)) (fp : List Addr), GV (X.blk s H scope (compEnvC scope cl C X.env) fp) ca tg f T) (ht : ∀ (s : Shared) (H : Hp) (C : Addr) (cl : List (Str × Addr)) (fp : List Addr), CV (X.blk s H scope (compEnvC scope cl C X.env) fp) ca ifs c)
    (he : ∀ (s : Shared) (H : Hp) (C : Addr) (cl : List (Str × Addr)) (fp : List Addr), EV (X.blk s H scope (compEnvC scope cl C X.env) fp) ca elt el) (hT : ∀ j ∈ T, j ∈ ow) (ln : ∀ d g g', f d g = some g' → g'.length = g.length) (hs : ∀ x, foldedSetIterable iter X.env x = pure x := by intro _; rfl) :
    EV X ca (.ListComp elt [⟨tg, iter, ifs, 0⟩] scope pos) (eLc mi f c el ow) := by
  subst how
  exact pe_imp (pe_lc (wi := tIV X.K ca mi) (g := tGV X.K ca f T) (tt := tTV X.K ca c) (te := tEV X.K ca el) hc hN hi ok (fun s H C cl fp => (hg s H C cl fp).pg) ht he hs) (t_lc hT ln)
/-- name = [..] on one line -/
theorem sv_setLc {i : Nat} {y : Str} {py : Pos} {elt tg iter : Expr} {ifs : List Expr} {scope : Scope} {own : List (Str × Nat)} {pos spos : Pos} {mi : Gm → Option (List Nat × List D)} {f : D → Gm → Option Gm} {c : Gm → Option Bool} {el : Gm → Option R} {T ow : List Nat} (hc : X.calm = true) (hN : X.N.Nodup) (hy : X.N[i]? = some y) (hyl : X.env.scope.names.lookup y = some .local)
    (hsw : swapsWith (.ListComp elt [⟨tg, iter, ifs, 0⟩] scope pos) (some (.Name y py)) spos.line X.env = pure true) (hi : IV X ca tg iter mi) (ok : BlkOk X.N X.env.scope scope own) (how : ow = own.map (·.2))
    (hg : ∀ (s : Shared) (H : Hp) (C : Addr) (cl : List (Str × Addr)) (fp : List Addr), GV (X.blk s H scope (compEnvC scope cl C X.env) fp) ca tg f T) (ht : ∀ (s : Shared) (H : Hp) (C : Addr) (cl : List (Str × Addr)) (fp : List Addr), CV (X.blk s H scope (compEnvC scope cl C X.env) fp) ca ifs c)
    (he : ∀ (s : Shared) (H : Hp) (C : Addr) (cl : List (Str × Addr)) (fp : List Addr), EV (X.blk s H scope (compEnvC scope cl C X.env) fp) ca elt el) (hT : ∀ j ∈ T, j ∈ ow) (ln : ∀ d g g', f d g = some g' → g'.length = g.length) (hs : ∀ x, foldedSetIterable iter X.env x = pure x := by intro _; rfl) :
    SV X ca (.Assign [.Name y py] (.ListComp elt [⟨tg, iter, ifs, 0⟩] scope pos) spos) (sSet i (eLc mi f c el ow)) [i] := by
  subst how
  refine ⟨ps_imp (ps_setLc (wi := tIV X.K ca mi) (g := tGV X.K ca f T) (tt := tTV X.K ca c) (te := tEV X.K ca el) hc hN hy hyl hsw hi ok (fun s H C cl fp => (hg s H C cl fp).pg) ht he hs) ?_, fun g o e => ?_⟩
  · rintro D σ H ⟨H0, F0, F, Γ, o, S, e, p⟩
    unfold sSet at e
    obtain ⟨r, er, e⟩ := Option.bind_eq_some_iff.mp e
    cases z : setR Γ i r with
    | none => rw [z] at e; cases e
    | some g' =>
      rw [z] at e
      cases e
      exact t_lc hT ln σ H _ ⟨H0, F0, F, Γ, r, S, er, fun v H' F' x h => p _ H' F' (S.setR x h z) x.ff kp_set⟩
  · unfold sSet at e
    obtain ⟨r, er, e⟩ := Option.bind_eq_some_iff.mp e
    cases z : setR g i r with
    | none => rw [z] at e; cases e
    | some g' => rw [z] at e; cases e; exact setR_kp z
end
end BK
namespace BK
open PySem PySem.Spec L2
open PyProof.Rows (envOfC)
set_option autoImplicit false
/-! ### built-ins -/
section
variable {X : Cx} {ca : Nat → Addr} {e : Expr} {es : List Expr} {m n : Gm → Option R} {ms : Gm → Option (List R)} {pos p : Pos} {x : Str}
theorem ev_callB {id : String} {r : List V → Hp → VK → Prop} {f : List R → Option R} (hc : CallR X (.builtin id) r) (o : CallD X.K ca r f) (hg : Gl X x) (hm : X.mg x = none) (hv : bootBuiltins x = some (.builtin id)) (ha : AV X ca (e :: es) ms) (hn : x ≠ "__name__" := by decide) (hdb : (x == ("__debug__" : Str)) = false := by decide)
    (he : starEach (e :: es) X.env = (false, eval e X.env) :: starEach es X.env := by rfl) (hpl : (backTo pos (starEach es X.env)).any (·.1) = false := by rfl) : EV X ca (.Call (.Name x p) (e :: es) [] pos) (eA f ms) := pe_imp (pe_callB hc hg hm hv ha hn hdb he hpl) (t_call o)
theorem ev_callT {T : String} {r : List V → Hp → VK → Prop} {f : List R → Option R} (hc : CallR X (.type T) r) (o : CallD X.K ca r f) (hg : Gl X x) (hm : X.mg x = none) (hv : bootBuiltins x = some (.type T)) (ha : AV X ca (e :: es) ms) (hn : x ≠ "__name__" := by decide) (hdb : (x == ("__debug__" : Str)) = false := by decide)
    (he : starEach (e :: es) X.env = (false, eval e X.env) :: starEach es X.env := by rfl) (hpl : (backTo pos (starEach es X.env)).any (·.1) = false := by rfl) : EV X ca (.Call (.Name x p) (e :: es) [] pos) (eA f ms) := pe_imp (pe_callTy hc hg hm hv ha hn hdb he hpl) (t_call o)
end
section
variable {K : PySem.W.Frag} {ca : Nat → Addr}
def cLen (rs : List R) : Option R := match rs with
  | [r] => match r.d with
    | .lst ds => some (.va (.int ds.length))
    | .tup ds => some (.va (.int ds.length))
    | .rol ds => some (.va (.int ds.length))
    | .str z => if z.length ≤ LIM then some (.va (.int z.length)) else none
    | _ => none
  | _ => none
def rLenA (K : PySem.W.Frag) : List V → Hp → VK → Prop := fun xs H Q => (∃ p ys, xs = [.ref p] ∧ (SqL K H p ys ∨ SqT K H p ys) ∧ Q (.int ys.length) H) ∨ ∃ z, xs = [.str z] ∧ z.length ≤ sizeLine ∧ Q (.int z.length) H
theorem call_lenA {X : Cx} : CallR X (.builtin "len") (rLenA X.K) := call_len_seq.or call_len_str
theorem cd_len : CallD K ca (rLenA K) cLen := by
  intro B Hs F H vs xs z Q s hr e q
  unfold cLen at e
  split at e
  · cases hr with
    | cons h hs =>
      cases hs
      split at e
      · rename_i ds hd
        cases e
        obtain ⟨a, us, rfl, r1, d1⟩ := RV.lst s h hd
        exact .inl ⟨a, us, rfl, .inl (rd_l r1), by rw [d1.length]; exact q _ H F (.refl s) (.int _)⟩
      · rename_i ds hd
        cases e
        cases RV.den h hd rfl with
        | tup t d1 => exact .inl ⟨_, _, rfl, .inr (Same.seqT s t), by rw [d1.length]; exact q _ H F (.refl s) (.int _)⟩
      · rename_i ds hd
        cases e
        cases RV.den h hd rfl with
        | rol t d1 => exact .inl ⟨_, _, rfl, .inl (s.seq t), by rw [d1.length]; exact q _ H F (.refl s) (.int _)⟩
      · rename_i zz hd
        split at e
        · rename_i hl
          cases e
          cases RV.den h hd rfl
          exact .inr ⟨zz, rfl, by rw [lim_eq]; exact hl, q _ H F (.refl s) (.int _)⟩
        · cases e
      · cases e
  · cases e
/-- one int -/
def cI1 (C : Int → Prop) [∀ i, Decidable (C i)] (h : Int → D) (rs : List R) : Option R := match rs with
  | [.va (.int i)] => if C i then some (.va (h i)) else none
  | _ => none
theorem cd_I1 {C : Int → Prop} [∀ i, Decidable (C i)] {h : Int → D} {g : Int → V} (hg : ∀ F i, Den K ca F (g i) (h i)) : CallD K ca (fun xs H Q => ∃ i, xs = [.int i] ∧ C i ∧ Q (g i) H) (cI1 C h) := by
  intro B Hs F H vs xs z Q s hr e q
  unfold cI1 at e
  split at e
  · split at e
    · rename_i i hc
      cases e
      cases hr with
      | cons h hs =>
        cases hs
        cases h
        exact ⟨i, rfl, hc, q _ H F (.refl s) (hg F i)⟩
    · cases e
  · cases e
def cAbs : List R → Option R := cI1 (fun _ => True) fun i => .int (if i < 0 then -i else i)
theorem call_abs' {X : Cx} : CallR X (.builtin "abs") (fun xs H Q => ∃ i, xs = [.int i] ∧ True ∧ Q (.int (if i < 0 then -i else i)) H) := fun pins s σ H xs us Q I r ⟨i, h1, _, h2⟩ => call_abs pins s σ H xs us Q I r ⟨i, h1, h2⟩
theorem cd_abs : CallD K ca (fun xs H Q => ∃ i, xs = [.int i] ∧ True ∧ Q (.int (if i < 0 then -i else i)) H) cAbs := cd_I1 fun _ _ => .int _
/-- str of an int -/
def rStrA : List V → Hp → VK → Prop := fun xs H Q => (∃ i, xs = [.int i] ∧ i.natAbs.log2 < 1920 ∧ Q (.str (toString i)) H)
def cStrI (rs : List R) : Option R := match rs with
  | [.va (.int i)] => if i.natAbs.log2 < 1920 then some (.va (.str (toString i))) else none
  | _ => none
theorem cd_strI : CallD K ca rStrA cStrI := by
  intro B Hs F H vs xs z Q s hr e q
  unfold cStrI at e
  split at e
  · split at e
    · rename_i i hc
      cases e
      cases hr with
      | cons h hs =>
        cases hs
        cases h
        exact ⟨i, rfl, hc, q _ H F (.refl s) (.str _)⟩
    · cases e
  · cases e
/-- int of an int, a bool, a text -/
def cInt (rs : List R) : Option R := match rs with
  | [.va (.int i)] => some (.va (.int i))
  | [.va (.bl k)] => some (.va (.int (if k then 1 else 0)))
  | [.va (.str a)] => if a.length ≤ 640 then (PySem.intText? a).map fun n => .va (.int n) else none
  | _ => none
def rIntA : List V → Hp → VK → Prop := fun xs H Q => ((∃ i, xs = [.int i] ∧ Q (.int i) H) ∨ ∃ k, xs = [.bl k] ∧ Q (.int (if k then 1 else 0)) H) ∨ ∃ a n, xs = [.str a] ∧ PySem.intText? a = some n ∧ a.length ≤ 640 ∧ Q (.int n) H
theorem call_intA {X : Cx} : CallR X (.type "int") rIntA := call_int1.or call_int_str
theorem cd_int : CallD K ca rIntA cInt := by
  intro B Hs F H vs xs z Q s hr e q
  unfold cInt at e
  split at e
  · cases e
    cases hr with
    | cons h hs => cases hs; cases h; exact .inl (.inl ⟨_, rfl, q _ H F (.refl s) (.int _)⟩)
  · cases e
    cases hr with
    | cons h hs => cases hs; cases h; exact .inl (.inr ⟨_, rfl, q _ H F (.refl s) (.int _)⟩)
  · split at e
    · rename_i hl
      obtain ⟨n, en, rfl⟩ := Option.map_eq_some_iff.mp e
      cases hr with
      | cons h hs => cases hs; cases h; exact .inr ⟨_, n, rfl, en, hl, q _ H F (.refl s) (.int _)⟩
    · cases e
  · cases e
/-- max, min of two ints -/
def cI2 (h : Int → Int → D) (rs : List R) : Option R := match rs with
  | [.va (.int i), .va (.int j)] => some (.va (h i j))
  | _ => none
theorem cd_I2 {h : Int → Int → D} {g : Int → Int → V} (hg : ∀ F i j, Den K ca F (g i j) (h i j)) : CallD K ca (fun xs H Q => ∃ i j, xs = [.int i, .int j] ∧ Q (g i j) H) (cI2 h) := by
  intro B Hs F H vs xs z Q s hr e q
  unfold cI2 at e
  split at e
  · rename_i i j
    cases e
    cases hr with
    | cons h hs =>
      cases hs with
      | cons h2 hs =>
        cases hs
        cases h
        cases h2
        exact ⟨i, j, rfl, q _ H F (.refl s) (hg F i j)⟩
  · cases e
def cMax2 := cI2 fun i j => .int (if j > i then j else i)
def cMin2 := cI2 fun i j => .int (if j < i then j else i)
theorem cd_max2 : CallD K ca (fun xs H Q => ∃ i j, xs = [.int i, .int j] ∧ Q (.int (if j > i then j else i)) H) cMax2 := cd_I2 fun _ _ _ => .int _
theorem cd_min2 : CallD K ca (fun xs H Q => ∃ i j, xs = [.int i, .int j] ∧ Q (.int (if j < i then j else i)) H) cMin2 := cd_I2 fun _ _ _ => .int _
/-- lists of ints, of bools, of texts read off -/
def intsOf : List D → Option (List Int)
  | [] => some []
  | .int i :: ds => (intsOf ds).map (i :: ·)
  | _ => none
def blsOf : List D → Option (List Bool)
  | [] => some []
  | .bl i :: ds => (blsOf ds).map (i :: ·)
  | _ => none
def strsOf : List D → Option (List Str)
  | [] => some []
  | .str i :: ds => (strsOf ds).map (i :: ·)
  | _ => none
theorem intsOf_eq : ∀ {ds : List D} {ns : List Int}, intsOf ds = some ns → ds = ns.map D.int
  | [], ns, h => by cases h; rfl
  | d :: ds, ns, h => by
    cases d <;> first
      | (obtain ⟨ms, e, rfl⟩ := Option.map_eq_some_iff.mp (show (intsOf ds).map _ = some ns from h)
         rw [intsOf_eq e]
         rfl)
      | cases h
theorem blsOf_eq : ∀ {ds : List D} {ns : List Bool}, blsOf ds = some ns → ds = ns.map D.bl
  | [], ns, h => by cases h; rfl
  | d :: ds, ns, h => by
    cases d <;> first
      | (obtain ⟨ms, e, rfl⟩ := Option.map_eq_some_iff.mp (show (blsOf ds).map _ = some ns from h)
         rw [blsOf_eq e]
         rfl)
      | cases h
theorem strsOf_eq : ∀ {ds : List D} {ns : List Str}, strsOf ds = some ns → ds = ns.map D.str
  | [], ns, h => by cases h; rfl
  | d :: ds, ns, h => by
    cases d <;> first
      | (obtain ⟨ms, e, rfl⟩ := Option.map_eq_some_iff.mp (show (strsOf ds).map _ = some ns from h)
         rw [strsOf_eq e]
         rfl)
      | cases h
theorem intsOf_map : ∀ ns : List Int, intsOf (ns.map D.int) = some ns
  | [] => rfl
  | n :: ns => by show (intsOf (ns.map D.int)).map _ = _; rw [intsOf_map ns]; rfl
theorem blsOf_map : ∀ ns : List Bool, blsOf (ns.map D.bl) = some ns
  | [] => rfl
  | n :: ns => by show (blsOf (ns.map D.bl)).map _ = _; rw [blsOf_map ns]; rfl
theorem strsOf_map : ∀ ns : List Str, strsOf (ns.map D.str) = some ns
  | [] => rfl
  | n :: ns => by show (strsOf (ns.map D.str)).map _ = _; rw [strsOf_map ns]; rfl
def lstD : D → Option (List D)
  | .lst ds => some ds
  | _ => none
theorem lstD_eq {d : D} {ds : List D} (h : lstD d = some ds) : d = .lst ds := by
  cases d <;> first | (cases h; rfl) | cases h
def c1 (f : R → Option R) (rs : List R) : Option R := match rs with
  | [r] => f r
  | _ => none
def cSum : List R → Option R := c1 fun r => ((lstD r.d).bind intsOf).map fun ns => .va (.int ns.sum)
def cAll : List R → Option R := c1 fun r => ((lstD r.d).bind blsOf).map fun ns => .va (.bl (ns.all id))
def cAny : List R → Option R := c1 fun r => ((lstD r.d).bind blsOf).map fun ns => .va (.bl (ns.any id))
theorem one_of {f : R → Option R} {rs : List R} {z : R} (h : c1 f rs = some z) : ∃ r, rs = [r] ∧ f r = some z := by
  unfold c1 at h
  split at h
  · exact ⟨_, rfl, h⟩
  · cases h
theorem cd_sum : CallD K ca (rSum K) cSum := by
  intro B Hs F H vs xs z Q s hr e q
  obtain ⟨r, rfl, e⟩ := one_of e
  obtain ⟨ns, en, rfl⟩ := Option.map_eq_some_iff.mp e
  obtain ⟨ds, ed, en⟩ := Option.bind_eq_some_iff.mp en
  cases hr with
  | cons h hs =>
    cases hs
    obtain ⟨a, us, rfl, r1, d1⟩ := RV.lst s h (lstD_eq ed)
    rw [intsOf_eq en] at d1
    have := d1.ints_of
    subst this
    exact ⟨a, ns, rfl, rd_l r1, q _ H F (.refl s) (.int _)⟩
theorem cd_all : CallD K ca (rAll K) cAll := by
  intro B Hs F H vs xs z Q s hr e q
  obtain ⟨r, rfl, e⟩ := one_of e
  obtain ⟨ns, en, rfl⟩ := Option.map_eq_some_iff.mp e
  obtain ⟨ds, ed, en⟩ := Option.bind_eq_some_iff.mp en
  cases hr with
  | cons h hs =>
    cases hs
    obtain ⟨a, us, rfl, r1, d1⟩ := RV.lst s h (lstD_eq ed)
    rw [blsOf_eq en] at d1
    have := d1.bls_of
    subst this
    exact ⟨a, ns, rfl, rd_l r1, q _ H F (.refl s) (.bl _)⟩
theorem cd_any : CallD K ca (rAny K) cAny := by
  intro B Hs F H vs xs z Q s hr e q
  obtain ⟨r, rfl, e⟩ := one_of e
  obtain ⟨ns, en, rfl⟩ := Option.map_eq_some_iff.mp e
  obtain ⟨ds, ed, en⟩ := Option.bind_eq_some_iff.mp en
  cases hr with
  | cons h hs =>
    cases hs
    obtain ⟨a, us, rfl, r1, d1⟩ := RV.lst s h (lstD_eq ed)
    rw [blsOf_eq en] at d1
    have := d1.bls_of
    subst this
    exact ⟨a, ns, rfl, rd_l r1, q _ H F (.refl s) (.bl _)⟩
/-- max, min of a list of ints -/
def maxL : List Int → Option Int
  | [] => none
  | n :: ns => some (ns.foldl max n)
def minL : List Int → Option Int
  | [] => none
  | n :: ns => some (ns.foldl min n)
theorem foldl_max_mem : ∀ (ns : List Int) (n : Int), ns.foldl max n ∈ n :: ns ∧ ∀ y ∈ n :: ns, y ≤ ns.foldl max n
  | [], n => by simp
  | a :: ns, n => by
    obtain ⟨h1, h2⟩ := foldl_max_mem ns (max n a)
    refine ⟨?_, fun y hy => ?_⟩
    · show ns.foldl max (max n a) ∈ _
      rcases List.mem_cons.mp h1 with e | e
      · rw [e]
        rcases Int.le_total n a with z | z
        · rw [Int.max_eq_right z]; simp
        · rw [Int.max_eq_left z]; simp
      · exact List.mem_cons_of_mem _ (List.mem_cons_of_mem _ e)
    · show y ≤ ns.foldl max (max n a)
      have h3 := h2 (max n a) List.mem_cons_self
      rcases List.mem_cons.mp hy with e | hy
      · subst e; omega
      · rcases List.mem_cons.mp hy with e | hy
        · subst e; omega
        · exact h2 y (List.mem_cons_of_mem _ hy)
theorem foldl_min_mem : ∀ (ns : List Int) (n : Int), ns.foldl min n ∈ n :: ns ∧ ∀ y ∈ n :: ns, ns.foldl min n ≤ y
  | [], n => by simp
  | a :: ns, n => by
    obtain ⟨h1, h2⟩ := foldl_min_mem ns (min n a)
    refine ⟨?_, fun y hy => ?_⟩
    · show ns.foldl min (min n a) ∈ _
      rcases List.mem_cons.mp h1 with e | e
      · rw [e]
        rcases Int.le_total n a with z | z
        · rw [Int.min_eq_left z]; simp
        · rw [Int.min_eq_right z]; simp
      · exact List.mem_cons_of_mem _ (List.mem_cons_of_mem _ e)
    · show ns.foldl min (min n a) ≤ y
      have h3 := h2 (min n a) List.mem_cons_self
      rcases List.mem_cons.mp hy with e | hy
      · subst e; omega
      · rcases List.mem_cons.mp hy with e | hy
        · subst e; omega
        · exact h2 y (List.mem_cons_of_mem _ hy)
def cMax1 : List R → Option R := c1 fun r => (((lstD r.d).bind intsOf).bind maxL).map fun n => .va (.int n)
def cMin1 : List R → Option R := c1 fun r => (((lstD r.d).bind intsOf).bind minL).map fun n => .va (.int n)
theorem cd_max1 : CallD K ca (rMax K) cMax1 := by
  intro B Hs F H vs xs z Q s hr e q
  obtain ⟨r, rfl, e⟩ := one_of e
  obtain ⟨n, en, rfl⟩ := Option.map_eq_some_iff.mp e
  obtain ⟨ns, en, em⟩ := Option.bind_eq_some_iff.mp en
  obtain ⟨ds, ed, en⟩ := Option.bind_eq_some_iff.mp en
  cases hr with
  | cons h hs =>
    cases hs
    obtain ⟨a, us, rfl, r1, d1⟩ := RV.lst s h (lstD_eq ed)
    rw [intsOf_eq en] at d1
    have := d1.ints_of
    subst this
    cases ns with
    | nil => cases em
    | cons b ns =>
      cases em
      obtain ⟨h1, h2⟩ := foldl_max_mem ns b
      refine ⟨a, _, rfl, rd_l r1, Nat.succ_pos _, fun k hk hl => ?_⟩
      have : k = ns.foldl max b := Int.le_antisymm (h2 k hk) (hl _ h1)
      subst this
      exact q _ H F (.refl s) (.int _)
theorem cd_min1 : CallD K ca (rMin K) cMin1 := by
  intro B Hs F H vs xs z Q s hr e q
  obtain ⟨r, rfl, e⟩ := one_of e
  obtain ⟨n, en, rfl⟩ := Option.map_eq_some_iff.mp e
  obtain ⟨ns, en, em⟩ := Option.bind_eq_some_iff.mp en
  obtain ⟨ds, ed, en⟩ := Option.bind_eq_some_iff.mp en
  cases hr with
  | cons h hs =>
    cases hs
    obtain ⟨a, us, rfl, r1, d1⟩ := RV.lst s h (lstD_eq ed)
    rw [intsOf_eq en] at d1
    have := d1.ints_of
    subst this
    cases ns with
    | nil => cases em
    | cons b ns =>
      cases em
      obtain ⟨h1, h2⟩ := foldl_min_mem ns b
      refine ⟨a, _, rfl, rd_l r1, Nat.succ_pos _, fun k hk hl => ?_⟩
      have : k = ns.foldl min b := Int.le_antisymm (hl _ h1) (h2 k hk)
      subst this
      exact q _ H F (.refl s) (.int _)
/-- list(x), tuple(x) -/
def cList : List R → Option R := c1 fun r => match r.d with
  | .lst ds => some (.tm ds)
  | .tup ds => some (.tm ds)
  | _ => none
theorem cd_list : CallD K ca (fun xs H Q => ∃ p ys, xs = [.ref p] ∧ (SqL K H p ys ∨ SqT K H p ys) ∧ ∀ l, H l = none → Q (.ref l) (upd H l (.lst ys))) cList := by
  intro B Hs F H vs xs z Q s hr e q
  obtain ⟨r, rfl, e2⟩ := one_of e
  clear e
  cases hr with
  | cons h hs =>
    cases hs
    split at e2
    · rename_i ds hd
      cases e2
      obtain ⟨a, us, rfl, r1, d1⟩ := RV.lst s h hd
      exact ⟨a, us, rfl, .inl (rd_l r1), fun l hl => q _ _ F (.newO s _ hl) ⟨l, us, rfl, hl, s.free hl, upd_same, d1⟩⟩
    · rename_i ds hd
      cases e2
      cases RV.den h hd rfl with
      | tup t d1 => exact ⟨_, _, rfl, .inr (Same.seqT s t), fun l hl => q _ _ F (.newO s _ hl) ⟨l, _, rfl, hl, s.free hl, upd_same, d1⟩⟩
    · cases e2
def cTuple : List R → Option R := c1 fun r => match r.d with
  | .lst ds => some (.va (.tup ds))
  | .tup ds => some (.va (.tup ds))
  | _ => none
theorem cd_tuple : CallD K ca (fun xs H Q => ∃ p ys, xs = [.ref p] ∧ ((SqL K H p ys ∧ ∀ l, H l = none → Q (.ref l) (upd H l (.tup ys))) ∨ (SqT K H p ys ∧ Q (.ref p) H))) cTuple := by
  intro B Hs F H vs xs z Q s hr e q
  obtain ⟨r, rfl, e2⟩ := one_of e
  clear e
  cases hr with
  | cons h hs =>
    cases hs
    split at e2
    · rename_i ds hd
      cases e2
      obtain ⟨a, us, rfl, r1, d1⟩ := RV.lst s h hd
      exact ⟨a, us, rfl, .inl ⟨rd_l r1, fun l hl => q _ _ _ (.new s _ hl) (.tup (SqT.of upd_same) (d1.mono (same_upd (s.free hl))))⟩⟩
    · rename_i ds hd
      cases e2
      cases RV.den h hd rfl with
      | tup t d1 => exact ⟨_, _, rfl, .inr ⟨Same.seqT s t, q _ H F (.refl s) (.tup t d1)⟩⟩
    · cases e2
end
/-! ### isinstance of built-in types -/
inductive BTy where
  | int | bool | str | list | tuple
def BTy.nm : BTy → String
  | .int => "int"
  | .bool => "bool"
  | .str => "str"
  | .list => "list"
  | .tuple => "tuple"
def isB : BTy → D → Option Bool
  | _, .ins _ _ => none
  | _, .rol _ => none
  | .int, .int _ => some true
  | .int, .bl _ => some true
  | .bool, .bl _ => some true
  | .str, .str _ => some true
  | .list, .lst _ => some true
  | .tuple, .tup _ => some true
  | _, _ => some false
def tyN : D → String
  | .non => "NoneType"
  | .bl _ => "bool"
  | .int _ => "int"
  | .str _ => "str"
  | .lst _ => "list"
  | .tup _ => "tuple"
  | .ins _ _ => ""
  | .rol _ => ""
theorem isB_kit : ∀ (T : BTy) (d : D) (b : Bool), isB T d = some b → kitB (tyN d) T.nm = some b := by
  intro T d b h
  cases d <;> cases T <;> cases b <;> first
    | (exfalso; simp [isB] at h; done)
    | (clear h; show kitB _ _ = _; simp only [tyN, BTy.nm]; decide +kernel)
theorem RV.ty {K : PySem.W.Frag} {ca : Nat → Addr} {B : BT} {Hs F H : Hp} {v : V} {r : R} (s : Same F H) (h : RV K ca B Hs F H v r) (n : ∀ c fs, r.d ≠ .ins c fs) (n2 : ∀ fs, r.d ≠ .rol fs) : TyX K H v (.type (tyN r.d)) := by
  have lst : ∀ ds, r.d = .lst ds → TyX K H v (.type "list") := fun ds e => by
    obtain ⟨a, us, rfl, r1, _⟩ := RV.lst s h e
    rcases r1 with z | ⟨o, z⟩
    · exact .base (.lst z)
    · exact .base (.frz z)
  cases e : r.d with
  | non => cases RV.den h e rfl; exact .base .non
  | bl b => cases RV.den h e rfl; exact .base (.bl _)
  | int i => cases RV.den h e rfl; exact .base (.int _)
  | str x => cases RV.den h e rfl; exact .base (.str _)
  | lst ds => exact lst ds e
  | tup ds =>
    cases RV.den h e rfl with
    | tup t d1 =>
      rcases Same.seqT s t with (z | ⟨o, z⟩) | ⟨o, its, n, z1, z2, _⟩
      · exact .base (.tup z)
      · exact .fTuple z
      · exact .kTuple z1 z2
  | ins c fs => exact absurd e (n c fs)
  | rol fs => exact absurd e (n2 fs)
def eIs (T : BTy) (m : Gm → Option R) : Gm → Option R := fun g => (m g).bind fun r => if r.isTm = true then none else (isB T r.d).map fun b => .va (.bl b)
/-- isinstance(x, (A, B)) -/
def eIs2 (T U : BTy) (m : Gm → Option R) : Gm → Option R := fun g => (m g).bind fun r => if r.isTm = true then none else (isB T r.d).bind fun a => (isB U r.d).map fun b => .va (.bl (a || b))
section
variable {X : Cx} {ca : Nat → Addr} {e : Expr} {m : Gm → Option R} {pos p p1 p2 p3 : Pos}
theorem isB_ins {T : BTy} {r : R} {b : Bool} (h : isB T r.d = some b) : ∀ c fs, r.d ≠ .ins c fs := fun c fs e => by
  rw [e] at h
  cases T <;> cases h
theorem isB_rol {T : BTy} {r : R} {b : Bool} (h : isB T r.d = some b) : ∀ fs, r.d ≠ .rol fs := fun fs e => by
  rw [e] at h
  cases T <;> cases h
theorem ev_isi {T : BTy} {x : Str} (hg : Gl X "isinstance") (hm : X.mg "isinstance" = none) (hv : bootBuiltins "isinstance" = some (.builtin "isinstance")) (he : EV X ca e m) (hT : PE X (.Name x p1) (tC (.ty T.nm)))
    (hs1 : starEach [e, .Name x p1] X.env = (false, eval e X.env) :: starEach [.Name x p1] X.env := by rfl) (hs2 : starEach [.Name x p1] X.env = (false, eval (.Name x p1) X.env) :: starEach [] X.env := by rfl)
    (hpl : (backTo pos (starEach [.Name x p1] X.env)).any (·.1) = false := by rfl) : EV X ca (.Call (.Name "isinstance" p) [e, .Name x p1] [] pos) (eIs T m) := by
  refine pe_imp (pe_callB call_isi hg hm hv (pa_cons he (pa_cons hT pa_nil hs2) hs1) (by decide) (by decide) hs1 hpl) ?_
  rintro σ H Q ⟨H0, F0, F, Γ, z, S, e, q⟩
  unfold eIs at e
  obtain ⟨r, er, e⟩ := Option.bind_eq_some_iff.mp e
  by_cases ht : r.isTm = true
  · rw [if_pos ht] at e; cases e
  rw [if_neg ht] at e
  obtain ⟨b, eb, rfl⟩ := Option.map_eq_some_iff.mp e
  refine ⟨H0, F0, F, Γ, r, S, er, fun v H1 F1 x1 r1 => ?_⟩
  exact ⟨v, _, _, _, b, rfl, .ty _, RV.ty x1.fh r1 (isB_ins eb) (isB_rol eb), kit_ty (isB_kit T _ b eb), q _ H1 F1 x1 (.bl b)⟩
theorem ev_isi2 {T U : BTy} {x y : Str} {kt : Nat} (hg : Gl X "isinstance") (hm : X.mg "isinstance" = none) (hv : bootBuiltins "isinstance" = some (.builtin "isinstance")) (he : EV X ca e m) (hT : PE X (.Name x p1) (tC (.ty T.nm))) (hU : PE X (.Name y p2) (tC (.ty U.nm)))
    (hs1 : starEach [e, .Tuple [.Name x p1, .Name y p2] kt p3] X.env = (false, eval e X.env) :: starEach [.Tuple [.Name x p1, .Name y p2] kt p3] X.env := by rfl)
    (hs2 : starEach [.Tuple [.Name x p1, .Name y p2] kt p3] X.env = (false, eval (.Tuple [.Name x p1, .Name y p2] kt p3) X.env) :: starEach [] X.env := by rfl)
    (hs3 : starEach [.Name x p1, .Name y p2] X.env = (false, eval (.Name x p1) X.env) :: starEach [.Name y p2] X.env := by rfl) (hs4 : starEach [.Name y p2] X.env = (false, eval (.Name y p2) X.env) :: starEach [] X.env := by rfl)
    (hpl : (backTo pos (starEach [.Tuple [.Name x p1, .Name y p2] kt p3] X.env)).any (·.1) = false := by rfl) : EV X ca (.Call (.Name "isinstance" p) [e, .Tuple [.Name x p1, .Name y p2] kt p3] [] pos) (eIs2 T U m) := by
  refine pe_imp (pe_callB call_isiT hg hm hv (pa_cons he (pa_cons (pe_tup (pa_cons hT (pa_cons hU pa_nil hs4) hs3)) pa_nil hs2) hs1) (by decide) (by decide) hs1 hpl) ?_
  rintro σ H Q ⟨H0, F0, F, Γ, z, S, e, q⟩
  unfold eIs2 at e
  obtain ⟨r, er, e⟩ := Option.bind_eq_some_iff.mp e
  by_cases ht : r.isTm = true
  · rw [if_pos ht] at e; cases e
  rw [if_neg ht] at e
  obtain ⟨a, ea, e⟩ := Option.bind_eq_some_iff.mp e
  obtain ⟨b, eb, rfl⟩ := Option.map_eq_some_iff.mp e
  refine ⟨H0, F0, F, Γ, r, S, er, fun v H1 F1 x1 r1 => ⟨by show 2 ≤ sizeLine; decide, fun t ht2 => ?_⟩⟩
  have x2 := x1.trans (Ext.newO x1.fh (.tup [.ty T.nm, .ty U.nm]) ht2)
  have r2 := r1.mono (Ext.newO x1.fh (.tup [.ty T.nm, .ty U.nm]) ht2)
  refine ⟨v, t, _, _, [.type T.nm, .type U.nm], a || b, rfl, upd_same, .cons (.ty _) (.cons (.ty _) .nil), RV.ty x2.fh r2 (isB_ins ea) (isB_rol ea), ?_, q _ _ F1 x2 (.bl _)⟩
  refine kitAny_cons (kit_ty (isB_kit T _ a ea)) (fun h => ?_) (fun h => by subst h; rfl)
  subst h
  refine kitAny_cons (kit_ty (isB_kit U _ b eb)) (fun h => ?_) (fun h => by subst h; rfl)
  subst h
  exact kitAny_nil
end
end BK
namespace BK
open PySem PySem.Spec L2
open PyProof.Rows (envOfC)
set_option autoImplicit false
/-! ### the other operators on ints -/
section
variable {K : PySem.W.Frag} {ca : Nat → Addr}
def oSub := oI (fun _ _ => True) fun i j => .int (i - j)
def oDiv := oI CDivB fun i j => .int (i.fdiv j)
def oMod := oI (fun _ j => j ≠ 0) fun i j => .int (i.fmod j)
def oPow := oI CPow fun i j => .int (i ^ j.toNat)
def oShl := oI CPow fun i j => .int (i * 2 ^ j.toNat)
def oShr := oI (fun _ j => 0 ≤ j) fun i j => .int (i / 2 ^ j.toNat)
def oAndB := oI (fun _ _ => True) fun i j => .int (Builtin.bitAnd i j)
def uNeg := uI fun i => .int (-i)
theorem od_sub : OpD K ca (rI0 fun i j => .int (i - j)) oSub := od_I0 fun _ _ _ => .int _
theorem od_div : OpD K ca (rI CDivB fun i j => .int (i.fdiv j)) oDiv := od_I fun _ _ _ => .int _
theorem od_mod : OpD K ca (rI (fun _ j => j ≠ 0) fun i j => .int (i.fmod j)) oMod := od_I fun _ _ _ => .int _
theorem od_pow : OpD K ca (rI CPow fun i j => .int (i ^ j.toNat)) oPow := od_I fun _ _ _ => .int _
theorem od_shl : OpD K ca (rI CPow fun i j => .int (i * 2 ^ j.toNat)) oShl := od_I fun _ _ _ => .int _
theorem od_shr : OpD K ca (rI (fun _ j => 0 ≤ j) fun i j => .int (i / 2 ^ j.toNat)) oShr := od_I fun _ _ _ => .int _
theorem od_and : OpD K ca (rI0 fun i j => .int (Builtin.bitAnd i j)) oAndB := od_I0 fun _ _ _ => .int _
theorem ud_neg : UnD K ca (rU fun i => .int (-i)) uNeg := ud_I fun _ _ => .int _
end
theorem b_isinstance : bootBuiltins "isinstance" = some (.builtin "isinstance") := by decide +kernel
theorem b_len : bootBuiltins "len" = some (.builtin "len") := by decide +kernel
theorem b_abs : bootBuiltins "abs" = some (.builtin "abs") := by decide +kernel
theorem b_max : bootBuiltins "max" = some (.builtin "max") := by decide +kernel
theorem b_min : bootBuiltins "min" = some (.builtin "min") := by decide +kernel
theorem b_sum : bootBuiltins "sum" = some (.builtin "sum") := by decide +kernel
theorem b_all : bootBuiltins "all" = some (.builtin "all") := by decide +kernel
theorem b_any : bootBuiltins "any" = some (.builtin "any") := by decide +kernel
theorem b_sorted : bootBuiltins "sorted" = some (.builtin "sorted") := by decide +kernel
theorem b_int : bootBuiltins "int" = some (.type "int") := by decide +kernel
theorem b_bool : bootBuiltins "bool" = some (.type "bool") := by decide +kernel
theorem b_str : bootBuiltins "str" = some (.type "str") := by decide +kernel
theorem b_list : bootBuiltins "list" = some (.type "list") := by decide +kernel
theorem b_tuple : bootBuiltins "tuple" = some (.type "tuple") := by decide +kernel
theorem b_dict : bootBuiltins "dict" = some (.type "dict") := by decide +kernel
/-- a built-in type's name as a value -/
theorem pe_ty {X : Cx} {x : Str} {n : String} {pos : Pos} (hg : Gl X x) (hm : X.mg x = none) (hv : bootBuiltins x = some (.type n)) (hn : x ≠ "__name__" := by decide) (hd : (x == ("__debug__" : Str)) = false := by decide) : PE X (.Name x pos) (tC (.ty n)) := pe_bltn hg hm hv rfl hn hd
end BK
namespace BK
open PySem PySem.Spec L2
open PyProof.Rows (envOfC)
set_option autoImplicit false
/-- turns that a while may take -/
def FUEL : Nat := 2 ^ 1000000
theorem gE_le : ∀ ds g g', gE ds g = some g' → ds.length = 0 := fun ds g g' e => by
  cases ds with
  | nil => rfl
  | cons d ds => cases e
theorem gC_le {f : D → Gm → Option Gm} {r : List D → Gm → Option Gm} {n : Nat} (h : ∀ ds g g', r ds g = some g' → ds.length = n) : ∀ ds g g', gC f r ds g = some g' → ds.length = n + 1 := fun ds g g' e => by
  cases ds with
  | nil => cases e
  | cons d ds =>
    have e : (f d g).bind (r ds) = some g' := e
    obtain ⟨g1, e1, e2⟩ := Option.bind_eq_some_iff.mp e
    rw [List.length_cons, h _ _ _ e2]
/-! += -/
def rIAdd : TIp := fun x y H Q => ipI (fun i j => i + j) x y H Q ∨ ∃ i j, x = .str i ∧ y = .str j ∧ i.length + j.length ≤ sizeLine ∧ Q (.str (i ++ j)) H
theorem ip_addA {X : Cx} : PIp X .Add rIAdd := by
  intro pins s σ H x y v u Q I r1 r2 h
  rcases h with h | h
  · exact ip_add pins s σ H x y v u Q I r1 r2 h
  · exact iop_add_str pins s σ H x y v u Q I r1 r2 h
def oIAdd : R → R → Option R := fun a b => match a.d, b.d with
  | .int i, .int j => some (.va (.int (i + j)))
  | .str x, .str y => if x.length + y.length ≤ LIM then some (.va (.str (x ++ y))) else none
  | _, _ => none
theorem od_iadd {K : PySem.W.Frag} {ca : Nat → Addr} : OpD K ca rIAdd oIAdd := by
  intro B H0 F H v w x y z Q s rx ry e q
  unfold oIAdd at e
  split at e
  · rename_i i j h1 h2
    cases e
    cases RV.den rx h1 rfl
    cases RV.den ry h2 rfl
    exact .inl ⟨i, j, rfl, rfl, q _ H F (.refl s) (.int _)⟩
  · rename_i i j h1 h2
    split at e
    · rename_i hl
      cases e
      cases RV.den rx h1 rfl
      cases RV.den ry h2 rfl
      exact .inr ⟨i, j, rfl, rfl, by rw [lim_eq]; exact hl, q _ H F (.refl s) (.str _)⟩
    · cases e
  · cases e
end BK
namespace BK
open PySem PySem.Spec L2
set_option autoImplicit false
/-! ### how a def's function is reckoned out: rules for simp -/
def rdS (i : Nat) : Option Slot → Option R
  | some (.va d) => some (.va d)
  | some (.ow ds) => some (.bw i ds)
  | _ => none
@[simp] theorem eV_def (i : Nat) (g : Gm) : eV i g = rdS i (g[i]?) := by
  unfold eV
  cases h : g[i]? with
  | none => rfl
  | some s => cases s <;> rfl
@[simp] theorem rdS_va (i : Nat) (d : D) : rdS i (some (.va d)) = some (.va d) := rfl
@[simp] theorem rdS_ow (i : Nat) (ds : List D) : rdS i (some (.ow ds)) = some (.bw i ds) := rfl
@[simp] theorem eC_def (d : D) (g : Gm) : eC d g = some (.va d) := rfl
def b1 {α β : Type} (x : Option α) (f : α → Option β) : Option β := x.bind f
@[simp] theorem b1_some {α β : Type} (x : α) (f : α → Option β) : b1 (some x) f = f x := (rfl)
def b2 {α β γ : Type} (x : Option α) (y : Option β) (f : α → β → Option γ) : Option γ := x.bind fun x => y.bind fun y => f x y
@[simp] theorem b2_some {α β γ : Type} (x : α) (y : β) (f : α → β → Option γ) : b2 (some x) (some y) f = f x y := (rfl)
@[simp] theorem e1_def (f : R → Option R) (a : Gm → Option R) (g : Gm) : e1 f a g = b1 (a g) f := rfl
@[simp] theorem e2_def (f : R → R → Option R) (a b : Gm → Option R) (g : Gm) : e2 f a b g = b2 (a g) (b g) f := rfl
@[simp] theorem aN_def (g : Gm) : aN g = some [] := rfl
def cF (x : R) (y : List R) : Option (List R) := some (x.fz :: y)
@[simp] theorem aC_def (a : Gm → Option R) (b : Gm → Option (List R)) (g : Gm) : aC a b g = b2 (a g) (b g) cF := rfl
@[simp] theorem cF_def (x : R) (y : List R) : cF x y = some (x.fz :: y) := rfl
@[simp] theorem fz_va (d : D) : (R.va d).fz = .va d := rfl
@[simp] theorem fz_tm (ds : List D) : (R.tm ds).fz = .va (.lst ds) := rfl
@[simp] theorem fz_bw (j : Nat) (ds : List D) : (R.bw j ds).fz = .bw j ds := rfl
@[simp] theorem d_va (d : D) : (R.va d).d = d := rfl
@[simp] theorem d_tm (ds : List D) : (R.tm ds).d = .lst ds := rfl
@[simp] theorem d_bw (j : Nat) (ds : List D) : (R.bw j ds).d = .lst ds := rfl
@[simp] theorem bw_va (d : D) : (R.va d).isBw = false := rfl
@[simp] theorem bw_tm (ds : List D) : (R.tm ds).isBw = false := rfl
@[simp] theorem bw_bw (j : Nat) (ds : List D) : (R.bw j ds).isBw = true := rfl
@[simp] theorem tm_va (d : D) : (R.va d).isTm = false := rfl
@[simp] theorem tm_tm (ds : List D) : (R.tm ds).isTm = true := rfl
@[simp] theorem tm_bw (j : Nat) (ds : List D) : (R.bw j ds).isTm = false := rfl
@[simp] theorem wr_va (d : D) : (R.va d).wr = false := rfl
@[simp] theorem wr_tm (ds : List D) : (R.tm ds).wr = true := rfl
@[simp] theorem wr_bw (j : Nat) (ds : List D) : (R.bw j ds).wr = true := rfl
@[simp] theorem lf_va (d : D) : (R.va d).lf = lfn 8 d := rfl
@[simp] theorem lf_tm (ds : List D) : (R.tm ds).lf = ds.all (lfn 8) := rfl
@[simp] theorem lfn_non (n : Nat) : lfn n .non = true := by cases n <;> rfl
@[simp] theorem lfn_bl (n : Nat) (b : Bool) : lfn n (.bl b) = true := by cases n <;> rfl
@[simp] theorem lfn_int (n : Nat) (b : Int) : lfn n (.int b) = true := by cases n <;> rfl
@[simp] theorem lfn_str (n : Nat) (b : Str) : lfn n (.str b) = true := by cases n <;> rfl
@[simp] theorem lfn_tup (n : Nat) (xs : List D) : lfn (n + 1) (.tup xs) = xs.all (lfn n) := rfl
@[simp] theorem lfn_ins (n c : Nat) (xs : List D) : lfn (n + 1) (.ins c xs) = xs.all (lfn n) := rfl
@[simp] theorem eA_def (f : List R → Option R) (a : Gm → Option (List R)) (g : Gm) : eA f a g = b1 (a g) f := rfl
/-- a value of a call -/
def kR (bw : Bool) (r : R) : Option R := if (!bw || r.lf) = true then some r else none
@[simp] theorem kR_false (r : R) : kR false r = some r := rfl
@[simp] theorem kR_true (r : R) : kR true r = if r.lf = true then some r else none := rfl
@[simp] theorem callR_def (φ : Phi) (dds : List D) (rs : List R) : callR φ dds rs = if (rs.any R.isTm) = true then none else b1 (φ (rs.map R.d ++ dds)) (kR (rs.any R.isBw)) := rfl
@[simp] theorem eB_def (a : Gm → Option Bool) (g : Gm) : eB a g = (a g).map fun k => .va (.bl k) := rfl
def bB : R → Option Bool
  | .va (.bl k) => some k
  | _ => none
@[simp] theorem bB_bl (k : Bool) : bB (.va (.bl k)) = some k := rfl
@[simp] theorem bE_def (a : Gm → Option R) (g : Gm) : bE a g = b1 (a g) bB := by
  unfold bE b1
  cases a g with
  | none => rfl
  | some r =>
    cases r with
    | va d => cases d <;> rfl
    | _ => rfl
@[simp] theorem bNot_def (a : Gm → Option Bool) (g : Gm) : bNot a g = (a g).map (!·) := rfl
def anB (b : Gm → Option Bool) (g : Gm) (k : Bool) : Option Bool := if k = true then b g else some false
def orB (b : Gm → Option Bool) (g : Gm) (k : Bool) : Option Bool := if k = true then some true else b g
@[simp] theorem bAnd_def (a b : Gm → Option Bool) (g : Gm) : bAnd a b g = b1 (a g) (anB b g) := rfl
@[simp] theorem bOr_def (a b : Gm → Option Bool) (g : Gm) : bOr a b g = b1 (a g) (orB b g) := rfl
@[simp] theorem anB_def (b : Gm → Option Bool) (g : Gm) (k : Bool) : anB b g k = if k = true then b g else some false := rfl
@[simp] theorem orB_def (b : Gm → Option Bool) (g : Gm) (k : Bool) : orB b g k = if k = true then some true else b g := rfl
def anR (b : Gm → Option R) (g : Gm) (k : Bool) : Option R := if k = true then b g else some (.va (.bl false))
def orR (b : Gm → Option R) (g : Gm) (k : Bool) : Option R := if k = true then some (.va (.bl true)) else b g
@[simp] theorem eAnd_def (a b : Gm → Option R) (g : Gm) : eAnd a b g = b1 (bE a g) (anR b g) := rfl
@[simp] theorem eOr_def (a b : Gm → Option R) (g : Gm) : eOr a b g = b1 (bE a g) (orR b g) := rfl
@[simp] theorem anR_def (b : Gm → Option R) (g : Gm) (k : Bool) : anR b g k = if k = true then b g else some (.va (.bl false)) := rfl
@[simp] theorem orR_def (b : Gm → Option R) (g : Gm) (k : Bool) : orR b g k = if k = true then some (.va (.bl true)) else b g := rfl
@[simp] theorem eNot_def (a : Gm → Option R) (g : Gm) : eNot a g = (bE a g).map fun k => .va (.bl (!k)) := rfl
/-! statements -/
def bO (o : Option Out) (n : Gm → Option Out) : Option Out := o.bind fun o => match o with
  | .nx g' => n g'
  | .rt r => some (.rt r)
  | .bk g' => some (.bk g')
  | .ct g' => some (.ct g')
@[simp] theorem sNil_def (g : Gm) : sNil g = some (.nx g) := rfl
@[simp] theorem sCons_def (m n : Gm → Option Out) (g : Gm) : sCons m n g = bO (m g) n := rfl
@[simp] theorem bO_nx (g : Gm) (n : Gm → Option Out) : bO (some (.nx g)) n = n g := rfl
@[simp] theorem bO_rt (r : R) (n : Gm → Option Out) : bO (some (.rt r)) n = some (.rt r) := rfl
@[simp] theorem bO_bk (g : Gm) (n : Gm → Option Out) : bO (some (.bk g)) n = some (.bk g) := rfl
@[simp] theorem bO_ct (g : Gm) (n : Gm → Option Out) : bO (some (.ct g)) n = some (.ct g) := rfl
@[simp] theorem bO_ite (c : Prop) [Decidable c] (a b : Option Out) (n : Gm → Option Out) : bO (if c then a else b) n = if c then bO a n else bO b n := by split <;> rfl
theorem b1_ite {α β : Type} (c : Prop) [Decidable c] (a b : Option α) (f : α → Option β) : b1 (if c then a else b) f = if c then b1 a f else b1 b f := by split <;> rfl
def rtO (r : R) : Option Out := some (.rt (retR r))
@[simp] theorem rtO_def (r : R) : rtO r = some (.rt (retR r)) := rfl
@[simp] theorem retR_va (d : D) : retR (.va d) = .va d := rfl
@[simp] theorem retR_tm (ds : List D) : retR (.tm ds) = .tm ds := rfl
@[simp] theorem retR_bw (j : Nat) (ds : List D) : retR (.bw j ds) = .tm ds := rfl
@[simp] theorem sRet_def (m : Gm → Option R) (g : Gm) : sRet m g = b1 (m g) rtO := by
  unfold sRet b1 rtO
  cases m g <;> rfl
@[simp] theorem sRetN_def (g : Gm) : sRetN g = some (.rt (.va .non)) := rfl
def stO (i : Nat) (g : Gm) (r : R) : Option Out := (setR g i r).map .nx
@[simp] theorem sSet_def (i : Nat) (m : Gm → Option R) (g : Gm) : sSet i m g = b1 (m g) (stO i g) := rfl
@[simp] theorem stO_va (i : Nat) (g : Gm) (d : D) : stO i g (.va d) = some (.nx (g.set i (.va d))) := rfl
@[simp] theorem stO_tm (i : Nat) (g : Gm) (ds : List D) : stO i g (.tm ds) = some (.nx (g.set i (.ow ds))) := rfl
def ifO (t u : Gm → Option Out) (g : Gm) (k : Bool) : Option Out := if k = true then t g else u g
@[simp] theorem sIf_def (c : Gm → Option Bool) (t u : Gm → Option Out) (g : Gm) : sIf c t u g = b1 (c g) (ifO t u g) := rfl
@[simp] theorem ifO_def (t u : Gm → Option Out) (g : Gm) (k : Bool) : ifO t u g k = if k = true then t g else u g := rfl
def exO (g : Gm) (r : R) : Option Out := some (.nx g)
@[simp] theorem exO_def (g : Gm) (r : R) : exO g r = some (.nx g) := rfl
@[simp] theorem sExp_def (m : Gm → Option R) (g : Gm) : sExp m g = b1 (m g) (exO g) := by
  unfold sExp b1 exO
  cases m g <;> rfl
@[simp] theorem sBk_def (g : Gm) : sBk g = some (.bk g) := rfl
@[simp] theorem sCt_def (g : Gm) : sCt g = some (.ct g) := rfl
def prO (i j : Nat) (g : Gm) (x y : R) : Option Out := match x.fz, y.fz with
  | .va d, .va e => some (.nx ((g.set i (.va d)).set j (.va e)))
  | _, _ => none
@[simp] theorem sPar_def (i j : Nat) (a b : Gm → Option R) (g : Gm) : sPar i j a b g = b2 (a g) (b g) (prO i j g) := rfl
@[simp] theorem prO_va (i j : Nat) (g : Gm) (d e : D) : prO i j g (.va d) (.va e) = some (.nx ((g.set i (.va d)).set j (.va e))) := rfl
def agO (i : Nat) (f : R → R → Option R) (g : Gm) (x y : R) : Option Out := b1 (f x y) (stO i g)
@[simp] theorem sAug_def (i : Nat) (f : R → R → Option R) (m : Gm → Option R) (g : Gm) : sAug i f m g = b2 (eV i g) (m g) (agO i f g) := rfl
@[simp] theorem agO_def (i : Nat) (f : R → R → Option R) (g : Gm) (x y : R) : agO i f g x y = b1 (f x y) (stO i g) := rfl
def asO (f : D → Gm → Option Gm) (g : Gm) (r : R) : Option Out := match r with
  | .va d => (f d g).map .nx
  | _ => none
@[simp] theorem sAsg_def (m : Gm → Option R) (f : D → Gm → Option Gm) (g : Gm) : sAsg m f g = b1 (m g) (asO f g) := rfl
@[simp] theorem asO_va (f : D → Gm → Option Gm) (g : Gm) (d : D) : asO f g (.va d) = (f d g).map .nx := rfl
@[simp] theorem gN_def (i : Nat) (d : D) (g : Gm) : gN i d g = some (g.set i (.va d)) := rfl
@[simp] theorem gE_def (g : Gm) : gE [] g = some g := rfl
@[simp] theorem gC_def (f : D → Gm → Option Gm) (r : List D → Gm → Option Gm) (d : D) (ds : List D) (g : Gm) : gC f r (d :: ds) g = b1 (f d g) (r ds) := rfl
@[simp] theorem gT_def (f : List D → Gm → Option Gm) (ds : List D) (g : Gm) : gT f (.tup ds) g = f ds g := rfl
def apO (i : Nat) (g : Gm) (ds : List D) (r : R) : Option Out := if (!r.isBw && decide (ds.length < LIM)) = true then some (.nx (g.set i (.ow (ds ++ [r.d])))) else none
def apS (i : Nat) (g : Gm) (x : Option R) : Option Slot → Option Out
  | some (.ow ds) => b1 x (apO i g ds)
  | _ => none
@[simp] theorem sApp_def (i : Nat) (m : Gm → Option R) (g : Gm) : sApp i m g = apS i g (m g) (g[i]?) := by
  unfold sApp
  cases h : g[i]? with
  | none => rfl
  | some s => cases s <;> rfl
@[simp] theorem apS_ow (i : Nat) (g : Gm) (x : Option R) (ds : List D) : apS i g x (some (.ow ds)) = b1 x (apO i g ds) := rfl
theorem apO_ok {i : Nat} {g : Gm} {ds : List D} {r : R} (h : r.isBw = false) (hl : ds.length < LIM) : apO i g ds r = some (.nx (g.set i (.ow (ds ++ [r.d])))) := by
  unfold apO
  rw [h, decide_eq_true hl]
  rfl
@[simp] theorem apO_va (i : Nat) (g : Gm) (ds : List D) (d : D) : apO i g ds (.va d) = if ds.length < LIM then some (.nx (g.set i (.ow (ds ++ [d])))) else none := by
  unfold apO
  by_cases h : ds.length < LIM <;> simp [h]
@[simp] theorem apO_tm (i : Nat) (g : Gm) (ds es : List D) : apO i g ds (.tm es) = if ds.length < LIM then some (.nx (g.set i (.ow (ds ++ [.lst es])))) else none := by
  unfold apO
  by_cases h : ds.length < LIM <;> simp [h]
def fzS (i : Nat) (m : Gm → Option Out) (g : Gm) : Option Slot → Option Out
  | some (.ow ds) => m (g.set i (.va (.lst ds)))
  | _ => m g
@[simp] theorem sFz_def (i : Nat) (m : Gm → Option Out) (g : Gm) : sFz i m g = fzS i m g (g[i]?) := by
  unfold sFz
  cases h : g[i]? with
  | none => rfl
  | some s => cases s <;> rfl
@[simp] theorem fzS_ow (i : Nat) (m : Gm → Option Out) (g : Gm) (ds : List D) : fzS i m g (some (.ow ds)) = m (g.set i (.va (.lst ds))) := rfl
@[simp] theorem fzS_va (i : Nat) (m : Gm → Option Out) (g : Gm) (d : D) : fzS i m g (some (.va d)) = m g := rfl
@[simp] theorem fzS_un (i : Nat) (m : Gm → Option Out) (g : Gm) : fzS i m g (some .un) = m g := rfl
/-! loops -/
def foO (f : D → Gm → Option Gm) (b : Gm → Option Out) (T : List Nat) (g : Gm) (p : List Nat × List D) : Option Out := if p.1.all (fun j => !T.contains j) = true then forL f b p.2 g else none
@[simp] theorem sFor_def (mi : Gm → Option (List Nat × List D)) (f : D → Gm → Option Gm) (b : Gm → Option Out) (T : List Nat) (g : Gm) : sFor mi f b T g = b1 (mi g) (foO f b T g) := rfl
@[simp] theorem foO_def (f : D → Gm → Option Gm) (b : Gm → Option Out) (T : List Nat) (g : Gm) (ps : List Nat) (ds : List D) : foO f b T g (ps, ds) = if ps.all (fun j => !T.contains j) = true then forL f b ds g else none := rfl
@[simp] theorem iA_def (f : List R → Option (List Nat × List D)) (ms : Gm → Option (List R)) (g : Gm) : iA f ms g = b1 (ms g) f := (rfl)
@[simp] theorem iSeq_def (m : Gm → Option R) (g : Gm) : iSeq m g = b1 (m g) seqR := (rfl)
/-- one turn of a for -/
def fL (f : D → Gm → Option Gm) (b : Gm → Option Out) (ds : List D) (o : Option Out) : Option Out := o.bind fun o => match o with
  | .nx g2 => forL f b ds g2
  | .ct g2 => forL f b ds g2
  | .bk g2 => some (.nx g2)
  | .rt r => some (.rt r)
@[simp] theorem forL_nil (f : D → Gm → Option Gm) (b : Gm → Option Out) (g : Gm) : forL f b [] g = some (.nx g) := rfl
theorem forL_cons (f : D → Gm → Option Gm) (b : Gm → Option Out) (d : D) (ds : List D) (g : Gm) : forL f b (d :: ds) g = fL f b ds (b1 (f d g) b) := by
  unfold fL b1
  show (f d g).bind _ = _
  cases f d g <;> rfl
@[simp] theorem fL_nx (f : D → Gm → Option Gm) (b : Gm → Option Out) (ds : List D) (g : Gm) : fL f b ds (some (.nx g)) = forL f b ds g := rfl
@[simp] theorem fL_ct (f : D → Gm → Option Gm) (b : Gm → Option Out) (ds : List D) (g : Gm) : fL f b ds (some (.ct g)) = forL f b ds g := rfl
@[simp] theorem fL_bk (f : D → Gm → Option Gm) (b : Gm → Option Out) (ds : List D) (g : Gm) : fL f b ds (some (.bk g)) = some (.nx g) := rfl
@[simp] theorem fL_rt (f : D → Gm → Option Gm) (b : Gm → Option Out) (ds : List D) (r : R) : fL f b ds (some (.rt r)) = some (.rt r) := rfl
@[simp] theorem fL_ite (f : D → Gm → Option Gm) (b : Gm → Option Out) (ds : List D) (c : Prop) [Decidable c] (x y : Option Out) : fL f b ds (if c then x else y) = if c then fL f b ds x else fL f b ds y := by split <;> rfl
def wL (c : Gm → Option Bool) (b : Gm → Option Out) (n : Nat) (o : Option Out) : Option Out := o.bind fun o => match o with
  | .nx g' => sWh c b n g'
  | .ct g' => sWh c b n g'
  | .bk g' => some (.nx g')
  | .rt r => some (.rt r)
def whK (c : Gm → Option Bool) (b : Gm → Option Out) (n : Nat) (g : Gm) (k : Bool) : Option Out := if k = true then wL c b n (b g) else some (.nx g)
theorem sWh_succ (c : Gm → Option Bool) (b : Gm → Option Out) (n : Nat) (g : Gm) : sWh c b (n + 1) g = b1 (c g) (whK c b n g) := rfl
@[simp] theorem whK_def (c : Gm → Option Bool) (b : Gm → Option Out) (n : Nat) (g : Gm) (k : Bool) : whK c b n g k = if k = true then wL c b n (b g) else some (.nx g) := rfl
@[simp] theorem wL_nx (c : Gm → Option Bool) (b : Gm → Option Out) (n : Nat) (g : Gm) : wL c b n (some (.nx g)) = sWh c b n g := rfl
@[simp] theorem wL_ct (c : Gm → Option Bool) (b : Gm → Option Out) (n : Nat) (g : Gm) : wL c b n (some (.ct g)) = sWh c b n g := rfl
@[simp] theorem wL_bk (c : Gm → Option Bool) (b : Gm → Option Out) (n : Nat) (g : Gm) : wL c b n (some (.bk g)) = some (.nx g) := rfl
@[simp] theorem wL_rt (c : Gm → Option Bool) (b : Gm → Option Out) (n : Nat) (r : R) : wL c b n (some (.rt r)) = some (.rt r) := rfl
@[simp] theorem wL_ite (c : Gm → Option Bool) (b : Gm → Option Out) (n : Nat) (p : Prop) [Decidable p] (x y : Option Out) : wL c b n (if p then x else y) = if p then wL c b n x else wL c b n y := by split <;> rfl
/-! comprehensions -/
def lcO (f : D → Gm → Option Gm) (c : Gm → Option Bool) (el : Gm → Option R) (g : Gm) (p : List Nat × List D) : Option R := if p.2.length ≤ LIM then (compL f c el g p.2).map .tm else none
@[simp] theorem eLc_def (mi : Gm → Option (List Nat × List D)) (f : D → Gm → Option Gm) (c : Gm → Option Bool) (el : Gm → Option R) (own : List Nat) (g : Gm) : eLc mi f c el own g = b1 (mi g) (lcO f c el (wipeG g own)) := rfl
@[simp] theorem lcO_def (f : D → Gm → Option Gm) (c : Gm → Option Bool) (el : Gm → Option R) (g : Gm) (ps : List Nat) (ds : List D) : lcO f c el g (ps, ds) = if ds.length ≤ LIM then (compL f c el g ds).map .tm else none := rfl
@[simp] theorem bY_def (g : Gm) : bY g = some true := rfl
@[simp] theorem compL_nil (f : D → Gm → Option Gm) (c : Gm → Option Bool) (el : Gm → Option R) (g : Gm) : compL f c el g [] = some [] := rfl
def cpR (rest : Option (List D)) (r : R) : Option (List D) := if r.isBw = true then none else rest.map (r.d :: ·)
def cpK (el : Gm → Option R) (rest : Option (List D)) (g1 : Gm) (k : Bool) : Option (List D) := if k = true then b1 (el g1) (cpR rest) else rest
def cpG (c : Gm → Option Bool) (el : Gm → Option R) (rest : Option (List D)) (g1 : Gm) : Option (List D) := b1 (c g1) (cpK el rest g1)
theorem compL_cons (f : D → Gm → Option Gm) (c : Gm → Option Bool) (el : Gm → Option R) (g : Gm) (d : D) (ds : List D) : compL f c el g (d :: ds) = b1 (f d g) (cpG c el (compL f c el g ds)) := rfl
@[simp] theorem cpG_def (c : Gm → Option Bool) (el : Gm → Option R) (rest : Option (List D)) (g1 : Gm) : cpG c el rest g1 = b1 (c g1) (cpK el rest g1) := rfl
@[simp] theorem cpK_def (el : Gm → Option R) (rest : Option (List D)) (g1 : Gm) (k : Bool) : cpK el rest g1 k = if k = true then b1 (el g1) (cpR rest) else rest := rfl
@[simp] theorem cpR_va (rest : Option (List D)) (d : D) : cpR rest (.va d) = rest.map (d :: ·) := rfl
@[simp] theorem cpR_tm (rest : Option (List D)) (ds : List D) : cpR rest (.tm ds) = rest.map (.lst ds :: ·) := rfl
@[simp] theorem wipeG_nil (g : Gm) : wipeG g [] = g := rfl
@[simp] theorem wipeG_cons (g : Gm) (v : Nat) (vs : List Nat) : wipeG g (v :: vs) = (wipeG g vs).set v .un := rfl
/-- a comprehension whose elements are known -/
theorem compL_map {α : Type} (f : D → Gm → Option Gm) (c : Gm → Option Bool) (el : Gm → Option R) (g : Gm) (enc : α → D) (out : α → D) : ∀ (xs : List α), (∀ x ∈ xs, ∀ rest : List D, b1 (f (enc x) g) (cpG c el (some rest)) = some (out x :: rest)) → compL f c el g (xs.map enc) = some (xs.map out)
  | [], _ => rfl
  | x :: xs, h => by
    rw [List.map_cons, compL_cons, compL_map f c el g enc out xs fun y hy => h y (List.mem_cons_of_mem _ hy), h x List.mem_cons_self]
    rfl
/-- .. with a test -/
theorem compL_filter {α : Type} (f : D → Gm → Option Gm) (c : Gm → Option Bool) (el : Gm → Option R) (g : Gm) (enc : α → D) (out : α → D) (p : α → Bool) : ∀ (xs : List α), (∀ x ∈ xs, ∀ rest : List D, b1 (f (enc x) g) (cpG c el (some rest)) = some (if p x = true then out x :: rest else rest)) → compL f c el g (xs.map enc) = some ((xs.filter p).map out)
  | [], _ => rfl
  | x :: xs, h => by
    rw [List.map_cons, compL_cons, compL_filter f c el g enc out p xs fun y hy => h y (List.mem_cons_of_mem _ hy), h x List.mem_cons_self]
    by_cases e : p x = true
    · rw [if_pos e, List.filter_cons_of_pos e]; rfl
    · rw [if_neg e, List.filter_cons_of_neg e]
/-! operators -/
@[simp] theorem oI_def (C : Int → Int → Prop) [∀ i j, Decidable (C i j)] (h : Int → Int → D) (i j : Int) : oI C h (.va (.int i)) (.va (.int j)) = if C i j then some (.va (h i j)) else none := rfl
@[simp] theorem uI_def (h : Int → D) (i : Int) : uI h (.va (.int i)) = some (.va (h i)) := rfl
@[simp] theorem uNeg_def (i : Int) : uNeg (.va (.int i)) = some (.va (.int (-i))) := rfl
@[simp] theorem oAdd_int (i j : Int) : oAdd (.va (.int i)) (.va (.int j)) = some (.va (.int (i + j))) := rfl
@[simp] theorem oIAdd_int (i j : Int) : oIAdd (.va (.int i)) (.va (.int j)) = some (.va (.int (i + j))) := rfl
@[simp] theorem oIAdd_str (i j : Str) : oIAdd (.va (.str i)) (.va (.str j)) = if i.length + j.length ≤ LIM then some (.va (.str (i ++ j))) else none := rfl
@[simp] theorem oAdd_str (i j : Str) : oAdd (.va (.str i)) (.va (.str j)) = if i.length + j.length ≤ LIM then some (.va (.str (i ++ j))) else none := rfl
@[simp] theorem oAdd_tup (i j : List D) : oAdd (.va (.tup i)) (.va (.tup j)) = if i.length + j.length ≤ LIM then some (.va (.tup (i ++ j))) else none := rfl
theorem oAdd_lst {a b : R} {i j : List D} (ha : a.d = .lst i) (hb : b.d = .lst j) : oAdd a b = if i.length + j.length ≤ LIM then some (.tm (i ++ j)) else none := by
  unfold oAdd
  rw [ha, hb]
@[simp] theorem oAdd_tmtm (i j : List D) : oAdd (.tm i) (.tm j) = if i.length + j.length ≤ LIM then some (.tm (i ++ j)) else none := rfl
@[simp] theorem oAdd_bwtm (k : Nat) (i j : List D) : oAdd (.bw k i) (.tm j) = if i.length + j.length ≤ LIM then some (.tm (i ++ j)) else none := rfl
@[simp] theorem oAdd_tmbw (k : Nat) (i j : List D) : oAdd (.tm i) (.bw k j) = if i.length + j.length ≤ LIM then some (.tm (i ++ j)) else none := rfl
@[simp] theorem oAdd_bwbw (k l : Nat) (i j : List D) : oAdd (.bw k i) (.bw l j) = if i.length + j.length ≤ LIM then some (.tm (i ++ j)) else none := rfl
@[simp] theorem oAdd_vatm (i j : List D) : oAdd (.va (.lst i)) (.tm j) = if i.length + j.length ≤ LIM then some (.tm (i ++ j)) else none := rfl
@[simp] theorem oAdd_tmva (i j : List D) : oAdd (.tm i) (.va (.lst j)) = if i.length + j.length ≤ LIM then some (.tm (i ++ j)) else none := rfl
@[simp] theorem oAdd_vava (i j : List D) : oAdd (.va (.lst i)) (.va (.lst j)) = if i.length + j.length ≤ LIM then some (.tm (i ++ j)) else none := rfl
@[simp] theorem oAdd_bwva (k : Nat) (i j : List D) : oAdd (.bw k i) (.va (.lst j)) = if i.length + j.length ≤ LIM then some (.tm (i ++ j)) else none := rfl
@[simp] theorem oAdd_vabw (k : Nat) (i j : List D) : oAdd (.va (.lst i)) (.bw k j) = if i.length + j.length ≤ LIM then some (.tm (i ++ j)) else none := rfl
@[simp] theorem oSub_def (i j : Int) : oSub (.va (.int i)) (.va (.int j)) = some (.va (.int (i - j))) := rfl
@[simp] theorem oDiv_def (i j : Int) : oDiv (.va (.int i)) (.va (.int j)) = if CDivB i j then some (.va (.int (i.fdiv j))) else none := rfl
@[simp] theorem oMod_def (i j : Int) : oMod (.va (.int i)) (.va (.int j)) = if j ≠ 0 then some (.va (.int (i.fmod j))) else none := rfl
@[simp] theorem oPow_def (i j : Int) : oPow (.va (.int i)) (.va (.int j)) = if CPow i j then some (.va (.int (i ^ j.toNat))) else none := rfl
@[simp] theorem oShl_def (i j : Int) : oShl (.va (.int i)) (.va (.int j)) = if CPow i j then some (.va (.int (i * 2 ^ j.toNat))) else none := rfl
@[simp] theorem oShr_def (i j : Int) : oShr (.va (.int i)) (.va (.int j)) = if 0 ≤ j then some (.va (.int (i / 2 ^ j.toNat))) else none := rfl
@[simp] theorem oAndB_def (i j : Int) : oAndB (.va (.int i)) (.va (.int j)) = some (.va (.int (Builtin.bitAnd i j))) := rfl
@[simp] theorem oMulA_int (i j : Int) : oMulA (.va (.int i)) (.va (.int j)) = if CMulB i j then some (.va (.int (i * j))) else none := rfl
@[simp] theorem oMulA_str (i : Str) (j : Int) : oMulA (.va (.str i)) (.va (.int j)) = if -(2 ^ 63) ≤ j ∧ j < 2 ^ 63 ∧ i.length * j.toNat ≤ LIM then some (.va (.str (strRep i j))) else none := rfl
@[simp] theorem oMulA_lst (i : List D) (j : Int) : oMulA (.tm i) (.va (.int j)) = if -(2 ^ 63) ≤ j ∧ j < 2 ^ 63 ∧ i.length * j.toNat ≤ LIM then some (.tm (List.replicate j.toNat i).flatten) else none := rfl
@[simp] theorem oLt_def (i j : Int) : oLt (.va (.int i)) (.va (.int j)) = some (.va (.bl (decide (i < j)))) := rfl
@[simp] theorem oLe_def (i j : Int) : oLe (.va (.int i)) (.va (.int j)) = some (.va (.bl (decide (i ≤ j)))) := rfl
@[simp] theorem oGt_def (i j : Int) : oGt (.va (.int i)) (.va (.int j)) = some (.va (.bl (decide (j < i)))) := rfl
@[simp] theorem oGe_def (i j : Int) : oGe (.va (.int i)) (.va (.int j)) = some (.va (.bl (decide (j ≤ i)))) := rfl
@[simp] theorem oEq_int (i j : Int) : oEq (.va (.int i)) (.va (.int j)) = some (.va (.bl (decide (i = j)))) := by
  show some (R.va (.bl (i == j))) = _
  rw [Bool.beq_eq_decide_eq]
@[simp] theorem oNe_int (i j : Int) : oNe (.va (.int i)) (.va (.int j)) = some (.va (.bl (!decide (i = j)))) := by
  show some (R.va (.bl (!(i == j)))) = _
  rw [Bool.beq_eq_decide_eq]
@[simp] theorem oEq_str (i j : Str) : oEq (.va (.str i)) (.va (.str j)) = some (.va (.bl (decide (i = j)))) := rfl
@[simp] theorem oNe_str (i j : Str) : oNe (.va (.str i)) (.va (.str j)) = some (.va (.bl (!decide (i = j)))) := rfl
@[simp] theorem oEq_bl (i j : Bool) : oEq (.va (.bl i)) (.va (.bl j)) = some (.va (.bl (i == j))) := rfl
@[simp] theorem oNe_bl (i j : Bool) : oNe (.va (.bl i)) (.va (.bl j)) = some (.va (.bl (!(i == j)))) := rfl
theorem oEq_gen {a b : R} (h1 : ∀ x y, ¬(a.d = .str x ∧ b.d = .str y)) (ha : okn 8 a.d = true) (hb : okn 8 b.d = true) : oEq a b = some (.va (.bl (eqn 8 a.d b.d))) := by
  unfold oEq eqR
  split
  · rename_i x y e1 e2; exact absurd ⟨e1, e2⟩ (h1 x y)
  · rw [ha, hb]; rfl
theorem oNe_gen {a b : R} (h1 : ∀ x y, ¬(a.d = .str x ∧ b.d = .str y)) (ha : okn 8 a.d = true) (hb : okn 8 b.d = true) : oNe a b = some (.va (.bl (!eqn 8 a.d b.d))) := by
  unfold oNe eqR
  split
  · rename_i x y e1 e2; exact absurd ⟨e1, e2⟩ (h1 x y)
  · rw [ha, hb]; rfl
@[simp] theorem oEq_tup (i j : List D) : oEq (.va (.tup i)) (.va (.tup j)) = if (i.all (okn 7) && j.all (okn 7)) = true then some (.va (.bl (eqL (eqn 7) i j))) else none := by
  show (if (i.all (okn 7) && j.all (okn 7)) = true then some (eqL (eqn 7) i j) else none).map _ = _
  split <;> rfl
@[simp] theorem oNe_tup (i j : List D) : oNe (.va (.tup i)) (.va (.tup j)) = if (i.all (okn 7) && j.all (okn 7)) = true then some (.va (.bl (!eqL (eqn 7) i j))) else none := by
  show (if (i.all (okn 7) && j.all (okn 7)) = true then some (eqL (eqn 7) i j) else none).map _ = _
  split <;> rfl
def eqLst (n : Nat) (i j : List D) : Option Bool := if (i.all (okn n) && j.all (okn n)) = true then some (eqL (eqn n) i j) else none
theorem oEq_lst {a b : R} {i j : List D} (ha : a.d = .lst i) (hb : b.d = .lst j) : oEq a b = (eqLst 7 i j).map fun k => .va (.bl k) := by
  unfold oEq eqR
  rw [ha, hb]
  rfl
theorem oNe_lst {a b : R} {i j : List D} (ha : a.d = .lst i) (hb : b.d = .lst j) : oNe a b = (eqLst 7 i j).map fun k => .va (.bl (!k)) := by
  unfold oNe eqR
  rw [ha, hb]
  rfl
theorem eqLst_ok {n : Nat} {i j : List D} (hi : i.all (okn n) = true) (hj : j.all (okn n) = true) : eqLst n i j = some (eqL (eqn n) i j) := by
  unfold eqLst
  rw [hi, hj]
  rfl
@[simp] theorem okn_non (n : Nat) : okn n .non = true := by cases n <;> rfl
@[simp] theorem okn_bl (n : Nat) (b : Bool) : okn n (.bl b) = true := by cases n <;> rfl
@[simp] theorem okn_int (n : Nat) (b : Int) : okn n (.int b) = true := by cases n <;> rfl
@[simp] theorem okn_str (n : Nat) (b : Str) : okn n (.str b) = PyData.strOk b := by cases n <;> rfl
@[simp] theorem okn_tup (n : Nat) (xs : List D) : okn (n + 1) (.tup xs) = xs.all (okn n) := rfl
@[simp] theorem okn_lst (n : Nat) (xs : List D) : okn (n + 1) (.lst xs) = xs.all (okn n) := rfl
@[simp] theorem eqn_int (n : Nat) (i j : Int) : eqn n (.int i) (.int j) = decide (i = j) := by cases n <;> exact Bool.beq_eq_decide_eq _ _
@[simp] theorem eqn_bl (n : Nat) (i j : Bool) : eqn n (.bl i) (.bl j) = (i == j) := by cases n <;> rfl
@[simp] theorem eqn_str (n : Nat) (i j : Str) : eqn n (.str i) (.str j) = decide (i = j) := by cases n <;> exact Bool.beq_eq_decide_eq _ _
@[simp] theorem eqn_non (n : Nat) : eqn n .non .non = true := by cases n <;> rfl
@[simp] theorem eqn_tup (n : Nat) (i j : List D) : eqn (n + 1) (.tup i) (.tup j) = eqL (eqn n) i j := rfl
@[simp] theorem eqn_lst (n : Nat) (i j : List D) : eqn (n + 1) (.lst i) (.lst j) = eqL (eqn n) i j := rfl
@[simp] theorem eqL_nil (f : D → D → Bool) : eqL f [] [] = true := rfl
@[simp] theorem eqL_cons (f : D → D → Bool) (x y : D) (xs ys : List D) : eqL f (x :: xs) (y :: ys) = (f x y && eqL f xs ys) := rfl
@[simp] theorem eqL_nc (f : D → D → Bool) (y : D) (ys : List D) : eqL f [] (y :: ys) = false := rfl
@[simp] theorem eqL_cn (f : D → D → Bool) (y : D) (ys : List D) : eqL f (y :: ys) [] = false := rfl
theorem eqL_map {α : Type} [DecidableEq α] {f : D → D → Bool} {enc : α → D} (h : ∀ x y, f (enc x) (enc y) = decide (x = y)) : ∀ xs ys : List α, eqL f (xs.map enc) (ys.map enc) = decide (xs = ys)
  | [], [] => rfl
  | [], _ :: _ => by simp
  | _ :: _, [] => by simp
  | x :: xs, y :: ys => by
    rw [List.map_cons, List.map_cons, eqL_cons, h, eqL_map h xs ys]
    by_cases e : x = y <;> by_cases e2 : xs = ys <;> simp [e, e2]
theorem eqL_refl {f : D → D → Bool} : ∀ xs : List D, (∀ x ∈ xs, f x x = true) → eqL f xs xs = true
  | [], _ => rfl
  | x :: xs, h => by
    rw [eqL_cons, h x List.mem_cons_self, eqL_refl xs fun y hy => h y (List.mem_cons_of_mem _ hy)]
    rfl
theorem all_map {α β : Type} (f : β → Bool) (g : α → β) (xs : List α) (h : ∀ x ∈ xs, f (g x) = true) : (xs.map g).all f = true := by
  rw [List.all_eq_true]
  intro y hy
  obtain ⟨x, hx, rfl⟩ := List.mem_map.mp hy
  exact h x hx
@[simp] theorem oIs_def (r : R) : oIs r (.va .non) = some (.va (.bl r.d.isNon)) := rfl
@[simp] theorem oIsN_def (r : R) : oIsN r (.va .non) = some (.va (.bl (!r.d.isNon))) := rfl
@[simp] theorem isNon_non : D.isNon .non = true := rfl
@[simp] theorem isNon_int (i : Int) : D.isNon (.int i) = false := rfl
@[simp] theorem isNon_bl (i : Bool) : D.isNon (.bl i) = false := rfl
@[simp] theorem isNon_str (i : Str) : D.isNon (.str i) = false := rfl
@[simp] theorem isNon_tup (i : List D) : D.isNon (.tup i) = false := rfl
@[simp] theorem isNon_lst (i : List D) : D.isNon (.lst i) = false := rfl
@[simp] theorem isNon_ins (c : Nat) (i : List D) : D.isNon (.ins c i) = false := rfl
theorem oIx_lst {a : R} {xs : List D} {i : Int} (h : a.d = .lst xs) : oIx a (.va (.int i)) = (atI xs i).map .va := by
  unfold oIx
  rw [h]
  rfl
@[simp] theorem oIx_vlst (xs : List D) (i : Int) : oIx (.va (.lst xs)) (.va (.int i)) = (atI xs i).map .va := rfl
@[simp] theorem oIx_tm (xs : List D) (i : Int) : oIx (.tm xs) (.va (.int i)) = (atI xs i).map .va := rfl
@[simp] theorem oIx_bw (j : Nat) (xs : List D) (i : Int) : oIx (.bw j xs) (.va (.int i)) = (atI xs i).map .va := rfl
@[simp] theorem oIx_tup (xs : List D) (i : Int) : oIx (.va (.tup xs)) (.va (.int i)) = (atI xs i).map .va := rfl
@[simp] theorem oIx_rol (xs : List D) (i : Int) : oIx (.va (.rol xs)) (.va (.int i)) = (atI xs i).map .va := rfl
@[simp] theorem oIx_str (z : Str) (i : Int) : oIx (.va (.str z)) (.va (.int i)) = if z.length ≤ LIM then (atI z.cps.toList i).map fun c => .va (.str ⟨#[c]⟩) else none := rfl
theorem atI_ofNat {α : Type} (xs : List α) (k : Nat) : atI xs (k : Int) = xs[k]? := by
  unfold atI ixN
  rw [if_pos (by omega)]
  by_cases h : (k : Int) < (xs.length : Int)
  · rw [if_pos h]
    simp
  · rw [if_neg h]
    have : xs.length ≤ k := by omega
    rw [List.getElem?_eq_none this]
    rfl
@[simp] theorem atI_zero {α : Type} (x : α) (xs : List α) : atI (x :: xs) 0 = some x := by
  have := atI_ofNat (x :: xs) 0
  simpa using this
@[simp] theorem atI_one {α : Type} (x y : α) (xs : List α) : atI (x :: y :: xs) 1 = some y := by
  have := atI_ofNat (x :: y :: xs) 1
  simpa using this
@[simp] theorem atI_two {α : Type} (x y z : α) (xs : List α) : atI (x :: y :: z :: xs) 2 = some z := by
  have := atI_ofNat (x :: y :: z :: xs) 2
  simpa using this
@[simp] theorem atI_three {α : Type} (x y z u : α) (xs : List α) : atI (x :: y :: z :: u :: xs) 3 = some u := by
  have := atI_ofNat (x :: y :: z :: u :: xs) 3
  simpa using this
@[simp] theorem atI_four {α : Type} (x y z u v : α) (xs : List α) : atI (x :: y :: z :: u :: v :: xs) 4 = some v := by
  have := atI_ofNat (x :: y :: z :: u :: v :: xs) 4
  simpa using this
theorem atI_map {α β : Type} (f : α → β) (xs : List α) (i : Int) : atI (xs.map f) i = (atI xs i).map f := by
  unfold atI
  rw [List.length_map]
  cases ixN xs.length i with
  | none => rfl
  | some j => simp
/-- an item of a written list at a remainder -/
theorem atI_lt {α : Type} (xs : List α) (i : Int) (h0 : 0 ≤ i) (h1 : i < xs.length) : ∃ x ∈ xs, atI xs i = some x := by
  obtain ⟨k, rfl⟩ := Int.eq_ofNat_of_zero_le h0
  have hk : k < xs.length := by omega
  exact ⟨xs[k], List.getElem_mem hk, by rw [atI_ofNat, List.getElem?_eq_getElem hk]⟩
theorem atI_neg1 {α : Type} (xs : List α) (x : α) : atI (xs ++ [x]) (-1) = some x := atI_last xs x
@[simp] theorem oTup_def (rs : List R) : oTup rs = if (rs.all (fun r => !r.wr) && decide (rs.length ≤ LIM)) = true then some (.va (.tup (rs.map R.d))) else none := rfl
@[simp] theorem oLst_def (rs : List R) : oLst rs = if (rs.all (fun r => !r.wr) && decide (rs.length ≤ LIM)) = true then some (.tm (rs.map R.d)) else none := rfl
@[simp] theorem cLen_vlst (ds : List D) : cLen [.va (.lst ds)] = some (.va (.int ds.length)) := rfl
@[simp] theorem cLen_tm (ds : List D) : cLen [.tm ds] = some (.va (.int ds.length)) := rfl
@[simp] theorem cLen_bw (j : Nat) (ds : List D) : cLen [.bw j ds] = some (.va (.int ds.length)) := rfl
@[simp] theorem cLen_tup (ds : List D) : cLen [.va (.tup ds)] = some (.va (.int ds.length)) := rfl
@[simp] theorem cLen_rol (ds : List D) : cLen [.va (.rol ds)] = some (.va (.int ds.length)) := rfl
@[simp] theorem cLen_str (z : Str) : cLen [.va (.str z)] = if z.length ≤ LIM then some (.va (.int z.length)) else none := rfl
@[simp] theorem cAbs_def (i : Int) : cAbs [.va (.int i)] = some (.va (.int (if i < 0 then -i else i))) := rfl
@[simp] theorem cStrI_def (i : Int) : cStrI [.va (.int i)] = if i.natAbs.log2 < 1920 then some (.va (.str (toString i))) else none := rfl
@[simp] theorem cInt_int (i : Int) : cInt [.va (.int i)] = some (.va (.int i)) := rfl
@[simp] theorem cInt_bl (i : Bool) : cInt [.va (.bl i)] = some (.va (.int (if i then 1 else 0))) := rfl
@[simp] theorem cInt_str (a : Str) : cInt [.va (.str a)] = if a.length ≤ 640 then (PySem.intText? a).map fun n => .va (.int n) else none := rfl
@[simp] theorem cMax2_def (i j : Int) : cMax2 [.va (.int i), .va (.int j)] = some (.va (.int (max i j))) := by
  show some (R.va (.int (if j > i then j else i))) = _
  congr 3
  split <;> omega
@[simp] theorem cMin2_def (i j : Int) : cMin2 [.va (.int i), .va (.int j)] = some (.va (.int (min i j))) := by
  show some (R.va (.int (if j < i then j else i))) = _
  congr 3
  split <;> omega
@[simp] theorem c1_def (f : R → Option R) (r : R) : c1 f [r] = f r := rfl
theorem cSum_def {r : R} {ns : List Int} (h : r.d = .lst (ns.map D.int)) : cSum [r] = some (.va (.int ns.sum)) := by
  show ((lstD r.d).bind intsOf).map _ = _
  rw [h]
  show (intsOf (ns.map D.int)).map _ = _
  rw [intsOf_map]
  rfl
theorem cAll_def {r : R} {ns : List Bool} (h : r.d = .lst (ns.map D.bl)) : cAll [r] = some (.va (.bl (ns.all id))) := by
  show ((lstD r.d).bind blsOf).map _ = _
  rw [h]
  show (blsOf (ns.map D.bl)).map _ = _
  rw [blsOf_map]
  rfl
theorem cAny_def {r : R} {ns : List Bool} (h : r.d = .lst (ns.map D.bl)) : cAny [r] = some (.va (.bl (ns.any id))) := by
  show ((lstD r.d).bind blsOf).map _ = _
  rw [h]
  show (blsOf (ns.map D.bl)).map _ = _
  rw [blsOf_map]
  rfl
@[simp] theorem cList_vlst (ds : List D) : cList [.va (.lst ds)] = some (.tm ds) := rfl
@[simp] theorem cList_tup (ds : List D) : cList [.va (.tup ds)] = some (.tm ds) := rfl
@[simp] theorem cList_bw (j : Nat) (ds : List D) : cList [.bw j ds] = some (.tm ds) := rfl
@[simp] theorem cTuple_vlst (ds : List D) : cTuple [.va (.lst ds)] = some (.va (.tup ds)) := rfl
@[simp] theorem cTuple_tup (ds : List D) : cTuple [.va (.tup ds)] = some (.va (.tup ds)) := rfl
@[simp] theorem cTuple_bw (j : Nat) (ds : List D) : cTuple [.bw j ds] = some (.va (.tup ds)) := rfl
def isO (T : BTy) (r : R) : Option R := if r.isTm = true then none else (isB T r.d).map fun b => .va (.bl b)
@[simp] theorem eIs_def (T : BTy) (m : Gm → Option R) (g : Gm) : eIs T m g = b1 (m g) (isO T) := rfl
@[simp] theorem isO_def (T : BTy) (r : R) : isO T r = if r.isTm = true then none else (isB T r.d).map fun b => .va (.bl b) := rfl
def isO2 (T U : BTy) (r : R) : Option R := if r.isTm = true then none else b2 (isB T r.d) (isB U r.d) fun a b => some (.va (.bl (a || b)))
@[simp] theorem eIs2_def (T U : BTy) (m : Gm → Option R) (g : Gm) : eIs2 T U m g = b1 (m g) (isO2 T U) := by
  unfold eIs2 b1 isO2
  cases m g with
  | none => rfl
  | some r =>
    show (if r.isTm = true then none else _) = (if r.isTm = true then none else _)
    split
    · rfl
    · unfold b2
      cases isB T r.d with
      | none => rfl
      | some a => cases isB U r.d <;> rfl
@[simp] theorem isO2_def (T U : BTy) (r : R) : isO2 T U r = if r.isTm = true then none else b2 (isB T r.d) (isB U r.d) fun a b => some (.va (.bl (a || b))) := rfl
@[simp] theorem isB_int_int (i : Int) : isB .int (.int i) = some true := rfl
@[simp] theorem isB_int_bl (i : Bool) : isB .int (.bl i) = some true := rfl
@[simp] theorem isB_int_non : isB .int .non = some false := rfl
@[simp] theorem isB_int_str (i : Str) : isB .int (.str i) = some false := rfl
@[simp] theorem isB_int_tup (i : List D) : isB .int (.tup i) = some false := rfl
@[simp] theorem isB_int_lst (i : List D) : isB .int (.lst i) = some false := rfl
@[simp] theorem isB_bool_int (i : Int) : isB .bool (.int i) = some false := rfl
@[simp] theorem isB_bool_bl (i : Bool) : isB .bool (.bl i) = some true := rfl
@[simp] theorem isB_bool_non : isB .bool .non = some false := rfl
@[simp] theorem isB_bool_str (i : Str) : isB .bool (.str i) = some false := rfl
@[simp] theorem isB_bool_tup (i : List D) : isB .bool (.tup i) = some false := rfl
@[simp] theorem isB_bool_lst (i : List D) : isB .bool (.lst i) = some false := rfl
@[simp] theorem isB_str_int (i : Int) : isB .str (.int i) = some false := rfl
@[simp] theorem isB_str_bl (i : Bool) : isB .str (.bl i) = some false := rfl
@[simp] theorem isB_str_non : isB .str .non = some false := rfl
@[simp] theorem isB_str_str (i : Str) : isB .str (.str i) = some true := rfl
@[simp] theorem isB_str_tup (i : List D) : isB .str (.tup i) = some false := rfl
@[simp] theorem isB_str_lst (i : List D) : isB .str (.lst i) = some false := rfl
@[simp] theorem isB_list_int (i : Int) : isB .list (.int i) = some false := rfl
@[simp] theorem isB_list_bl (i : Bool) : isB .list (.bl i) = some false := rfl
@[simp] theorem isB_list_non : isB .list .non = some false := rfl
@[simp] theorem isB_list_str (i : Str) : isB .list (.str i) = some false := rfl
@[simp] theorem isB_list_tup (i : List D) : isB .list (.tup i) = some false := rfl
@[simp] theorem isB_list_lst (i : List D) : isB .list (.lst i) = some true := rfl
@[simp] theorem isB_tuple_int (i : Int) : isB .tuple (.int i) = some false := rfl
@[simp] theorem isB_tuple_bl (i : Bool) : isB .tuple (.bl i) = some false := rfl
@[simp] theorem isB_tuple_non : isB .tuple .non = some false := rfl
@[simp] theorem isB_tuple_str (i : Str) : isB .tuple (.str i) = some false := rfl
@[simp] theorem isB_tuple_tup (i : List D) : isB .tuple (.tup i) = some true := rfl
@[simp] theorem isB_tuple_lst (i : List D) : isB .tuple (.lst i) = some false := rfl
@[simp] theorem listR_bw (j : Nat) (ds : List D) : listR (.bw j ds) = some ([j], ds) := rfl
@[simp] theorem listR_tm (ds : List D) : listR (.tm ds) = some ([], ds) := rfl
@[simp] theorem listR_va (ds : List D) : listR (.va (.lst ds)) = some ([], ds) := rfl
@[simp] theorem seqR_bw (j : Nat) (ds : List D) : seqR (.bw j ds) = some ([j], ds) := rfl
@[simp] theorem seqR_tm (ds : List D) : seqR (.tm ds) = some ([], ds) := rfl
@[simp] theorem seqR_va (ds : List D) : seqR (.va (.lst ds)) = some ([], ds) := rfl
@[simp] theorem seqR_rol (ds : List D) : seqR (.va (.rol ds)) = some ([], ds) := rfl
@[simp] theorem seqR_tup (ds : List D) : seqR (.va (.tup ds)) = some ([], ds) := rfl
@[simp] theorem seqR_str (z : Str) : seqR (.va (.str z)) = some ([], signs z) := rfl
@[simp] theorem listA_bw (j : Nat) (ds : List D) : listA (.bw j ds) = some ([j], ds) := rfl
@[simp] theorem listA_va (ds : List D) : listA (.va (.lst ds)) = some ([], ds) := rfl
@[simp] theorem listA_rol (ds : List D) : listA (.va (.rol ds)) = some ([], ds) := rfl
theorem rg1R_def (j : Int) : rg1R [.va (.int j)] = if -(2 ^ 62) ≤ j ∧ j < 2 ^ 62 then some ([], rangeL 0 j.toNat) else none := rfl
theorem rg2R_def (i j : Int) : rg2R [.va (.int i), .va (.int j)] = if -(2 ^ 62) ≤ i ∧ i < 2 ^ 62 ∧ -(2 ^ 62) ≤ j ∧ j < 2 ^ 62 then some ([], rangeL i (j - i).toNat) else none := rfl
@[simp] theorem enR_def (r : R) : enR [r] = (listA r).map fun p => (p.1, enumL 0 p.2) := rfl
@[simp] theorem zpR_def (r s : R) : zpR [r, s] = (listA r).bind fun p => (listA s).map fun q => (p.1 ++ q.1, zipL p.2 q.2) := rfl
@[simp] theorem rvR_def (r : R) : rvR [r] = (listA r).map fun p => (p.1, p.2.reverse) := rfl
def slO (lo hi : Option Int) (a : R) : Option R := oSl a lo hi
@[simp] theorem eSl_def (m : Gm → Option R) (l h : Gm → Option (Option Int)) (g : Gm) : eSl m l h g = b1 (m g) fun a => b2 (l g) (h g) (oSl a) := rfl
@[simp] theorem pN_def (g : Gm) : pN g = some none := rfl
def pI : R → Option (Option Int)
  | .va (.int i) => some (some i)
  | _ => none
@[simp] theorem pI_def (i : Int) : pI (.va (.int i)) = some (some i) := rfl
@[simp] theorem pS_def (m : Gm → Option R) (g : Gm) : pS m g = b1 (m g) pI := by
  unfold pS b1
  cases m g with
  | none => rfl
  | some r =>
    cases r with
    | va d => cases d <;> rfl
    | _ => rfl
@[simp] theorem oSl_vlst (xs : List D) (lo hi : Option Int) : oSl (.va (.lst xs)) lo hi = some (.tm (cutL xs lo hi)) := rfl
@[simp] theorem oSl_tm (xs : List D) (lo hi : Option Int) : oSl (.tm xs) lo hi = some (.tm (cutL xs lo hi)) := rfl
@[simp] theorem oSl_bw (j : Nat) (xs : List D) (lo hi : Option Int) : oSl (.bw j xs) lo hi = some (.tm (cutL xs lo hi)) := rfl
@[simp] theorem oSl_tup (xs : List D) (lo hi : Option Int) : oSl (.va (.tup xs)) lo hi = some (.va (.tup (cutL xs lo hi))) := rfl
@[simp] theorem oSl_rol (xs : List D) (lo hi : Option Int) : oSl (.va (.rol xs)) lo hi = some (.tm (cutL xs lo hi)) := rfl
@[simp] theorem oSl_str (z : Str) (lo hi : Option Int) : oSl (.va (.str z)) lo hi = if z.length ≤ LIM then some (.va (.str (cutS z lo hi))) else none := rfl
/-- the end of a def -/
def fnR : Option Out → Option R
  | some (.rt r) => some (retR r)
  | some (.nx _) => some (.va .non)
  | _ => none
theorem phi_def (m : Gm → Option Out) (N n : Nat) (ds : List D) : phi m N n ds = if ds.length = n then fnR (m (ds.map Slot.va ++ List.replicate (N - n) Slot.un)) else none := by
  unfold phi
  by_cases h : ds.length = n
  · rw [if_pos h, if_pos h]
    cases m (ds.map Slot.va ++ List.replicate (N - n) Slot.un) with
    | none => rfl
    | some o => cases o <;> rfl
  · rw [if_neg h, if_neg h]
@[simp] theorem fnR_rt (r : R) : fnR (some (.rt r)) = some (retR r) := rfl
@[simp] theorem fnR_nx (g : Gm) : fnR (some (.nx g)) = some (.va .non) := rfl
@[simp] theorem fnR_ite (c : Prop) [Decidable c] (a b : Option Out) : fnR (if c then a else b) = if c then fnR a else fnR b := by split <;> rfl
@[simp] theorem lim_num : LIM = 16777216 := rfl
theorem cut_map {α β : Type} (f : α → β) (xs : List α) (lo hi : Option Int) : cutL (xs.map f) lo hi = (cutL xs lo hi).map f := by
  unfold cutL
  simp
theorem cut_take {α : Type} (xs : List α) (k : Nat) : cutL xs none (some (k : Int)) = xs.take k := by
  unfold cutL
  rw [HT.sIx_none, HT.sIx_nat]
  simp [List.take_eq_take_iff]
theorem cut_take0 {α : Type} (xs : List α) (k : Nat) : cutL xs (some 0) (some (k : Int)) = xs.take k := by
  unfold cutL
  rw [show HT.sIx xs.length 0 (some 0) = min 0 xs.length from HT.sIx_nat xs.length 0 0, HT.sIx_nat]
  simp [List.take_eq_take_iff]
theorem cut_drop {α : Type} (xs : List α) (k : Nat) : cutL xs (some (k : Int)) none = xs.drop k := by
  unfold cutL
  rw [HT.sIx_none, HT.sIx_nat]
  by_cases h : k ≤ xs.length
  · rw [Nat.min_eq_left h, List.take_of_length_le (by simp)]
  · rw [Nat.min_eq_right (by omega), List.drop_of_length_le (Nat.le_refl _), List.drop_of_length_le (by omega)]
    simp
theorem fdiv_pos {a b : Int} (h : 0 < b) : a.fdiv b = a / b := Int.fdiv_eq_ediv_of_nonneg a (by omega)
theorem fmod_pos {a b : Int} (h : 0 < b) : a.fmod b = a % b := Int.fmod_eq_emod_of_nonneg a (by omega)
theorem cdiv_small {a b : Int} (h0 : 0 < b) (h : b < 2 ^ 64) : CDivB a b := ⟨by omega, by
  have : b.natAbs < 2 ^ 64 := by omega
  have := PySem.Flt.log2_lt_of (by omega : 0 < 64) this
  omega⟩
theorem log_lt {x : Int} {n : Nat} (h0 : 0 < n) (h : x.natAbs < 2 ^ n) : x.natAbs.log2 < n := PySem.Flt.log2_lt_of h0 h
theorem cmul_of {a b : Int} {m n : Nat} (h0 : 0 < m) (h1 : 0 < n) (ha : a.natAbs < 2 ^ m) (hb : b.natAbs < 2 ^ n) (h : m + n ≤ 134000000) : CMulB a b := by
  have x := log_lt h0 ha
  have y := log_lt h1 hb
  unfold CMulB
  omega
theorem abs_mul_lt {a b : Int} {m n : Nat} (ha : a.natAbs < 2 ^ m) (hb : b.natAbs < 2 ^ n) : (a * b).natAbs < 2 ^ (m + n) := by
  rw [Int.natAbs_mul, Nat.pow_add]
  exact Nat.mul_lt_mul'' ha hb
theorem abs_add_lt {a b : Int} {m : Nat} (ha : a.natAbs < 2 ^ m) (hb : b.natAbs < 2 ^ m) : (a + b).natAbs < 2 ^ (m + 1) := by
  rw [Nat.pow_succ]
  omega
end BK
namespace BK
open PySem PySem.Spec L2
set_option autoImplicit false
/-! ### steps -/
@[simp] theorem cdivB_small {a b : Int} (h0 : 0 < b) (h : b < 18446744073709551616) : CDivB a b := cdiv_small h0 h
@[simp] theorem fdiv_nn {a b : Int} (h : 0 ≤ b) : a.fdiv b = a / b := Int.fdiv_eq_ediv_of_nonneg a h
@[simp] theorem fmod_nn {a b : Int} (h : 0 ≤ b) : a.fmod b = a % b := Int.fmod_eq_emod_of_nonneg a h
@[simp] theorem cpow_small {a b : Int} (h0 : -18446744073709551616 < a) (h : a < 18446744073709551616) (h1 : 0 ≤ b) (h2 : b ≤ 1000000) : CPow a b := ⟨h1, h2, by omega⟩
theorem fn_step {m n : Gm → Option Out} {g g' : Gm} {o : Option R} (h : m g = some (.nx g')) (k : fnR (n g') = o) : fnR (sCons m n g) = o := by
  rw [sCons_def, h, bO_nx, k]
theorem fn_fz {i : Nat} {m n : Gm → Option Out} {g : Gm} {ds : List D} {o : Option R} (h : g[i]? = some (.ow ds)) (k : fnR (sCons m n (g.set i (.va (.lst ds)))) = o) : fnR (sCons (sFz i m) n g) = o := by
  rw [sCons_def, sFz_def, h, fzS_ow]
  exact k
theorem fn_fz0 {i : Nat} {m n : Gm → Option Out} {g : Gm} {d : D} {o : Option R} (h : g[i]? = some (.va d)) (k : fnR (sCons m n g) = o) : fnR (sCons (sFz i m) n g) = o := by
  rw [sCons_def, sFz_def, h, fzS_va]
  exact k
theorem st_fz {i : Nat} {m n : Gm → Option Out} {g : Gm} {ds : List D} {o : Option Out} (h : g[i]? = some (.ow ds)) (k : sCons m n (g.set i (.va (.lst ds))) = o) : sCons (sFz i m) n g = o := by
  rw [sCons_def, sFz_def, h, fzS_ow]
  exact k
theorem fn_ret {m n : Gm → Option Out} {g : Gm} {r : R} {o : Option R} (h : m g = some (.rt r)) (k : some (retR r) = o) : fnR (sCons m n g) = o := by
  rw [sCons_def, h, bO_rt, fnR_rt, k]
theorem st_step {m n : Gm → Option Out} {g g' : Gm} {o : Option Out} (h : m g = some (.nx g')) (k : n g' = o) : sCons m n g = o := by
  rw [sCons_def, h, bO_nx, k]
theorem phi_go {m : Gm → Option Out} {N n : Nat} {ds : List D} {o : Option R} (hl : ds.length = n) (h : fnR (m (ds.map Slot.va ++ List.replicate (N - n) Slot.un)) = o) : phi m N n ds = o := by
  rw [phi_def, if_pos hl, h]
/-- an item of a written list -/
theorem pick {P : D → Prop} {xs : List D} {i : Int} (h0 : 0 ≤ i) (h1 : i < xs.length) (h : ∀ x ∈ xs, P x) : ∃ d, atI xs i = some d ∧ P d := by
  obtain ⟨x, hx, e⟩ := atI_lt xs i h0 h1
  exact ⟨x, e, h x hx⟩
theorem pickI {P : Int → Prop} {xs : List D} {i : Int} (h0 : 0 ≤ i) (h1 : i < xs.length) (h : ∀ x ∈ xs, ∃ n, x = .int n ∧ P n) : ∃ n, atI xs i = some (.int n) ∧ P n := by
  obtain ⟨x, hx, e⟩ := atI_lt xs i h0 h1
  obtain ⟨n, rfl, hn⟩ := h x hx
  exact ⟨n, e, hn⟩
/-- a loop that changes nothing but what its turns say: by an invariant over the items -/
theorem forL_inv {α : Type} (f : D → Gm → Option Gm) (b : Gm → Option Out) (enc : α → D) (I : List α → Gm → Prop) (xs : List α)
    (step : ∀ (pre : List α) (x : α) (g : Gm), (∃ post, xs = pre ++ x :: post) → I pre g → ∃ g', b1 (f (enc x) g) b = some (.nx g') ∧ I (pre ++ [x]) g') (g : Gm) (h : I [] g) : ∃ g', forL f b (xs.map enc) g = some (.nx g') ∧ I xs g' := by
  have key : ∀ (post pre : List α) (g : Gm), xs = pre ++ post → I pre g → ∃ g', forL f b (post.map enc) g = some (.nx g') ∧ I xs g' := by
    intro post
    induction post with
    | nil =>
      intro pre g e h
      rw [List.append_nil] at e
      subst e
      exact ⟨g, rfl, h⟩
    | cons x post ih =>
      intro pre g e h
      obtain ⟨g1, e1, h1⟩ := step pre x g ⟨post, e⟩ h
      obtain ⟨g2, e2, h2⟩ := ih (pre ++ [x]) g1 (by rw [e, List.append_assoc]; rfl) h1
      exact ⟨g2, by rw [List.map_cons, forL_cons, e1, fL_nx, e2], h2⟩
  exact key xs [] g rfl h
theorem rangeL_map (n : Nat) : rangeL 0 n = (List.range n).map fun i => .int (i : Nat) := by
  apply List.ext_getElem?
  intro i
  by_cases h : i < n
  · rw [rangeL_get n 0 i h, List.getElem?_map, List.getElem?_range h]
    simp
  · rw [List.getElem?_eq_none (by rw [rangeL_length]; omega), List.getElem?_eq_none (by simp; omega)]
/-- of at most so many bits -/
structure Sz (n : Nat) (z : Int) : Prop where
  lt : z.natAbs < 2 ^ n
theorem Sz.mono {m n : Nat} {z : Int} (h : Sz m z) (l : m ≤ n) : Sz n z := ⟨Nat.lt_of_lt_of_le h.lt (Nat.pow_le_pow_right (by omega) l)⟩
theorem Sz.zero (n : Nat) : Sz n 0 := ⟨Nat.two_pow_pos n⟩
theorem Sz.mul {m n : Nat} {a b : Int} (h : Sz m a) (k : Sz n b) : Sz (m + n) (a * b) := ⟨abs_mul_lt h.lt k.lt⟩
theorem Sz.add {m n : Nat} {a b : Int} (h : Sz m a) (k : Sz n b) : Sz (max m n + 1) (a + b) := ⟨abs_add_lt (h.mono (Nat.le_max_left ..)).lt (k.mono (Nat.le_max_right ..)).lt⟩
theorem Sz.neg {m : Nat} {a : Int} (h : Sz m a) : Sz m (-a) := ⟨by rw [Int.natAbs_neg]; exact h.lt⟩
theorem Sz.sub {m n : Nat} {a b : Int} (h : Sz m a) (k : Sz n b) : Sz (max m n + 1) (a - b) := by rw [Int.sub_eq_add_neg]; exact h.add k.neg
theorem Sz.le {n : Nat} {a b : Int} (h0 : 0 ≤ a) (h : a ≤ b) (k : Sz n b) : Sz n a := ⟨Nat.lt_of_le_of_lt (by omega) k.lt⟩
theorem Sz.abs_le {n : Nat} {a b : Int} (h : a.natAbs ≤ b.natAbs) (k : Sz n b) : Sz n a := ⟨Nat.lt_of_le_of_lt h k.lt⟩
theorem Sz.mod {n : Nat} {a b : Int} (h : 0 < b) (k : Sz n b) : Sz n (a % b) := Sz.le (Int.emod_nonneg _ (by omega)) (Int.le_of_lt (Int.emod_lt_of_pos _ h)) k
theorem Sz.div {n : Nat} {a b : Int} (h : 0 ≤ a) (h' : 0 ≤ b) (k : Sz n a) : Sz n (a / b) := Sz.le (Int.ediv_nonneg h h') (Int.ediv_le_self b h) k
theorem Sz.small {z : Int} (h : z.natAbs < 18446744073709551616) : Sz 64 z := ⟨h⟩
theorem Sz.big {z : Int} (h : z.natAbs < 1606938044258990275541962092341162602522202993782792835301376) : Sz 200 z := ⟨h⟩
theorem Sz.pow {n : Nat} : Sz (4 * n + 1) (10 ^ n : Int) := ⟨by
  rw [Int.natAbs_pow]
  calc (10 : Nat) ^ n ≤ 16 ^ n := Nat.pow_le_pow_left (by omega) n
    _ = 2 ^ (4 * n) := by rw [show (16 : Nat) = 2 ^ 4 by rfl, ← Nat.pow_mul]
    _ < 2 ^ (4 * n + 1) := Nat.pow_lt_pow_right (by omega) (by omega)⟩
theorem Sz.log {n : Nat} {z : Int} (h : Sz n z) (h0 : 0 < n) : z.natAbs.log2 < n := log_lt h0 h.lt
theorem Sz.cmul {m n : Nat} {a b : Int} (h : Sz m a) (k : Sz n b) (h0 : 0 < m) (h1 : 0 < n) (l : m + n ≤ 134000000) : CMulB a b := cmul_of h0 h1 h.lt k.lt l
theorem Sz.cdiv {n : Nat} {a b : Int} (h : Sz n b) (h0 : 0 < n) (hn : n ≤ 9000) (hb : b ≠ 0) : CDivB a b := ⟨hb, by have := h.log h0; omega⟩
theorem rg1_ok {j : Int} (h : j < 1000000000000000) (h' : -1000000000000000 < j) : rg1R [.va (.int j)] = some ([], rangeL 0 j.toNat) := by
  rw [rg1R_def, if_pos (by omega)]
theorem rg2_ok {i j : Int} (h1 : i < 1000000000000000) (h1' : -1000000000000000 < i) (h : j < 1000000000000000) (h' : -1000000000000000 < j) : rg2R [.va (.int i), .va (.int j)] = some ([], rangeL i (j - i).toNat) := by
  rw [rg2R_def, if_pos (by omega)]
/-- range(n) for a natural number n -/
theorem rg1_nat {j : Int} {n : Nat} (h : n < 1000000000000000) (e : j = n) : rg1R [.va (.int j)] = some ([], (List.range n).map fun i => .int (i : Nat)) := by
  subst e
  rw [rg1_ok (by omega) (by omega), Int.toNat_natCast, rangeL_map]
theorem bits_sz {z : Int} (h : Builtin.Int.intBits z ≤ 1048576) : Sz 1048576 z := by
  unfold Builtin.Int.intBits at h
  by_cases e : z = 0
  · subst e
    exact Sz.zero _
  · have e' : ¬ (z == 0) = true := by simpa using e
    rw [if_neg e'] at h
    exact ⟨Nat.lt_of_lt_of_le (Nat.lt_log2_self (n := z.natAbs)) (Nat.pow_le_pow_right (by omega) (by omega))⟩
/-- a for ahead of the rest of a def, by an invariant over the items taken -/
theorem for_inv {mi : Gm → Option (List Nat × List D)} {f : D → Gm → Option Gm} {b n : Gm → Option Out} {T : List Nat} {g : Gm} {o : Option R} {ps : List Nat} {α : Type} (enc : α → D) (I : List α → Gm → Prop) (xs : List α)
    (hm : mi g = some (ps, xs.map enc)) (hp : ps.all (fun j => !T.contains j) = true) (h0 : I [] g)
    (step : ∀ (pre : List α) (x : α) (g : Gm), (∃ post, xs = pre ++ x :: post) → I pre g → ∃ g', b1 (f (enc x) g) b = some (.nx g') ∧ I (pre ++ [x]) g') (k : ∀ g', I xs g' → fnR (n g') = o) : fnR (sCons (sFor mi f b T) n g) = o := by
  obtain ⟨g', e1, h1⟩ := forL_inv f b enc I xs step g h0
  refine fn_step (g' := g') ?_ (k g' h1)
  rw [sFor_def, hm]
  show (if ps.all (fun j => !T.contains j) = true then _ else _) = _
  rw [if_pos hp, e1]
/-- .. inside a block -/
theorem st_for_inv {mi : Gm → Option (List Nat × List D)} {f : D → Gm → Option Gm} {b n : Gm → Option Out} {T : List Nat} {g : Gm} {o : Option Out} {ps : List Nat} {α : Type} (enc : α → D) (I : List α → Gm → Prop) (xs : List α)
    (hm : mi g = some (ps, xs.map enc)) (hp : ps.all (fun j => !T.contains j) = true) (h0 : I [] g)
    (step : ∀ (pre : List α) (x : α) (g : Gm), (∃ post, xs = pre ++ x :: post) → I pre g → ∃ g', b1 (f (enc x) g) b = some (.nx g') ∧ I (pre ++ [x]) g') (k : ∀ g', I xs g' → n g' = o) : sCons (sFor mi f b T) n g = o := by
  obtain ⟨g', e1, h1⟩ := forL_inv f b enc I xs step g h0
  refine st_step (g' := g') ?_ (k g' h1)
  rw [sFor_def, hm]
  show (if ps.all (fun j => !T.contains j) = true then _ else _) = _
  rw [if_pos hp, e1]
/-- a cell of the script, nought where there is none -/
def cellN (ns : List Int) (k : Nat) : Int := ns.getD k 0
theorem cellN_sz {ns : List Int} (h : ∀ z ∈ ns, Sz 1048576 z) (k : Nat) : Sz 1048576 (cellN ns k) := by
  unfold cellN
  rw [List.getD_eq_getElem?_getD]
  cases e : ns[k]? with
  | none => exact Sz.zero _
  | some z => exact h z (List.mem_of_getElem? e)
theorem mem_split {α : Type} {xs pre : List α} {x : α} (h : ∃ post, xs = pre ++ x :: post) : x ∈ xs := by
  obtain ⟨post, h⟩ := h
  rw [h]
  simp
theorem get_split {α : Type} {xs pre : List α} {x : α} (h : ∃ post, xs = pre ++ x :: post) : xs[pre.length]? = some x ∧ pre = xs.take pre.length ∧ pre.length < xs.length := by
  obtain ⟨post, rfl⟩ := h
  simp
theorem range_split {n : Nat} {pre : List Nat} {x : Nat} (h : ∃ post, List.range n = pre ++ x :: post) : x < n ∧ pre = List.range x := by
  obtain ⟨h1, h2, h3⟩ := get_split h
  rw [List.length_range] at h3
  rw [List.getElem?_range h3] at h1
  cases h1
  refine ⟨h3, h2.trans ?_⟩
  rw [List.take_range, Nat.min_eq_left (by omega)]
end BK
namespace G
open PySem PySem.Spec L2 BK
set_option autoImplicit false
def topS (i : Nat) : Stmt := PySem.Challenge.pw_ballastway_k04_sums_and_products.main.body.getD i (.Pass ⟨0, 0, 0, 0⟩)
structure Blt (mg : Str → Option Value) : Prop where
  z_abs : mg "abs" = none
  z_bool : mg "bool" = none
  z_int : mg "int" = none
  z_isinstance : mg "isinstance" = none
  z_len : mg "len" = none
  z_range : mg "range" = none
  z_tuple : mg "tuple" = none
abbrev s_shared : Stmt := topS 1
theorem sc_shared : FnScope ["one", "other"] ["one", "other"] (defScope s_shared) := ⟨rfl, rfl, rfl, by decide +kernel, rfl, by decide +kernel, by decide +kernel⟩
def m_shared : Gm → Option Out := sCons (sWh (bE (e2 oNe (eV 1) (eC (.int 0)))) (sCons (sPar 0 1 (eV 1) (e2 oMod (eV 0) (eV 1))) (sNil)) FUEL) (sCons (sRet (eA cAbs (aC (eV 0) (aN)))) (sNil))
def φ_shared : Phi := phi m_shared 2 2
set_option maxHeartbeats 4000000 in
theorem ok_shared {P : Program} {w : World} {K : PySem.W.Frag} {mg : Str → Option Value} {base : Heap} {ca : Nat → Addr} {f : Addr} {fd : FuncData} (Z : Blt mg) (F : Fun K "shared" "shared" s_shared f fd) : FnOk P w K mg base CX0 (0 + 1) f fd ["one", "other"] (spOf K ca φ_shared) :=
  fn_ok F sc_shared rfl rfl rfl (fun cdv A outer s H E hr => (svs_cons (sv_while PassesOwn.never (tv_cmp (op_neA hr.units) od_ne (ev_var (pv 1)) (ev_c pe_int fun _ => .int _) (nomark _)) (svs_cons (sv_par (i := 0) (j := 1) rfl sc_shared.nd rfl rfl (by decide) rfl rfl (av_cons (ev_var (pv 1)) (av_cons (ev_op op_modN od_mod (ev_var (pv 0)) (ev_var (pv 1))) av_nil)) rfl) svs_nil)) (svs_cons (sv_ret (ev_callB call_abs' cd_abs rfl Z.z_abs b_abs (av_cons (ev_var (pv 0)) av_nil))) svs_nil)))
abbrev s_made : Stmt := topS 2
theorem sc_made : FnScope ["above", "beneath", "by"] ["above", "beneath"] (defScope s_made) := ⟨rfl, rfl, rfl, by decide +kernel, rfl, by decide +kernel, by decide +kernel⟩
def m_made : Gm → Option Out := sCons (sSet 2 (eA (callR φ_shared []) (aC (eV 0) (aC (eV 1) (aN))))) (sCons (sIf (bE (e2 oLt (eV 1) (eC (.int 0)))) (sCons (sSet 2 (e1 uNeg (eV 2))) (sNil)) (sNil)) (sCons (sRet (eA oTup (aC (e2 oDiv (eV 0) (eV 2)) (aC (e2 oDiv (eV 1) (eV 2)) (aN))))) (sNil)))
def φ_made : Phi := phi m_made 3 2
set_option maxHeartbeats 4000000 in
theorem ok_made {P : Program} {w : World} {K : PySem.W.Frag} {mg : Str → Option Value} {base : Heap} {ca : Nat → Addr} {f : Addr} {fd : FuncData} (Z : Blt mg) (C_shared : Callee P w K mg base ca 1 "shared" φ_shared []) (F : Fun K "made" "made" s_made f fd) : FnOk P w K mg base CX0 (1 + 1) f fd ["above", "beneath"] (spOf K ca φ_made) :=
  fn_ok F sc_made rfl rfl rfl (fun cdv A outer s H E hr => (svs_cons (sv_set (i := 2) sc_made.nd rfl (.inl rfl) (ev_fn C_shared (hr.mono (by decide)) rfl (av_cons (ev_var (pv 0)) (av_cons (ev_var (pv 1)) av_nil)))) (svs_cons (sv_if (tv_cmp op_lt od_cmp (ev_var (pv 1)) (ev_c pe_int fun _ => .int _) (nomark _)) (svs_cons (sv_set (i := 2) sc_made.nd rfl (.inl rfl) (ev_un un_neg ud_neg (ev_var (pv 2)))) svs_nil) svs_nil) (svs_cons (sv_ret (ev_tup (av_cons (ev_op op_fdivB od_div (ev_var (pv 0)) (ev_var (pv 2))) (av_cons (ev_op op_fdivB od_div (ev_var (pv 1)) (ev_var (pv 2))) av_nil)))) svs_nil))))
abbrev s_plus : Stmt := topS 3
theorem sc_plus : FnScope ["one", "other"] ["one", "other"] (defScope s_plus) := ⟨rfl, rfl, rfl, by decide +kernel, rfl, by decide +kernel, by decide +kernel⟩
def m_plus : Gm → Option Out := sCons (sRet (eA (callR φ_made []) (aC (e2 oAdd (e2 oMulA (e2 oIx (eV 0) (eC (.int 0))) (e2 oIx (eV 1) (eC (.int 1)))) (e2 oMulA (e2 oIx (eV 1) (eC (.int 0))) (e2 oIx (eV 0) (eC (.int 1))))) (aC (e2 oMulA (e2 oIx (eV 0) (eC (.int 1))) (e2 oIx (eV 1) (eC (.int 1)))) (aN))))) (sNil)
def φ_plus : Phi := phi m_plus 2 2
set_option maxHeartbeats 4000000 in
theorem ok_plus {P : Program} {w : World} {K : PySem.W.Frag} {mg : Str → Option Value} {base : Heap} {ca : Nat → Addr} {f : Addr} {fd : FuncData} (Z : Blt mg) (C_made : Callee P w K mg base ca 2 "made" φ_made []) (F : Fun K "plus" "plus" s_plus f fd) : FnOk P w K mg base CX0 (2 + 1) f fd ["one", "other"] (spOf K ca φ_plus) :=
  fn_ok F sc_plus rfl rfl rfl (fun cdv A outer s H E hr => (svs_cons (sv_ret (ev_fn C_made (hr.mono (by decide)) rfl (av_cons (ev_op op_addA od_add (ev_op op_mulA od_mul (ev_ix ix_seq od_ix (ev_var (pv 0)) (ev_c pe_int fun _ => .int _) (fun _ _ => rfl)) (ev_ix ix_seq od_ix (ev_var (pv 1)) (ev_c pe_int fun _ => .int _) (fun _ _ => rfl))) (ev_op op_mulA od_mul (ev_ix ix_seq od_ix (ev_var (pv 1)) (ev_c pe_int fun _ => .int _) (fun _ _ => rfl)) (ev_ix ix_seq od_ix (ev_var (pv 0)) (ev_c pe_int fun _ => .int _) (fun _ _ => rfl)))) (av_cons (ev_op op_mulA od_mul (ev_ix ix_seq od_ix (ev_var (pv 0)) (ev_c pe_int fun _ => .int _) (fun _ _ => rfl)) (ev_ix ix_seq od_ix (ev_var (pv 1)) (ev_c pe_int fun _ => .int _) (fun _ _ => rfl))) av_nil)))) svs_nil))
abbrev s_minus : Stmt := topS 4
theorem sc_minus : FnScope ["one", "other"] ["one", "other"] (defScope s_minus) := ⟨rfl, rfl, rfl, by decide +kernel, rfl, by decide +kernel, by decide +kernel⟩
def m_minus : Gm → Option Out := sCons (sRet (eA (callR φ_plus []) (aC (eV 0) (aC (eA oTup (aC (e1 uNeg (e2 oIx (eV 1) (eC (.int 0)))) (aC (e2 oIx (eV 1) (eC (.int 1))) (aN)))) (aN))))) (sNil)
def φ_minus : Phi := phi m_minus 2 2
set_option maxHeartbeats 4000000 in
theorem ok_minus {P : Program} {w : World} {K : PySem.W.Frag} {mg : Str → Option Value} {base : Heap} {ca : Nat → Addr} {f : Addr} {fd : FuncData} (Z : Blt mg) (C_plus : Callee P w K mg base ca 3 "plus" φ_plus []) (F : Fun K "minus" "minus" s_minus f fd) : FnOk P w K mg base CX0 (3 + 1) f fd ["one", "other"] (spOf K ca φ_minus) :=
  fn_ok F sc_minus rfl rfl rfl (fun cdv A outer s H E hr => (svs_cons (sv_ret (ev_fn C_plus (hr.mono (by decide)) rfl (av_cons (ev_var (pv 0)) (av_cons (ev_tup (av_cons (ev_un un_neg ud_neg (ev_ix ix_seq od_ix (ev_var (pv 1)) (ev_c pe_int fun _ => .int _) (fun _ _ => rfl))) (av_cons (ev_ix ix_seq od_ix (ev_var (pv 1)) (ev_c pe_int fun _ => .int _) (fun _ _ => rfl)) av_nil))) av_nil)))) svs_nil))
abbrev s_times : Stmt := topS 5
theorem sc_times : FnScope ["one", "other"] ["one", "other"] (defScope s_times) := ⟨rfl, rfl, rfl, by decide +kernel, rfl, by decide +kernel, by decide +kernel⟩
def m_times : Gm → Option Out := sCons (sRet (eA (callR φ_made []) (aC (e2 oMulA (e2 oIx (eV 0) (eC (.int 0))) (e2 oIx (eV 1) (eC (.int 0)))) (aC (e2 oMulA (e2 oIx (eV 0) (eC (.int 1))) (e2 oIx (eV 1) (eC (.int 1)))) (aN))))) (sNil)
def φ_times : Phi := phi m_times 2 2
set_option maxHeartbeats 4000000 in
theorem ok_times {P : Program} {w : World} {K : PySem.W.Frag} {mg : Str → Option Value} {base : Heap} {ca : Nat → Addr} {f : Addr} {fd : FuncData} (Z : Blt mg) (C_made : Callee P w K mg base ca 2 "made" φ_made []) (F : Fun K "times" "times" s_times f fd) : FnOk P w K mg base CX0 (2 + 1) f fd ["one", "other"] (spOf K ca φ_times) :=
  fn_ok F sc_times rfl rfl rfl (fun cdv A outer s H E hr => (svs_cons (sv_ret (ev_fn C_made (hr.mono (by decide)) rfl (av_cons (ev_op op_mulA od_mul (ev_ix ix_seq od_ix (ev_var (pv 0)) (ev_c pe_int fun _ => .int _) (fun _ _ => rfl)) (ev_ix ix_seq od_ix (ev_var (pv 1)) (ev_c pe_int fun _ => .int _) (fun _ _ => rfl))) (av_cons (ev_op op_mulA od_mul (ev_ix ix_seq od_ix (ev_var (pv 0)) (ev_c pe_int fun _ => .int _) (fun _ _ => rfl)) (ev_ix ix_seq od_ix (ev_var (pv 1)) (ev_c pe_int fun _ => .int _) (fun _ _ => rfl))) av_nil)))) svs_nil))
abbrev s_over : Stmt := topS 6
theorem sc_over : FnScope ["one", "other"] ["one", "other"] (defScope s_over) := ⟨rfl, rfl, rfl, by decide +kernel, rfl, by decide +kernel, by decide +kernel⟩
def m_over : Gm → Option Out := sCons (sRet (eA (callR φ_made []) (aC (e2 oMulA (e2 oIx (eV 0) (eC (.int 0))) (e2 oIx (eV 1) (eC (.int 1)))) (aC (e2 oMulA (e2 oIx (eV 0) (eC (.int 1))) (e2 oIx (eV 1) (eC (.int 0)))) (aN))))) (sNil)
def φ_over : Phi := phi m_over 2 2
set_option maxHeartbeats 4000000 in
theorem ok_over {P : Program} {w : World} {K : PySem.W.Frag} {mg : Str → Option Value} {base : Heap} {ca : Nat → Addr} {f : Addr} {fd : FuncData} (Z : Blt mg) (C_made : Callee P w K mg base ca 2 "made" φ_made []) (F : Fun K "over" "over" s_over f fd) : FnOk P w K mg base CX0 (2 + 1) f fd ["one", "other"] (spOf K ca φ_over) :=
  fn_ok F sc_over rfl rfl rfl (fun cdv A outer s H E hr => (svs_cons (sv_ret (ev_fn C_made (hr.mono (by decide)) rfl (av_cons (ev_op op_mulA od_mul (ev_ix ix_seq od_ix (ev_var (pv 0)) (ev_c pe_int fun _ => .int _) (fun _ _ => rfl)) (ev_ix ix_seq od_ix (ev_var (pv 1)) (ev_c pe_int fun _ => .int _) (fun _ _ => rfl))) (av_cons (ev_op op_mulA od_mul (ev_ix ix_seq od_ix (ev_var (pv 0)) (ev_c pe_int fun _ => .int _) (fun _ _ => rfl)) (ev_ix ix_seq od_ix (ev_var (pv 1)) (ev_c pe_int fun _ => .int _) (fun _ _ => rfl))) av_nil)))) svs_nil))
abbrev s__law_cell_at : Stmt := topS 8
theorem sc__law_cell_at : FnScope ["_law_script", "_law_k"] ["_law_script", "_law_k"] (defScope s__law_cell_at) := ⟨rfl, rfl, rfl, by decide +kernel, rfl, by decide +kernel, by decide +kernel⟩
def m__law_cell_at : Gm → Option Out := sCons (sIf (bE (e2 oLt (eV 1) (eA cLen (aC (eV 0) (aN))))) (sCons (sRet (e2 oIx (eV 0) (eV 1))) (sNil)) (sNil)) (sCons (sRet (eC (.int 0))) (sNil))
def φ__law_cell_at : Phi := phi m__law_cell_at 2 2
set_option maxHeartbeats 4000000 in
theorem ok__law_cell_at {P : Program} {w : World} {K : PySem.W.Frag} {mg : Str → Option Value} {base : Heap} {ca : Nat → Addr} {f : Addr} {fd : FuncData} (Z : Blt mg) (F : Fun K "_law_cell_at" "_law_cell_at" s__law_cell_at f fd) : FnOk P w K mg base CX0 (0 + 1) f fd ["_law_script", "_law_k"] (spOf K ca φ__law_cell_at) :=
  fn_ok F sc__law_cell_at rfl rfl rfl (fun cdv A outer s H E hr => (svs_cons (sv_if (tv_cmp op_lt od_cmp (ev_var (pv 1)) (ev_callB call_lenA cd_len rfl Z.z_len b_len (av_cons (ev_var (pv 0)) av_nil)) (nomark _)) (svs_cons (sv_ret (ev_ix ix_seq od_ix (ev_var (pv 0)) (ev_var (pv 1)) (fun _ _ => rfl))) svs_nil) svs_nil) (svs_cons (sv_ret (ev_c pe_int fun _ => .int _)) svs_nil)))
abbrev s__law_whole : Stmt := topS 9
theorem sc__law_whole : FnScope ["_law_found"] ["_law_found"] (defScope s__law_whole) := ⟨rfl, rfl, rfl, by decide +kernel, rfl, by decide +kernel, by decide +kernel⟩
def m__law_whole : Gm → Option Out := sCons (sRet (eAnd (eIs .int (eV 0)) (eNot (eIs .bool (eV 0))))) (sNil)
def φ__law_whole : Phi := phi m__law_whole 1 1
set_option maxHeartbeats 4000000 in
theorem ok__law_whole {P : Program} {w : World} {K : PySem.W.Frag} {mg : Str → Option Value} {base : Heap} {ca : Nat → Addr} {f : Addr} {fd : FuncData} (Z : Blt mg) (F : Fun K "_law_whole" "_law_whole" s__law_whole f fd) : FnOk P w K mg base CX0 (0 + 1) f fd ["_law_found"] (spOf K ca φ__law_whole) :=
  fn_ok F sc__law_whole rfl rfl rfl (fun cdv A outer s H E hr => (svs_cons (sv_ret (ev_and (ev_isi (T := .int) rfl Z.z_isinstance b_isinstance (ev_var (pv 0)) (pe_ty rfl Z.z_int b_int)) (ev_one (ev_not (ev_isi (T := .bool) rfl Z.z_isinstance b_isinstance (ev_var (pv 0)) (pe_ty rfl Z.z_bool b_bool)))))) svs_nil))
abbrev s__law_mix : Stmt := topS 10
theorem sc__law_mix : FnScope ["_law_cell", "_law_factor", "_law_mixed"] ["_law_cell", "_law_factor"] (defScope s__law_mix) := ⟨rfl, rfl, rfl, by decide +kernel, rfl, by decide +kernel, by decide +kernel⟩
def m__law_mix : Gm → Option Out := sCons (sSet 2 (e2 oMod (e2 oAdd (e2 oMulA (eV 0) (eV 1)) (eC (.int 12345))) (eC (.int 2147483647)))) (sCons (sRet (e2 oDiv (e2 oMod (e2 oMulA (eV 2) (eV 2)) (eC (.int 2147483629))) (eC (.int 3)))) (sNil))
def φ__law_mix : Phi := phi m__law_mix 3 2
set_option maxHeartbeats 4000000 in
theorem ok__law_mix {P : Program} {w : World} {K : PySem.W.Frag} {mg : Str → Option Value} {base : Heap} {ca : Nat → Addr} {f : Addr} {fd : FuncData} (Z : Blt mg) (F : Fun K "_law_mix" "_law_mix" s__law_mix f fd) : FnOk P w K mg base CX0 (0 + 1) f fd ["_law_cell", "_law_factor"] (spOf K ca φ__law_mix) :=
  fn_ok F sc__law_mix rfl rfl rfl (fun cdv A outer s H E hr => (svs_cons (sv_set (i := 2) sc__law_mix.nd rfl (.inl rfl) (ev_op op_modN od_mod (ev_op op_addA od_add (ev_op op_mulA od_mul (ev_var (pv 0)) (ev_var (pv 1))) (ev_c pe_int fun _ => .int _)) (ev_c pe_int fun _ => .int _))) (svs_cons (sv_ret (ev_op op_fdivB od_div (ev_op op_modN od_mod (ev_op op_mulA od_mul (ev_var (pv 2)) (ev_var (pv 2))) (ev_c pe_int fun _ => .int _)) (ev_c pe_int fun _ => .int _))) svs_nil)))
abbrev s__law_shared : Stmt := topS 11
theorem sc__law_shared : FnScope ["_law_one", "_law_other", "_law_kept"] ["_law_one", "_law_other"] (defScope s__law_shared) := ⟨rfl, rfl, rfl, by decide +kernel, rfl, by decide +kernel, by decide +kernel⟩
def m__law_shared : Gm → Option Out := sCons (sWh (bE (e2 oGt (eV 1) (eC (.int 0)))) (sCons (sSet 2 (e2 oMod (eV 0) (eV 1))) (sCons (sSet 0 (eV 1)) (sCons (sSet 1 (eV 2)) (sNil)))) FUEL) (sCons (sRet (eV 0)) (sNil))
def φ__law_shared : Phi := phi m__law_shared 3 2
set_option maxHeartbeats 4000000 in
theorem ok__law_shared {P : Program} {w : World} {K : PySem.W.Frag} {mg : Str → Option Value} {base : Heap} {ca : Nat → Addr} {f : Addr} {fd : FuncData} (Z : Blt mg) (F : Fun K "_law_shared" "_law_shared" s__law_shared f fd) : FnOk P w K mg base CX0 (0 + 1) f fd ["_law_one", "_law_other"] (spOf K ca φ__law_shared) :=
  fn_ok F sc__law_shared rfl rfl rfl (fun cdv A outer s H E hr => (svs_cons (sv_while PassesOwn.never (tv_cmp op_gt od_cmp (ev_var (pv 1)) (ev_c pe_int fun _ => .int _) (nomark _)) (svs_cons (sv_set (i := 2) sc__law_shared.nd rfl (.inl rfl) (ev_op op_modN od_mod (ev_var (pv 0)) (ev_var (pv 1)))) (svs_cons (sv_set (i := 0) sc__law_shared.nd rfl (.inl rfl) (ev_var (pv 1))) (svs_cons (sv_set (i := 1) sc__law_shared.nd rfl (.inl rfl) (ev_var (pv 2))) svs_nil)))) (svs_cons (sv_ret (ev_var (pv 0))) svs_nil)))
abbrev s__law_lowest : Stmt := topS 12
theorem sc__law_lowest : FnScope ["_law_top", "_law_bottom", "_law_by"] ["_law_top", "_law_bottom"] (defScope s__law_lowest) := ⟨rfl, rfl, rfl, by decide +kernel, rfl, by decide +kernel, by decide +kernel⟩
def m__law_lowest : Gm → Option Out := sCons (sSet 2 (eA (callR φ__law_shared []) (aC (eA cAbs (aC (eV 0) (aN))) (aC (eV 1) (aN))))) (sCons (sRet (eA oTup (aC (e2 oDiv (eV 0) (eV 2)) (aC (e2 oDiv (eV 1) (eV 2)) (aN))))) (sNil))
def φ__law_lowest : Phi := phi m__law_lowest 3 2
set_option maxHeartbeats 4000000 in
theorem ok__law_lowest {P : Program} {w : World} {K : PySem.W.Frag} {mg : Str → Option Value} {base : Heap} {ca : Nat → Addr} {f : Addr} {fd : FuncData} (Z : Blt mg) (C__law_shared : Callee P w K mg base ca 1 "_law_shared" φ__law_shared []) (F : Fun K "_law_lowest" "_law_lowest" s__law_lowest f fd) : FnOk P w K mg base CX0 (1 + 1) f fd ["_law_top", "_law_bottom"] (spOf K ca φ__law_lowest) :=
  fn_ok F sc__law_lowest rfl rfl rfl (fun cdv A outer s H E hr => (svs_cons (sv_set (i := 2) sc__law_lowest.nd rfl (.inl rfl) (ev_fn C__law_shared (hr.mono (by decide)) rfl (av_cons (ev_callB call_abs' cd_abs rfl Z.z_abs b_abs (av_cons (ev_var (pv 0)) av_nil)) (av_cons (ev_var (pv 1)) av_nil)))) (svs_cons (sv_ret (ev_tup (av_cons (ev_op op_fdivB od_div (ev_var (pv 0)) (ev_var (pv 2))) (av_cons (ev_op op_fdivB od_div (ev_var (pv 1)) (ev_var (pv 2))) av_nil)))) svs_nil)))
abbrev s__law_is : Stmt := topS 13
theorem sc__law_is : FnScope ["_law_found", "_law_due"] ["_law_found", "_law_due"] (defScope s__law_is) := ⟨rfl, rfl, rfl, by decide +kernel, rfl, by decide +kernel, by decide +kernel⟩
def m__law_is : Gm → Option Out := sCons (sIf (bOr (bNot (bE (eIs .tuple (eV 0)))) (bE (e2 oNe (eA cLen (aC (eV 0) (aN))) (eC (.int 2))))) (sCons (sRet (eC (.bl false))) (sNil)) (sNil)) (sCons (sRet (eAnd (eA (callR φ__law_whole []) (aC (e2 oIx (eV 0) (eC (.int 0))) (aN))) (eAnd (eA (callR φ__law_whole []) (aC (e2 oIx (eV 0) (eC (.int 1))) (aN))) (e2 oEq (eV 0) (eV 1))))) (sNil))
def φ__law_is : Phi := phi m__law_is 2 2
set_option maxHeartbeats 4000000 in
theorem ok__law_is {P : Program} {w : World} {K : PySem.W.Frag} {mg : Str → Option Value} {base : Heap} {ca : Nat → Addr} {f : Addr} {fd : FuncData} (Z : Blt mg) (C__law_whole : Callee P w K mg base ca 1 "_law_whole" φ__law_whole []) (F : Fun K "_law_is" "_law_is" s__law_is f fd) : FnOk P w K mg base CX0 (1 + 1) f fd ["_law_found", "_law_due"] (spOf K ca φ__law_is) :=
  fn_ok F sc__law_is rfl rfl rfl (fun cdv A outer s H E hr => (svs_cons (sv_if (tv_w (wv_or (tv_not (tv_val (ev_isi (T := .tuple) rfl Z.z_isinstance b_isinstance (ev_var (pv 0)) (pe_ty rfl Z.z_tuple b_tuple)))) (wv_one' (tv_cmp (op_neA hr.units) od_ne (ev_callB call_lenA cd_len rfl Z.z_len b_len (av_cons (ev_var (pv 0)) av_nil)) (ev_c pe_int fun _ => .int _) (nomark _))))) (svs_cons (sv_ret (ev_c pe_bl fun _ => .bl _)) svs_nil) svs_nil) (svs_cons (sv_ret (ev_and (ev_fn C__law_whole (hr.mono (by decide)) rfl (av_cons (ev_ix ix_seq od_ix (ev_var (pv 0)) (ev_c pe_int fun _ => .int _) (fun _ _ => rfl)) av_nil)) (ev_and (ev_fn C__law_whole (hr.mono (by decide)) rfl (av_cons (ev_ix ix_seq od_ix (ev_var (pv 0)) (ev_c pe_int fun _ => .int _) (fun _ _ => rfl)) av_nil)) (ev_one (ev_cmp (op_eqA hr.units) od_eq (ev_var (pv 0)) (ev_var (pv 1)) (nomark _)))))) svs_nil)))
abbrev s__law_drawn : Stmt := topS 14
theorem sc__law_drawn : FnScope ["_law_cell", "_law_number", "_law_top", "_law_bottom"] ["_law_cell", "_law_number"] (defScope s__law_drawn) := ⟨rfl, rfl, rfl, by decide +kernel, rfl, by decide +kernel, by decide +kernel⟩
def m__law_drawn : Gm → Option Out := sCons (sSet 2 (e2 oIx (eA oLst (aC (e2 oMod (eV 1) (eC (.int 7))) (aC (e2 oMod (eV 1) (eC (.int 61))) (aC (e2 oMod (eV 0) (e2 oPow (eC (.int 10)) (eC (.int 30)))) (aC (eC (.int 0)) (aC (eV 1) (aN))))))) (e2 oMod (eV 1) (eC (.int 5))))) (sCons (sSet 3 (e2 oIx (eA oLst (aC (eC (.int 1)) (aC (e2 oAdd (eC (.int 1)) (e2 oMod (e2 oDiv (eV 1) (eC (.int 35))) (eC (.int 12)))) (aC (e2 oAdd (eC (.int 1)) (e2 oMod (e2 oDiv (eV 1) (eC (.int 35))) (eC (.int 27720)))) (aC (e2 oAdd (eC (.int 1)) (e2 oMod (eV 0) (e2 oPow (eC (.int 10)) (eC (.int 28))))) (aN)))))) (e2 oMod (e2 oDiv (eV 1) (eC (.int 5))) (eC (.int 4))))) (sCons (sIf (bE (e2 oEq (e2 oMod (e2 oDiv (eV 1) (eC (.int 20))) (eC (.int 3))) (eC (.int 1)))) (sCons (sSet 2 (e1 uNeg (eV 2))) (sNil)) (sNil)) (sCons (sRet (eA (callR φ__law_lowest []) (aC (eV 2) (aC (eV 3) (aN))))) (sNil))))
def φ__law_drawn : Phi := phi m__law_drawn 4 2
set_option maxHeartbeats 4000000 in
theorem ok__law_drawn {P : Program} {w : World} {K : PySem.W.Frag} {mg : Str → Option Value} {base : Heap} {ca : Nat → Addr} {f : Addr} {fd : FuncData} (Z : Blt mg) (C__law_lowest : Callee P w K mg base ca 2 "_law_lowest" φ__law_lowest []) (F : Fun K "_law_drawn" "_law_drawn" s__law_drawn f fd) : FnOk P w K mg base CX0 (2 + 1) f fd ["_law_cell", "_law_number"] (spOf K ca φ__law_drawn) :=
  fn_ok F sc__law_drawn rfl rfl rfl (fun cdv A outer s H E hr => (svs_cons (sv_set (i := 2) sc__law_drawn.nd rfl (.inl rfl) (ev_ix ix_seq od_ix (ev_lst (av_cons (ev_op op_modN od_mod (ev_var (pv 1)) (ev_c pe_int fun _ => .int _)) (av_cons (ev_op op_modN od_mod (ev_var (pv 1)) (ev_c pe_int fun _ => .int _)) (av_cons (ev_op op_modN od_mod (ev_var (pv 0)) (ev_op op_pow od_pow (ev_c pe_int fun _ => .int _) (ev_c pe_int fun _ => .int _))) (av_cons (ev_c pe_int fun _ => .int _) (av_cons (ev_var (pv 1)) av_nil)))))) (ev_op op_modN od_mod (ev_var (pv 1)) (ev_c pe_int fun _ => .int _)) (fun _ _ => rfl))) (svs_cons (sv_set (i := 3) sc__law_drawn.nd rfl (.inl rfl) (ev_ix ix_seq od_ix (ev_lst (av_cons (ev_c pe_int fun _ => .int _) (av_cons (ev_op op_addA od_add (ev_c pe_int fun _ => .int _) (ev_op op_modN od_mod (ev_op op_fdivB od_div (ev_var (pv 1)) (ev_c pe_int fun _ => .int _)) (ev_c pe_int fun _ => .int _))) (av_cons (ev_op op_addA od_add (ev_c pe_int fun _ => .int _) (ev_op op_modN od_mod (ev_op op_fdivB od_div (ev_var (pv 1)) (ev_c pe_int fun _ => .int _)) (ev_c pe_int fun _ => .int _))) (av_cons (ev_op op_addA od_add (ev_c pe_int fun _ => .int _) (ev_op op_modN od_mod (ev_var (pv 0)) (ev_op op_pow od_pow (ev_c pe_int fun _ => .int _) (ev_c pe_int fun _ => .int _)))) av_nil))))) (ev_op op_modN od_mod (ev_op op_fdivB od_div (ev_var (pv 1)) (ev_c pe_int fun _ => .int _)) (ev_c pe_int fun _ => .int _)) (fun _ _ => rfl))) (svs_cons (sv_if (tv_cmp (op_eqA hr.units) od_eq (ev_op op_modN od_mod (ev_op op_fdivB od_div (ev_var (pv 1)) (ev_c pe_int fun _ => .int _)) (ev_c pe_int fun _ => .int _)) (ev_c pe_int fun _ => .int _) (nomark _)) (svs_cons (sv_set (i := 2) sc__law_drawn.nd rfl (.inl rfl) (ev_un un_neg ud_neg (ev_var (pv 2)))) svs_nil) svs_nil) (svs_cons (sv_ret (ev_fn C__law_lowest (hr.mono (by decide)) rfl (av_cons (ev_var (pv 2)) (av_cons (ev_var (pv 3)) av_nil)))) svs_nil)))))
abbrev s__law_good : Stmt := topS 15
theorem sc__law_good : FnScope ["_law_one", "_law_other", "_law_top", "_law_right", "_law_bottom", "_law_sign"] ["_law_one", "_law_other"] (defScope s__law_good) := ⟨rfl, rfl, rfl, by decide +kernel, rfl, by decide +kernel, by decide +kernel⟩
def m__law_good : Gm → Option Out := sCons (sSet 2 (e2 oMulA (e2 oIx (eV 0) (eC (.int 0))) (e2 oIx (eV 1) (eC (.int 1))))) (sCons (sSet 3 (e2 oMulA (e2 oIx (eV 1) (eC (.int 0))) (e2 oIx (eV 0) (eC (.int 1))))) (sCons (sSet 4 (e2 oMulA (e2 oIx (eV 0) (eC (.int 1))) (e2 oIx (eV 1) (eC (.int 1))))) (sCons (sIf (bNot (bE (eA (callR φ__law_is []) (aC (eA (callR φ_plus []) (aC (eV 0) (aC (eV 1) (aN)))) (aC (eA (callR φ__law_lowest []) (aC (e2 oAdd (eV 2) (eV 3)) (aC (eV 4) (aN)))) (aN)))))) (sCons (sRet (eC (.bl false))) (sNil)) (sNil)) (sCons (sIf (bNot (bE (eA (callR φ__law_is []) (aC (eA (callR φ_minus []) (aC (eV 0) (aC (eV 1) (aN)))) (aC (eA (callR φ__law_lowest []) (aC (e2 oSub (eV 2) (eV 3)) (aC (eV 4) (aN)))) (aN)))))) (sCons (sRet (eC (.bl false))) (sNil)) (sNil)) (sCons (sIf (bNot (bE (eA (callR φ__law_is []) (aC (eA (callR φ_times []) (aC (eV 0) (aC (eV 1) (aN)))) (aC (eA (callR φ__law_lowest []) (aC (e2 oMulA (e2 oIx (eV 0) (eC (.int 0))) (e2 oIx (eV 1) (eC (.int 0)))) (aC (eV 4) (aN)))) (aN)))))) (sCons (sRet (eC (.bl false))) (sNil)) (sNil)) (sCons (sIf (bNot (bE (eA (callR φ__law_is []) (aC (eA (callR φ_minus []) (aC (eA (callR φ_plus []) (aC (eV 0) (aC (eV 1) (aN)))) (aC (eV 1) (aN)))) (aC (eV 0) (aN)))))) (sCons (sRet (eC (.bl false))) (sNil)) (sNil)) (sCons (sIf (bE (e2 oEq (e2 oIx (eV 1) (eC (.int 0))) (eC (.int 0)))) (sCons (sRet (eC (.bl true))) (sNil)) (sNil)) (sCons (sSet 5 (e2 oSub (eC (.int 1)) (e2 oMulA (eC (.int 2)) (eA cInt (aC (e2 oLt (e2 oIx (eV 1) (eC (.int 0))) (eC (.int 0))) (aN)))))) (sCons (sIf (bNot (bE (eA (callR φ__law_is []) (aC (eA (callR φ_over []) (aC (eV 0) (aC (eV 1) (aN)))) (aC (eA (callR φ__law_lowest []) (aC (e2 oMulA (eV 5) (eV 2)) (aC (e2 oMulA (eV 5) (eV 3)) (aN)))) (aN)))))) (sCons (sRet (eC (.bl false))) (sNil)) (sNil)) (sCons (sRet (eA (callR φ__law_is []) (aC (eA (callR φ_over []) (aC (eA (callR φ_times []) (aC (eV 0) (aC (eV 1) (aN)))) (aC (eV 1) (aN)))) (aC (eV 0) (aN))))) (sNil)))))))))))
def φ__law_good : Phi := phi m__law_good 6 2
set_option maxHeartbeats 4000000 in
theorem ok__law_good {P : Program} {w : World} {K : PySem.W.Frag} {mg : Str → Option Value} {base : Heap} {ca : Nat → Addr} {f : Addr} {fd : FuncData} (Z : Blt mg) (C__law_is : Callee P w K mg base ca 2 "_law_is" φ__law_is []) (C_plus : Callee P w K mg base ca 3 "plus" φ_plus []) (C__law_lowest : Callee P w K mg base ca 2 "_law_lowest" φ__law_lowest []) (C_minus : Callee P w K mg base ca 4 "minus" φ_minus []) (C_times : Callee P w K mg base ca 3 "times" φ_times []) (C_over : Callee P w K mg base ca 3 "over" φ_over []) (F : Fun K "_law_good" "_law_good" s__law_good f fd) : FnOk P w K mg base CX0 (4 + 1) f fd ["_law_one", "_law_other"] (spOf K ca φ__law_good) :=
  fn_ok F sc__law_good rfl rfl rfl (fun cdv A outer s H E hr => (svs_cons (sv_set (i := 2) sc__law_good.nd rfl (.inl rfl) (ev_op op_mulA od_mul (ev_ix ix_seq od_ix (ev_var (pv 0)) (ev_c pe_int fun _ => .int _) (fun _ _ => rfl)) (ev_ix ix_seq od_ix (ev_var (pv 1)) (ev_c pe_int fun _ => .int _) (fun _ _ => rfl)))) (svs_cons (sv_set (i := 3) sc__law_good.nd rfl (.inl rfl) (ev_op op_mulA od_mul (ev_ix ix_seq od_ix (ev_var (pv 1)) (ev_c pe_int fun _ => .int _) (fun _ _ => rfl)) (ev_ix ix_seq od_ix (ev_var (pv 0)) (ev_c pe_int fun _ => .int _) (fun _ _ => rfl)))) (svs_cons (sv_set (i := 4) sc__law_good.nd rfl (.inl rfl) (ev_op op_mulA od_mul (ev_ix ix_seq od_ix (ev_var (pv 0)) (ev_c pe_int fun _ => .int _) (fun _ _ => rfl)) (ev_ix ix_seq od_ix (ev_var (pv 1)) (ev_c pe_int fun _ => .int _) (fun _ _ => rfl)))) (svs_cons (sv_if (tv_not (tv_val (ev_fn C__law_is (hr.mono (by decide)) rfl (av_cons (ev_fn C_plus (hr.mono (by decide)) rfl (av_cons (ev_var (pv 0)) (av_cons (ev_var (pv 1)) av_nil))) (av_cons (ev_fn C__law_lowest (hr.mono (by decide)) rfl (av_cons (ev_op op_addA od_add (ev_var (pv 2)) (ev_var (pv 3))) (av_cons (ev_var (pv 4)) av_nil))) av_nil))))) (svs_cons (sv_ret (ev_c pe_bl fun _ => .bl _)) svs_nil) svs_nil) (svs_cons (sv_if (tv_not (tv_val (ev_fn C__law_is (hr.mono (by decide)) rfl (av_cons (ev_fn C_minus (hr.mono (by decide)) rfl (av_cons (ev_var (pv 0)) (av_cons (ev_var (pv 1)) av_nil))) (av_cons (ev_fn C__law_lowest (hr.mono (by decide)) rfl (av_cons (ev_op op_sub od_sub (ev_var (pv 2)) (ev_var (pv 3))) (av_cons (ev_var (pv 4)) av_nil))) av_nil))))) (svs_cons (sv_ret (ev_c pe_bl fun _ => .bl _)) svs_nil) svs_nil) (svs_cons (sv_if (tv_not (tv_val (ev_fn C__law_is (hr.mono (by decide)) rfl (av_cons (ev_fn C_times (hr.mono (by decide)) rfl (av_cons (ev_var (pv 0)) (av_cons (ev_var (pv 1)) av_nil))) (av_cons (ev_fn C__law_lowest (hr.mono (by decide)) rfl (av_cons (ev_op op_mulA od_mul (ev_ix ix_seq od_ix (ev_var (pv 0)) (ev_c pe_int fun _ => .int _) (fun _ _ => rfl)) (ev_ix ix_seq od_ix (ev_var (pv 1)) (ev_c pe_int fun _ => .int _) (fun _ _ => rfl))) (av_cons (ev_var (pv 4)) av_nil))) av_nil))))) (svs_cons (sv_ret (ev_c pe_bl fun _ => .bl _)) svs_nil) svs_nil) (svs_cons (sv_if (tv_not (tv_val (ev_fn C__law_is (hr.mono (by decide)) rfl (av_cons (ev_fn C_minus (hr.mono (by decide)) rfl (av_cons (ev_fn C_plus (hr.mono (by decide)) rfl (av_cons (ev_var (pv 0)) (av_cons (ev_var (pv 1)) av_nil))) (av_cons (ev_var (pv 1)) av_nil))) (av_cons (ev_var (pv 0)) av_nil))))) (svs_cons (sv_ret (ev_c pe_bl fun _ => .bl _)) svs_nil) svs_nil) (svs_cons (sv_if (tv_cmp (op_eqA hr.units) od_eq (ev_ix ix_seq od_ix (ev_var (pv 1)) (ev_c pe_int fun _ => .int _) (fun _ _ => rfl)) (ev_c pe_int fun _ => .int _) (nomark _)) (svs_cons (sv_ret (ev_c pe_bl fun _ => .bl _)) svs_nil) svs_nil) (svs_cons (sv_set (i := 5) sc__law_good.nd rfl (.inl rfl) (ev_op op_sub od_sub (ev_c pe_int fun _ => .int _) (ev_op op_mulA od_mul (ev_c pe_int fun _ => .int _) (ev_callT call_intA cd_int rfl Z.z_int b_int (av_cons (ev_cmp op_lt od_cmp (ev_ix ix_seq od_ix (ev_var (pv 1)) (ev_c pe_int fun _ => .int _) (fun _ _ => rfl)) (ev_c pe_int fun _ => .int _) (nomark _)) av_nil))))) (svs_cons (sv_if (tv_not (tv_val (ev_fn C__law_is (hr.mono (by decide)) rfl (av_cons (ev_fn C_over (hr.mono (by decide)) rfl (av_cons (ev_var (pv 0)) (av_cons (ev_var (pv 1)) av_nil))) (av_cons (ev_fn C__law_lowest (hr.mono (by decide)) rfl (av_cons (ev_op op_mulA od_mul (ev_var (pv 5)) (ev_var (pv 2))) (av_cons (ev_op op_mulA od_mul (ev_var (pv 5)) (ev_var (pv 3))) av_nil))) av_nil))))) (svs_cons (sv_ret (ev_c pe_bl fun _ => .bl _)) svs_nil) svs_nil) (svs_cons (sv_ret (ev_fn C__law_is (hr.mono (by decide)) rfl (av_cons (ev_fn C_over (hr.mono (by decide)) rfl (av_cons (ev_fn C_times (hr.mono (by decide)) rfl (av_cons (ev_var (pv 0)) (av_cons (ev_var (pv 1)) av_nil))) (av_cons (ev_var (pv 1)) av_nil))) (av_cons (ev_var (pv 0)) av_nil)))) svs_nil))))))))))))
abbrev s_law : Stmt := topS 16
theorem sc_law : FnScope ["_law_script", "_law_cells", "_law_k", "_law_cell", "_law_other", "_law_one"] ["_law_script"] (defScope s_law) := ⟨rfl, rfl, rfl, by decide +kernel, rfl, by decide +kernel, by decide +kernel⟩
def m_law : Gm → Option Out := sCons (sSet 1 (eSl (eV 0) (pS (eC (.int 0))) (pS (eC (.int 60))))) (sCons (sFz 1 (sFor (iA rg1R (aC (e2 oAdd (eC (.int 1)) (e2 oDiv (eA cLen (aC (eV 1) (aN))) (eC (.int 2)))) (aN))) (gN 2) (sCons (sSet 3 (eA (callR φ__law_cell_at []) (aC (eV 1) (aC (e2 oMulA (eC (.int 2)) (eV 2)) (aN))))) (sCons (sSet 4 (eA (callR φ__law_cell_at []) (aC (eV 1) (aC (e2 oAdd (e2 oMulA (eC (.int 2)) (eV 2)) (eC (.int 1))) (aN))))) (sCons (sSet 5 (eA (callR φ__law_drawn []) (aC (eV 3) (aC (eA (callR φ__law_mix []) (aC (e2 oAdd (eV 3) (eV 2)) (aC (eC (.int 48271)) (aN)))) (aN))))) (sCons (sIf (bOr (bNot (bE (eA (callR φ__law_good []) (aC (eV 5) (aC (eA (callR φ__law_drawn []) (aC (eV 4) (aC (eA (callR φ__law_mix []) (aC (e2 oAdd (eV 4) (eV 2)) (aC (eC (.int 16807)) (aN)))) (aN)))) (aN)))))) (bNot (bE (eA (callR φ__law_good []) (aC (eV 5) (aC (eV 5) (aN))))))) (sCons (sRet (eC (.bl false))) (sNil)) (sNil)) (sNil))))) [2, 3, 4, 5])) (sCons (sRet (eC (.bl true))) (sNil)))
def φ_law : Phi := phi m_law 6 1
set_option maxHeartbeats 4000000 in
theorem ok_law {P : Program} {w : World} {K : PySem.W.Frag} {mg : Str → Option Value} {base : Heap} {ca : Nat → Addr} {f : Addr} {fd : FuncData} (Z : Blt mg) (C__law_cell_at : Callee P w K mg base ca 1 "_law_cell_at" φ__law_cell_at []) (C__law_drawn : Callee P w K mg base ca 3 "_law_drawn" φ__law_drawn []) (C__law_mix : Callee P w K mg base ca 1 "_law_mix" φ__law_mix []) (C__law_good : Callee P w K mg base ca 5 "_law_good" φ__law_good []) (F : Fun K "law" "law" s_law f fd) : FnOk P w K mg base CX0 (5 + 1) f fd ["_law_script"] (spOf K ca φ_law) :=
  fn_ok F sc_law rfl rfl rfl (fun cdv A outer s H E hr => (svs_cons (sv_set (i := 1) sc_law.nd rfl (.inl rfl) (ev_slice (ev_var (pv 0)) (ov_some (ev_c pe_int fun _ => .int _)) (ov_some (ev_c pe_int fun _ => .int _)))) (svs_cons (sv_fz (i := 1) (sv_for PassesOwn.never rfl (iv_rg1 rfl Z.z_range (av_cons (ev_op op_addA od_add (ev_c pe_int fun _ => .int _) (ev_op op_fdivB od_div (ev_callB call_lenA cd_len rfl Z.z_len b_len (av_cons (ev_var (pv 1)) av_nil)) (ev_c pe_int fun _ => .int _))) av_nil)) (gv_name sc_law.nd rfl (.inl rfl)) (svs_cons (sv_set (i := 3) sc_law.nd rfl (.inl rfl) (ev_fn C__law_cell_at (hr.mono (by decide)) rfl (av_cons (ev_var (pv 1)) (av_cons (ev_op op_mulA od_mul (ev_c pe_int fun _ => .int _) (ev_var (pv 2))) av_nil)))) (svs_cons (sv_set (i := 4) sc_law.nd rfl (.inl rfl) (ev_fn C__law_cell_at (hr.mono (by decide)) rfl (av_cons (ev_var (pv 1)) (av_cons (ev_op op_addA od_add (ev_op op_mulA od_mul (ev_c pe_int fun _ => .int _) (ev_var (pv 2))) (ev_c pe_int fun _ => .int _)) av_nil)))) (svs_cons (sv_set (i := 5) sc_law.nd rfl (.inl rfl) (ev_fn C__law_drawn (hr.mono (by decide)) rfl (av_cons (ev_var (pv 3)) (av_cons (ev_fn C__law_mix (hr.mono (by decide)) rfl (av_cons (ev_op op_addA od_add (ev_var (pv 3)) (ev_var (pv 2))) (av_cons (ev_c pe_int fun _ => .int _) av_nil))) av_nil)))) (svs_cons (sv_if (tv_w (wv_or (tv_not (tv_val (ev_fn C__law_good (hr.mono (by decide)) rfl (av_cons (ev_var (pv 5)) (av_cons (ev_fn C__law_drawn (hr.mono (by decide)) rfl (av_cons (ev_var (pv 4)) (av_cons (ev_fn C__law_mix (hr.mono (by decide)) rfl (av_cons (ev_op op_addA od_add (ev_var (pv 4)) (ev_var (pv 2))) (av_cons (ev_c pe_int fun _ => .int _) av_nil))) av_nil))) av_nil))))) (wv_one' (tv_not (tv_val (ev_fn C__law_good (hr.mono (by decide)) rfl (av_cons (ev_var (pv 5)) (av_cons (ev_var (pv 5)) av_nil)))))))) (svs_cons (sv_ret (ev_c pe_bl fun _ => .bl _)) svs_nil) svs_nil) svs_nil)))) rfl)) (svs_cons (sv_ret (ev_c pe_bl fun _ => .bl _)) svs_nil))))
end G
namespace G
open PySem L2 BK
set_option autoImplicit false
/-! numbers -/
theorem fuel_gt {n : Nat} {z : Int} (h : Sz n z) (hn : n ≤ 1000000) : z.natAbs < FUEL := (h.mono hn).lt
theorem gcd_fmod (a b : Int) : Int.gcd b (a.fmod b) = Int.gcd a b := by
  have e : a.fmod b = a - b * a.fdiv b := Int.fmod_def a b
  apply Nat.dvd_antisymm
  · apply Int.dvd_gcd
    · have h1 : ((Int.gcd b (a.fmod b) : Nat) : Int) ∣ b := Int.gcd_dvd_left ..
      have h2 : ((Int.gcd b (a.fmod b) : Nat) : Int) ∣ a.fmod b := Int.gcd_dvd_right ..
      have h3 : a = a.fmod b + b * a.fdiv b := (Int.fmod_add_mul_fdiv a b).symm
      rw [h3]
      exact Int.dvd_add (by rw [← h3]; exact h2) (Int.dvd_trans (by rw [← h3]; exact h1) (Int.dvd_mul_right _ _))
    · exact Int.gcd_dvd_left ..
  · apply Int.dvd_gcd
    · exact Int.gcd_dvd_right ..
    · rw [e]
      exact Int.dvd_sub (Int.gcd_dvd_left ..) (Int.dvd_trans (Int.gcd_dvd_right ..) (Int.dvd_mul_right _ _))
theorem fmod_abs_lt (a b : Int) (h : b ≠ 0) : (a.fmod b).natAbs < b.natAbs := by
  rcases Int.lt_or_gt_of_ne h with h1 | h1
  · have e := Int.neg_fmod_neg a b
    have h2 := Int.fmod_lt_of_pos (-a) (show 0 < -b by omega)
    have h3 := Int.fmod_nonneg_of_pos (-a) (show 0 < -b by omega)
    omega
  · have h2 := Int.fmod_lt_of_pos a h1
    have h3 := Int.fmod_nonneg_of_pos a h1
    omega
theorem gcd_pos {a b : Int} (h : b ≠ 0) : 0 < Int.gcd a b := Nat.pos_of_ne_zero fun z => h (Int.gcd_eq_zero_iff.mp z).2
theorem gcd_le_right {a b : Int} (h : b ≠ 0) : Int.gcd a b ≤ b.natAbs := Int.gcd_le_natAbs_right _ h
/-- a fraction as data -/
def encQ (q : Rat) : D := .tup [.int q.num, .int (q.den : Int)]
/-- a fraction of numbers of so many bits -/
def bq (n : Nat) (q : Rat) : Prop := Sz n q.num ∧ Sz n (q.den : Int)
theorem encQ_divInt {a b : Int} (h : b ≠ 0) : encQ (Rat.divInt a b) = .tup [.int (a.fdiv (if b < 0 then -(Int.gcd a b : Int) else Int.gcd a b)), .int (b.fdiv (if b < 0 then -(Int.gcd a b : Int) else Int.gcd a b))] := by
  have g0 : (0 : Int) < Int.gcd a b := by have := gcd_pos (a := a) h; omega
  obtain ⟨x, hx⟩ : (Int.gcd a b : Int) ∣ a := Int.gcd_dvd_left ..
  obtain ⟨y, hy⟩ : (Int.gcd a b : Int) ∣ b := Int.gcd_dvd_right ..
  generalize hg : (Int.gcd a b : Int) = g at *
  have hgc : (Int.gcd b a : Int) = g := by rw [Int.gcd_comm]; exact hg
  have hgn : Int.gcd b a = g.natAbs := by omega
  unfold encQ
  rw [Rat.num_divInt, Rat.den_divInt, if_neg h, hgc, hgn]
  have hb2 : b.natAbs / g.natAbs = y.natAbs := by
    rw [hy, Int.natAbs_mul]
    exact Nat.mul_div_cancel_left _ (by omega)
  rw [hb2]
  by_cases hn : b < 0
  · have y0 : y < 0 := by
      rw [hy] at hn
      by_cases z : y < 0
      · exact z
      · have := Int.mul_nonneg (Int.le_of_lt g0) (show 0 ≤ y by omega)
        omega
    rw [if_pos hn, Int.sign_eq_neg_one_of_neg hn]
    have e1 : a.fdiv (-g) = -x := by
      rw [hx, show g * x = (-g) * (-x) by rw [Int.neg_mul_neg]]
      exact Int.mul_fdiv_cancel_left _ (by omega)
    have e2 : b.fdiv (-g) = -y := by
      rw [hy, show g * y = (-g) * (-y) by rw [Int.neg_mul_neg]]
      exact Int.mul_fdiv_cancel_left _ (by omega)
    have e3 : -1 * a / g = -x := by
      rw [hx, show -1 * (g * x) = g * (-x) by rw [Int.neg_one_mul, Int.mul_neg]]
      exact Int.mul_ediv_cancel_left _ (by omega)
    rw [e1, e2, e3]
    congr 3
    congr 1
    omega
  · have y0 : 0 < y := by
      rcases Int.lt_trichotomy y 0 with z | z | z
      · exfalso
        have : g * y < 0 := Int.mul_neg_of_pos_of_neg g0 z
        omega
      · subst z; simp at hy; omega
      · exact z
    rw [if_neg hn, Int.sign_eq_one_of_pos (by omega)]
    have e1 : a.fdiv g = x := by
      rw [hx]
      exact Int.mul_fdiv_cancel_left _ (by omega)
    have e2 : b.fdiv g = y := by
      rw [hy]
      exact Int.mul_fdiv_cancel_left _ (by omega)
    have e3 : 1 * a / g = x := by
      rw [hx, Int.one_mul]
      exact Int.mul_ediv_cancel_left _ (by omega)
    rw [e1, e2, e3]
    congr 3
    congr 1
    omega
theorem divInt_negr (n d : Int) : Rat.divInt n (-d) = - Rat.divInt n d := by
  have h := Rat.neg_divInt_neg (-n) d
  rw [Int.neg_neg] at h
  rw [h, ← Rat.neg_divInt]
theorem encQ_neg (q : Rat) : encQ (-q) = .tup [.int (-q.num), .int (q.den : Int)] := by
  unfold encQ
  rw [Rat.neg_num, Rat.neg_den]
theorem encQ_int (n : Int) : encQ (n : Rat) = .tup [.int n, .int 1] := by
  unfold encQ
  rw [Rat.num_intCast, Rat.den_intCast]
  rfl
@[simp] theorem ix_encQ0 (q : Rat) : oIx (.va (encQ q)) (.va (.int 0)) = some (.va (.int q.num)) := (rfl)
@[simp] theorem ix_encQ1 (q : Rat) : oIx (.va (encQ q)) (.va (.int 1)) = some (.va (.int (q.den : Int))) := (rfl)
theorem shared_wh : ∀ (n : Nat) (a b : Int), b.natAbs < n → ∃ g : Int, g.natAbs = Int.gcd a b ∧ sWh (bE (e2 oNe (eV 1) (eC (.int 0)))) (sCons (sPar 0 1 (eV 1) (e2 oMod (eV 0) (eV 1))) sNil) n [.va (.int a), .va (.int b)] = some (.nx [.va (.int g), .va (.int 0)])
  | 0, a, b, h => absurd h (by omega)
  | n + 1, a, b, h => by
    rw [sWh_succ]
    by_cases hb : b = 0
    · subst hb
      exact ⟨a, by simp, by simp⟩
    · have hl := fmod_abs_lt a b hb
      obtain ⟨g, h1, h2⟩ := shared_wh n b (a.fmod b) (by omega)
      refine ⟨g, by rw [h1, gcd_fmod], ?_⟩
      simp [hb]
      exact h2
theorem shared_eq {a b : Int} {n : Nat} (h : Sz n b) (hn : n ≤ 1000000) : φ_shared [.int a, .int b] = some (.va (.int (Int.gcd a b))) := by
  obtain ⟨g, h1, h2⟩ := shared_wh FUEL a b (fuel_gt h hn)
  simp [φ_shared, m_shared, phi_def, h2, h1]
  omega
theorem made_eq {a b : Int} (h : b ≠ 0) {n : Nat} (hs : Sz n b) (hn : n ≤ 9000) : φ_made [.int a, .int b] = some (.va (encQ (Rat.divInt a b))) := by
  have h1 := shared_eq (a := a) (b := b) hs (by omega)
  have g0 := gcd_pos (a := a) h
  have g1 := gcd_le_right (a := a) h
  have hl : (Int.gcd a b).log2 < 9000 := by
    have := log_lt (x := (Int.gcd a b : Int)) (n := 9000) (by omega) (Nat.lt_of_le_of_lt (by omega : _ ≤ b.natAbs) (hs.mono hn).lt)
    simpa using this
  rw [encQ_divInt h]
  by_cases hb : b < 0
  · have d1 : ∀ c : Int, CDivB c (-(Int.gcd a b : Int)) := fun c => ⟨by omega, by simpa using hl⟩
    simp [φ_made, m_made, phi_def, h1, hb, d1, lim_num]
  · have d1 : ∀ c : Int, CDivB c (Int.gcd a b : Int) := fun c => ⟨by omega, by simpa using hl⟩
    simp [φ_made, m_made, phi_def, h1, hb, d1, lim_num]
theorem bq_divInt {n : Nat} {a b : Int} (ha : Sz n a) (hb : Sz n b) (h : b ≠ 0) : bq n (Rat.divInt a b) := by
  refine ⟨?_, ?_⟩
  · refine Sz.abs_le (b := a) ?_ ha
    rw [Rat.num_divInt]
    have h1 : (b.sign * a / (Int.gcd b a : Int)).natAbs ≤ (b.sign * a).natAbs := Int.natAbs_ediv_le_natAbs ..
    rw [Int.natAbs_mul, Int.natAbs_sign_of_ne_zero h, Nat.one_mul] at h1
    exact h1
  · rw [Rat.den_divInt, if_neg h]
    refine Sz.abs_le (b := b) ?_ hb
    rw [Int.natAbs_natCast]
    exact Nat.div_le_self _ _
theorem bq_mono {m n : Nat} {q : Rat} (h : bq m q) (l : m ≤ n) : bq n q := ⟨h.1.mono l, h.2.mono l⟩
theorem bq_neg {n : Nat} {q : Rat} (h : bq n q) : bq n (-q) := ⟨by rw [Rat.neg_num]; exact h.1.neg, by rw [Rat.neg_den]; exact h.2⟩
theorem den_ne (q : Rat) : (q.den : Int) ≠ 0 := by have := q.den_pos; omega
theorem num_ne {q : Rat} (h : q ≠ 0) : q.num ≠ 0 := fun z => h (Rat.num_eq_zero.mp z)
theorem add_divInt (p q : Rat) : p + q = Rat.divInt (p.num * q.den + q.num * p.den) (p.den * q.den) := by
  conv => lhs; rw [← Rat.num_divInt_den p, ← Rat.num_divInt_den q]
  rw [Rat.divInt_add_divInt _ _ (den_ne p) (den_ne q)]
theorem mul_divInt (p q : Rat) : p * q = Rat.divInt (p.num * q.num) (p.den * q.den) := by
  conv => lhs; rw [← Rat.num_divInt_den p, ← Rat.num_divInt_den q]
  rw [Rat.divInt_mul_divInt]
theorem div_divInt (p q : Rat) : p / q = Rat.divInt (p.num * q.den) (p.den * q.num) := by
  rw [Rat.div_def, Rat.inv_def]
  conv => lhs; rw [← Rat.num_divInt_den p]
  rw [Rat.divInt_mul_divInt]
theorem sub_divInt (p q : Rat) : p - q = Rat.divInt (p.num * q.den - q.num * p.den) (p.den * q.den) := by
  rw [Rat.sub_eq_add_neg, add_divInt, Rat.neg_num, Rat.neg_den, Int.neg_mul, ← Int.sub_eq_add_neg]
theorem bq_add {m n : Nat} {p q : Rat} (hp : bq m p) (hq : bq n q) : bq (m + n + 1) (p + q) := by
  rw [add_divInt]
  exact bq_divInt ((Sz.add (hp.1.mul hq.2) (hq.1.mul hp.2)).mono (by omega)) ((hp.2.mul hq.2).mono (by omega)) (Int.mul_ne_zero (den_ne p) (den_ne q))
theorem bq_sub {m n : Nat} {p q : Rat} (hp : bq m p) (hq : bq n q) : bq (m + n + 1) (p - q) := by
  rw [Rat.sub_eq_add_neg]
  exact bq_add hp (bq_neg hq)
theorem bq_mul {m n : Nat} {p q : Rat} (hp : bq m p) (hq : bq n q) : bq (m + n) (p * q) := by
  rw [mul_divInt]
  exact bq_divInt (hp.1.mul hq.1) (hp.2.mul hq.2) (Int.mul_ne_zero (den_ne p) (den_ne q))
theorem bq_div {m n : Nat} {p q : Rat} (hp : bq m p) (hq : bq n q) (h : q ≠ 0) : bq (m + n) (p / q) := by
  rw [div_divInt]
  exact bq_divInt (hp.1.mul hq.2) (hp.2.mul hq.1) (Int.mul_ne_zero (den_ne p) (num_ne h))
theorem plus_eq {m n : Nat} {p q : Rat} (hp : bq m p) (hq : bq n q) (hm : 0 < m) (hn : 0 < n) (l : m + n ≤ 9000) : φ_plus [encQ p, encQ q] = some (.va (encQ (p + q))) := by
  have h1 := made_eq (a := p.num * q.den + q.num * p.den) (b := p.den * q.den) (Int.mul_ne_zero (den_ne p) (den_ne q)) (hp.2.mul hq.2) l
  rw [← add_divInt] at h1
  have c1 := hp.1.cmul hq.2 hm hn (by omega)
  have c2 := hq.1.cmul hp.2 hn hm (by omega)
  have c3 := hp.2.cmul hq.2 hm hn (by omega)
  simp [φ_plus, m_plus, phi_def, c1, c2, c3, h1]
theorem minus_eq {m n : Nat} {p q : Rat} (hp : bq m p) (hq : bq n q) (hm : 0 < m) (hn : 0 < n) (l : m + n ≤ 9000) : φ_minus [encQ p, encQ q] = some (.va (encQ (p - q))) := by
  have h1 := plus_eq hp (bq_neg hq) hm hn l
  rw [← Rat.sub_eq_add_neg, encQ_neg q] at h1
  simp [φ_minus, m_minus, phi_def, h1]
theorem times_eq {m n : Nat} {p q : Rat} (hp : bq m p) (hq : bq n q) (hm : 0 < m) (hn : 0 < n) (l : m + n ≤ 9000) : φ_times [encQ p, encQ q] = some (.va (encQ (p * q))) := by
  have h1 := made_eq (a := p.num * q.num) (b := p.den * q.den) (Int.mul_ne_zero (den_ne p) (den_ne q)) (hp.2.mul hq.2) l
  rw [← mul_divInt] at h1
  have c1 := hp.1.cmul hq.1 hm hn (by omega)
  have c3 := hp.2.cmul hq.2 hm hn (by omega)
  simp [φ_times, m_times, phi_def, c1, c3, h1]
theorem over_eq {m n : Nat} {p q : Rat} (hp : bq m p) (hq : bq n q) (hm : 0 < m) (hn : 0 < n) (l : m + n ≤ 9000) (h : q ≠ 0) : φ_over [encQ p, encQ q] = some (.va (encQ (p / q))) := by
  have h1 := made_eq (a := p.num * q.den) (b := p.den * q.num) (Int.mul_ne_zero (den_ne p) (num_ne h)) (hp.2.mul hq.1) l
  rw [← div_divInt] at h1
  have c1 := hp.1.cmul hq.2 hm hn (by omega)
  have c3 := hp.2.cmul hq.1 hm hn (by omega)
  simp [φ_over, m_over, phi_def, c1, c3, h1]
theorem cellat_lst (ns : List Int) (k : Nat) : φ__law_cell_at [.lst (ns.map D.int), .int (k : Int)] = some (.va (.int (cellN ns k))) := by
  by_cases h : k < ns.length
  · have e : atI (ns.map D.int) (k : Int) = some (.int ns[k]) := by
      rw [atI_ofNat, List.getElem?_map, List.getElem?_eq_getElem h]
      rfl
    simp [φ__law_cell_at, m__law_cell_at, phi_def, h, e, cellN]
  · simp [φ__law_cell_at, m__law_cell_at, phi_def, h, cellN]
theorem whole_int (i : Int) : φ__law_whole [.int i] = some (.va (.bl true)) := by
  simp [φ__law_whole, m__law_whole, phi_def]
theorem mix_eq (c f : Int) (hc : Sz 1100000 c) (hf : Sz 64 f) : ∃ r : Int, φ__law_mix [.int c, .int f] = some (.va (.int r)) ∧ 0 ≤ r ∧ r < 1073741824 := by
  have h1 : CMulB c f := hc.cmul hf (by omega) (by omega) (by omega)
  let m := (c * f + 12345) % 2147483647
  have m0 : 0 ≤ m := Int.emod_nonneg _ (by omega)
  have m1 : m < 2147483647 := Int.emod_lt_of_pos _ (by omega)
  have h2 : CMulB m m := (Sz.small (by omega)).cmul (Sz.small (by omega)) (by omega) (by omega) (by omega)
  refine ⟨m * m % 2147483629 / 3, ?_, ?_, ?_⟩
  · refine phi_go rfl (fn_step (g' := [.va (.int c), .va (.int f), .va (.int m)]) (by simp [h1]; rfl) ?_)
    simp [h2]
  · have := Int.emod_nonneg (m * m) (show (2147483629 : Int) ≠ 0 by omega)
    omega
  · have := Int.emod_lt_of_pos (m * m) (show (0 : Int) < 2147483629 by omega)
    omega
theorem lshared_wh : ∀ (n : Nat) (a b : Int) (s : Slot), 0 ≤ a → 0 ≤ b → b.natAbs < n → ∃ s' : Slot, sWh (bE (e2 oGt (eV 1) (eC (.int 0)))) (sCons (sSet 2 (e2 oMod (eV 0) (eV 1))) (sCons (sSet 0 (eV 1)) (sCons (sSet 1 (eV 2)) sNil))) n [.va (.int a), .va (.int b), s] = some (.nx [.va (.int (Int.gcd a b)), .va (.int 0), s'])
  | 0, a, b, s, _, _, h => absurd h (by omega)
  | n + 1, a, b, s, ha, hb0, h => by
    rw [sWh_succ]
    by_cases hb : b = 0
    · subst hb
      exact ⟨s, by simp; omega⟩
    · have hp : 0 < b := by omega
      have hl := fmod_abs_lt a b hb
      rw [fmod_nn hb0] at hl
      have hn : 0 ≤ a % b := Int.emod_nonneg _ hb
      obtain ⟨s', h2⟩ := lshared_wh n b (a % b) (.va (.int (a % b))) hb0 hn (by omega)
      have hg := gcd_fmod a b
      rw [fmod_nn hb0] at hg
      refine ⟨s', ?_⟩
      rw [hg] at h2
      simp [hp, hb, hb0, h2]
theorem lshared_eq {a b : Int} {n : Nat} (ha : 0 ≤ a) (hb : 0 ≤ b) (h : Sz n b) (hn : n ≤ 1000000) : φ__law_shared [.int a, .int b] = some (.va (.int (Int.gcd a b))) := by
  obtain ⟨s', h2⟩ := lshared_wh FUEL a b .un ha hb (fuel_gt h hn)
  exact phi_go rfl (fn_step h2 (by simp))
theorem llowest_eq {a b : Int} {n : Nat} (hb : 0 < b) (h : Sz n b) (hn : n ≤ 9000) : φ__law_lowest [.int a, .int b] = some (.va (encQ (Rat.divInt a b))) := by
  have h1 := lshared_eq (a := if a < 0 then -a else a) (b := b) (by split <;> omega) (by omega) h (by omega)
  have e : Int.gcd (if a < 0 then -a else a) b = Int.gcd a b := by
    split
    · exact Int.neg_gcd
    · rfl
  rw [e] at h1
  have g0 := gcd_pos (a := a) (b := b) (by omega)
  have g1 := gcd_le_right (a := a) (b := b) (by omega)
  have hs : Sz n (Int.gcd a b : Int) := Sz.le (by omega) (by omega) h
  have d1 : ∀ c : Int, CDivB c (Int.gcd a b : Int) := fun c => (hs.mono hn).cdiv (by omega) (by omega) (by omega)
  rw [encQ_divInt (by omega), if_neg (by omega)]
  simp [φ__law_lowest, m__law_lowest, phi_def, h1, d1, lim_num]
theorem lis_eq (p q : Rat) : φ__law_is [encQ p, encQ q] = some (.va (.bl (decide (p = q)))) := by
  have e : decide (p = q) = (decide (p.num = q.num) && decide ((p.den : Int) = q.den)) := by
    by_cases h : p = q
    · subst h; simp
    · rw [decide_eq_false h]
      symm
      rw [Bool.and_eq_false_iff]
      by_cases h1 : p.num = q.num
      · right
        exact decide_eq_false fun h2 => h (Rat.ext h1 (by omega))
      · left
        exact decide_eq_false h1
  rw [e]
  simp [φ__law_is, m__law_is, phi_def, encQ, whole_int]
theorem drawn_eq (c r : Int) (r0 : 0 ≤ r) (r1 : r < 1073741824) : ∃ q : Rat, φ__law_drawn [.int c, .int r] = some (.va (encQ q)) ∧ bq 128 q := by
  have c30 : 0 ≤ c % 1000000000000000000000000000000 := Int.emod_nonneg _ (by omega)
  have c30' : c % 1000000000000000000000000000000 < 1000000000000000000000000000000 := Int.emod_lt_of_pos _ (by omega)
  have c28 : 0 ≤ c % 10000000000000000000000000000 := Int.emod_nonneg _ (by omega)
  have c28' : c % 10000000000000000000000000000 < 10000000000000000000000000000 := Int.emod_lt_of_pos _ (by omega)
  obtain ⟨t, et, tz⟩ := pickI (P := fun n => n.natAbs < 1000000000000000000000000000000) (xs := [.int (r % 7), .int (r % 61), .int (c % 1000000000000000000000000000000), .int 0, .int r]) (i := r % 5) (by omega) (by simp; omega) (by
    intro x hx
    simp only [List.mem_cons, List.not_mem_nil, or_false] at hx
    rcases hx with rfl | rfl | rfl | rfl | rfl <;> exact ⟨_, rfl, by omega⟩)
  obtain ⟨b, eb, b0, bz⟩ := pickI (P := fun n => 0 < n ∧ n < 100000000000000000000000000000) (xs := [.int 1, .int (1 + r / 35 % 12), .int (1 + r / 35 % 27720), .int (1 + c % 10000000000000000000000000000)]) (i := r / 5 % 4) (by omega) (by simp; omega) (by
    intro x hx
    simp only [List.mem_cons, List.not_mem_nil, or_false] at hx
    rcases hx with rfl | rfl | rfl | rfl <;> exact ⟨_, rfl, by omega⟩)
  have bs : Sz 128 b := ⟨by omega⟩
  have ts : Sz 128 t := ⟨by omega⟩
  by_cases h : r / 20 % 3 = 1
  · refine ⟨Rat.divInt (-t) b, ?_, bq_divInt ts.neg bs (by omega)⟩
    have hl := llowest_eq (a := -t) b0 bs (by omega)
    refine phi_go rfl (fn_step (g' := [.va (.int c), .va (.int r), .va (.int t), .un]) (by simp [lim_num, et]) ?_)
    refine fn_step (g' := [.va (.int c), .va (.int r), .va (.int t), .va (.int b)]) (by simp [lim_num, eb]) ?_
    simp [lim_num, h, hl]
  · refine ⟨Rat.divInt t b, ?_, bq_divInt ts bs (by omega)⟩
    have hl := llowest_eq (a := t) b0 bs (by omega)
    refine phi_go rfl (fn_step (g' := [.va (.int c), .va (.int r), .va (.int t), .un]) (by simp [lim_num, et]) ?_)
    refine fn_step (g' := [.va (.int c), .va (.int r), .va (.int t), .va (.int b)]) (by simp [lim_num, eb]) ?_
    simp [lim_num, h, hl]
theorem good_eq {p q : Rat} (hp : bq 128 p) (hq : bq 128 q) : φ__law_good [encQ p, encQ q] = some (.va (.bl true)) := by
  have dp := den_ne p
  have dq := den_ne q
  have dp1 := p.den_pos
  have dq1 := q.den_pos
  have db : (0 : Int) < p.den * q.den := Int.mul_pos (by omega) (by omega)
  have c1 := hp.1.cmul hq.2 (by omega) (by omega) (by omega)
  have c2 := hq.1.cmul hp.2 (by omega) (by omega) (by omega)
  have c3 := hp.2.cmul hq.2 (by omega) (by omega) (by omega)
  have c4 := hp.1.cmul hq.1 (by omega) (by omega) (by omega)
  have s3 := hp.2.mul hq.2
  have l1 := llowest_eq (a := p.num * q.den + q.num * p.den) db s3 (by omega)
  have l2 := llowest_eq (a := p.num * q.den - q.num * p.den) db s3 (by omega)
  have l3 := llowest_eq (a := p.num * q.num) db s3 (by omega)
  rw [← add_divInt] at l1
  rw [← sub_divInt] at l2
  rw [← mul_divInt] at l3
  have f1 := plus_eq hp hq (by omega) (by omega) (by omega)
  have f2 := minus_eq hp hq (by omega) (by omega) (by omega)
  have f3 := times_eq hp hq (by omega) (by omega) (by omega)
  have f4 := minus_eq (bq_add hp hq) hq (by omega) (by omega) (by omega)
  rw [show p + q - q = p by grind] at f4
  have i0 := lis_eq p p
  have i1 := lis_eq (p + q) (p + q)
  have i2 := lis_eq (p - q) (p - q)
  have i3 := lis_eq (p * q) (p * q)
  rw [decide_eq_true rfl] at i0 i1 i2 i3
  by_cases hz : q = 0
  · have hz1 : (q.num = 0) = True := eq_true (by rw [hz]; rfl)
    refine phi_go rfl (fn_step (g' := [.va (encQ p), .va (encQ q), .va (.int (p.num * q.den)), .un, .un, .un]) (by simp [c1]) ?_)
    refine fn_step (g' := [.va (encQ p), .va (encQ q), .va (.int (p.num * q.den)), .va (.int (q.num * p.den)), .un, .un]) (by simp [c2]) ?_
    simp [c3, c4, l1, l2, l3, f1, f2, f3, f4, i0, i1, i2, i3, hz1]
  · have hz1 := num_ne hz
    have f5 := over_eq hp hq (by omega) (by omega) (by omega) hz
    have f6 := over_eq (bq_mul hp hq) hq (by omega) (by omega) (by omega) hz
    rw [show p * q / q = p by rw [Rat.div_def, Rat.mul_assoc, Rat.mul_inv_cancel _ hz, Rat.mul_one]] at f6
    have i5 := lis_eq (p / q) (p / q)
    rw [decide_eq_true rfl] at i5
    have s1 := hp.1.mul hq.2
    have s2 := hq.1.mul hp.2
    refine phi_go rfl (fn_step (g' := [.va (encQ p), .va (encQ q), .va (.int (p.num * q.den)), .un, .un, .un]) (by simp [c1]) ?_)
    refine fn_step (g' := [.va (encQ p), .va (encQ q), .va (.int (p.num * q.den)), .va (.int (q.num * p.den)), .un, .un]) (by simp [c2]) ?_
    refine fn_step (g' := [.va (encQ p), .va (encQ q), .va (.int (p.num * q.den)), .va (.int (q.num * p.den)), .va (.int (p.den * q.den)), .un]) (by simp [c3]) ?_
    have m1 : ∀ s x : Int, s = 1 ∨ s = -1 → Sz 256 x → CMulB s x := fun s x h k => (Sz.small (z := s) (by omega)).cmul k (by omega) (by omega) (by omega)
    by_cases hn : q.num < 0
    · have l5 := llowest_eq (a := -1 * (p.num * q.den)) (b := -1 * (q.num * p.den)) (by
        have := Int.mul_pos (show 0 < -q.num by omega) (show (0 : Int) < p.den by omega)
        rw [Int.neg_mul] at this
        omega) ((Sz.small (z := -1) (by omega)).mul s2) (by omega)
      rw [show Rat.divInt (-1 * (p.num * q.den)) (-1 * (q.num * p.den)) = p / q by
        rw [div_divInt, Int.neg_mul, Int.neg_mul, Int.one_mul, Int.one_mul, Rat.neg_divInt_neg, Int.mul_comm q.num]] at l5
      simp only [Int.neg_mul, Int.one_mul] at l5
      have m2 := m1 (-1) (p.num * q.den) (.inr rfl) s1
      have m3 := m1 (-1) (q.num * p.den) (.inr rfl) s2
      have m4 : CMulB 2 1 := (Sz.small (z := 2) (by omega)).cmul (Sz.small (z := 1) (by omega)) (by omega) (by omega) (by omega)
      simp [c3, c4, l1, l2, l3, f1, f2, f3, f4, i0, i1, i2, i3, hz1, hn, m2, m3, m4, l5, f5, f6, i5]
    · have l5 := llowest_eq (a := 1 * (p.num * q.den)) (b := 1 * (q.num * p.den)) (by
        have := Int.mul_pos (show 0 < q.num by omega) (show (0 : Int) < p.den by omega)
        omega) ((Sz.small (z := 1) (by omega)).mul s2) (by omega)
      rw [show Rat.divInt (1 * (p.num * q.den)) (1 * (q.num * p.den)) = p / q by
        rw [div_divInt, Int.one_mul, Int.one_mul, Int.mul_comm q.num]] at l5
      simp only [Int.one_mul] at l5
      have m2 := m1 1 (p.num * q.den) (.inl rfl) s1
      have m3 := m1 1 (q.num * p.den) (.inl rfl) s2
      have m4 : CMulB 2 0 := (Sz.small (z := 2) (by omega)).cmul (Sz.small (z := 0) (by omega)) (by omega) (by omega) (by omega)
      simp [c3, c4, l1, l2, l3, f1, f2, f3, f4, i0, i1, i2, i3, hz1, hn, m2, m3, m4, l5, f5, f6, i5]
theorem law_true (ns : List Int) (hl : ns.length ≤ 63) (hb : ∀ z ∈ ns, PySem.Builtin.Int.intBits z ≤ 1048576) : φ_law [.rol (ns.map D.int)] = some (.va (.bl true)) := by
  have hc : cutL (ns.map D.int) (some 0) (some 60) = (ns.take 60).map D.int := by
    have := cut_take0 (ns.map D.int) 60
    rw [List.map_take]
    exact this
  have hl2 : (ns.take 60).length ≤ 60 := by rw [List.length_take]; omega
  have hb2 : ∀ z ∈ ns.take 60, Sz 1048576 z := fun z h => bits_sz (hb z (List.mem_of_mem_take h))
  generalize ns.take 60 = cs at *
  have hz := cellN_sz hb2
  refine phi_go rfl (fn_step (g' := [.va (.rol (ns.map D.int)), .ow (cs.map D.int), .un, .un, .un, .un]) (by simp [hc]) ?_)
  have e2 := rg1_nat (j := 1 + (cs.length : Int) / 2) (n := 1 + cs.length / 2) (by omega) (by omega)
  refine fn_fz rfl ?_
  refine for_inv (ps := []) (fun i : Nat => D.int (i : Int)) (fun _ g => ∃ s t u v : Slot, g = [.va (.rol (ns.map D.int)), .va (.lst (cs.map D.int)), s, t, u, v]) (List.range (1 + cs.length / 2)) (by simp [e2]) rfl ⟨_, _, _, _, rfl⟩ ?_ ?_
  · rintro pre x g hx ⟨s, t, u, v, rfl⟩
    have hx2 := (range_split hx).1
    have c1 := cellat_lst cs (2 * x)
    have c2 := cellat_lst cs (2 * x + 1)
    have z1 := hz (2 * x)
    have z2 := hz (2 * x + 1)
    generalize cellN cs (2 * x) = a at *
    generalize cellN cs (2 * x + 1) = b at *
    have m1 : CMulB 2 (x : Int) := (Sz.small (z := 2) (by omega)).cmul (Sz.small (z := (x : Int)) (by omega)) (by omega) (by omega) (by omega)
    push_cast at c1 c2
    obtain ⟨r1, d1, r10, r11⟩ := mix_eq (a + x) 48271 ((z1.add (Sz.small (z := x) (by omega))).mono (by omega)) (Sz.small (by omega))
    obtain ⟨r2, d2, r20, r21⟩ := mix_eq (b + x) 16807 ((z2.add (Sz.small (z := x) (by omega))).mono (by omega)) (Sz.small (by omega))
    obtain ⟨p, e3, hp⟩ := drawn_eq a r1 r10 r11
    obtain ⟨q, e4, hq⟩ := drawn_eq b r2 r20 r21
    have g1 := good_eq hp hq
    have g2 := good_eq hp hp
    refine ⟨_, ?_, .va (.int (x : Int)), .va (.int a), .va (.int b), .va (encQ p), rfl⟩
    simp [m1, c1, c2, g1, g2, d1, d2, e3, e4]
  · rintro g' ⟨s, t, u, v, rfl⟩
    simp
end G
namespace G
open PySem PySem.Spec L2 BK
set_option autoImplicit false
theorem all_mk {l : PySem.W.OpenLaw} {w : World} {K : PySem.W.Frag} {h : Heap} {mg : Str → Option Value} {fa : Addr} {f0 : Addr} {od0 an0 : Option Addr} {sl0 : Array (Option Value)} {oc0 kV0 dc0 pm0 cd0 ct0 : Value} {f1 : Addr} {od1 an1 : Option Addr} {sl1 : Array (Option Value)} {oc1 kV1 dc1 pm1 cd1 ct1 : Value} {f2 : Addr} {od2 an2 : Option Addr} {sl2 : Array (Option Value)} {oc2 kV2 dc2 pm2 cd2 ct2 : Value} {f3 : Addr} {od3 an3 : Option Addr} {sl3 : Array (Option Value)} {oc3 kV3 dc3 pm3 cd3 ct3 : Value} {f4 : Addr} {od4 an4 : Option Addr} {sl4 : Array (Option Value)} {oc4 kV4 dc4 pm4 cd4 ct4 : Value} {f5 : Addr} {od5 an5 : Option Addr} {sl5 : Array (Option Value)} {oc5 kV5 dc5 pm5 cd5 ct5 : Value} {f6 : Addr} {od6 an6 : Option Addr} {sl6 : Array (Option Value)} {oc6 kV6 dc6 pm6 cd6 ct6 : Value} {f7 : Addr} {od7 an7 : Option Addr} {sl7 : Array (Option Value)} {oc7 kV7 dc7 pm7 cd7 ct7 : Value} {f8 : Addr} {od8 an8 : Option Addr} {sl8 : Array (Option Value)} {oc8 kV8 dc8 pm8 cd8 ct8 : Value} {f9 : Addr} {od9 an9 : Option Addr} {sl9 : Array (Option Value)} {oc9 kV9 dc9 pm9 cd9 ct9 : Value} {f10 : Addr} {od10 an10 : Option Addr} {sl10 : Array (Option Value)} {oc10 kV10 dc10 pm10 cd10 ct10 : Value} {f11 : Addr} {od11 an11 : Option Addr} {sl11 : Array (Option Value)} {oc11 kV11 dc11 pm11 cd11 ct11 : Value} {f12 : Addr} {od12 an12 : Option Addr} {sl12 : Array (Option Value)} {oc12 kV12 dc12 pm12 cd12 ct12 : Value} {f13 : Addr} {od13 an13 : Option Addr} {sl13 : Array (Option Value)} {oc13 kV13 dc13 pm13 cd13 ct13 : Value} {f14 : Addr} {od14 an14 : Option Addr} {sl14 : Array (Option Value)} {oc14 kV14 dc14 pm14 cd14 ct14 : Value} (X : K.In h) (G : h.Ns mainGlobals mg) (hfa : mg "law" = some (.ref fa))
    (a0 : PySem.W.nsIn K mainGlobals "shared" = some (some (.ref f0)))
    (l0 : K.lookup f0 = some ⟨oc0, od0, .func (PySem.W.fnOf "shared" "shared" (defArgs s_shared) (defBody s_shared) (defScope s_shared) .none kV0 dc0 pm0 an0 cd0 ct0), sl0⟩)
    (c0 : PySem.W.codeIn K cd0 "shared" = true)
    (k0 : PySem.W.keepIn K (.ref f0) = true)
    (a1 : PySem.W.nsIn K mainGlobals "made" = some (some (.ref f1)))
    (l1 : K.lookup f1 = some ⟨oc1, od1, .func (PySem.W.fnOf "made" "made" (defArgs s_made) (defBody s_made) (defScope s_made) .none kV1 dc1 pm1 an1 cd1 ct1), sl1⟩)
    (c1 : PySem.W.codeIn K cd1 "made" = true)
    (k1 : PySem.W.keepIn K (.ref f1) = true)
    (a2 : PySem.W.nsIn K mainGlobals "plus" = some (some (.ref f2)))
    (l2 : K.lookup f2 = some ⟨oc2, od2, .func (PySem.W.fnOf "plus" "plus" (defArgs s_plus) (defBody s_plus) (defScope s_plus) .none kV2 dc2 pm2 an2 cd2 ct2), sl2⟩)
    (c2 : PySem.W.codeIn K cd2 "plus" = true)
    (k2 : PySem.W.keepIn K (.ref f2) = true)
    (a3 : PySem.W.nsIn K mainGlobals "minus" = some (some (.ref f3)))
    (l3 : K.lookup f3 = some ⟨oc3, od3, .func (PySem.W.fnOf "minus" "minus" (defArgs s_minus) (defBody s_minus) (defScope s_minus) .none kV3 dc3 pm3 an3 cd3 ct3), sl3⟩)
    (c3 : PySem.W.codeIn K cd3 "minus" = true)
    (k3 : PySem.W.keepIn K (.ref f3) = true)
    (a4 : PySem.W.nsIn K mainGlobals "times" = some (some (.ref f4)))
    (l4 : K.lookup f4 = some ⟨oc4, od4, .func (PySem.W.fnOf "times" "times" (defArgs s_times) (defBody s_times) (defScope s_times) .none kV4 dc4 pm4 an4 cd4 ct4), sl4⟩)
    (c4 : PySem.W.codeIn K cd4 "times" = true)
    (k4 : PySem.W.keepIn K (.ref f4) = true)
    (a5 : PySem.W.nsIn K mainGlobals "over" = some (some (.ref f5)))
    (l5 : K.lookup f5 = some ⟨oc5, od5, .func (PySem.W.fnOf "over" "over" (defArgs s_over) (defBody s_over) (defScope s_over) .none kV5 dc5 pm5 an5 cd5 ct5), sl5⟩)
    (c5 : PySem.W.codeIn K cd5 "over" = true)
    (k5 : PySem.W.keepIn K (.ref f5) = true)
    (a6 : PySem.W.nsIn K mainGlobals "_law_cell_at" = some (some (.ref f6)))
    (l6 : K.lookup f6 = some ⟨oc6, od6, .func (PySem.W.fnOf "_law_cell_at" "_law_cell_at" (defArgs s__law_cell_at) (defBody s__law_cell_at) (defScope s__law_cell_at) .none kV6 dc6 pm6 an6 cd6 ct6), sl6⟩)
    (c6 : PySem.W.codeIn K cd6 "_law_cell_at" = true)
    (k6 : PySem.W.keepIn K (.ref f6) = true)
    (a7 : PySem.W.nsIn K mainGlobals "_law_whole" = some (some (.ref f7)))
    (l7 : K.lookup f7 = some ⟨oc7, od7, .func (PySem.W.fnOf "_law_whole" "_law_whole" (defArgs s__law_whole) (defBody s__law_whole) (defScope s__law_whole) .none kV7 dc7 pm7 an7 cd7 ct7), sl7⟩)
    (c7 : PySem.W.codeIn K cd7 "_law_whole" = true)
    (k7 : PySem.W.keepIn K (.ref f7) = true)
    (a8 : PySem.W.nsIn K mainGlobals "_law_mix" = some (some (.ref f8)))
    (l8 : K.lookup f8 = some ⟨oc8, od8, .func (PySem.W.fnOf "_law_mix" "_law_mix" (defArgs s__law_mix) (defBody s__law_mix) (defScope s__law_mix) .none kV8 dc8 pm8 an8 cd8 ct8), sl8⟩)
    (c8 : PySem.W.codeIn K cd8 "_law_mix" = true)
    (k8 : PySem.W.keepIn K (.ref f8) = true)
    (a9 : PySem.W.nsIn K mainGlobals "_law_shared" = some (some (.ref f9)))
    (l9 : K.lookup f9 = some ⟨oc9, od9, .func (PySem.W.fnOf "_law_shared" "_law_shared" (defArgs s__law_shared) (defBody s__law_shared) (defScope s__law_shared) .none kV9 dc9 pm9 an9 cd9 ct9), sl9⟩)
    (c9 : PySem.W.codeIn K cd9 "_law_shared" = true)
    (k9 : PySem.W.keepIn K (.ref f9) = true)
    (a10 : PySem.W.nsIn K mainGlobals "_law_lowest" = some (some (.ref f10)))
    (l10 : K.lookup f10 = some ⟨oc10, od10, .func (PySem.W.fnOf "_law_lowest" "_law_lowest" (defArgs s__law_lowest) (defBody s__law_lowest) (defScope s__law_lowest) .none kV10 dc10 pm10 an10 cd10 ct10), sl10⟩)
    (c10 : PySem.W.codeIn K cd10 "_law_lowest" = true)
    (k10 : PySem.W.keepIn K (.ref f10) = true)
    (a11 : PySem.W.nsIn K mainGlobals "_law_is" = some (some (.ref f11)))
    (l11 : K.lookup f11 = some ⟨oc11, od11, .func (PySem.W.fnOf "_law_is" "_law_is" (defArgs s__law_is) (defBody s__law_is) (defScope s__law_is) .none kV11 dc11 pm11 an11 cd11 ct11), sl11⟩)
    (c11 : PySem.W.codeIn K cd11 "_law_is" = true)
    (k11 : PySem.W.keepIn K (.ref f11) = true)
    (a12 : PySem.W.nsIn K mainGlobals "_law_drawn" = some (some (.ref f12)))
    (l12 : K.lookup f12 = some ⟨oc12, od12, .func (PySem.W.fnOf "_law_drawn" "_law_drawn" (defArgs s__law_drawn) (defBody s__law_drawn) (defScope s__law_drawn) .none kV12 dc12 pm12 an12 cd12 ct12), sl12⟩)
    (c12 : PySem.W.codeIn K cd12 "_law_drawn" = true)
    (k12 : PySem.W.keepIn K (.ref f12) = true)
    (a13 : PySem.W.nsIn K mainGlobals "_law_good" = some (some (.ref f13)))
    (l13 : K.lookup f13 = some ⟨oc13, od13, .func (PySem.W.fnOf "_law_good" "_law_good" (defArgs s__law_good) (defBody s__law_good) (defScope s__law_good) .none kV13 dc13 pm13 an13 cd13 ct13), sl13⟩)
    (c13 : PySem.W.codeIn K cd13 "_law_good" = true)
    (k13 : PySem.W.keepIn K (.ref f13) = true)
    (a14 : PySem.W.nsIn K mainGlobals "law" = some (some (.ref f14)))
    (l14 : K.lookup f14 = some ⟨oc14, od14, .func (PySem.W.fnOf "law" "law" (defArgs s_law) (defBody s_law) (defScope s_law) .none kV14 dc14 pm14 an14 cd14 ct14), sl14⟩)
    (c14 : PySem.W.codeIn K cd14 "law" = true)
    (k14 : PySem.W.keepIn K (.ref f14) = true)
    (z_abs : PySem.W.nsIn K mainGlobals "abs" = some none)
    (z_bool : PySem.W.nsIn K mainGlobals "bool" = some none)
    (z_int : PySem.W.nsIn K mainGlobals "int" = some none)
    (z_isinstance : PySem.W.nsIn K mainGlobals "isinstance" = some none)
    (z_len : PySem.W.nsIn K mainGlobals "len" = some none)
    (z_range : PySem.W.nsIn K mainGlobals "range" = some none)
    (z_tuple : PySem.W.nsIn K mainGlobals "tuple" = some none)
    : ∃ fd : FuncData, (∀ (s : Shared) (v : Value), BindsTo s fd ⟨[v], []⟩ [("_law_script", v)]) ∧ ∀ base : Heap, K.In base → base.Ns mainGlobals mg → FnOk l.prog w K mg base CX0 6 fa fd ["_law_script"] (spOf K (fun _ => 0) φ_law) := by
  have e := hfa.symm.trans (PySem.W.mg_of X G a14)
  cases e
  have Z : Blt mg := ⟨PySem.W.mg_none_of X G z_abs, PySem.W.mg_none_of X G z_bool, PySem.W.mg_none_of X G z_int, PySem.W.mg_none_of X G z_isinstance, PySem.W.mg_none_of X G z_len, PySem.W.mg_none_of X G z_range, PySem.W.mg_none_of X G z_tuple⟩
  have F0 := fun_mk (st := s_shared) l0 c0 k0
  have b0 := F0.binds (ps := ["one", "other"]) fun _ _ _ _ _ _ us hl => match us, hl with | [_, _], _ => rfl
  have F1 := fun_mk (st := s_made) l1 c1 k1
  have b1 := F1.binds (ps := ["above", "beneath"]) fun _ _ _ _ _ _ us hl => match us, hl with | [_, _], _ => rfl
  have F2 := fun_mk (st := s_plus) l2 c2 k2
  have b2 := F2.binds (ps := ["one", "other"]) fun _ _ _ _ _ _ us hl => match us, hl with | [_, _], _ => rfl
  have F3 := fun_mk (st := s_minus) l3 c3 k3
  have b3 := F3.binds (ps := ["one", "other"]) fun _ _ _ _ _ _ us hl => match us, hl with | [_, _], _ => rfl
  have F4 := fun_mk (st := s_times) l4 c4 k4
  have b4 := F4.binds (ps := ["one", "other"]) fun _ _ _ _ _ _ us hl => match us, hl with | [_, _], _ => rfl
  have F5 := fun_mk (st := s_over) l5 c5 k5
  have b5 := F5.binds (ps := ["one", "other"]) fun _ _ _ _ _ _ us hl => match us, hl with | [_, _], _ => rfl
  have F6 := fun_mk (st := s__law_cell_at) l6 c6 k6
  have b6 := F6.binds (ps := ["_law_script", "_law_k"]) fun _ _ _ _ _ _ us hl => match us, hl with | [_, _], _ => rfl
  have F7 := fun_mk (st := s__law_whole) l7 c7 k7
  have b7 := F7.binds (ps := ["_law_found"]) fun _ _ _ _ _ _ us hl => match us, hl with | [_], _ => rfl
  have F8 := fun_mk (st := s__law_mix) l8 c8 k8
  have b8 := F8.binds (ps := ["_law_cell", "_law_factor"]) fun _ _ _ _ _ _ us hl => match us, hl with | [_, _], _ => rfl
  have F9 := fun_mk (st := s__law_shared) l9 c9 k9
  have b9 := F9.binds (ps := ["_law_one", "_law_other"]) fun _ _ _ _ _ _ us hl => match us, hl with | [_, _], _ => rfl
  have F10 := fun_mk (st := s__law_lowest) l10 c10 k10
  have b10 := F10.binds (ps := ["_law_top", "_law_bottom"]) fun _ _ _ _ _ _ us hl => match us, hl with | [_, _], _ => rfl
  have F11 := fun_mk (st := s__law_is) l11 c11 k11
  have b11 := F11.binds (ps := ["_law_found", "_law_due"]) fun _ _ _ _ _ _ us hl => match us, hl with | [_, _], _ => rfl
  have F12 := fun_mk (st := s__law_drawn) l12 c12 k12
  have b12 := F12.binds (ps := ["_law_cell", "_law_number"]) fun _ _ _ _ _ _ us hl => match us, hl with | [_, _], _ => rfl
  have F13 := fun_mk (st := s__law_good) l13 c13 k13
  have b13 := F13.binds (ps := ["_law_one", "_law_other"]) fun _ _ _ _ _ _ us hl => match us, hl with | [_, _], _ => rfl
  have F14 := fun_mk (st := s_law) l14 c14 k14
  have b14 := F14.binds (ps := ["_law_script"]) fun _ _ _ _ _ _ us hl => match us, hl with | [_], _ => rfl
  refine ⟨PySem.W.fnOf "law" "law" (defArgs s_law) (defBody s_law) (defScope s_law) .none kV14 dc14 pm14 an14 cd14 ct14, fun s v => .of_eq rfl, fun base _ _ => ?_⟩
  have G0 : FnOk l.prog w K mg base CX0 1 _ _ _ (spOf K (fun _ => 0) φ_shared) := ok_shared Z F0
  have C_shared : Callee l.prog w K mg base (fun _ => 0) 1 "shared" φ_shared [] := fn_callee F0 G0 (PySem.W.mg_of X G a0) b0 .nil fun _ => .nil
  have G1 : FnOk l.prog w K mg base CX0 2 _ _ _ (spOf K (fun _ => 0) φ_made) := ok_made Z C_shared F1
  have C_made : Callee l.prog w K mg base (fun _ => 0) 2 "made" φ_made [] := fn_callee F1 G1 (PySem.W.mg_of X G a1) b1 .nil fun _ => .nil
  have G2 : FnOk l.prog w K mg base CX0 3 _ _ _ (spOf K (fun _ => 0) φ_plus) := ok_plus Z C_made F2
  have C_plus : Callee l.prog w K mg base (fun _ => 0) 3 "plus" φ_plus [] := fn_callee F2 G2 (PySem.W.mg_of X G a2) b2 .nil fun _ => .nil
  have G3 : FnOk l.prog w K mg base CX0 4 _ _ _ (spOf K (fun _ => 0) φ_minus) := ok_minus Z C_plus F3
  have C_minus : Callee l.prog w K mg base (fun _ => 0) 4 "minus" φ_minus [] := fn_callee F3 G3 (PySem.W.mg_of X G a3) b3 .nil fun _ => .nil
  have G4 : FnOk l.prog w K mg base CX0 3 _ _ _ (spOf K (fun _ => 0) φ_times) := ok_times Z C_made F4
  have C_times : Callee l.prog w K mg base (fun _ => 0) 3 "times" φ_times [] := fn_callee F4 G4 (PySem.W.mg_of X G a4) b4 .nil fun _ => .nil
  have G5 : FnOk l.prog w K mg base CX0 3 _ _ _ (spOf K (fun _ => 0) φ_over) := ok_over Z C_made F5
  have C_over : Callee l.prog w K mg base (fun _ => 0) 3 "over" φ_over [] := fn_callee F5 G5 (PySem.W.mg_of X G a5) b5 .nil fun _ => .nil
  have G6 : FnOk l.prog w K mg base CX0 1 _ _ _ (spOf K (fun _ => 0) φ__law_cell_at) := ok__law_cell_at Z F6
  have C__law_cell_at : Callee l.prog w K mg base (fun _ => 0) 1 "_law_cell_at" φ__law_cell_at [] := fn_callee F6 G6 (PySem.W.mg_of X G a6) b6 .nil fun _ => .nil
  have G7 : FnOk l.prog w K mg base CX0 1 _ _ _ (spOf K (fun _ => 0) φ__law_whole) := ok__law_whole Z F7
  have C__law_whole : Callee l.prog w K mg base (fun _ => 0) 1 "_law_whole" φ__law_whole [] := fn_callee F7 G7 (PySem.W.mg_of X G a7) b7 .nil fun _ => .nil
  have G8 : FnOk l.prog w K mg base CX0 1 _ _ _ (spOf K (fun _ => 0) φ__law_mix) := ok__law_mix Z F8
  have C__law_mix : Callee l.prog w K mg base (fun _ => 0) 1 "_law_mix" φ__law_mix [] := fn_callee F8 G8 (PySem.W.mg_of X G a8) b8 .nil fun _ => .nil
  have G9 : FnOk l.prog w K mg base CX0 1 _ _ _ (spOf K (fun _ => 0) φ__law_shared) := ok__law_shared Z F9
  have C__law_shared : Callee l.prog w K mg base (fun _ => 0) 1 "_law_shared" φ__law_shared [] := fn_callee F9 G9 (PySem.W.mg_of X G a9) b9 .nil fun _ => .nil
  have G10 : FnOk l.prog w K mg base CX0 2 _ _ _ (spOf K (fun _ => 0) φ__law_lowest) := ok__law_lowest Z C__law_shared F10
  have C__law_lowest : Callee l.prog w K mg base (fun _ => 0) 2 "_law_lowest" φ__law_lowest [] := fn_callee F10 G10 (PySem.W.mg_of X G a10) b10 .nil fun _ => .nil
  have G11 : FnOk l.prog w K mg base CX0 2 _ _ _ (spOf K (fun _ => 0) φ__law_is) := ok__law_is Z C__law_whole F11
  have C__law_is : Callee l.prog w K mg base (fun _ => 0) 2 "_law_is" φ__law_is [] := fn_callee F11 G11 (PySem.W.mg_of X G a11) b11 .nil fun _ => .nil
  have G12 : FnOk l.prog w K mg base CX0 3 _ _ _ (spOf K (fun _ => 0) φ__law_drawn) := ok__law_drawn Z C__law_lowest F12
  have C__law_drawn : Callee l.prog w K mg base (fun _ => 0) 3 "_law_drawn" φ__law_drawn [] := fn_callee F12 G12 (PySem.W.mg_of X G a12) b12 .nil fun _ => .nil
  have G13 : FnOk l.prog w K mg base CX0 5 _ _ _ (spOf K (fun _ => 0) φ__law_good) := ok__law_good Z C__law_is C_plus C__law_lowest C_minus C_times C_over F13
  have C__law_good : Callee l.prog w K mg base (fun _ => 0) 5 "_law_good" φ__law_good [] := fn_callee F13 G13 (PySem.W.mg_of X G a13) b13 .nil fun _ => .nil
  have G14 : FnOk l.prog w K mg base CX0 6 _ _ _ (spOf K (fun _ => 0) φ_law) := ok_law Z C__law_cell_at C__law_drawn C__law_mix C__law_good F14
  exact G14
theorem law_ok (K : PySem.W.Frag) (H : Hp) (a : Addr) (ns : List Int) (hl : ns.length ≤ 63) (hb : ∀ z ∈ ns, Builtin.Int.intBits z ≤ 1048576) (hS : SqL K H a (ns.map V.int)) : spOf K (fun _ => 0) φ_law [.ref a] H (fun v _ => v = .bl true) fun _ _ _ => False :=
  ⟨[.rol (ns.map D.int)], H, .va (.bl true), Same.refl _, .cons (.rol hS .ints) .nil, law_true ns hl hb, fun v H' F' _ r => by cases r; rfl⟩
end G
open PySem PySem.W PyProof.Rows
set_option maxRecDepth 100000 in
set_option maxHeartbeats 0 in
theorem PySem.Challenge.cw_ballastway_k04_sums_and_products_holds : PySem.Challenge.rw_ballastway_k04_sums_and_products.Holds := by
  w_on; o_law; k_head; (case hw => w_witness2)
  k_fill
  refine L2.walk_ofB (l := PySem.Challenge.rw_ballastway_k04_sums_and_products) (n := 63) (k := 6) (x := "_law_script") (CX := fun _ => L2.CX0) (sp := fun w => BK.spOf _ (fun _ => 0) G.φ_law) rfl (by decide) rfl ⟨rfl, by decide, by decide⟩ (fun w h Y => PySem.W.kIn_of Y) ?F (fun w H a ns hl hb ho hS => G.law_ok _ H a ns hl hb hS) (fun _ _ _ _ _ h => h)
  case F =>
    intro w mg fa h KX Gh hmg
    refine' G.all_mk KX Gh hmg ?a0 ?l0 ?c0 ?k0 ?a1 ?l1 ?c1 ?k1 ?a2 ?l2 ?c2 ?k2 ?a3 ?l3 ?c3 ?k3 ?a4 ?l4 ?c4 ?k4 ?a5 ?l5 ?c5 ?k5 ?a6 ?l6 ?c6 ?k6 ?a7 ?l7 ?c7 ?k7 ?a8 ?l8 ?c8 ?k8 ?a9 ?l9 ?c9 ?k9 ?a10 ?l10 ?c10 ?k10 ?a11 ?l11 ?c11 ?k11 ?a12 ?l12 ?c12 ?k12 ?a13 ?l13 ?c13 ?k13 ?a14 ?l14 ?c14 ?k14 ?z_abs ?z_bool ?z_int ?z_isinstance ?z_len ?z_range ?z_tuple
    (case a0 => k_is)
    (case l0 => k_is)
    (case c0 => k_is)
    (case k0 => k_is)
    (case a1 => k_is)
    (case l1 => k_is)
    (case c1 => k_is)
    (case k1 => k_is)
    (case a2 => k_is)
    (case l2 => k_is)
    (case c2 => k_is)
    (case k2 => k_is)
    (case a3 => k_is)
    (case l3 => k_is)
    (case c3 => k_is)
    (case k3 => k_is)
    (case a4 => k_is)
    (case l4 => k_is)
    (case c4 => k_is)
    (case k4 => k_is)
    (case a5 => k_is)
    (case l5 => k_is)
    (case c5 => k_is)
    (case k5 => k_is)
    (case a6 => k_is)
    (case l6 => k_is)
    (case c6 => k_is)
    (case k6 => k_is)
    (case a7 => k_is)
    (case l7 => k_is)
    (case c7 => k_is)
    (case k7 => k_is)
    (case a8 => k_is)
    (case l8 => k_is)
    (case c8 => k_is)
    (case k8 => k_is)
    (case a9 => k_is)
    (case l9 => k_is)
    (case c9 => k_is)
    (case k9 => k_is)
    (case a10 => k_is)
    (case l10 => k_is)
    (case c10 => k_is)
    (case k10 => k_is)
    (case a11 => k_is)
    (case l11 => k_is)
    (case c11 => k_is)
    (case k11 => k_is)
    (case a12 => k_is)
    (case l12 => k_is)
    (case c12 => k_is)
    (case k12 => k_is)
    (case a13 => k_is)
    (case l13 => k_is)
    (case c13 => k_is)
    (case k13 => k_is)
    (case a14 => k_is)
    (case l14 => k_is)
    (case c14 => k_is)
    (case k14 => k_is)
    (case z_abs => k_is)
    (case z_bool => k_is)
    (case z_int => k_is)
    (case z_isinstance => k_is)
    (case z_len => k_is)
    (case z_range => k_is)
    (case z_tuple => k_is)
