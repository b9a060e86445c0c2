import PyProof.Rows.All
import Wide.All
import OpenK.AllK
import Wide.FinOn
import HandS.ForMost
import HandS.EndBits
import HandS.IsInst
import HandS.TupAny
import HandS.Style
import HandS.Lambda
import HandS.EndTab
import HandS.HeadHook4
import HandS.HeadWalk
import HandS.Head2
import HandS.Exc
import HandS.Defaults
import HandS.Zip
import HandS.RaiseMore
import HandS.More
import KE.SortUse
import HandS.Codes
import PyProof.Rows.StrFirst
import KE.IntTextText
import HandS.Conv
import HandS.Rev
import PyProof.ListRange
import HandS.Deep
import HandS.ExcInit
import HandS.ExcOwn
import HandS.ExcIs
import HandS.ExcField
import HandS.ExcBuiltin
import HandS.ExcValue
import HandS.FStr
import HandS.SortInts
import PySem.Challenge.RW_ballastway_k12_along_a_way
set_option Elab.async false
set_option linter.all false
set_option maxRecDepth 100000
namespace BK
open PySem PySem.Spec L2
set_option autoImplicit false
end BK
namespace BK
open PySem PySem.Spec L2
set_option autoImplicit false
/-! ### data, slots, results -/
inductive D where
  | non | bl (b : Bool) | int (i : Int) | str (x : Str)
  /-- rol: a list that is read alone (the script) -/
  | lst (xs : List D) | tup (xs : List D) | ins (c : Nat) (fs : List D) | rol (xs : List D)
  /-- dic: a dict with texts as keys that is read alone -/
  | dic (ks : List Str) (vs : List D)
  /-- exc: an exception of the c-th class that is held, its fields -/
  | exc (c : Nat) (fs : List D)
inductive R where
  | va (d : D) | tm (ds : List D) | bw (j : Nat) (ds : List D)
/-- own trees: fz: frozen data; lists and instances of the body's own -/
inductive T where
  | fz (d : D) | lst (ts : List T) | ins (c : Nat) (ts : List T)
mutual
def T.d : T → D
  | .fz d => d
  | .lst ts => .lst (T.ds ts)
  | .ins c ts => .ins c (T.ds ts)
def T.ds : List T → List D
  | [] => []
  | t :: ts => t.d :: T.ds ts
end
/-- ot: an own tree -/
inductive Slot where
  | un | va (d : D) | ow (ds : List D) | ot (t : T)
abbrev Gm := List Slot
/-- an exception: its class, its fields -/
structure Exc where
  c : Nat
  fs : List (Int ⊕ Str)
def aD : Int ⊕ Str → D
  | .inl i => .int i
  | .inr s => .str s
inductive Out where
  | nx (g : Gm) | rt (r : R) | bk (g : Gm) | ct (g : Gm) | ex (x : Exc)
def R.d : R → D
  | .va d => d
  | .tm ds => .lst ds
  | .bw _ ds => .lst ds
def R.isBw : R → Bool
  | .bw _ _ => true
  | _ => false
/-- the fields of an instance of the c-th class, in the order in which they are stored -/
def fldsOf : Nat → List Str
  | 0 => ["length"]
  | 1 => ["length", "name", "bears", "wide", "most"]
  | 2 => ["pieces", "rounds", "shuts"]
  | 3 => ["name", "speed", "wheels"]
  | 4 => ["cart", "way", "start", "crossings", "ended"]
  | 5 => ["road", "loads", "sends"]
  | _ => []
/-- what is known of the class at C: its instances store the fields -/
structure Kls (K : PySem.W.Frag) (C : Addr) (c : Nat) : Prop where
  cl : Cls K C
  na : ∀ f ∈ fldsOf c, NoAttr K C f
/-- the fields of an exception of the c-th class, the last stored one first -/
def xflds (c : Nat) : List Str := if c = 7 then ["wheel", "bridge"] else if 9 ≤ c ∧ c ≤ 15 then ["row"] else []
/-- at a: an exception of the class at C, its dict at d -/
def exh (a C : Addr) (d : Option Addr) : HO := .ext fun h => ∃ (o : Obj) (vs : Array Value), h.get? a = some o ∧ Zc (.ref C) d o ∧ o.data = .fields vs
/-! ### data in a heap -/
mutual
inductive Den (K : PySem.W.Frag) (ca : Nat → Addr) (F : Hp) : V → D → Prop
  | non : Den K ca F .non .non
  | bl (b : Bool) : Den K ca F (.bl b) (.bl b)
  | int (i : Int) : Den K ca F (.int i) (.int i)
  | str (x : Str) : Den K ca F (.str x) (.str x)
  | lst {a : Addr} {xs : List V} {ds : List D} : F a = some (.lst xs) → Dens K ca F xs ds → Den K ca F (.ref a) (.lst ds)
  | tup {a : Addr} {xs : List V} {ds : List D} : SqT K F a xs → Dens K ca F xs ds → Den K ca F (.ref a) (.tup ds)
  | ins {a dx : Addr} {fs : List (Str × V)} {c : Nat} {ds : List D} : Kls K (ca c) c → F a = some (.ins (ca c) dx fs) → fs.map (·.1) = fldsOf c → Dens K ca F (fs.map (·.2)) ds → Den K ca F (.ref a) (.ins c ds)
  | rol {a : Addr} {xs : List V} {ds : List D} : SqL K F a xs → Dens K ca F xs ds → Den K ca F (.ref a) (.rol ds)
  | dic {a : Addr} {kvs : List (Key × V)} {ks : List Str} {ds : List D} : F a = some (.dK kvs) → kvs.map (·.1) = ks.map Sum.inr → Dens K ca F (kvs.map (·.2)) ds → Den K ca F (.ref a) (.dic ks ds)
  | exc {a : Addr} {d : Option Addr} {fs : List (Str × V)} {c : Nat} {ds : List D} : F a = some (exh a (ca c) d) → (d = none ∧ fs = [] ∨ ∃ dd, d = some dd ∧ F dd = some (.xd fs)) → fs.map (·.1) = xflds c → Dens K ca F (fs.map (·.2)) ds → Den K ca F (.ref a) (.exc c ds)
inductive Dens (K : PySem.W.Frag) (ca : Nat → Addr) (F : Hp) : List V → List D → Prop
  | nil : Dens K ca F [] []
  | cons {v : V} {vs : List V} {d : D} {ds : List D} : Den K ca F v d → Dens K ca F vs ds → Dens K ca F (v :: vs) (d :: ds)
end
theorem Same.rd {H H' : Hp} {a : Addr} {o : HO} (e : Same H H') (h : Rd H a o) : Rd H' a o := by
  rcases h with h | ⟨u, h⟩
  · exact .inl (e _ _ h)
  · exact .inr ⟨u, e _ _ h⟩
theorem Same.seqT {K : PySem.W.Frag} {H H' : Hp} {a : Addr} {xs : List V} (e : Same H H') (h : SqT K H a xs) : SqT K H' a xs := by
  rcases h with (h | ⟨o, h⟩) | h
  · exact .inl (.inl (e _ _ h))
  · exact .inl (.inr ⟨o, e _ _ h⟩)
  · exact .inr h
section
variable {K : PySem.W.Frag} {ca : Nat → Addr} {F F' : Hp}
mutual
theorem Den.mono (s : Same F F') : ∀ {v : V} {d : D}, Den K ca F v d → Den K ca F' v d
  | _, _, .non => .non
  | _, _, .bl b => .bl b
  | _, _, .int i => .int i
  | _, _, .str x => .str x
  | _, _, .lst h hs => .lst (s _ _ h) (Dens.mono s hs)
  | _, _, .tup h hs => .tup (Same.seqT s h) (Dens.mono s hs)
  | _, _, .ins k h e hs => .ins k (s _ _ h) e (Dens.mono s hs)
  | _, _, .rol h hs => .rol (s.seq h) (Dens.mono s hs)
  | _, _, .dic h e hs => .dic (s _ _ h) e (Dens.mono s hs)
  | _, _, .exc h g e hs => .exc (s _ _ h) (g.imp (fun z => z) fun ⟨dd, e1, e2⟩ => ⟨dd, e1, s _ _ e2⟩) e (Dens.mono s hs)
theorem Dens.mono (s : Same F F') : ∀ {vs : List V} {ds : List D}, Dens K ca F vs ds → Dens K ca F' vs ds
  | _, _, .nil => .nil
  | _, _, .cons h hs => .cons (Den.mono s h) (Dens.mono s hs)
end
theorem Dens.length : ∀ {vs : List V} {ds : List D}, Dens K ca F vs ds → vs.length = ds.length
  | _, _, .nil => rfl
  | _, _, .cons _ hs => congrArg (· + 1) (Dens.length hs)
theorem Dens.get : ∀ {vs : List V} {ds : List D}, Dens K ca F vs ds → ∀ {i : Nat} {v : V} {d : D}, vs[i]? = some v → ds[i]? = some d → Den K ca F v d
  | _, _, .cons h _, 0, v, d, e1, e2 => by
    have e1 := Option.some.inj e1
    have e2 := Option.some.inj e2
    subst e1; subst e2
    exact h
  | _, _, .cons _ hs, i + 1, v, d, e1, e2 => Dens.get hs (i := i) (by simpa using e1) (by simpa using e2)
theorem Dens.getV {vs : List V} {ds : List D} (h : Dens K ca F vs ds) {i : Nat} {d : D} (e : ds[i]? = some d) : ∃ v, vs[i]? = some v ∧ Den K ca F v d := by
  have hl : i < vs.length := by rw [h.length]; exact (List.getElem?_eq_some_iff.mp e).1
  exact ⟨vs[i], List.getElem?_eq_getElem hl, h.get (List.getElem?_eq_getElem hl) e⟩
theorem Dens.getD {vs : List V} {ds : List D} (h : Dens K ca F vs ds) {i : Nat} {v : V} (e : vs[i]? = some v) : ∃ d, ds[i]? = some d ∧ Den K ca F v d := by
  have hl : i < ds.length := by rw [← h.length]; exact (List.getElem?_eq_some_iff.mp e).1
  exact ⟨ds[i], List.getElem?_eq_getElem hl, h.get e (List.getElem?_eq_getElem hl)⟩
theorem Dens.append : ∀ {vs ws : List V} {ds es : List D}, Dens K ca F vs ds → Dens K ca F ws es → Dens K ca F (vs ++ ws) (ds ++ es)
  | _, _, _, _, .nil, s => s
  | _, _, _, _, .cons r t, s => .cons r (Dens.append t s)
theorem Dens.one {v : V} {d : D} (h : Den K ca F v d) : Dens K ca F [v] [d] := .cons h .nil
theorem Dens.take : ∀ {vs : List V} {ds : List D} (n : Nat), Dens K ca F vs ds → Dens K ca F (vs.take n) (ds.take n)
  | _, _, 0, _ => .nil
  | _, _, _ + 1, .nil => .nil
  | _, _, n + 1, .cons r t => .cons r (Dens.take n t)
theorem Dens.drop : ∀ {vs : List V} {ds : List D} (n : Nat), Dens K ca F vs ds → Dens K ca F (vs.drop n) (ds.drop n)
  | _, _, 0, r => r
  | _, _, _ + 1, .nil => .nil
  | _, _, n + 1, .cons _ t => Dens.drop n t
theorem Dens.dropLast {vs : List V} {ds : List D} (h : Dens K ca F vs ds) : Dens K ca F vs.dropLast ds.dropLast := by
  rw [List.dropLast_eq_take, List.dropLast_eq_take, h.length]
  exact h.take _
theorem Dens.eraseIdx : ∀ {vs : List V} {ds : List D} (i : Nat), Dens K ca F vs ds → Dens K ca F (vs.eraseIdx i) (ds.eraseIdx i)
  | _, _, _, .nil => .nil
  | _, _, 0, .cons _ t => t
  | _, _, n + 1, .cons r t => .cons r (Dens.eraseIdx n t)
theorem Dens.set : ∀ {vs : List V} {ds : List D} {v : V} {d : D} (i : Nat), Den K ca F v d → Dens K ca F vs ds → Dens K ca F (vs.set i v) (ds.set i d)
  | _, _, _, _, _, _, .nil => .nil
  | _, _, _, _, 0, h, .cons _ t => .cons h t
  | _, _, _, _, n + 1, h, .cons r t => .cons r (Dens.set n h t)
theorem Dens.reverse {vs : List V} {ds : List D} (h : Dens K ca F vs ds) : Dens K ca F vs.reverse ds.reverse := by
  induction vs generalizing ds with
  | nil => cases h; exact .nil
  | cons v vs ih =>
    cases h with
    | cons h hs =>
      rw [List.reverse_cons, List.reverse_cons]
      exact (ih hs).append (.one h)
theorem Dens.ints : ∀ {ns : List Int}, Dens K ca F (ns.map V.int) (ns.map D.int)
  | [] => .nil
  | n :: ns => .cons (.int n) Dens.ints
theorem Dens.ints_of : ∀ {vs : List V} {ns : List Int}, Dens K ca F vs (ns.map D.int) → vs = ns.map V.int
  | _, [], h => by cases h; rfl
  | _, n :: ns, h => by
    cases h with
    | cons h hs =>
      cases h
      rw [Dens.ints_of hs]
      rfl
theorem Dens.bls_of : ∀ {vs : List V} {ns : List Bool}, Dens K ca F vs (ns.map D.bl) → vs = ns.map V.bl
  | _, [], h => by cases h; rfl
  | _, n :: ns, h => by
    cases h with
    | cons h hs =>
      cases h
      rw [Dens.bls_of hs]
      rfl
end
/-! ### heaps that grow -/
/-- no table is frozen -/
def NT (F : Hp) : Prop := ∀ b ps, F b ≠ some (.tbl ps)
/-- tables that the law's defs need: flags and addresses in ca -/
structure TabsC (ca : Nat → Addr) (H : Hp) : Prop where
  a : ca 20 = 1 → LamX.TabS H (ca 21) "in_order.<locals>.<lambda>"
  b : ca 22 = 1 → LamX.TabS H (ca 23) "log_of.<locals>.<lambda>"
/-- a heap but for its tables -/
def noT (H : Hp) : Hp := fun b => match H b with
  | some (.tbl _) => none
  | o => o
theorem noT_same (H : Hp) : Same (noT H) H := fun b o e => by
  unfold noT at e
  split at e
  · cases e
  · exact e
theorem noT_nt (H : Hp) : NT (noT H) := fun b ps e => by
  unfold noT at e
  split at e
  · cases e
  · rename_i h; exact h ps e
theorem noT_get {H : Hp} {b : Addr} {o : HO} (h : H b = some o) (n : ∀ ps, o ≠ .tbl ps) : noT H b = some o := by
  unfold noT
  rw [h]
  split
  · rename_i z; exact absurd (Option.some.inj z) (n _)
  · rfl
theorem noT_none {H : Hp} {b : Addr} (h : H b = none) : noT H b = none := by
  unfold noT
  rw [h]
theorem ne_noT {H : Hp} {a b : Addr} {o : HO} (e : H b = some o) (n : ∀ ps, o ≠ .tbl ps) (h : noT H a = none) : b ≠ a := fun z => by
  subst z
  rw [noT_get e n] at h; cases h
/-- all that was tracked stays but for tables of code objects; these keep their names -/
structure SameN (ca : Nat → Addr) (H H' : Hp) : Prop where
  st : ∀ b o, H b = some o → (∀ ps, o ≠ .tbl ps) → H' b = some o
  tb : TabsC ca H → TabsC ca H'
theorem SameN.of {ca : Nat → Addr} {H H' : Hp} (s : Same H H') : SameN ca H H' := ⟨fun b o h _ => s b o h, fun t => ⟨fun h => (t.a h).ext s, fun h => (t.b h).ext s⟩⟩
theorem SameN.refl {ca : Nat → Addr} (H : Hp) : SameN ca H H := .of (Same.refl H)
theorem SameN.trans {ca : Nat → Addr} {H H1 H2 : Hp} (a : SameN ca H H1) (b : SameN ca H1 H2) : SameN ca H H2 :=
  ⟨fun c o h n => b.st c o (a.st c o h n) n, fun t => b.tb (a.tb t)⟩
theorem SameN.free {ca : Nat → Addr} {H H' : Hp} (s : SameN ca H H') {p : Addr} (h : noT H' p = none) : noT H p = none := by
  cases q : noT H p with
  | none => rfl
  | some o =>
    have h1 := noT_same H _ _ q
    have h2 : ∀ ps, o ≠ .tbl ps := fun ps z => noT_nt H p ps (by rw [q, z])
    rw [noT_get (s.st p o h1 h2) h2] at h
    cases h
theorem TabsC.mono {ca : Nat → Addr} {H H' : Hp} (t : TabsC ca H) (s : SameN ca H H') : TabsC ca H' := s.tb t
theorem SameN.l {ca : Nat → Addr} {H H' : Hp} (s : SameN ca H H') {a : Addr} {xs : List V} (h : H a = some (.lst xs)) : H' a = some (.lst xs) := s.st a _ h fun ps z => by cases z
theorem SameN.i {ca : Nat → Addr} {H H' : Hp} (s : SameN ca H H') {a C dx : Addr} {fs : List (Str × V)} (h : H a = some (.ins C dx fs)) : H' a = some (.ins C dx fs) := s.st a _ h fun ps z => by cases z
/-- an object that is neither a table nor a code object is written -/
structure Pl (H : Hp) (a : Addr) : Prop where
  t : ∀ ps, H a ≠ some (.tbl ps)
  c : ∀ q, H a ≠ some (LamX.CodeO a q)
theorem Pl.none {H : Hp} {a : Addr} (h : H a = none) : Pl H a := ⟨fun ps z => by (rw [h] at z; cases z), fun q z => by (rw [h] at z; cases z)⟩
theorem codeO_lst {a : Addr} {q : Str} {xs : List V} : LamX.CodeO a q ≠ .lst xs := fun z => by unfold LamX.CodeO at z; cases z
theorem codeO_ins {a C dx : Addr} {q : Str} {xs : List (Str × V)} : LamX.CodeO a q ≠ .ins C dx xs := fun z => by unfold LamX.CodeO at z; cases z
theorem Pl.lst {H : Hp} {a : Addr} {xs : List V} (h : H a = some (.lst xs)) : Pl H a := ⟨fun ps z => by (rw [h] at z; cases z), fun q z => codeO_lst (Option.some.inj (h.symm.trans z)).symm⟩
theorem Pl.ins {H : Hp} {a C dx : Addr} {xs : List (Str × V)} (h : H a = some (.ins C dx xs)) : Pl H a := ⟨fun ps z => by (rw [h] at z; cases z), fun q z => codeO_ins (Option.some.inj (h.symm.trans z)).symm⟩
theorem tabS_upd {H : Hp} {a : Addr} {o : HO} (h : Pl H a) {P : Addr} {q : Str} (t : LamX.TabS H P q) : LamX.TabS (upd H a o) P q := by
  obtain ⟨ps, h1, h2, h3⟩ := t
  refine ⟨ps, by rw [upd_ne (fun z => h.t ps (by rw [← z]; exact h1))]; exact h1, h2, fun pos cv hc => ?_⟩
  obtain ⟨c, e1, e2⟩ := h3 pos cv hc
  refine ⟨c, e1, ?_⟩
  by_cases z : c = a
  · subst z; exact absurd e2 (h.c q)
  · rw [upd_ne z]; exact e2
theorem SameN.updO {ca : Nat → Addr} {H0 H : Hp} (s : SameN ca H0 H) {a : Addr} {o : HO} (h0 : noT H0 a = .none) (h : Pl H a) : SameN ca H0 (upd H a o) :=
  ⟨fun b u e n => by rw [upd_ne (ne_noT e n h0)]; exact s.st b u e n, fun t => ⟨fun k => tabS_upd h ((s.tb t).a k), fun k => tabS_upd h ((s.tb t).b k)⟩⟩
/-- all that was tracked stays; what is frozen grows by what is new alone -/
structure Ext (ca : Nat → Addr) (H F H' F' : Hp) : Prop where
  hh : SameN ca H H'
  ff : Same F F'
  fh : Same F' H'
  nw : ∀ a, F' a ≠ none → F a ≠ none ∨ noT H a = none
  nt : NT F → NT F'
theorem Ext.refl {ca : Nat → Addr} {H F : Hp} (s : Same F H) : Ext ca H F H F := ⟨SameN.refl _, Same.refl _, s, fun _ h => .inl h, fun n => n⟩
theorem Ext.trans {ca : Nat → Addr} {H F H1 F1 H2 F2 : Hp} (a : Ext ca H F H1 F1) (b : Ext ca H1 F1 H2 F2) : Ext ca H F H2 F2 :=
  ⟨a.hh.trans b.hh, a.ff.trans b.ff, b.fh, fun x h => by
    rcases b.nw x h with h | h
    · exact a.nw x h
    · exact .inr (a.hh.free h), fun n => b.nt (a.nt n)⟩
theorem Ext.keepN {ca : Nat → Addr} {H F H' F' : Hp} (x : Ext ca H F H' F') {a : Addr} {o : HO} (h : H a = some o) (f : F a = none) (hn : ∀ ps, o ≠ .tbl ps := by exact fun _ z => nomatch z) : F' a = none := by
  cases q : F' a with
  | none => rfl
  | some u =>
    rcases x.nw a (by rw [q]; exact fun z => nomatch z) with z | z
    · exact absurd f z
    · rw [noT_get h hn] at z; cases z
theorem same_upd {H : Hp} {p : Addr} {o : HO} (h : H p = none) : Same H (upd H p o) := fun b x e => by
  rw [upd_ne (ne_of_none e h)]
  exact e
theorem Same.updB {F H : Hp} {p : Addr} {o : HO} (s : Same F H) : Same (upd F p o) (upd H p o) := fun b x e => by
  by_cases hb : b = p
  · subst hb
    rw [upd_same] at e ⊢
    exact e
  · rw [upd_ne hb] at e ⊢
    exact s b x e
theorem NT.upd {F : Hp} (n : NT F) {p : Addr} {o : HO} (h : ∀ ps, o ≠ .tbl ps) : NT (upd F p o) := fun b ps z => by
  by_cases e : b = p
  · subst e; rw [upd_same] at z; exact h ps (Option.some.inj z)
  · rw [upd_ne e] at z; exact n b ps z
/-- a new object, frozen -/
theorem Ext.new {ca : Nat → Addr} {H F : Hp} (s : Same F H) {p : Addr} (o : HO) (h : H p = none) (hn : ∀ ps, o ≠ .tbl ps := by exact fun _ z => nomatch z) : Ext ca H F (upd H p o) (upd F p o) :=
  ⟨.of (same_upd h), same_upd (s.free h), Same.updB s, fun a q => by
    by_cases e : a = p
    · subst e; exact .inr (noT_none h)
    · rw [upd_ne e] at q; exact .inl q, fun n => n.upd hn⟩
/-- a new object, not frozen -/
theorem Ext.newO {ca : Nat → Addr} {H F : Hp} (s : Same F H) {p : Addr} (o : HO) (h : H p = none) : Ext ca H F (upd H p o) F :=
  ⟨.of (same_upd h), Same.refl _, s.trans (same_upd h), fun a q => .inl q, fun n => n⟩
/-- something new is frozen -/
theorem Ext.frz {ca : Nat → Addr} {H F H1 F1 : Hp} (x : Ext ca H F H1 F1) {p : Addr} {o : HO} (h : noT H p = none) (h1 : H1 p = some o) (f : F1 p = none) (hn : ∀ ps, o ≠ .tbl ps := by exact fun _ z => nomatch z) : Ext ca H F H1 (upd F1 p o) :=
  ⟨x.hh, x.ff.trans (same_upd f), fun b u e => by
    by_cases q : b = p
    · subst q; rw [upd_same] at e; rw [h1, e]
    · rw [upd_ne q] at e; exact x.fh b u e, fun a q => by
    by_cases e : a = p
    · subst e; exact .inr h
    · rw [upd_ne e] at q; exact x.nw a q, fun n => (x.nt n).upd hn⟩
/-! ### a result and its value -/
/-- B: which own list of the body's (its slot, its address); H: the heap at the expression's beginning -/
abbrev BT := Nat → Addr → List D → Prop
def RV (K : PySem.W.Frag) (ca : Nat → Addr) (B : BT) (H F' H' : Hp) (v : V) : R → Prop
  | .va d => Den K ca F' v d
  | .tm ds => ∃ a vs, v = .ref a ∧ noT H a = none ∧ F' a = none ∧ H' a = some (.lst vs) ∧ Dens K ca F' vs ds
  | .bw j ds => ∃ a vs, v = .ref a ∧ B j a ds ∧ F' a = none ∧ H' a = some (.lst vs) ∧ Dens K ca F' vs ds
theorem RV.mono {K : PySem.W.Frag} {ca : Nat → Addr} {B : BT} {H F1 H1 F2 H2 : Hp} {v : V} {r : R} (x : Ext ca H1 F1 H2 F2) (h : RV K ca B H F1 H1 v r) : RV K ca B H F2 H2 v r := by
  cases r with
  | va d => exact Den.mono x.ff h
  | tm ds =>
    obtain ⟨a, vs, rfl, h1, h2, h3, h4⟩ := h
    exact ⟨a, vs, rfl, h1, x.keepN h3 h2, x.hh.l h3, h4.mono x.ff⟩
  | bw j ds =>
    obtain ⟨a, vs, rfl, h1, h2, h3, h4⟩ := h
    exact ⟨a, vs, rfl, h1, x.keepN h3 h2, x.hh.l h3, h4.mono x.ff⟩
/-- the expression began sooner -/
theorem RV.back {K : PySem.W.Frag} {ca : Nat → Addr} {B : BT} {Ha H F1 H1 : Hp} {v : V} {r : R} (s : SameN ca Ha H) (h : RV K ca B H F1 H1 v r) : RV K ca B Ha F1 H1 v r := by
  cases r with
  | va d => exact h
  | tm ds =>
    obtain ⟨a, vs, rfl, h1, h2⟩ := h
    exact ⟨a, vs, rfl, s.free h1, h2⟩
  | bw j ds => exact h
/-- a list is read -/
theorem RV.lst {K : PySem.W.Frag} {ca : Nat → Addr} {B : BT} {H F' H' : Hp} {v : V} {r : R} {ds : List D} (s : Same F' H') (h : RV K ca B H F' H' v r) (e : r.d = .lst ds) : ∃ a vs, v = .ref a ∧ Rd H' a (.lst vs) ∧ Dens K ca F' vs ds := by
  cases r with
  | va d =>
    obtain rfl : d = .lst ds := e
    cases h with
    | lst h hs => exact ⟨_, _, rfl, .inl (s _ _ h), hs⟩
  | tm es =>
    obtain rfl : es = ds := by injection e
    obtain ⟨a, vs, rfl, _, _, h3, h4⟩ := h
    exact ⟨a, vs, rfl, .inl h3, h4⟩
  | bw j es =>
    obtain rfl : es = ds := by injection e
    obtain ⟨a, vs, rfl, _, _, h3, h4⟩ := h
    exact ⟨a, vs, rfl, .inl h3, h4⟩
/-- .. as it is tracked -/
theorem RV.lstH {K : PySem.W.Frag} {ca : Nat → Addr} {B : BT} {H F' H' : Hp} {v : V} {r : R} {ds : List D} (s : Same F' H') (h : RV K ca B H F' H' v r) (e : r.d = .lst ds) : ∃ a vs, v = .ref a ∧ H' a = some (.lst vs) ∧ Dens K ca F' vs ds := by
  cases r with
  | va d =>
    obtain rfl : d = .lst ds := e
    cases h with
    | lst h hs => exact ⟨_, _, rfl, s _ _ h, hs⟩
  | tm es =>
    obtain rfl : es = ds := by injection e
    obtain ⟨a, vs, rfl, _, _, h3, h4⟩ := h
    exact ⟨a, vs, rfl, h3, h4⟩
  | bw j es =>
    obtain rfl : es = ds := by injection e
    obtain ⟨a, vs, rfl, _, _, h3, h4⟩ := h
    exact ⟨a, vs, rfl, h3, h4⟩
/-- what is no list is a value -/
def D.isLst : D → Bool
  | .lst _ => true
  | _ => false
theorem RV.den {K : PySem.W.Frag} {ca : Nat → Addr} {B : BT} {H F' H' : Hp} {v : V} {r : R} {d : D} (h : RV K ca B H F' H' v r) (e : r.d = d) (n : d.isLst = false) : Den K ca F' v d := by
  cases r with
  | va d' => exact e ▸ h
  | tm es => subst e; cases n
  | bw j es => subst e; cases n
/-- a result that is no borrowed list becomes a value -/
theorem RV.froze {K : PySem.W.Frag} {ca : Nat → Addr} {B : BT} {H F H1 F1 : Hp} {v : V} {r : R} (x : Ext ca H F H1 F1) (h : RV K ca B H F1 H1 v r) (n : r.isBw = false) : ∃ F2, Ext ca H F H1 F2 ∧ Same F1 F2 ∧ Den K ca F2 v r.d := by
  cases r with
  | va d => exact ⟨F1, x, Same.refl _, h⟩
  | tm ds =>
    obtain ⟨a, vs, rfl, h1, h2, h3, h4⟩ := h
    exact ⟨_, x.frz h1 h3 h2, same_upd h2, .lst upd_same (h4.mono (same_upd h2))⟩
  | bw j ds => cases n
/-! ### own trees -/
mutual
/-- v reads as t: the frozen leaves in F, the own objects at the addresses told in H -/
inductive OT (K : PySem.W.Frag) (ca : Nat → Addr) (F H : Hp) : V → T → List Addr → Prop
  | fz {v : V} {d : D} : Den K ca F v d → OT K ca F H v (.fz d) []
  | lst {a : Addr} {xs : List V} {ts : List T} {as : List Addr} : H a = some (.lst xs) → OTs K ca F H xs ts as → OT K ca F H (.ref a) (.lst ts) (a :: as)
  | ins {a dx : Addr} {fs : List (Str × V)} {c : Nat} {ts : List T} {as : List Addr} : Kls K (ca c) c → H a = some (.ins (ca c) dx fs) → fs.map (·.1) = fldsOf c → OTs K ca F H (fs.map (·.2)) ts as → OT K ca F H (.ref a) (.ins c ts) (a :: as)
inductive OTs (K : PySem.W.Frag) (ca : Nat → Addr) (F H : Hp) : List V → List T → List Addr → Prop
  | nil : OTs K ca F H [] [] []
  | cons {v : V} {vs : List V} {t : T} {ts : List T} {as bs : List Addr} : OT K ca F H v t as → OTs K ca F H vs ts bs → OTs K ca F H (v :: vs) (t :: ts) (as ++ bs)
end
section
variable {K : PySem.W.Frag} {ca : Nat → Addr} {F F' H H' : Hp}
mutual
theorem OT.mono (sf : Same F F') : ∀ {v : V} {t : T} {as : List Addr}, OT K ca F H v t as → (∀ b ∈ as, H' b = H b) → OT K ca F' H' v t as
  | _, _, _, .fz h, _ => .fz (Den.mono sf h)
  | _, _, _, .lst h hs, e => .lst ((e _ List.mem_cons_self).trans h) (OTs.mono sf hs fun b m => e b (List.mem_cons_of_mem _ m))
  | _, _, _, .ins k h n hs, e => .ins k ((e _ List.mem_cons_self).trans h) n (OTs.mono sf hs fun b m => e b (List.mem_cons_of_mem _ m))
theorem OTs.mono (sf : Same F F') : ∀ {vs : List V} {ts : List T} {as : List Addr}, OTs K ca F H vs ts as → (∀ b ∈ as, H' b = H b) → OTs K ca F' H' vs ts as
  | _, _, _, .nil, _ => .nil
  | _, _, _, .cons h hs, e => .cons (OT.mono sf h fun b m => e b (List.mem_append_left _ m)) (OTs.mono sf hs fun b m => e b (List.mem_append_right _ m))
end
mutual
theorem OT.at : ∀ {v : V} {t : T} {as : List Addr}, OT K ca F H v t as → ∀ b ∈ as, ∃ o, H b = some o ∧ ∀ ps, o ≠ .tbl ps
  | _, _, _, .fz _, b, m => by cases m
  | _, _, _, .lst h hs, b, m => by
    rcases List.mem_cons.mp m with e | m
    · subst e; exact ⟨_, h, fun _ z => nomatch z⟩
    · exact OTs.at hs b m
  | _, _, _, .ins k h n hs, b, m => by
    rcases List.mem_cons.mp m with e | m
    · subst e; exact ⟨_, h, fun _ z => nomatch z⟩
    · exact OTs.at hs b m
theorem OTs.at : ∀ {vs : List V} {ts : List T} {as : List Addr}, OTs K ca F H vs ts as → ∀ b ∈ as, ∃ o, H b = some o ∧ ∀ ps, o ≠ .tbl ps
  | _, _, _, .nil, b, m => by cases m
  | _, _, _, .cons h hs, b, m => by
    rcases List.mem_append.mp m with m | m
    · exact OT.at h b m
    · exact OTs.at hs b m
end
mutual
/-- a tree as data, where its objects are frozen -/
theorem OT.den (sf : Same F F') : ∀ {v : V} {t : T} {as : List Addr}, OT K ca F H v t as → (∀ b ∈ as, F' b = H b) → Den K ca F' v t.d
  | _, _, _, .fz h, _ => Den.mono sf h
  | _, _, _, .lst h hs, e => .lst ((e _ List.mem_cons_self).trans h) (OTs.den sf hs fun b m => e b (List.mem_cons_of_mem _ m))
  | _, _, _, .ins k h n hs, e => .ins k ((e _ List.mem_cons_self).trans h) n (OTs.den sf hs fun b m => e b (List.mem_cons_of_mem _ m))
theorem OTs.den (sf : Same F F') : ∀ {vs : List V} {ts : List T} {as : List Addr}, OTs K ca F H vs ts as → (∀ b ∈ as, F' b = H b) → Dens K ca F' vs (T.ds ts)
  | _, _, _, .nil, _ => .nil
  | _, _, _, .cons h hs, e => .cons (OT.den sf h fun b m => e b (List.mem_append_left _ m)) (OTs.den sf hs fun b m => e b (List.mem_append_right _ m))
end
theorem OTs.length : ∀ {vs : List V} {ts : List T} {as : List Addr}, OTs K ca F H vs ts as → vs.length = ts.length
  | _, _, _, .nil => rfl
  | _, _, _, .cons _ hs => by rw [List.length_cons, List.length_cons, hs.length]
theorem OTs.fzs : ∀ {vs : List V} {ds : List D}, Dens K ca F vs ds → OTs K ca F H vs (ds.map .fz) []
  | _, _, .nil => .nil
  | _, _, .cons h hs => .cons (as := []) (.fz h) (OTs.fzs hs)
theorem OTs.append : ∀ {vs ws : List V} {ts us : List T} {as bs : List Addr}, OTs K ca F H vs ts as → OTs K ca F H ws us bs → OTs K ca F H (vs ++ ws) (ts ++ us) (as ++ bs)
  | _, _, _, _, _, _, .nil, h => h
  | _, _, _, _, _, _, .cons h hs, h2 => by
    rw [List.append_assoc]
    exact .cons h (OTs.append hs h2)
theorem T.ds_fz : ∀ ds : List D, T.ds (ds.map .fz) = ds
  | [] => rfl
  | d :: ds => by
    show T.d (.fz d) :: T.ds (ds.map .fz) = _
    rw [T.ds_fz ds]; rfl
end
end BK
namespace BK
open PySem PySem.Spec L2
set_option autoImplicit false
/-! ### the state of a body -/
/-- the own trees of a body, apart from one another and from its own lists -/
structure OwnA (K : PySem.W.Frag) (ca : Nat → Addr) (H0 F : Hp) (σ : L2.St) (H : Hp) (Γ : Gm) (A : Nat → List Addr) : Prop where
  a : ∀ (i : Nat) (t : T), Γ[i]? = some (Slot.ot t) → (∃ v : V, σ[i]? = some (some v) ∧ OT K ca F H v t (A i)) ∧ (A i).Nodup ∧ ∀ b ∈ A i, noT H0 b = none ∧ F b = none
  b : ∀ (i j : Nat) (t u : T), i ≠ j → Γ[i]? = some (Slot.ot t) → Γ[j]? = some (Slot.ot u) → ∀ b ∈ A i, b ∉ A j
  c : ∀ (i j : Nat) (t : T) (ds : List D) (a : Addr), Γ[i]? = some (Slot.ot t) → Γ[j]? = some (Slot.ow ds) → σ[j]? = some (some (V.ref a)) → a ∉ A i
def Own (K : PySem.W.Frag) (ca : Nat → Addr) (H0 F : Hp) (σ : L2.St) (H : Hp) (Γ : Gm) : Prop := ∃ A : Nat → List Addr, OwnA K ca H0 F σ H Γ A
theorem Own.nil {K : PySem.W.Frag} {ca : Nat → Addr} {H0 F : Hp} {σ : L2.St} {H : Hp} {Γ : Gm} (h : ∀ (i : Nat) (t : T), Γ[i]? ≠ some (Slot.ot t)) : Own K ca H0 F σ H Γ :=
  ⟨fun _ => [], fun i t e => absurd e (h i t), fun i j t u _ e => absurd e (h i t), fun i j t ds a e => absurd e (h i t)⟩
theorem OwnA.keep {K : PySem.W.Frag} {ca : Nat → Addr} {H0 F F' : Hp} {σ σ' : L2.St} {H H' : Hp} {Γ Γ' : Gm} {A : Nat → List Addr} (o : OwnA K ca H0 F σ H Γ A) (h1 : ∀ (i : Nat) (t : T), Γ'[i]? = some (Slot.ot t) → Γ[i]? = some (Slot.ot t) ∧ σ'[i]? = σ[i]?)
    (h2 : ∀ (j : Nat) (ds : List D) (a : Addr), Γ'[j]? = some (Slot.ow ds) → σ'[j]? = some (some (V.ref a)) → (∃ (k : Nat) (es : List D), Γ[k]? = some (Slot.ow es) ∧ σ[k]? = some (some (V.ref a))) ∨ noT H a = none) (sf : Same F F')
    (hk : ∀ (b : Addr) (u : HO), H b = some u → (∀ ps, u ≠ .tbl ps) → F b = none → (∀ (j : Nat) (ds : List D), Γ[j]? = some (Slot.ow ds) → σ[j]? ≠ some (some (V.ref b))) → H' b = some u ∧ F' b = none) : OwnA K ca H0 F' σ' H' Γ' A := by
  obtain ⟨o1, o2, o3⟩ := o
  have key : ∀ (i : Nat) (t : T), Γ'[i]? = some (Slot.ot t) → ∀ b ∈ A i, ∃ u, H b = some u ∧ H' b = some u ∧ F' b = none ∧ ∀ ps, u ≠ .tbl ps := by
    intro i t e b hb
    obtain ⟨e1, _⟩ := h1 i t e
    obtain ⟨⟨v, _, ht⟩, _, hf⟩ := o1 i t e1
    obtain ⟨u, hu, hn⟩ := ht.at b hb
    obtain ⟨k1, k2⟩ := hk b u hu hn (hf b hb).2 fun j ds g s => o3 i j t ds b e1 g s hb
    exact ⟨u, hu, k1, k2, hn⟩
  refine ⟨fun i t e => ?_, fun i j t u n e e' => o2 i j t u n (h1 i t e).1 (h1 j u e').1, fun i j t ds a e g s => ?_⟩
  · obtain ⟨e1, e2⟩ := h1 i t e
    obtain ⟨⟨v, hv, ht⟩, hd, hf⟩ := o1 i t e1
    refine ⟨⟨v, by rw [e2]; exact hv, ht.mono sf fun b hb => ?_⟩, hd, fun b hb => ⟨(hf b hb).1, ?_⟩⟩
    · obtain ⟨u, k1, k2, _⟩ := key i t e b hb
      rw [k1, k2]
    · obtain ⟨u, k1, k2, k3, _⟩ := key i t e b hb
      exact k3
  · obtain ⟨e1, _⟩ := h1 i t e
    rcases h2 j ds a g s with ⟨k, es, g', s'⟩ | z
    · exact o3 i k t es a e1 g' s'
    · intro hb
      obtain ⟨u, k1, _, _, hn⟩ := key i t e a hb
      rw [noT_get k1 hn] at z
      cases z
theorem OwnA.mono {K : PySem.W.Frag} {ca : Nat → Addr} {H0 F F' : Hp} {σ : L2.St} {H H' : Hp} {Γ : Gm} {A : Nat → List Addr} (o : OwnA K ca H0 F σ H Γ A) (x : Ext ca H F H' F') : OwnA K ca H0 F' σ H' Γ A :=
  o.keep (fun i t e => ⟨e, rfl⟩) (fun j ds a g s => .inl ⟨j, ds, g, s⟩) x.ff fun b u e n f _ => ⟨x.hh.st b u e n, x.keepN e f n⟩
theorem Own.keep {K : PySem.W.Frag} {ca : Nat → Addr} {H0 F F' : Hp} {σ σ' : L2.St} {H H' : Hp} {Γ Γ' : Gm} (o : Own K ca H0 F σ H Γ) (h1 : ∀ (i : Nat) (t : T), Γ'[i]? = some (Slot.ot t) → Γ[i]? = some (Slot.ot t) ∧ σ'[i]? = σ[i]?)
    (h2 : ∀ (j : Nat) (ds : List D) (a : Addr), Γ'[j]? = some (Slot.ow ds) → σ'[j]? = some (some (V.ref a)) → (∃ (k : Nat) (es : List D), Γ[k]? = some (Slot.ow es) ∧ σ[k]? = some (some (V.ref a))) ∨ noT H a = none) (sf : Same F F')
    (hk : ∀ (b : Addr) (u : HO), H b = some u → (∀ ps, u ≠ .tbl ps) → F b = none → (∀ (j : Nat) (ds : List D), Γ[j]? = some (Slot.ow ds) → σ[j]? ≠ some (some (V.ref b))) → H' b = some u ∧ F' b = none) : Own K ca H0 F' σ' H' Γ' := by
  obtain ⟨A, o⟩ := o
  exact ⟨A, o.keep h1 h2 sf hk⟩
structure SR (K : PySem.W.Frag) (ca : Nat → Addr) (H0 F0 : Hp) (σ : L2.St) (H F : Hp) (Γ : Gm) : Prop where
  ext : Ext ca H0 F0 H F
  nt0 : NT F0
  tc0 : TabsC ca H0
  len : σ.length = Γ.length
  va : ∀ (i : Nat) (d : D), Γ[i]? = some (.va d) → ∃ v, σ[i]? = some (some v) ∧ Den K ca F v d
  ow : ∀ (i : Nat) (ds : List D), Γ[i]? = some (.ow ds) → ∃ a vs, σ[i]? = some (some (.ref a)) ∧ noT H0 a = none ∧ F a = none ∧ H a = some (.lst vs) ∧ Dens K ca F vs ds
  ap : ∀ (i j : Nat) (ds es : List D) (a : Addr), i ≠ j → Γ[i]? = some (.ow ds) → Γ[j]? = some (.ow es) → σ[i]? = some (some (.ref a)) → σ[j]? = some (some (.ref a)) → False
  own : Own K ca H0 F σ H Γ
section
variable {K : PySem.W.Frag} {ca : Nat → Addr} {H0 F0 H F H' F' : Hp} {σ : L2.St} {Γ : Gm}
theorem SR.mono (S : SR K ca H0 F0 σ H F Γ) (x : Ext ca H F H' F') : SR K ca H0 F0 σ H' F' Γ :=
  ⟨S.ext.trans x, S.nt0, S.tc0, S.len, fun i d h => let ⟨v, h1, h2⟩ := S.va i d h; ⟨v, h1, h2.mono x.ff⟩,
    fun i ds h => let ⟨a, vs, h1, h2, h3, h4, h5⟩ := S.ow i ds h; ⟨a, vs, h1, h2, x.keepN h4 h3, x.hh.l h4, h5.mono x.ff⟩, S.ap,
    S.own.keep (fun i t e => ⟨e, rfl⟩) (fun j ds a g s => .inl ⟨j, ds, g, s⟩) x.ff fun b u e n f _ => ⟨x.hh.st b u e n, x.keepN e f n⟩⟩
theorem get_set {α : Type} {l : List α} {i j : Nat} {x y : α} (h : (l.set i x)[j]? = some y) : (i = j ∧ y = x ∧ i < l.length) ∨ (i ≠ j ∧ l[j]? = some y) := by
  by_cases e : i = j
  · subst e
    rw [List.getElem?_set] at h
    simp only [if_true] at h
    split at h
    · exact .inl ⟨rfl, (Option.some.inj h).symm, by assumption⟩
    · cases h
  · rw [List.getElem?_set_ne e] at h
    exact .inr ⟨e, h⟩
theorem Own.set_ (o : Own K ca H0 F σ H Γ) {i : Nat} {s : Slot} {v : Option V} (h1 : ∀ t, s ≠ .ot t) (h2 : ∀ ds, s ≠ .ow ds) : Own K ca H0 F (σ.set i v) H (Γ.set i s) :=
  o.keep (fun j t e => by
    rcases get_set e with ⟨_, e1, _⟩ | ⟨n, e⟩
    · exact absurd e1.symm (h1 t)
    · exact ⟨e, List.getElem?_set_ne n⟩) (fun j ds a g s' => by
    rcases get_set g with ⟨_, e1, _⟩ | ⟨n, g⟩
    · exact absurd e1.symm (h2 ds)
    · rw [List.getElem?_set_ne n] at s'
      exact .inl ⟨j, ds, g, s'⟩) (Same.refl _) fun b u e n f _ => ⟨e, f⟩
theorem SR.lt (S : SR K ca H0 F0 σ H F Γ) {i : Nat} (h : i < Γ.length) : i < σ.length := by rw [S.len]; exact h
/-- a value is stored -/
theorem SR.setVa (S : SR K ca H0 F0 σ H F Γ) {i : Nat} {v : V} {d : D} (h : Den K ca F v d) : SR K ca H0 F0 (σ.set i (some v)) H F (Γ.set i (.va d)) := by
  refine ⟨S.ext, S.nt0, S.tc0, by rw [List.length_set, List.length_set]; exact S.len, fun j e hj => ?_, fun j ds hj => ?_, fun j k ds es a n hj hk sj sk => ?_, S.own.set_ (fun t z => nomatch z) (fun ds z => nomatch z)⟩
  · rcases get_set hj with ⟨rfl, e1, hl⟩ | ⟨n, hj⟩
    · injection e1 with e1; subst e1
      exact ⟨v, List.getElem?_set_self (S.lt hl), h⟩
    · rw [List.getElem?_set_ne n]; exact S.va j e hj
  · rcases get_set hj with ⟨rfl, e1, hl⟩ | ⟨n, hj⟩
    · cases e1
    · rw [List.getElem?_set_ne n]; exact S.ow j ds hj
  · rcases get_set hj with ⟨rfl, e1, hl⟩ | ⟨n1, hj⟩
    · cases e1
    · rcases get_set hk with ⟨rfl, e1, hl⟩ | ⟨n2, hk⟩
      · cases e1
      · rw [List.getElem?_set_ne n1] at sj
        rw [List.getElem?_set_ne n2] at sk
        exact S.ap j k ds es a n hj hk sj sk
/-- a slot is forgotten -/
theorem SR.setUn (S : SR K ca H0 F0 σ H F Γ) {i : Nat} (v : Option V) : SR K ca H0 F0 (σ.set i v) H F (Γ.set i .un) := by
  refine ⟨S.ext, S.nt0, S.tc0, by rw [List.length_set, List.length_set]; exact S.len, fun j e hj => ?_, fun j ds hj => ?_, fun j k ds es a n hj hk sj sk => ?_, S.own.set_ (fun t z => nomatch z) (fun ds z => nomatch z)⟩
  · rcases get_set hj with ⟨rfl, e1, hl⟩ | ⟨n, hj⟩
    · cases e1
    · rw [List.getElem?_set_ne n]; exact S.va j e hj
  · rcases get_set hj with ⟨rfl, e1, hl⟩ | ⟨n, hj⟩
    · cases e1
    · rw [List.getElem?_set_ne n]; exact S.ow j ds hj
  · rcases get_set hj with ⟨rfl, e1, hl⟩ | ⟨n1, hj⟩
    · cases e1
    · rcases get_set hk with ⟨rfl, e1, hl⟩ | ⟨n2, hk⟩
      · cases e1
      · rw [List.getElem?_set_ne n1] at sj
        rw [List.getElem?_set_ne n2] at sk
        exact S.ap j k ds es a n hj hk sj sk
/-- a new list is stored -/
theorem SR.setTm (S : SR K ca H0 F0 σ H F Γ) (x : Ext ca H F H' F') {i : Nat} {v : V} {ds : List D} {B : BT} (h : RV K ca B H F' H' v (.tm ds)) : SR K ca H0 F0 (σ.set i (some v)) H' F' (Γ.set i (.ow ds)) := by
  have S' := S.mono x
  obtain ⟨a, vs, rfl, h1, h2, h3, h4⟩ := h
  refine ⟨S'.ext, S.nt0, S.tc0, by rw [List.length_set, List.length_set]; exact S.len, fun j e hj => ?_, fun j es hj => ?_, fun j k es fs b n hj hk sj sk => ?_, S.own.keep (fun j t e => by
    rcases get_set e with ⟨_, e1, _⟩ | ⟨n, e⟩
    · cases e1
    · exact ⟨e, List.getElem?_set_ne n⟩) (fun j es b g s' => by
    rcases get_set g with ⟨e0, e1, hl⟩ | ⟨n, g⟩
    · subst e0
      rw [List.getElem?_set_self (S.lt hl)] at s'
      cases s'
      exact .inr h1
    · rw [List.getElem?_set_ne n] at s'
      exact .inl ⟨j, es, g, s'⟩) x.ff fun b u e n f _ => ⟨x.hh.st b u e n, x.keepN e f n⟩⟩
  · rcases get_set hj with ⟨rfl, e1, hl⟩ | ⟨n, hj⟩
    · cases e1
    · rw [List.getElem?_set_ne n]; exact S'.va j e hj
  · rcases get_set hj with ⟨rfl, e1, hl⟩ | ⟨n, hj⟩
    · injection e1 with e1; subst e1
      exact ⟨a, vs, List.getElem?_set_self (S.lt hl), S.ext.hh.free h1, h2, h3, h4⟩
    · rw [List.getElem?_set_ne n]; exact S'.ow j es hj
  · have key : ∀ {j : Nat} {es : List D}, Γ[j]? = some (.ow es) → σ[j]? = some (some (.ref a)) → False := fun {j es} g s => by
      obtain ⟨c, ws, s', _, _, g4, _⟩ := S.ow j es g
      rw [s] at s'
      cases s'
      exact ne_noT g4 (fun _ z => nomatch z) h1 rfl
    rcases get_set hj with ⟨rfl, e1, hl⟩ | ⟨n1, hj⟩
    · rw [List.getElem?_set_self (S.lt hl)] at sj
      cases sj
      rcases get_set hk with ⟨rfl, e1, hl⟩ | ⟨n2, hk⟩
      · exact n rfl
      · rw [List.getElem?_set_ne n2] at sk
        exact key hk sk
    · rcases get_set hk with ⟨rfl, e1, hl⟩ | ⟨n2, hk⟩
      · rw [List.getElem?_set_self (S.lt hl)] at sk
        cases sk
        rw [List.getElem?_set_ne n1] at sj
        exact key hj sj
      · rw [List.getElem?_set_ne n1] at sj
        rw [List.getElem?_set_ne n2] at sk
        exact S.ap j k es fs b n hj hk sj sk
/-- an own list is frozen -/
theorem SR.frzE (S : SR K ca H0 F0 σ H F Γ) {i : Nat} {ds : List D} (h : Γ[i]? = some (.ow ds)) {a : Addr} {vs : List V} (s : σ[i]? = some (some (.ref a))) (h1 : noT H0 a = none) (h2 : F a = none) (h3 : H a = some (.lst vs)) (h4 : Dens K ca F vs ds) : SR K ca H0 F0 σ H (upd F a (.lst vs)) (Γ.set i (.va (.lst ds))) := by
  have sm : Same F (upd F a (.lst vs)) := same_upd h2
  refine ⟨S.ext.frz h1 h3 h2, S.nt0, S.tc0, by rw [List.length_set]; exact S.len, fun j e hj => ?_, fun j es hj => ?_, fun j k es fs b n hj hk sj sk => ?_, S.own.keep (fun j t e => by
    rcases get_set e with ⟨_, e1, _⟩ | ⟨n, e⟩
    · cases e1
    · exact ⟨e, rfl⟩) (fun j es b g s' => by
    rcases get_set g with ⟨_, e1, _⟩ | ⟨n, g⟩
    · cases e1
    · exact .inl ⟨j, es, g, s'⟩) sm fun b u e n f k => ⟨e, by rw [upd_ne fun z => k i ds h (by rw [s, z])]; exact f⟩⟩
  · rcases get_set hj with ⟨rfl, e1, hl⟩ | ⟨n, hj⟩
    · injection e1 with e1; subst e1
      exact ⟨_, s, .lst upd_same (h4.mono sm)⟩
    · obtain ⟨v, g1, g2⟩ := S.va j e hj
      exact ⟨v, g1, g2.mono sm⟩
  · rcases get_set hj with ⟨rfl, e1, hl⟩ | ⟨n, hj⟩
    · cases e1
    · obtain ⟨b, ws, g1, g2, g3, g4, g5⟩ := S.ow j es hj
      have hb : b ≠ a := fun e => by subst e; exact S.ap i j ds es b n h hj s g1
      exact ⟨b, ws, g1, g2, by rw [upd_ne hb]; exact g3, g4, g5.mono sm⟩
  · rcases get_set hj with ⟨rfl, e1, hl⟩ | ⟨n1, hj⟩
    · cases e1
    · rcases get_set hk with ⟨rfl, e1, hl⟩ | ⟨n2, hk⟩
      · cases e1
      · exact S.ap j k es fs b n hj hk sj sk
theorem SR.frz (S : SR K ca H0 F0 σ H F Γ) {i : Nat} {ds : List D} (h : Γ[i]? = some (.ow ds)) : ∃ F', Same F F' ∧ SR K ca H0 F0 σ H F' (Γ.set i (.va (.lst ds))) := by
  obtain ⟨a, vs, s, h1, h2, h3, h4⟩ := S.ow i ds h
  exact ⟨_, same_upd h2, S.frzE h s h1 h2 h3 h4⟩
/-- an own list is changed -/
theorem SR.upd (S : SR K ca H0 F0 σ H F Γ) {i : Nat} {ds es : List D} {a : Addr} {ws : List V} (h : Γ[i]? = some (.ow ds)) (s : σ[i]? = some (some (.ref a))) (hw : Dens K ca F ws es) :
    SR K ca H0 F0 σ (upd H a (.lst ws)) F (Γ.set i (.ow es)) := by
  obtain ⟨a', vs, s', h1, h2, h3, h4⟩ := S.ow i ds h
  rw [s] at s'
  cases s'
  refine ⟨⟨S.ext.hh.updO h1 (Pl.lst h3), S.ext.ff, fun b o e => ?_, S.ext.nw, S.ext.nt⟩, S.nt0, S.tc0, by rw [List.length_set]; exact S.len, fun j e hj => ?_, fun j fs hj => ?_, fun j k fs gs b n hj hk sj sk => ?_, S.own.keep (fun j t e => by
    rcases get_set e with ⟨_, e1, _⟩ | ⟨n, e⟩
    · cases e1
    · exact ⟨e, rfl⟩) (fun j fs b g s' => by
    rcases get_set g with ⟨e0, e1, _⟩ | ⟨n, g⟩
    · subst e0; exact .inl ⟨i, ds, h, s'⟩
    · exact .inl ⟨j, fs, g, s'⟩) (Same.refl _) fun b u e n f k => ⟨by rw [upd_ne fun z => k i ds h (by rw [s, z])]; exact e, f⟩⟩
  · rw [upd_ne (ne_of_none e h2)]; exact S.ext.fh b o e
  · rcases get_set hj with ⟨rfl, e1, hl⟩ | ⟨n, hj⟩
    · cases e1
    · exact S.va j e hj
  · rcases get_set hj with ⟨rfl, e1, hl⟩ | ⟨n, hj⟩
    · injection e1 with e1; subst e1
      exact ⟨a, ws, s, h1, h2, upd_same, hw⟩
    · obtain ⟨b, us, g1, g2, g3, g4, g5⟩ := S.ow j fs hj
      have hb : b ≠ a := fun e => by subst e; exact S.ap i j ds fs b n h hj s g1
      exact ⟨b, us, g1, g2, g3, by rw [upd_ne hb]; exact g4, g5⟩
  · rcases get_set hj with ⟨rfl, e1, hl⟩ | ⟨n1, hj⟩
    · rcases get_set hk with ⟨rfl, e2, hl2⟩ | ⟨n2, hk⟩
      · exact n rfl
      · exact S.ap i k ds gs b n h hk sj sk
    · rcases get_set hk with ⟨rfl, e1, hl⟩ | ⟨n2, hk⟩
      · exact S.ap j i fs ds b n hj h sj sk
      · exact S.ap j k fs gs b n hj hk sj sk
end
/-! ### the judgements over data -/
/-- the own lists of a body at the slots -/
def BB (σ : L2.St) (Γ : Gm) : BT := fun j a ds => σ[j]? = some (some (.ref a)) ∧ Γ[j]? = some (.ow ds)
abbrev RVs (K : PySem.W.Frag) (ca : Nat → Addr) (B : BT) (H F' H' : Hp) : List V → List R → Prop := Paired (RV K ca B H F' H')
theorem RVs.mono {K : PySem.W.Frag} {ca : Nat → Addr} {B : BT} {H F1 H1 F2 H2 : Hp} (x : Ext ca H1 F1 H2 F2) : ∀ {vs : List V} {rs : List R}, RVs K ca B H F1 H1 vs rs → RVs K ca B H F2 H2 vs rs
  | _, _, .nil => .nil
  | _, _, .cons h hs => .cons (h.mono x) (RVs.mono x hs)
theorem RVs.back {K : PySem.W.Frag} {ca : Nat → Addr} {B : BT} {Ha H F1 H1 : Hp} (s : SameN ca Ha H) : ∀ {vs : List V} {rs : List R}, RVs K ca B H F1 H1 vs rs → RVs K ca B Ha F1 H1 vs rs
  | _, _, .nil => .nil
  | _, _, .cons h hs => .cons (h.back s) (RVs.back s hs)
def tEV (K : PySem.W.Frag) (ca : Nat → Addr) (m : Gm → Option R) : TE := fun σ H Q => ∃ H0 F0 F Γ r, SR K ca H0 F0 σ H F Γ ∧ m Γ = some r ∧ ∀ v H' F', Ext ca H F H' F' → RV K ca (BB σ Γ) H F' H' v r → Q v H'
def tTV (K : PySem.W.Frag) (ca : Nat → Addr) (m : Gm → Option Bool) : TT := fun σ H Q => ∃ H0 F0 F Γ b, SR K ca H0 F0 σ H F Γ ∧ m Γ = some b ∧ ∀ H' F', Ext ca H F H' F' → Q b H'
def tAV (K : PySem.W.Frag) (ca : Nat → Addr) (m : Gm → Option (List R)) : TA := fun σ H Q => ∃ H0 F0 F Γ rs, SR K ca H0 F0 σ H F Γ ∧ m Γ = some rs ∧ ∀ vs H' F', Ext ca H F H' F' → RVs K ca (BB σ Γ) H F' H' vs rs → Q vs H'
/-- slots outside T stay -/
def Kp (T : List Nat) (σ σ' : L2.St) : Prop := ∀ j, j ∉ T → σ'[j]? = σ[j]?
def KpG (T : List Nat) (g : Gm) : Out → Prop
  | .nx g' => ∀ j, j ∉ T → g'[j]? = g[j]?
  | .rt _ => True
  | .bk g' => ∀ j, j ∉ T → g'[j]? = g[j]?
  | .ct g' => ∀ j, j ∉ T → g'[j]? = g[j]?
  | .ex _ => True
def PostO (K : PySem.W.Frag) (ca : Nat → Addr) (D : Ends) (H0 F0 Fs : Hp) (σ : L2.St) (T : List Nat) : Out → Prop
  | .nx g => ∀ σ' H' F', SR K ca H0 F0 σ' H' F' g → Same Fs F' → Kp T σ σ' → D.nx σ' H'
  | .rt r => ∀ v H' F', Ext ca H0 F0 H' F' → RV K ca (fun _ _ _ => False) H0 F' H' v r → D.rt v H'
  | .bk g => ∀ σ' H' F', SR K ca H0 F0 σ' H' F' g → Same Fs F' → Kp T σ σ' → D.bk σ' H'
  | .ct g => ∀ σ' H' F', SR K ca H0 F0 σ' H' F' g → Same Fs F' → Kp T σ σ' → D.ct σ' H'
  | .ex _ => False
def tSV (K : PySem.W.Frag) (ca : Nat → Addr) (m : Gm → Option Out) (T : List Nat) : TS := fun D σ H => ∃ H0 F0 F Γ o, SR K ca H0 F0 σ H F Γ ∧ m Γ = some o ∧ PostO K ca D H0 F0 F σ T o
abbrev EV (X : Cx) (ca : Nat → Addr) (e : Expr) (m : Gm → Option R) : Prop := PE X e (tEV X.K ca m)
abbrev TV (X : Cx) (ca : Nat → Addr) (e : Expr) (m : Gm → Option Bool) : Prop := PT X e (tTV X.K ca m)
abbrev WV (X : Cx) (ca : Nat → Addr) (e : Expr) (m : Gm → Option Bool) : Prop := PW X e (tTV X.K ca m)
abbrev AV (X : Cx) (ca : Nat → Addr) (es : List Expr) (m : Gm → Option (List R)) : Prop := PA X es (tAV X.K ca m)
structure SV (X : Cx) (ca : Nat → Addr) (st : Stmt) (m : Gm → Option Out) (T : List Nat) : Prop where
  ps : PS X st (tSV X.K ca m T)
  kp : ∀ g o, m g = some o → KpG T g o
structure SVs (X : Cx) (ca : Nat → Addr) (st : List Stmt) (m : Gm → Option Out) (T : List Nat) : Prop where
  ps : PSs X st (tSV X.K ca m T)
  kp : ∀ g o, m g = some o → KpG T g o
section
variable {X : Cx}
theorem pe_imp {e : Expr} {t t' : TE} (h : PE X e t) (i : ∀ σ H Q, t' σ H Q → t σ H Q) : PE X e t' := ⟨fun pins s σ H Q I q => h.run pins s σ H Q I (i σ H Q q)⟩
theorem pt_imp {e : Expr} {t t' : TT} (h : PT X e t) (i : ∀ σ H Q, t' σ H Q → t σ H Q) : PT X e t' := ⟨fun pins s σ H Q I q => h.run pins s σ H Q I (i σ H Q q)⟩
theorem pw_imp {e : Expr} {t t' : TT} (h : PW X e t) (i : ∀ σ H Q, t' σ H Q → t σ H Q) : PW X e t' := ⟨fun wh pins s σ H Q I q => h.run wh pins s σ H Q I (i σ H Q q)⟩
theorem pa_imp {es : List Expr} {t t' : TA} (h : PA X es t) (i : ∀ σ H Q, t' σ H Q → t σ H Q) : PA X es t' := ⟨fun pos pins s σ H Q I q => h.run pos pins s σ H Q I (i σ H Q q)⟩
theorem ps_imp {st : Stmt} {t t' : TS} (h : PS X st t) (i : ∀ D σ H, t' D σ H → t D σ H) : PS X st t' := ⟨fun pins s σ H D I q => h.run pins s σ H D I (i D σ H q)⟩
theorem pss_imp {st : List Stmt} {t t' : TS} (h : PSs X st t) (i : ∀ D σ H, t' D σ H → t D σ H) : PSs X st t' := ⟨fun pins s σ H D I q => h.run pins s σ H D I (i D σ H q)⟩
end
/-! ### expressions -/
def eV (i : Nat) : Gm → Option R := fun g => match g[i]? with
  | some (.va d) => some (.va d)
  | some (.ow ds) => some (.bw i ds)
  | _ => none
def eC (d : D) : Gm → Option R := fun _ => some (.va d)
def e1 (f : R → Option R) (a : Gm → Option R) : Gm → Option R := fun g => (a g).bind f
def e2 (f : R → R → Option R) (a b : Gm → Option R) : Gm → Option R := fun g => (a g).bind fun x => (b g).bind fun y => f x y
def aN : Gm → Option (List R) := fun _ => some []
def R.fz : R → R
  | .tm ds => .va (.lst ds)
  | r => r
/-- arguments: a temporary list is frozen at once -/
def aC (a : Gm → Option R) (b : Gm → Option (List R)) : Gm → Option (List R) := fun g => (a g).bind fun x => (b g).bind fun y => some (x.fz :: y)
def eA (f : List R → Option R) (a : Gm → Option (List R)) : Gm → Option R := fun g => (a g).bind f
section
variable {X : Cx} {ca : Nat → Addr}
theorem ev_var {i : Nat} {x : Str} {pos : Pos} (h : PE X (.Name x pos) (tVar i)) : EV X ca (.Name x pos) (eV i) := by
  refine pe_imp h fun σ H Q ⟨H0, F0, F, Γ, r, S, e, q⟩ => ?_
  unfold eV at e
  split at e
  · rename_i d g
    cases e
    obtain ⟨v, s, h1⟩ := S.va i d g
    exact ⟨v, s, q v H F (.refl S.ext.fh) h1⟩
  · rename_i ds g
    cases e
    obtain ⟨a, vs, s, h1, h2, h3, h4⟩ := S.ow i ds g
    exact ⟨_, s, q _ H F (.refl S.ext.fh) ⟨a, vs, rfl, ⟨s, g⟩, h2, h3, h4⟩⟩
  · cases e
theorem ev_c {e : Expr} {v : V} {d : D} (h : PE X e (tC v)) (hd : ∀ F, Den X.K ca F v d) : EV X ca e (eC d) := by
  refine pe_imp h fun σ H Q ⟨H0, F0, F, Γ, r, S, e, q⟩ => ?_
  cases e
  exact q v H F (.refl S.ext.fh) (hd F)
/-- an operator by values -/
def OpD (K : PySem.W.Frag) (ca : Nat → Addr) (r : R2) (f : R → R → Option R) : Prop :=
  ∀ {B : BT} {Hs F H : Hp} {v w : V} {x y z : R} {Q : VK}, Same F H → RV K ca B Hs F H v x → RV K ca B Hs F H w y → f x y = some z → (∀ u H' F', Ext ca H F H' F' → RV K ca B H F' H' u z → Q u H') → r v w H Q
def UnD (K : PySem.W.Frag) (ca : Nat → Addr) (r : V → Hp → VK → Prop) (f : R → Option R) : Prop :=
  ∀ {B : BT} {Hs F H : Hp} {v : V} {x z : R} {Q : VK}, Same F H → RV K ca B Hs F H v x → f x = some z → (∀ u H' F', Ext ca H F H' F' → RV K ca B H F' H' u z → Q u H') → r v H Q
def CallD (K : PySem.W.Frag) (ca : Nat → Addr) (r : List V → Hp → VK → Prop) (f : List R → Option R) : Prop :=
  ∀ {B : BT} {Hs F H : Hp} {vs : List V} {xs : List R} {z : R} {Q : VK}, Same F H → RVs K ca B Hs F H vs xs → f xs = some z → (∀ u H' F', Ext ca H F H' F' → RV K ca B H F' H' u z → Q u H') → r vs H Q
theorem t_op {r : R2} {f : R → R → Option R} {m n : Gm → Option R} (o : OpD X.K ca r f) : ∀ σ H Q, tEV X.K ca (e2 f m n) σ H Q → tOp r (tEV X.K ca m) (tEV X.K ca n) σ H Q := by
  rintro σ H Q ⟨H0, F0, F, Γ, z, S, e, q⟩
  unfold e2 at e
  obtain ⟨x, ex, e⟩ := Option.bind_eq_some_iff.mp e
  obtain ⟨y, ey, e⟩ := Option.bind_eq_some_iff.mp e
  refine ⟨H0, F0, F, Γ, x, S, ex, fun v H1 F1 x1 r1 => ⟨H0, F0, F1, Γ, y, S.mono x1, ey, fun w H2 F2 x2 r2 => ?_⟩⟩
  exact o x2.fh (r1.mono x2) (r2.back x1.hh) e fun u H3 F3 x3 r3 => q u H3 F3 ((x1.trans x2).trans x3) (r3.back (x1.hh.trans x2.hh))
theorem t_un {r : V → Hp → VK → Prop} {f : R → Option R} {m : Gm → Option R} (o : UnD X.K ca r f) : ∀ σ H Q, tEV X.K ca (e1 f m) σ H Q → tUn r (tEV X.K ca m) σ H Q := by
  rintro σ H Q ⟨H0, F0, F, Γ, z, S, e, q⟩
  unfold e1 at e
  obtain ⟨x, ex, e⟩ := Option.bind_eq_some_iff.mp e
  refine ⟨H0, F0, F, Γ, x, S, ex, fun v H1 F1 x1 r1 => ?_⟩
  exact o x1.fh r1 e fun u H3 F3 x3 r3 => q u H3 F3 (x1.trans x3) (r3.back x1.hh)
theorem t_call {r : List V → Hp → VK → Prop} {f : List R → Option R} {m : Gm → Option (List R)} (o : CallD X.K ca r f) : ∀ σ H Q, tEV X.K ca (eA f m) σ H Q → tCB r (tAV X.K ca m) σ H Q := by
  rintro σ H Q ⟨H0, F0, F, Γ, z, S, e, q⟩
  unfold eA at e
  obtain ⟨x, ex, e⟩ := Option.bind_eq_some_iff.mp e
  refine ⟨H0, F0, F, Γ, x, S, ex, fun v H1 F1 x1 r1 => ?_⟩
  exact o x1.fh r1 e fun u H3 F3 x3 r3 => q u H3 F3 (x1.trans x3) (r3.back x1.hh)
variable {a b e : Expr} {es : List Expr} {m n : Gm → Option R} {ms : Gm → Option (List R)} {pos p : Pos}
theorem ev_op {op : Operator} {r : R2} {f : R → R → Option R} (ho : OpR X (binaryOp op) r) (o : OpD X.K ca r f) (ha : EV X ca a m) (hb : EV X ca b n) : EV X ca (.BinOp a op b pos) (e2 f m n) := pe_imp (pe_op ho ha hb) (t_op o)
theorem ev_un {op : UnaryOp} {r : V → Hp → VK → Prop} {f : R → Option R} (ho : UnR X (unaryOp op) r) (o : UnD X.K ca r f) (ha : EV X ca a m) : EV X ca (.UnaryOp op a pos) (e1 f m) := pe_imp (pe_un ho ha) (t_un o)
theorem ev_cmp {op : CmpOp} {r : R2} {f : R → R → Option R} (ho : OpR X (compareOp op) r) (o : OpD X.K ca r f) (ha : EV X ca a m) (hb : EV X ca b n) (hm : behindInMarks op b = false) : EV X ca (.Compare a [op] [b] pos) (e2 f m n) := pe_imp (pe_cmpR ho ha hb hm) (t_op o)
theorem ev_ix {r : R2} {f : R → R → Option R} (hr : IxR X r) (o : OpD X.K ca r f) (ha : EV X ca a m) (hb : EV X ca b n) (hs : PlainIx b) : EV X ca (.Subscript a b pos) (e2 f m n) := pe_imp (pe_ix hr ha hb hs) (t_op o)
theorem av_nil : AV X ca [] aN := by
  refine pa_imp pa_nil ?_
  rintro σ H Q ⟨H0, F0, F, Γ, z, S, e, q⟩
  cases e
  exact q [] H F (.refl S.ext.fh) .nil
theorem RV.fz {K : PySem.W.Frag} {B : BT} {H F H1 F1 : Hp} {v : V} {r : R} (x : Ext ca H F H1 F1) (h : RV K ca B H F1 H1 v r) : ∃ F2, Ext ca H F H1 F2 ∧ RV K ca B H F2 H1 v r.fz := by
  cases r with
  | va d => exact ⟨F1, x, h⟩
  | tm ds =>
    obtain ⟨F2, x2, _, h2⟩ := RV.froze x h rfl
    exact ⟨F2, x2, h2⟩
  | bw j ds => exact ⟨F1, x, h⟩
theorem av_cons (ha : EV X ca e m) (hr : AV X ca es ms) (hs : starEach (e :: es) X.env = (false, eval e X.env) :: starEach es X.env := by rfl) : AV X ca (e :: es) (aC m ms) := by
  refine pa_imp (pa_cons ha hr hs) ?_
  rintro σ H Q ⟨H0, F0, F, Γ, z, S, e, q⟩
  unfold aC at e
  obtain ⟨x, ex, e⟩ := Option.bind_eq_some_iff.mp e
  obtain ⟨y, ey, e⟩ := Option.bind_eq_some_iff.mp e
  cases e
  refine ⟨H0, F0, F, Γ, x, S, ex, fun v H1 F1 x1 r1 => ?_⟩
  obtain ⟨F1', x1', r1'⟩ := RV.fz x1 r1
  exact ⟨H0, F0, F1', Γ, y, S.mono x1', ey, fun w H2 F2 x2 r2 => q _ _ F2 (x1'.trans x2) (.cons (r1'.mono x2) (r2.back x1'.hh))⟩
end
end BK
namespace BK
open PySem PySem.Spec L2
set_option autoImplicit false
/-! ### tests -/
def bE (a : Gm → Option R) : Gm → Option Bool := fun g => (a g).bind fun r => match r with
  | .va (.bl k) => some k
  | _ => none
def bNot (a : Gm → Option Bool) : Gm → Option Bool := fun g => (a g).map (!·)
def bAnd (a b : Gm → Option Bool) : Gm → Option Bool := fun g => (a g).bind fun k => if k = true then b g else some false
def bOr (a b : Gm → Option Bool) : Gm → Option Bool := fun g => (a g).bind fun k => if k = true then some true else b g
/-- .. as values -/
def eB (a : Gm → Option Bool) : Gm → Option R := fun g => (a g).map fun k => .va (.bl k)
def eAnd (a b : Gm → Option R) : Gm → Option R := fun g => (bE a g).bind fun k => if k = true then b g else some (.va (.bl false))
def eOr (a b : Gm → Option R) : Gm → Option R := fun g => (bE a g).bind fun k => if k = true then some (.va (.bl true)) else b g
section
variable {X : Cx} {ca : Nat → Addr} {a b e : Expr} {rest : List Expr} {m n : Gm → Option R} {k l : Gm → Option Bool} {pos : Pos}
theorem bE_some {g : Gm} {c : Bool} : bE m g = some c ↔ m g = some (.va (.bl c)) := by
  unfold bE
  cases q : m g with
  | none => simp
  | some r =>
    simp only [Option.bind_some]
    split
    · simp
    · rename_i h
      constructor
      · intro z; cases z
      · intro z; cases z; exact absurd rfl (h _)
theorem t_test {σ : L2.St} {H : Hp} {Q : Bool → Hp → Prop} (h : tTV X.K ca (bE m) σ H Q) : tEV X.K ca m σ H (fun x H1 => ∃ c, x = .bl c ∧ Q c H1) := by
  obtain ⟨H0, F0, F, Γ, c, S, e, q⟩ := h
  refine ⟨H0, F0, F, Γ, _, S, bE_some.mp e, fun v H' F' x r => ?_⟩
  cases r
  exact ⟨c, rfl, q H' F' x⟩
/-- a value that is a bool, as a test -/
theorem tv_val (h : EV X ca e m) (he : ∀ whole, isTrue e X.env whole = (do let v ← whole; standAt e.pos; holding [v] (truthy v)) := by intro _; rfl) : TV X ca e (bE m) := pt_imp (pt_val h he) fun σ H Q q => t_test q
theorem tv_cmp {op : CmpOp} {r : R2} {f : R → R → Option R} (ho : OpR X (compareOp op) r) (o : OpD X.K ca r f) (ha : EV X ca a m) (hb : EV X ca b n) (hm : behindInMarks op b = false) : TV X ca (.Compare a [op] [b] pos) (bE (e2 f m n)) :=
  pt_imp (pt_cmpR ho ha hb hm) fun σ H Q q => t_op o _ _ _ (t_test q)
theorem tv_not (h : TV X ca a k) : TV X ca (.UnaryOp .Not a pos) (bNot k) := by
  refine pt_imp (pt_not h) ?_
  rintro σ H Q ⟨H0, F0, F, Γ, c, S, e, q⟩
  unfold bNot at e
  cases z : k Γ with
  | none => rw [z] at e; cases e
  | some d =>
    rw [z] at e
    cases e
    exact ⟨H0, F0, F, Γ, d, S, z, q⟩
theorem wv_one (h : TV X ca a k) : WV X ca (.BoolOp .And [a] pos) k := pw_and1 h
theorem wv_one' (h : TV X ca a k) : WV X ca (.BoolOp .Or [a] pos) k := pw_or1 h
theorem wv_and (ha : TV X ca a k) (hb : WV X ca (.BoolOp .And (b :: rest) pos) l) : WV X ca (.BoolOp .And (a :: b :: rest) pos) (bAnd k l) := by
  refine pw_imp (pw_and ha hb) ?_
  rintro σ H Q ⟨H0, F0, F, Γ, c, S, e, q⟩
  unfold bAnd at e
  obtain ⟨d, ed, e⟩ := Option.bind_eq_some_iff.mp e
  refine ⟨H0, F0, F, Γ, d, S, ed, fun H1 F1 x1 => ?_⟩
  cases d with
  | true => exact iteT ⟨H0, F0, F1, Γ, c, S.mono x1, by simpa using e, fun H2 F2 x2 => q H2 F2 (x1.trans x2)⟩
  | false =>
    obtain rfl : false = c := by simpa using e
    exact iteF (q H1 F1 x1)
theorem wv_or (ha : TV X ca a k) (hb : WV X ca (.BoolOp .Or (b :: rest) pos) l) : WV X ca (.BoolOp .Or (a :: b :: rest) pos) (bOr k l) := by
  refine pw_imp (pw_or ha hb) ?_
  rintro σ H Q ⟨H0, F0, F, Γ, c, S, e, q⟩
  unfold bOr at e
  obtain ⟨d, ed, e⟩ := Option.bind_eq_some_iff.mp e
  refine ⟨H0, F0, F, Γ, d, S, ed, fun H1 F1 x1 => ?_⟩
  cases d with
  | false => exact iteF ⟨H0, F0, F1, Γ, c, S.mono x1, by simpa using e, fun H2 F2 x2 => q H2 F2 (x1.trans x2)⟩
  | true =>
    obtain rfl : true = c := by simpa using e
    exact iteT (q H1 F1 x1)
theorem tv_w (h : WV X ca e k) : TV X ca e k := h.pt
/-- and, or, not as values -/
theorem ev_one {op} (h : EV X ca a m) : EV X ca (.BoolOp op [a] pos) m := pe_one h
theorem ev_and (ha : EV X ca a m) (hb : EV X ca (.BoolOp .And (b :: rest) pos) n) : EV X ca (.BoolOp .And (a :: b :: rest) pos) (eAnd m n) := by
  refine pe_imp (pe_and ha hb) ?_
  rintro σ H Q ⟨H0, F0, F, Γ, z, S, e, q⟩
  unfold eAnd at e
  obtain ⟨d, ed, e⟩ := Option.bind_eq_some_iff.mp e
  refine ⟨H0, F0, F, Γ, _, S, bE_some.mp ed, fun v H1 F1 x1 r1 => ?_⟩
  cases r1
  refine ⟨d, rfl, ?_⟩
  cases d with
  | true => exact iteT ⟨H0, F0, F1, Γ, z, S.mono x1, by simpa using e, fun w H2 F2 x2 r2 => q w H2 F2 (x1.trans x2) (r2.back x1.hh)⟩
  | false =>
    obtain rfl : R.va (.bl false) = z := by simpa using e
    exact iteF (q _ H1 F1 x1 (.bl false))
/-- not x as a value -/
def eNot (a : Gm → Option R) : Gm → Option R := fun g => (bE a g).map fun k => .va (.bl (!k))
end
/-! ### statements -/
def sNil : Gm → Option Out := fun g => some (.nx g)
def sCons (m n : Gm → Option Out) : Gm → Option Out := fun g => (m g).bind fun o => match o with
  | .nx g' => n g'
  | .rt r => some (.rt r)
  | .bk g' => some (.bk g')
  | .ct g' => some (.ct g')
  | .ex x => some (.ex x)
def retR : R → R
  | .bw _ ds => .tm ds
  | r => r
def sRet (m : Gm → Option R) : Gm → Option Out := fun g => (m g).map fun r => .rt (retR r)
def sRetN : Gm → Option Out := fun _ => some (.rt (.va .non))
def setR (g : Gm) (i : Nat) : R → Option Gm
  | .va d => some (g.set i (.va d))
  | .tm ds => some (g.set i (.ow ds))
  | .bw _ _ => none
def sSet (i : Nat) (m : Gm → Option R) : Gm → Option Out := fun g => (m g).bind fun r => (setR g i r).map .nx
def sIf (c : Gm → Option Bool) (t u : Gm → Option Out) : Gm → Option Out := fun g => (c g).bind fun k => if k = true then t g else u g
def sExp (m : Gm → Option R) : Gm → Option Out := fun g => (m g).map fun _ => .nx g
def sBk : Gm → Option Out := fun g => some (.bk g)
def sCt : Gm → Option Out := fun g => some (.ct g)
/-- a while of at most so many turns -/
def sWh (c : Gm → Option Bool) (b : Gm → Option Out) : Nat → Gm → Option Out
  | 0, _ => none
  | n + 1, g => (c g).bind fun k => if k = true then (b g).bind fun o => match o with
      | .nx g' => sWh c b n g'
      | .ct g' => sWh c b n g'
      | .bk g' => some (.nx g')
      | .rt r => some (.rt r)
      | .ex x => some (.ex x)
    else some (.nx g)
section
variable {X : Cx} {ca : Nat → Addr} {st : Stmt} {rest : List Stmt} {m n : Gm → Option Out} {me : Gm → Option R} {e : Expr} {T T' : List Nat} {pos : Pos}
theorem Kp.refl {T : List Nat} {σ : L2.St} : Kp T σ σ := fun _ _ => rfl
theorem Kp.trans {T T' U : List Nat} {σ σ' σ'' : L2.St} (a : Kp T σ σ') (b : Kp T' σ' σ'') (h1 : ∀ j ∈ T, j ∈ U) (h2 : ∀ j ∈ T', j ∈ U) : Kp U σ σ'' := fun j hj => by
  rw [b j fun z => hj (h2 j z), a j fun z => hj (h1 j z)]
theorem Kp.mono {T U : List Nat} {σ σ' : L2.St} (a : Kp T σ σ') (h1 : ∀ j ∈ T, j ∈ U) : Kp U σ σ' := fun j hj => a j fun z => hj (h1 j z)
theorem KpG.mono {T U : List Nat} {g : Gm} {o : Out} (h1 : ∀ j ∈ T, j ∈ U) (a : KpG T g o) : KpG U g o := by
  cases o with
  | nx g' => exact fun j hj => a j fun z => hj (h1 j z)
  | rt r => trivial
  | bk g' => exact fun j hj => a j fun z => hj (h1 j z)
  | ct g' => exact fun j hj => a j fun z => hj (h1 j z)
  | ex x => trivial
theorem KpG.after {T T' U : List Nat} {g g' : Gm} {o : Out} (a : KpG T g (.nx g')) (b : KpG T' g' o) (h1 : ∀ j ∈ T, j ∈ U) (h2 : ∀ j ∈ T', j ∈ U) : KpG U g o := by
  have a : ∀ j, j ∉ T → g'[j]? = g[j]? := a
  cases o with
  | nx g2 => exact fun j hj => ((b : ∀ j, j ∉ T' → g2[j]? = g'[j]?) j fun z => hj (h2 j z)).trans (a j fun z => hj (h1 j z))
  | rt r => trivial
  | bk g2 => exact fun j hj => ((b : ∀ j, j ∉ T' → g2[j]? = g'[j]?) j fun z => hj (h2 j z)).trans (a j fun z => hj (h1 j z))
  | ct g2 => exact fun j hj => ((b : ∀ j, j ∉ T' → g2[j]? = g'[j]?) j fun z => hj (h2 j z)).trans (a j fun z => hj (h1 j z))
  | ex x => trivial
theorem PostO.mono {K : PySem.W.Frag} {D : Ends} {H0 F0 Fs F1 : Hp} {σ σ1 : L2.St} {T T' U : List Nat} {o : Out} (s : Same Fs F1) (k : Kp T σ σ1) (h1 : ∀ j ∈ T, j ∈ U) (h2 : ∀ j ∈ T', j ∈ U) (p : PostO K ca D H0 F0 Fs σ U o) : PostO K ca D H0 F0 F1 σ1 T' o := by
  cases o with
  | nx g => exact fun σ2 H2 F2 S2 s2 k2 => p σ2 H2 F2 S2 (s.trans s2) (k.trans k2 h1 h2)
  | rt r => exact p
  | bk g => exact fun σ2 H2 F2 S2 s2 k2 => p σ2 H2 F2 S2 (s.trans s2) (k.trans k2 h1 h2)
  | ct g => exact fun σ2 H2 F2 S2 s2 k2 => p σ2 H2 F2 S2 (s.trans s2) (k.trans k2 h1 h2)
  | ex x => exact p
theorem svs_nil : SVs X ca [] sNil [] := by
  refine ⟨pss_imp pss_nil ?_, fun g o e => ?_⟩
  · rintro D σ H ⟨H0, F0, F, Γ, o, S, e, p⟩
    cases e
    exact p σ H F S (Same.refl _) .refl
  · cases e
    exact fun j _ => rfl
theorem svs_cons (h1 : SV X ca st m T) (h2 : SVs X ca rest n T') : SVs X ca (st :: rest) (sCons m n) (T ++ T') := by
  have i1 : ∀ j ∈ T, j ∈ T ++ T' := fun j h => List.mem_append_left _ h
  have i2 : ∀ j ∈ T', j ∈ T ++ T' := fun j h => List.mem_append_right _ h
  refine ⟨pss_imp (pss_cons h1.ps h2.ps) ?_, fun g o e => ?_⟩
  · rintro D σ H ⟨H0, F0, F, Γ, o, S, e, p⟩
    unfold sCons at e
    obtain ⟨o1, e1, e⟩ := Option.bind_eq_some_iff.mp e
    refine ⟨H0, F0, F, Γ, o1, S, e1, ?_⟩
    cases o1 with
    | nx g1 =>
      intro σ1 H1 F1 S1 s1 k1
      exact ⟨H0, F0, F1, g1, o, S1, e, PostO.mono s1 k1 i1 i2 p⟩
    | rt r => cases e; exact p
    | bk g2 => cases e; exact fun σ2 H2 F2 S2 s2 k2 => p σ2 H2 F2 S2 s2 (k2.mono i1)
    | ct g2 => cases e; exact fun σ2 H2 F2 S2 s2 k2 => p σ2 H2 F2 S2 s2 (k2.mono i1)
    | ex x => cases e; exact p
  · unfold sCons at e
    obtain ⟨o1, e1, e⟩ := Option.bind_eq_some_iff.mp e
    have k1 := h1.kp g o1 e1
    cases o1 with
    | nx g1 => exact k1.after (h2.kp g1 o e) i1 i2
    | rt r => cases e; trivial
    | bk g1 => cases e; exact k1.mono i1
    | ct g1 => cases e; exact k1.mono i1
    | ex x => cases e; trivial
theorem ret_rv {K : PySem.W.Frag} {H0 F0 F H F' H' : Hp} {σ : L2.St} {Γ : Gm} {v : V} {r : R} (S : SR K ca H0 F0 σ H F Γ) (x : Ext ca H F H' F') (h : RV K ca (BB σ Γ) H F' H' v r) : RV K ca (fun _ _ _ => False) H0 F' H' v (retR r) := by
  cases r with
  | va d => exact h
  | tm ds =>
    obtain ⟨a, vs, rfl, h1, h2⟩ := h
    exact ⟨a, vs, rfl, S.ext.hh.free h1, h2⟩
  | bw j ds =>
    obtain ⟨a, vs, rfl, ⟨s, g⟩, h2, h3, h4⟩ := h
    obtain ⟨b, ws, s', g1, _⟩ := S.ow j ds g
    rw [s] at s'
    cases s'
    exact ⟨a, vs, rfl, g1, h2, h3, h4⟩
theorem sv_ret (he : EV X ca e me) : SV X ca (.Return (some e) pos) (sRet me) [] := by
  refine ⟨ps_imp (ps_ret he) ?_, fun g o e => ?_⟩
  · rintro D σ H ⟨H0, F0, F, Γ, o, S, e, p⟩
    unfold sRet at e
    cases z : me Γ with
    | none => rw [z] at e; cases e
    | some r =>
      rw [z] at e
      cases e
      exact ⟨H0, F0, F, Γ, r, S, z, fun v H' F' x h => p v H' F' (S.ext.trans x) (ret_rv S x h)⟩
  · unfold sRet at e
    cases z : me g with
    | none => rw [z] at e; cases e
    | some r => rw [z] at e; cases e; trivial
theorem kpg_set {i : Nat} {g : Gm} {s : Slot} : KpG [i] g (.nx (g.set i s)) := fun j hj => by
  rw [List.getElem?_set_ne]
  intro z
  exact hj (by simp [z])
theorem kp_set {i : Nat} {σ : L2.St} {v : Option V} : Kp [i] σ (σ.set i v) := fun j hj => by
  rw [List.getElem?_set_ne]
  intro z
  exact hj (by simp [z])
theorem setR_kp {i : Nat} {g g' : Gm} {r : R} (h : setR g i r = some g') : KpG [i] g (.nx g') := by
  cases r with
  | va d => cases h; exact kpg_set
  | tm ds => cases h; exact kpg_set
  | bw j ds => cases h
theorem SR.setR {K : PySem.W.Frag} {H0 F0 F H F' H' : Hp} {σ : L2.St} {Γ Γ' : Gm} {v : V} {r : R} {i : Nat} {B : BT} (S : SR K ca H0 F0 σ H F Γ) (x : Ext ca H F H' F') (h : RV K ca B H F' H' v r) (e : setR Γ i r = some Γ') : SR K ca H0 F0 (σ.set i (some v)) H' F' Γ' := by
  cases r with
  | va d => cases e; exact (S.mono x).setVa h
  | tm ds => cases e; exact S.setTm x h
  | bw j ds => cases e
theorem sv_set {i : Nat} {x : Str} {pos' : Pos} (hN : X.N.Nodup) (hi : X.N[i]? = some x) (hx : Loc X.env.scope x) (he : EV X ca e me) (hs : swapsWith e (some (.Name x pos')) pos.line X.env = pure false := by rfl) (hf : X.fn x = true ∨ X.env.scope.names.lookup x = some .local := by first | exact .inl rfl | exact .inr rfl | assumption) :
    SV X ca (.Assign [.Name x pos'] e pos) (sSet i me) [i] := by
  refine ⟨ps_imp (ps_set hN hi hx he hs hf) ?_, fun g o e => ?_⟩
  · rintro D σ H ⟨H0, F0, F, Γ, o, S, e, p⟩
    unfold sSet at e
    obtain ⟨r, er, e⟩ := Option.bind_eq_some_iff.mp e
    cases z : setR Γ i r with
    | none => rw [z] at e; cases e
    | some g' =>
      rw [z] at e
      cases e
      exact ⟨H0, F0, F, Γ, r, S, er, fun v H' F' x h => p _ H' F' (S.setR x h z) x.ff kp_set⟩
  · unfold sSet at e
    obtain ⟨r, er, e⟩ := Option.bind_eq_some_iff.mp e
    cases z : setR g i r with
    | none => rw [z] at e; cases e
    | some g' => rw [z] at e; cases e; exact setR_kp z
theorem sv_if {c : Expr} {a b : List Stmt} {mc : Gm → Option Bool} (hc : TV X ca c mc) (ha : SVs X ca a m T) (hb : SVs X ca b n T') : SV X ca (.If c a b pos) (sIf mc m n) (T ++ T') := by
  have i1 : ∀ j ∈ T, j ∈ T ++ T' := fun j h => List.mem_append_left _ h
  have i2 : ∀ j ∈ T', j ∈ T ++ T' := fun j h => List.mem_append_right _ h
  refine ⟨ps_imp (ps_if hc ha.ps hb.ps) ?_, fun g o e => ?_⟩
  · rintro D σ H ⟨H0, F0, F, Γ, o, S, e, p⟩
    unfold sIf at e
    obtain ⟨k, ek, e⟩ := Option.bind_eq_some_iff.mp e
    refine ⟨H0, F0, F, Γ, k, S, ek, fun H1 F1 x1 => ?_⟩
    cases k with
    | true => exact iteT ⟨H0, F0, F1, Γ, o, S.mono x1, by simpa using e, PostO.mono (T := []) x1.ff .refl (fun _ z => nomatch z) i1 p⟩
    | false => exact iteF ⟨H0, F0, F1, Γ, o, S.mono x1, by simpa using e, PostO.mono (T := []) x1.ff .refl (fun _ z => nomatch z) i2 p⟩
  · unfold sIf at e
    obtain ⟨k, ek, e⟩ := Option.bind_eq_some_iff.mp e
    split at e
    · exact (ha.kp g o e).mono i1
    · exact (hb.kp g o e).mono i2
end
end BK
namespace BK
open PySem PySem.Spec L2
set_option autoImplicit false
/-! ### targets, what is walked, for -/
def gN (i : Nat) : D → Gm → Option Gm := fun d g => some (g.set i (.va d))
def gE : List D → Gm → Option Gm := fun ds g => match ds with
  | [] => some g
  | _ => none
def gC (f : D → Gm → Option Gm) (r : List D → Gm → Option Gm) : List D → Gm → Option Gm := fun ds g => match ds with
  | d :: ds => (f d g).bind (r ds)
  | _ => none
def gT (f : List D → Gm → Option Gm) : D → Gm → Option Gm := fun d g => match d with
  | .tup ds => f ds g
  | _ => none
def tGV (K : PySem.W.Frag) (ca : Nat → Addr) (f : D → Gm → Option Gm) (T : List Nat) : TG := fun v σ H Q => ∃ H0 F0 F Γ d Γ', SR K ca H0 F0 σ H F Γ ∧ Den K ca F v d ∧ f d Γ = some Γ' ∧ ∀ σ', SR K ca H0 F0 σ' H F Γ' → Kp T σ σ' → Q σ' H
def tGVs (K : PySem.W.Frag) (ca : Nat → Addr) (f : List D → Gm → Option Gm) (T : List Nat) : TGs := fun vs σ H Q => ∃ H0 F0 F Γ ds Γ', SR K ca H0 F0 σ H F Γ ∧ Dens K ca F vs ds ∧ f ds Γ = some Γ' ∧ ∀ σ', SR K ca H0 F0 σ' H F Γ' → Kp T σ σ' → Q σ' H
structure GV (X : Cx) (ca : Nat → Addr) (e : Expr) (f : D → Gm → Option Gm) (T : List Nat) : Prop where
  pg : PG X e (tGV X.K ca f T)
  kp : ∀ d g g', f d g = some g' → KpG T g (.nx g')
  ln : ∀ d g g', f d g = some g' → g'.length = g.length
structure GVs (X : Cx) (ca : Nat → Addr) (es : List Expr) (f : List D → Gm → Option Gm) (T : List Nat) : Prop where
  pg : PGs X es (tGVs X.K ca f T)
  kp : ∀ d g g', f d g = some g' → KpG T g (.nx g')
  ln : ∀ d g g', f d g = some g' → g'.length = g.length
section
variable {X : Cx}
theorem pg_imp {e : Expr} {t t' : TG} (h : PG X e t) (i : ∀ v σ H Q, t' v σ H Q → t v σ H Q) : PG X e t' := ⟨fun pins s σ H v u Q I r q => h.run pins s σ H v u Q I r (i v σ H Q q)⟩
theorem pgs_imp {es : List Expr} {t t' : TGs} (h : PGs X es t) (i : ∀ v σ H Q, t' v σ H Q → t v σ H Q) : PGs X es t' := ⟨fun pins s σ H v u Q I r q => h.run pins s σ H v u Q I r (i v σ H Q q)⟩
theorem pi_imp {tg e : Expr} {t t' : TI} (h : PI X tg e t) (i : ∀ σ H R, t' σ H R → t σ H R) : PI X tg e t' := ⟨fun pins s σ H R I q => h.run pins s σ H R I (i σ H R q)⟩
variable {ca : Nat → Addr} {pos : Pos}
theorem gv_name {i : Nat} {x : Str} (hN : X.N.Nodup) (hi : X.N[i]? = some x) (hx : Loc X.env.scope x) (hf : X.fn x = true ∨ X.env.scope.names.lookup x = some .local := by first | exact .inl rfl | exact .inr rfl | assumption) : GV X ca (.Name x pos) (gN i) [i] := by
  refine ⟨pg_imp (pg_name hN hi hx hf) ?_, fun d g g' e => ?_, fun d g g' e => by cases e; exact List.length_set⟩
  · rintro v σ H Q ⟨H0, F0, F, Γ, d, Γ', S, h, e, q⟩
    cases e
    exact q _ (S.setVa h) kp_set
  · cases e
    exact kpg_set
theorem gvs_nil : GVs X ca [] gE [] := by
  refine ⟨pgs_imp pgs_nil ?_, fun d g g' e => ?_, fun d g g' e => ?_⟩
  rotate_left 2
  · cases d with
    | nil => cases e; rfl
    | cons d ds => cases e
  · rintro vs σ H Q ⟨H0, F0, F, Γ, ds, Γ', S, h, e, q⟩
    cases ds with
    | nil => cases h; cases e; exact ⟨rfl, q σ S .refl⟩
    | cons d ds => cases e
  · cases d with
    | nil => cases e; exact fun j _ => rfl
    | cons d ds => cases e
theorem gvs_cons {e : Expr} {es : List Expr} {f : D → Gm → Option Gm} {r : List D → Gm → Option Gm} {T T' : List Nat} (h1 : GV X ca e f T) (h2 : GVs X ca es r T')
    (hs : (assignEach (e :: es) X.env).map (·.2) = assign e X.env :: (assignEach es X.env).map (·.2) := by rfl) : GVs X ca (e :: es) (gC f r) (T ++ T') := by
  have i1 : ∀ j ∈ T, j ∈ T ++ T' := fun j h => List.mem_append_left _ h
  have i2 : ∀ j ∈ T', j ∈ T ++ T' := fun j h => List.mem_append_right _ h
  refine ⟨pgs_imp (pgs_cons h1.pg h2.pg hs) ?_, fun d g g' e => ?_, fun d g g' e => ?_⟩
  rotate_left 2
  · cases d with
    | nil => cases e
    | cons d ds =>
      have e : (f d g).bind (r ds) = some g' := e
      obtain ⟨g1, e1, e2⟩ := Option.bind_eq_some_iff.mp e
      rw [h2.ln _ _ _ e2, h1.ln _ _ _ e1]
  · rintro vs σ H Q ⟨H0, F0, F, Γ, ds, Γ', S, h, e, q⟩
    cases ds with
    | nil => cases e
    | cons d ds =>
      cases h with
      | cons h hs =>
        have e : (f d Γ).bind (r ds) = some Γ' := e
        obtain ⟨g1, e1, e2⟩ := Option.bind_eq_some_iff.mp e
        exact ⟨_, _, rfl, H0, F0, F, Γ, d, g1, S, h, e1, fun σ1 S1 k1 => ⟨H0, F0, F, g1, ds, Γ', S1, hs, e2, fun σ2 S2 k2 => q σ2 S2 (k1.trans k2 i1 i2)⟩⟩
  · cases d with
    | nil => cases e
    | cons d ds =>
      have e : (f d g).bind (r ds) = some g' := e
      obtain ⟨g1, e1, e2⟩ := Option.bind_eq_some_iff.mp e
      exact KpG.after (h1.kp _ _ _ e1) (h2.kp _ _ _ e2) i1 i2
theorem gv_tup {es : List Expr} {k : Nat} {f : List D → Gm → Option Gm} {T : List Nat} (hc : X.calm = true) (h : GVs X ca es f T) (hl : ∀ ds g g', f ds g = some g' → ds.length = (assignEach es X.env).length)
    (hst : (assignEach es X.env).findIdx? (·.1) = none := by rfl) : GV X ca (.Tuple es k pos) (gT f) T := by
  refine ⟨pg_imp (pg_tup (n := (assignEach es X.env).length) hc h.pg rfl hst) ?_, fun d g g' e => ?_, fun d g g' e => ?_⟩
  rotate_left 2
  · unfold gT at e
    split at e
    · exact h.ln _ _ _ e
    · cases e
  · rintro v σ H Q ⟨H0, F0, F, Γ, d, Γ', S, h, e, q⟩
    unfold gT at e
    split at e
    · cases h with
      | tup h hs =>
        refine ⟨_, _, rfl, Same.seqT S.ext.fh h, ?_, H0, F0, F, Γ, _, Γ', S, hs, e, q⟩
        rw [hs.length]
        exact hl _ _ _ e
    · cases e
  · unfold gT at e
    split at e
    · exact h.kp _ _ _ e
    · cases e
/-- target = value, the target a tuple of names -/
def sAsg (m : Gm → Option R) (f : D → Gm → Option Gm) : Gm → Option Out := fun g => (m g).bind fun r => match r with
  | .va d => (f d g).map .nx
  | _ => none
theorem sv_asg {tg e : Expr} {m : Gm → Option R} {f : D → Gm → Option Gm} {T : List Nat} (he : EV X ca e m) (hg : GV X ca tg f T) (hs : swapsWithSole [tg] e pos.line X.env = pure false := by rfl) (hw : swappedStores [tg] e X.env = pure none := by rfl)
    (h1 : (assignEach [tg] X.env).map (·.2) = [assign tg X.env] := by rfl) : SV X ca (.Assign [tg] e pos) (sAsg m f) T := by
  refine ⟨ps_imp (ps_asg he hg.pg hs hw h1) ?_, fun g o e => ?_⟩
  · rintro D σ H ⟨H0, F0, F, Γ, o, S, e, p⟩
    unfold sAsg at e
    obtain ⟨r, er, e⟩ := Option.bind_eq_some_iff.mp e
    cases r with
    | va d =>
      obtain ⟨g', z, e⟩ := Option.map_eq_some_iff.mp (show (f d Γ).map Out.nx = some o from e)
      subst e
      exact ⟨H0, F0, F, Γ, _, S, er, fun v H' F' x h => ⟨H0, F0, F', Γ, d, g', S.mono x, h, z, fun σ' S' k' => p σ' H' F' S' x.ff k'⟩⟩
    | tm ds => cases e
    | bw j ds => cases e
  · unfold sAsg at e
    obtain ⟨r, er, e⟩ := Option.bind_eq_some_iff.mp e
    cases r with
    | va d =>
      obtain ⟨g', z, e⟩ := Option.map_eq_some_iff.mp (show (f d g).map Out.nx = some o from e)
      subst e
      exact hg.kp _ _ _ z
    | tm ds => cases e
    | bw j ds => cases e
/-- a, b = x, y with plain names: both are values -/
def sPar (i j : Nat) (a b : Gm → Option R) : Gm → Option Out := fun g => (a g).bind fun x => (b g).bind fun y => match x.fz, y.fz with
  | .va d, .va e => some (.nx ((g.set i (.va d)).set j (.va e)))
  | _, _ => none
/-- name op= e (op by values) -/
def sAug (i : Nat) (f : R → R → Option R) (m : Gm → Option R) : Gm → Option Out := fun g => (eV i g).bind fun x => (m g).bind fun y => (f x y).bind fun r => (setR g i r).map .nx
theorem sv_aug {i : Nat} {x : Str} {e : Expr} {m : Gm → Option R} {op : Operator} {ti : TIp} {f : R → R → Option R} {pos' : Pos} (hN : X.N.Nodup) (hi : X.N[i]? = some x) (hx : Loc X.env.scope x) (he : EV X ca e m) (ho : PIp X op ti) (o : OpD X.K ca ti f)
    (hf : X.fn x = true ∨ X.env.scope.names.lookup x = some .local := by first | exact .inl rfl | exact .inr rfl | assumption) : SV X ca (.AugAssign (.Name x pos') op e pos) (sAug i f m) [i] := by
  refine ⟨ps_imp (ps_aug hN hi hx he ho hf) ?_, fun g o e => ?_⟩
  · rintro D σ H ⟨H0, F0, F, Γ, oo, S, e, p⟩
    unfold sAug at e
    obtain ⟨u, eu, e⟩ := Option.bind_eq_some_iff.mp e
    obtain ⟨w, ew, e⟩ := Option.bind_eq_some_iff.mp e
    obtain ⟨r, er, e⟩ := Option.bind_eq_some_iff.mp e
    cases z : setR Γ i r with
    | none => rw [z] at e; cases e
    | some g' =>
      rw [z] at e
      cases e
      unfold eV at eu
      have key : ∃ v, σ[i]? = some (some v) ∧ RV X.K ca (BB σ Γ) H F H v u := by
        split at eu
        · rename_i d g
          cases eu
          obtain ⟨v, s, h1⟩ := S.va i d g
          exact ⟨v, s, h1⟩
        · rename_i ds g
          cases eu
          obtain ⟨a, vs, s, h1, h2, h3, h4⟩ := S.ow i ds g
          exact ⟨_, s, a, vs, rfl, ⟨s, g⟩, h2, h3, h4⟩
        · cases eu
      obtain ⟨v, s, hv⟩ := key
      refine ⟨v, s, H0, F0, F, Γ, w, S, ew, fun y H' F' x h => ?_⟩
      exact o x.fh (hv.mono x) h er fun u2 H2 F2 x2 r2 => p _ H2 F2 (S.setR (x.trans x2) (r2.back x.hh) z) (x.ff.trans x2.ff) kp_set
  · unfold sAug at e
    obtain ⟨u, eu, e⟩ := Option.bind_eq_some_iff.mp e
    obtain ⟨w, ew, e⟩ := Option.bind_eq_some_iff.mp e
    obtain ⟨r, er, e⟩ := Option.bind_eq_some_iff.mp e
    cases z : setR g i r with
    | none => rw [z] at e; cases e
    | some g' => rw [z] at e; cases e; exact setR_kp z
/-! ### what a for walks -/
/-- J yields the data ds, one a turn, as long as the frozen part F1 stands and the own lists in PL stand as they are -/
structure JOk (K : PySem.W.Frag) (ca : Nat → Addr) (F1 : Hp) (J : It) (PL : List (Nat × Addr × List D)) (ds : List D) : Prop where
  go : ∀ (i : Nat) (d : D) (H F : Hp), ds[i]? = some d → Same F1 F → Same F H → (∀ p ∈ PL, ∃ vs, H p.2.1 = some (.lst vs) ∧ Dens K ca F vs p.2.2) → J.go i H ∧ ∀ x H', J.yld i H x H' → ∃ F', Ext ca H F H' F' ∧ Den K ca F' x d
  stop : ∀ (H F : Hp), Same F1 F → Same F H → (∀ p ∈ PL, ∃ vs, H p.2.1 = some (.lst vs) ∧ Dens K ca F vs p.2.2) → J.stop ds.length H
def tIV (K : PySem.W.Frag) (ca : Nat → Addr) (mi : Gm → Option (List Nat × List D)) : TI := fun σ H R => ∃ H0 F0 F Γ p, SR K ca H0 F0 σ H F Γ ∧ mi Γ = some p ∧
  ∀ J H' F' PL, Ext ca H F H' F' → JOk K ca F' J PL p.2 → (∀ q ∈ PL, q.1 ∈ p.1 ∧ BB σ Γ q.1 q.2.1 q.2.2) → R J H'
abbrev IV (X : Cx) (ca : Nat → Addr) (tg e : Expr) (mi : Gm → Option (List Nat × List D)) : Prop := PI X tg e (tIV X.K ca mi)
def forL (f : D → Gm → Option Gm) (b : Gm → Option Out) : List D → Gm → Option Out
  | [], g => some (.nx g)
  | d :: ds, g => (f d g).bind fun g1 => (b g1).bind fun o => match o with
    | .nx g2 => forL f b ds g2
    | .ct g2 => forL f b ds g2
    | .bk g2 => some (.nx g2)
    | .rt r => some (.rt r)
    | .ex x => some (.ex x)
def sFor (mi : Gm → Option (List Nat × List D)) (f : D → Gm → Option Gm) (b : Gm → Option Out) (T : List Nat) : Gm → Option Out := fun g => (mi g).bind fun p => if p.1.all (fun j => !T.contains j) = true then forL f b p.2 g else none
theorem forL_kp {f : D → Gm → Option Gm} {b : Gm → Option Out} {T T' : List Nat} (hf : ∀ d g g', f d g = some g' → KpG T g (.nx g')) (hb : ∀ g o, b g = some o → KpG T' g o) : ∀ (ds : List D) (g : Gm) (o : Out), forL f b ds g = some o → KpG (T ++ T') g o
  | [], g, o, e => by
    cases e
    exact fun j _ => rfl
  | d :: ds, g, o, e => by
    have i1 : ∀ j ∈ T, j ∈ T ++ T' := fun j h => List.mem_append_left _ h
    have i2 : ∀ j ∈ T', j ∈ T ++ T' := fun j h => List.mem_append_right _ h
    unfold forL at e
    obtain ⟨g1, e1, e⟩ := Option.bind_eq_some_iff.mp e
    obtain ⟨o1, e2, e⟩ := Option.bind_eq_some_iff.mp e
    have k := KpG.after (hf _ _ _ e1) (hb _ _ e2) i1 i2
    cases o1 with
    | nx g2 => exact KpG.after k (forL_kp hf hb ds g2 o e) (fun _ z => z) fun _ z => z
    | ct g2 => exact KpG.after (show KpG (T ++ T') g (.nx g2) from k) (forL_kp hf hb ds g2 o e) (fun _ z => z) fun _ z => z
    | bk g2 => cases e; exact k
    | rt r => cases e; trivial
    | ex x => cases e; trivial
theorem sv_for {tg iter : Expr} {body : List Stmt} {mi : Gm → Option (List Nat × List D)} {f : D → Gm → Option Gm} {b : Gm → Option Out} {T T' U : List Nat} (hp : PassesOwn (model X.prog X.w) X.A X.env X.xe) (hc : X.calm = true) (hi : IV X ca tg iter mi) (hg : GV X ca tg f T) (hb : SVs X ca body b T')
    (hU : U = T ++ T') (hs : ∀ x, foldedSetIterable iter X.env x = pure x := by intro _; rfl) : SV X ca (.For tg iter body [] pos) (sFor mi f b U) U := by
  subst hU
  have i1 : ∀ j ∈ T, j ∈ T ++ T' := fun j h => List.mem_append_left _ h
  have i2 : ∀ j ∈ T', j ∈ T ++ T' := fun j h => List.mem_append_right _ h
  refine ⟨ps_imp (ps_for hp hc hi hg.pg hb.ps hs) ?_, fun g o e => ?_⟩
  · rintro D σ H ⟨H0, F0, F, Γ, o, S, e, p⟩
    unfold sFor at e
    obtain ⟨⟨ps, ds⟩, em, e⟩ := Option.bind_eq_some_iff.mp e
    by_cases hall : (ps.all fun j => !(T ++ T').contains j) = true
    · rw [if_pos hall] at e
      refine ⟨H0, F0, F, Γ, (ps, ds), S, em, fun J H1 F1 PL x1 jo hPL => ?_⟩
      have hj : ∀ q ∈ PL, q.1 ∉ T ++ T' := fun q hq hm => by
        have := List.all_eq_true.mp hall q.1 (hPL q hq).1
        simp at this
        rcases List.mem_append.mp hm with z | z
        · exact this.1 z
        · exact this.2 z
      refine ⟨fun i m σ' H' => ∃ F' g, m = ds.length - i ∧ SR X.K ca H0 F0 σ' H' F' g ∧ Same F1 F' ∧ forL f b (ds.drop i) g = some o ∧ PostO X.K ca D H0 F0 F' σ' (T ++ T') o ∧ i ≤ ds.length ∧ (∀ q ∈ PL, BB σ' g q.1 q.2.1 q.2.2),
        ⟨_, F1, Γ, rfl, S.mono x1, Same.refl _, e, PostO.mono (T := []) x1.ff .refl (fun _ z => nomatch z) (fun _ z => z) p, Nat.zero_le _, fun q hq => (hPL q hq).2⟩, ?_⟩
      rintro i m σ2 H2 ⟨F2, g, rfl, S2, s2, e2, p2, hi2, hb2⟩
      have hpin : ∀ q ∈ PL, ∃ vs, H2 q.2.1 = some (.lst vs) ∧ Dens X.K ca F2 vs q.2.2 := fun q hq => by
        obtain ⟨z1, z2⟩ := hb2 q hq
        obtain ⟨a, vs, y1, _, _, y4, y5⟩ := S2.ow _ _ z2
        rw [z1] at y1
        cases y1
        exact ⟨vs, y4, y5⟩
      by_cases hlt : i < ds.length
      · have hd : ds[i]? = some ds[i] := List.getElem?_eq_getElem hlt
        have ed : ds.drop i = ds[i] :: ds.drop (i + 1) := List.drop_eq_getElem_cons hlt
        rw [ed] at e2
        unfold forL at e2
        obtain ⟨g1, eg, e2⟩ := Option.bind_eq_some_iff.mp e2
        obtain ⟨o1, eo, e2⟩ := Option.bind_eq_some_iff.mp e2
        obtain ⟨jgo, jy⟩ := jo.go i _ H2 F2 hd s2 S2.ext.fh hpin
        refine .inr ⟨jgo, fun σ' H' => ∃ F' g, SR X.K ca H0 F0 σ' H' F' g ∧ Same F1 F' ∧ forL f b (ds.drop (i + 1)) g = some o ∧ PostO X.K ca D H0 F0 F' σ' (T ++ T') o ∧ (∀ q ∈ PL, BB σ' g q.1 q.2.1 q.2.2), fun σ' H' ⟨F', g', w1, w2, w3, w4, w5⟩ => ⟨ds.length - (i + 1), by omega, F', g', rfl, w1, w2, w3, w4, hlt, w5⟩, fun x H3 y => ?_⟩
        obtain ⟨F3, x3, d3⟩ := jy x H3 y
        refine ⟨H0, F0, F3, g, _, g1, S2.mono x3, d3, eg, fun σ4 S4 k4 => ⟨H0, F0, F3, g1, o1, S4, eo, ?_⟩⟩
        have kg1 : KpG (T ++ T') g (.nx g1) := (hg.kp _ _ _ eg).mono i1
        have kg := hb.kp _ _ eo
        have step : ∀ (g5 : Gm) (σ5 : L2.St) (H5 F5 : Hp), KpG T' g1 (.nx g5) → SR X.K ca H0 F0 σ5 H5 F5 g5 → Same F3 F5 → Kp T' σ4 σ5 → forL f b (ds.drop (i + 1)) g5 = some o →
            ∃ F' g, SR X.K ca H0 F0 σ5 H5 F' g ∧ Same F1 F' ∧ forL f b (ds.drop (i + 1)) g = some o ∧ PostO X.K ca D H0 F0 F' σ5 (T ++ T') o ∧ (∀ q ∈ PL, BB σ5 g q.1 q.2.1 q.2.2) := fun g5 σ5 H5 F5 kg S5 s5 k5 e5 => by
          have kk : Kp (T ++ T') σ2 σ5 := k4.trans k5 i1 i2
          have kkg : KpG (T ++ T') g (.nx g5) := KpG.after kg1 kg (fun _ z => z) i2
          have sf : Same F2 F5 := x3.ff.trans s5
          refine ⟨F5, g5, S5, s2.trans sf, e5, PostO.mono sf kk (fun _ z => z) (fun _ z => z) p2, fun q hq => ⟨?_, ?_⟩⟩
          · rw [kk _ (hj q hq)]; exact (hb2 q hq).1
          · rw [(kkg : ∀ j, j ∉ T ++ T' → g5[j]? = g[j]?) _ (hj q hq)]; exact (hb2 q hq).2
        cases o1 with
        | nx g5 => exact fun σ5 H5 F5 S5 s5 k5 => step g5 σ5 H5 F5 kg S5 s5 k5 e2
        | ct g5 => exact fun σ5 H5 F5 S5 s5 k5 => step g5 σ5 H5 F5 kg S5 s5 k5 e2
        | bk g5 => cases e2; exact fun σ5 H5 F5 S5 s5 k5 => p2 σ5 H5 F5 S5 (x3.ff.trans s5) (k4.trans k5 i1 i2)
        | rt r => cases e2; exact p2
        | ex x => cases e2; exact p2
      · have ei : i = ds.length := by omega
        subst ei
        rw [List.drop_length] at e2
        cases e2
        exact .inl ⟨jo.stop H2 F2 s2 S2.ext.fh hpin, p2 σ2 H2 F2 S2 (Same.refl _) .refl⟩
    · rw [if_neg hall] at e
      cases e
  · unfold sFor at e
    obtain ⟨⟨ps, ds⟩, em, e⟩ := Option.bind_eq_some_iff.mp e
    split at e
    · exact forL_kp hg.kp hb.kp ds g o e
    · cases e
end
end BK
namespace BK
open PySem PySem.Spec L2
set_option autoImplicit false
/-! ### operators on data -/
def LIM : Nat := 16777216
theorem lim_eq : sizeLine = LIM := sizeLine_eq
/-- equal data, to a depth -/
def eqL (f : D → D → Bool) : List D → List D → Bool
  | [], [] => true
  | x :: xs, y :: ys => f x y && eqL f xs ys
  | _, _ => false
def eqn : Nat → D → D → Bool
  | _, .non, .non => true
  | _, .bl a, .bl b => a == b
  | _, .bl a, .int j => (if a then 1 else 0) == j
  | _, .int i, .bl b => i == (if b then 1 else 0)
  | _, .int i, .int j => i == j
  | _, .str x, .str y => x == y
  | n + 1, .lst xs, .lst ys => eqL (eqn n) xs ys
  | n + 1, .tup xs, .tup ys => eqL (eqn n) xs ys
  | _, _, _ => false
/-- data that == reads, to a depth -/
def okn : Nat → D → Bool
  | _, .non => true
  | _, .bl _ => true
  | _, .int _ => true
  | _, .str x => PyData.strOk x
  | n + 1, .lst xs => xs.all (okn n)
  | n + 1, .tup xs => xs.all (okn n)
  | _, _ => false
mutual
def toPy : D → PyData
  | .non => .none
  | .bl b => .bool b
  | .int i => .int i
  | .str x => .str x
  | .lst xs => .list (toPys xs)
  | .tup xs => .tuple (toPys xs)
  | .ins _ _ => .dict []
  | .rol _ => .dict []
  | .dic _ _ => .dict []
  | .exc _ _ => .dict []
def toPys : List D → List PyData
  | [] => []
  | x :: xs => toPy x :: toPys xs
end
theorem okn_lay : ∀ (n : Nat) (d : D), okn n d = true → (toPy d).canLay0 = true ∧ (toPy d).depth ≤ n := by
  intro n
  induction n with
  | zero =>
    intro d h
    cases d <;> simp_all [okn, toPy, PyData.canLay0, PyData.depth]
  | succ n ih =>
    have all : ∀ xs : List D, xs.all (okn n) = true → PyData.canLayAll0 (toPys xs) = true ∧ PyData.depthAll (toPys xs) ≤ n := by
      intro xs
      induction xs with
      | nil => intro _; simp [toPys, PyData.canLayAll0, PyData.depthAll]
      | cons x xs ihx =>
        intro h
        rw [List.all_cons, Bool.and_eq_true] at h
        obtain ⟨h1, h2⟩ := ih x h.1
        obtain ⟨h3, h4⟩ := ihx h.2
        simp only [toPys, PyData.canLayAll0, PyData.depthAll]
        refine ⟨by rw [h1, h3]; rfl, by omega⟩
    intro d h
    cases d with
    | lst xs =>
      obtain ⟨h1, h2⟩ := all xs h
      simp only [toPy, PyData.canLay0, PyData.depth]
      exact ⟨h1, by omega⟩
    | tup xs =>
      obtain ⟨h1, h2⟩ := all xs h
      simp only [toPy, PyData.canLay0, PyData.depth]
      exact ⟨h1, by omega⟩
    | _ => simp_all [okn, toPy, PyData.canLay0, PyData.depth]
theorem okn_shaped {n : Nat} {d : D} (h : okn n d = true) (hn : n ≤ 64) : SeqAt.shaped (toPy d) = true := by
  obtain ⟨h1, h2⟩ := okn_lay n d h
  unfold SeqAt.shaped
  rw [h1, decide_eq_true (by omega)]
  rfl
theorem eqn_py : ∀ (n : Nat) (d e : D), okn n d = true → okn n e = true → PyData.eqv (toPy d) (toPy e) = eqn n d e := by
  intro n
  induction n with
  | zero =>
    intro d e h1 h2
    cases d <;> cases e <;> simp_all [okn, eqn, toPy, PyData.eqv]
  | succ n ih =>
    have all : ∀ xs ys : List D, xs.all (okn n) = true → ys.all (okn n) = true → PyData.eqvAll (toPys xs) (toPys ys) = eqL (eqn n) xs ys := by
      intro xs
      induction xs with
      | nil =>
        intro ys _ _
        cases ys <;> simp [toPys, eqL, PyData.eqvAll]
      | cons x xs ihx =>
        intro ys h1 h2
        cases ys with
        | nil => simp [toPys, eqL, PyData.eqvAll]
        | cons y ys =>
          rw [List.all_cons, Bool.and_eq_true] at h1 h2
          simp only [toPys, eqL, PyData.eqvAll]
          rw [ih x y h1.1 h2.1, ihx ys h1.2 h2.2]
    intro d e h1 h2
    cases d <;> cases e <;> first
      | (simp only [toPy, PyData.eqv, eqn]; exact all _ _ h1 h2)
      | simp_all [okn, eqn, toPy, PyData.eqv]
section
variable {K : PySem.W.Frag} {ca : Nat → Addr} {F H : Hp}
theorem rd_l {a : Addr} {xs : List V} (h : Rd H a (.lst xs)) : SqL K H a xs := .inl h
mutual
theorem Den.dp (s : Same F H) : ∀ (d : D) {v : V}, (toPy d).canLay0 = true → Den K ca F v d → Dp K H v (toPy d)
  | .non, _, _, h => by cases h; exact .non
  | .bl b, _, _, h => by cases h; exact .bl b
  | .int i, _, _, h => by cases h; exact .int i
  | .str x, _, _, h => by cases h; exact .str x
  | .lst xs, _, e, h => by
    cases h with
    | lst h hs => exact .lst (rd_l (.inl (s _ _ h))) (Dens.dp s xs (by simpa [toPy, PyData.canLay0] using e) hs)
  | .tup xs, _, e, h => by
    cases h with
    | tup h hs => exact .tup (Same.seqT s h) (Dens.dp s xs (by simpa [toPy, PyData.canLay0] using e) hs)
  | .ins c fs, _, e, h => by simp [toPy, PyData.canLay0] at e
  | .rol fs, _, e, h => by simp [toPy, PyData.canLay0] at e
  | .dic ks fs, _, e, h => by simp [toPy, PyData.canLay0] at e
  | .exc c fs, _, e, h => by simp [toPy, PyData.canLay0] at e
theorem Dens.dp (s : Same F H) : ∀ (ds : List D) {vs : List V}, PyData.canLayAll0 (toPys ds) = true → Dens K ca F vs ds → DpAll K H vs (toPys ds)
  | [], _, _, h => by cases h; exact .nil
  | d :: ds, _, e, h => by
    cases h with
    | cons h hs =>
      have e' : (toPy d).canLay0 = true ∧ PyData.canLayAll0 (toPys ds) = true := by simpa [toPys, PyData.canLayAll0] using e
      exact .cons (Den.dp s d e'.1 h) (Dens.dp s ds e'.2 hs)
end
theorem RV.dp {B : BT} {Hs : Hp} {v : V} {r : R} (s : Same F H) (h : RV K ca B Hs F H v r) {n : Nat} (o : okn n r.d = true) : Dp K H v (toPy r.d) := by
  have e := (okn_lay n _ o).1
  cases q : r.d with
  | lst ds =>
    rw [q] at e
    obtain ⟨a, vs, rfl, h1, h2⟩ := RV.lst s h q
    exact .lst (rd_l h1) (Dens.dp s ds (by simpa [toPy, PyData.canLay0] using e) h2)
  | _ => rw [q] at e; exact Den.dp s _ e (RV.den h q rfl)
end
/-! ### numbers -/
def CMulB (i j : Int) : Prop := i.natAbs.log2 + j.natAbs.log2 < 134000000
instance (i j : Int) : Decidable (CMulB i j) := by unfold CMulB; infer_instance
theorem CMulB.ok {i j : Int} (h : CMulB i j) : IntMulOk i j := by
  have b : ∀ x : Int, Builtin.Int.intBits x ≤ x.natAbs.log2 + 1 := fun x => by
    unfold Builtin.Int.intBits
    split <;> omega
  have h1 := b i
  have h2 := b j
  have h3 : i.natAbs.log2 + j.natAbs.log2 < 134000000 := h
  have e : bitsLine = 134217728 := by decide
  unfold IntMulOk
  intro z
  rw [Bool.and_eq_true] at z
  have z2 := z.2
  unfold Builtin.Int.intTooBig at z2
  have z3 := of_decide_eq_true z2
  rw [e] at z3
  omega
def CDivB (i j : Int) : Prop := j ≠ 0 ∧ j.natAbs.log2 < 9000
instance (i j : Int) : Decidable (CDivB i j) := by unfold CDivB; infer_instance
instance (i j : Int) : Decidable (CPow i j) := by unfold CPow; infer_instance
section
variable {X : Cx}
theorem op_mulB : OpR X (binaryOp .Mult) (rI CMulB fun i j => .int (i * j)) := opI fun _ _ _ _ _ _ _ hc q => PyProof.Rows.mul_int q hc.ok
theorem op_fdivB : OpR X (binaryOp .FloorDiv) (rI CDivB fun i j => .int (i.fdiv j)) := opI fun _ _ _ _ _ _ _ hc q => PyProof.Rows.floordiv_int hc.1 q (.inl (PyProof.noPylong_of_log2 hc.2))
/-- list + list, what is read -/
def rCatR : R2 := fun x y H Q => ∃ l b xs zs, x = .ref l ∧ y = .ref b ∧ Rd H l (.lst xs) ∧ Rd H b (.lst zs) ∧ xs.length + zs.length ≤ sizeLine ∧ ∀ p, H p = none → Q (.ref p) (upd H p (.lst (xs ++ zs)))
theorem op_catR : OpR X (binaryOp .Add) rCatR := by
  intro pins s σ H x y v u Q I rx ry h
  obtain ⟨l, b, xs, zs, rfl, rfl, hH, hB, hz, q⟩ := h
  cases rx
  cases ry
  obtain ⟨z, its, n, r, e⟩ := hH.ok I.hok
  obtain ⟨z2, its2, n2, r2, e2⟩ := hB.ok I.hok
  have hl := r.length
  have hl2 := r2.length
  refine PySem.P.add_list e e2 ?_ (by rw [List.size_toArray, List.size_toArray]; omega)
  have ea : its.toArray ++ its2.toArray = (its ++ its2).toArray := by simp
  rw [ea]
  exact ⟨.ref _, _, I.lnew (t' := s.toks) (r.append r2) (by rw [List.length_append]; omega), rfl, q _ I.fresh⟩
end
/-- a result of an operation on numbers -/
def oI (C : Int → Int → Prop) [∀ i j, Decidable (C i j)] (h : Int → Int → D) : R → R → Option R
  | .va (.int i), .va (.int j) => if C i j then some (.va (h i j)) else none
  | _, _ => none
section
variable {K : PySem.W.Frag} {ca : Nat → Addr}
theorem od_I {C : Int → Int → Prop} [∀ i j, Decidable (C i j)] {h : Int → Int → D} {g : Int → Int → V} (hg : ∀ F i j, Den K ca F (g i j) (h i j)) : OpD K ca (rI C g) (oI C h) := by
  intro B H0 F H v w x y z Q s rx ry e q
  unfold oI at e
  split at e
  · split at e
    · rename_i i j hc
      cases e
      cases rx
      cases ry
      exact ⟨i, j, rfl, rfl, hc, q _ H F (.refl s) (hg F i j)⟩
    · cases e
  · cases e
theorem od_I0 {h : Int → Int → D} {g : Int → Int → V} (hg : ∀ F i j, Den K ca F (g i j) (h i j)) : OpD K ca (rI0 g) (oI (fun _ _ => True) h) := by
  intro B H0 F H v w x y z Q s rx ry e q
  unfold oI at e
  split at e
  · rename_i i j
    rw [if_pos trivial] at e
    cases e
    cases rx
    cases ry
    exact ⟨i, j, rfl, rfl, q _ H F (.refl s) (hg F i j)⟩
  · cases e
def uI (h : Int → D) : R → Option R
  | .va (.int i) => some (.va (h i))
  | _ => none
theorem ud_I {h : Int → D} {g : Int → V} (hg : ∀ F i, Den K ca F (g i) (h i)) : UnD K ca (rU g) (uI h) := by
  intro B H0 F H v x z Q s rx e q
  unfold uI at e
  split at e
  · rename_i i
    cases e
    cases rx
    exact ⟨i, rfl, q _ H F (.refl s) (hg F i)⟩
  · cases e
end
/-- + -/
def oAdd : R → R → Option R := fun a b => match a.d, b.d with
  | .int i, .int j => some (.va (.int (i + j)))
  | .str x, .str y => if x.length + y.length ≤ LIM then some (.va (.str (x ++ y))) else none
  | .lst xs, .lst ys => if xs.length + ys.length ≤ LIM then some (.tm (xs ++ ys)) else none
  | .tup xs, .tup ys => if xs.length + ys.length ≤ LIM then some (.va (.tup (xs ++ ys))) else none
  | _, _ => none
def rAddA (K : PySem.W.Frag) : R2 := fun x y H Q => rI0 (fun i j => .int (i + j)) x y H Q ∨ (∃ i j, x = .str i ∧ y = .str j ∧ i.length + j.length ≤ sizeLine ∧ Q (.str (i ++ j)) H) ∨ rCatR x y H Q ∨ rCatA K x y H Q
theorem op_addA {X : Cx} : OpR X (binaryOp .Add) (rAddA X.K) := op_add.or (op_add_str.or (op_catR.or op_catA))
theorem od_add {K : PySem.W.Frag} {ca : Nat → Addr} : OpD K ca (rAddA K) oAdd := by
  intro B H0 F H v w x y z Q s rx ry e q
  unfold oAdd at e
  split at e
  · rename_i i j h1 h2
    cases e
    cases RV.den rx h1 rfl
    cases RV.den ry h2 rfl
    exact .inl ⟨i, j, rfl, rfl, q _ H F (.refl s) (.int _)⟩
  · rename_i i j h1 h2
    split at e
    · rename_i hl
      cases e
      cases RV.den rx h1 rfl
      cases RV.den ry h2 rfl
      exact .inr (.inl ⟨i, j, rfl, rfl, by rw [lim_eq]; exact hl, q _ H F (.refl s) (.str _)⟩)
    · cases e
  · rename_i xs ys h1 h2
    split at e
    · rename_i hl
      cases e
      obtain ⟨a, vs, rfl, r1, d1⟩ := RV.lst s rx h1
      obtain ⟨b, ws, rfl, r2, d2⟩ := RV.lst s ry h2
      refine .inr (.inr (.inl ⟨a, b, vs, ws, rfl, rfl, r1, r2, by rw [lim_eq, d1.length, d2.length]; exact hl, fun p hp => ?_⟩))
      exact q _ _ F (.newO s _ hp) ⟨p, _, rfl, noT_none hp, s.free hp, upd_same, d1.append d2⟩
    · cases e
  · rename_i xs ys h1 h2
    split at e
    · rename_i hl
      cases e
      cases RV.den rx h1 rfl with
      | tup t1 d1 =>
        cases RV.den ry h2 rfl with
        | tup t2 d2 =>
          refine .inr (.inr (.inr ⟨_, _, _, _, rfl, rfl, Same.seqT s t1, Same.seqT s t2, by rw [lim_eq, d1.length, d2.length]; exact hl, fun z => ?_, fun z1 z2 => ?_, fun _ _ p hp => ?_⟩))
          · subst z
            cases d1
            exact q _ H F (.refl s) (.tup t2 d2)
          · subst z2
            cases d2
            exact q _ H F (.refl s) (by rw [List.append_nil]; exact .tup t1 d1)
          · exact q _ _ _ (.new s (.tup _) hp) (.tup (SqT.of upd_same) ((d1.append d2).mono (same_upd (s.free hp))))
    · cases e
  · cases e
/-- * -/
def strRep (x : Str) (n : Int) : Str := ⟨((List.replicate n.toNat x.cps.toList).flatten).toArray⟩
theorem foldl_repA (x : Array Nat) : ∀ (k : Nat) (acc : List Nat), (List.replicate k x).foldl (· ++ ·) acc.toArray = (acc ++ (List.replicate k x.toList).flatten).toArray
  | 0, acc => by simp
  | k + 1, acc => by
    rw [List.replicate_succ, List.foldl_cons]
    have e : acc.toArray ++ x = (acc ++ x.toList).toArray := by simp
    rw [e, foldl_repA x k]
    simp [List.replicate_succ]
theorem strRep_len (x : Str) (n : Int) : (strRep x n).length = x.length * n.toNat := by
  show ((List.replicate n.toNat x.cps.toList).flatten).toArray.size = x.cps.size * n.toNat
  rw [List.size_toArray, PyProof.Rows.lm_len_rep_flat, Array.length_toList, Nat.mul_comm]
def rMulS : R2 := fun x y H Q => ∃ z n, x = .str z ∧ y = .int n ∧ -(2 ^ 63) ≤ n ∧ n < 2 ^ 63 ∧ z.length * n.toNat ≤ sizeLine ∧ Q (.str (strRep z n)) H
theorem op_mulS {X : Cx} : OpR X (binaryOp .Mult) rMulS := by
  intro pins s σ H x y v u Q I rx ry h
  obtain ⟨z, n, rfl, rfl, h1, h2, hz, q⟩ := h
  obtain ⟨t, rfl⟩ := rx
  obtain ⟨t', rfl⟩ := ry
  have hs : sizeLine = 16777216 := sizeLine_eq
  refine PySem.P.mul_str (by rw [decide_eq_false (by omega), decide_eq_false (by omega)]; rfl) (fun a b => ?_) (fun a b => ?_) ?_
  · rw [Bool.or_eq_false_iff] at b
    have n1 : 1 ≤ n := by omega
    intro c
    have hz' : (z.length : Int) * n ≤ 16777216 := by
      have : ((z.length * n.toNat : Nat) : Int) ≤ 16777216 := by omega
      rw [Int.natCast_mul, Int.toNat_of_nonneg (by omega)] at this
      exact this
    have c2 : (z.length : Int) * n > 2 ^ 63 - 1 := Int.lt_of_lt_of_le (Int.lt_mul_of_ediv_lt (by omega) c) (Int.le_refl _)
    omega
  · show decide (z.length * n.toNat > sizeLine) = false
    exact decide_eq_false (by omega)
  · by_cases a : n < 1
    · rw [if_pos a]
      have e : strRep z n = Str.empty := by
        unfold strRep
        rw [show n.toNat = 0 by omega]
        rfl
      refine ⟨by decide, ?_⟩
      exact ⟨.str _, H, I.tok _, ⟨_, rfl⟩, by rw [← e]; exact q⟩
    · rw [if_neg a]
      by_cases b : (n == 1 || z.length == 0) = true
      · rw [if_pos b]
        have e : strRep z n = z := by
          rw [Bool.or_eq_true, beq_iff_eq, beq_iff_eq] at b
          unfold strRep
          rcases b with b | b
          · subst b
            simp
          · have : z.cps = #[] := Array.eq_empty_of_size_eq_zero b
            obtain ⟨c⟩ := z
            simp only at this
            subst this
            simp
        exact ⟨.str _, H, I, ⟨_, rfl⟩, by rw [← e]; exact q⟩
      · rw [if_neg b]
        have e : (⟨(List.replicate n.toNat z.cps).foldl (· ++ ·) #[]⟩ : Str) = strRep z n := by
          have := foldl_repA z.cps n.toNat []
          unfold strRep
          rw [show (#[] : Array Nat) = ([] : List Nat).toArray from rfl, this, List.nil_append]
        rw [e]
        refine ⟨?_, ?_⟩
        · rw [strRep_len]; exact hz
        · exact ⟨.str _, H, I.tok _, ⟨_, rfl⟩, q⟩
def oMul : R → R → Option R := fun a b => match a.d, b.d with
  | .int i, .int j => if CMulB i j then some (.va (.int (i * j))) else none
  | .str x, .int n => if -(2 ^ 63) ≤ n ∧ n < 2 ^ 63 ∧ x.length * n.toNat ≤ LIM then some (.va (.str (strRep x n))) else none
  | .lst xs, .int n => if -(2 ^ 63) ≤ n ∧ n < 2 ^ 63 ∧ xs.length * n.toNat ≤ LIM then some (.tm (List.replicate n.toNat xs).flatten) else none
  | _, _ => none
def rMulA : R2 := fun x y H Q => rI CMulB (fun i j => .int (i * j)) x y H Q ∨ rMulS x y H Q ∨ rRep x y H Q
theorem op_mulA {X : Cx} : OpR X (binaryOp .Mult) rMulA := op_mulB.or (op_mulS.or op_rep)
theorem Dens.rep {K : PySem.W.Frag} {ca : Nat → Addr} {F : Hp} {vs : List V} {ds : List D} (h : Dens K ca F vs ds) : ∀ k : Nat, Dens K ca F (List.replicate k vs).flatten (List.replicate k ds).flatten
  | 0 => .nil
  | k + 1 => by
    rw [List.replicate_succ, List.replicate_succ, List.flatten_cons, List.flatten_cons]
    exact h.append (h.rep k)
/-- a list that a temporary or an own one is: it can be written -/
def R.wr : R → Bool
  | .va _ => false
  | _ => true
theorem RV.wrt {K : PySem.W.Frag} {ca : Nat → Addr} {B : BT} {H F' H' : Hp} {v : V} {r : R} {ds : List D} (h : RV K ca B H F' H' v r) (e : r.d = .lst ds) (w : r.wr = true) : ∃ a vs, v = .ref a ∧ H' a = some (.lst vs) ∧ Dens K ca F' vs ds := by
  cases r with
  | va d => cases w
  | tm es =>
    obtain rfl : es = ds := by injection e
    obtain ⟨a, vs, rfl, _, _, h3, h4⟩ := h
    exact ⟨a, vs, rfl, h3, h4⟩
  | bw j es =>
    obtain rfl : es = ds := by injection e
    obtain ⟨a, vs, rfl, _, _, h3, h4⟩ := h
    exact ⟨a, vs, rfl, h3, h4⟩
/-- * of a written list -/
def oMulA : R → R → Option R := fun a b => match a.d with
  | .lst _ => if a.wr = true then oMul a b else none
  | _ => oMul a b
theorem od_mul {K : PySem.W.Frag} {ca : Nat → Addr} : OpD K ca rMulA oMulA := by
  intro B H0 F H v w x y z Q s rx ry e q
  have e' : oMul x y = some z ∧ (∀ xs, x.d = .lst xs → x.wr = true) := by
    unfold oMulA at e
    split at e
    · split at e
      · exact ⟨e, fun _ _ => by assumption⟩
      · cases e
    · rename_i h
      exact ⟨e, fun xs z => absurd z (h xs)⟩
  obtain ⟨e, hw⟩ := e'
  unfold oMul at e
  split at e
  · rename_i i j h1 h2
    split at e
    · rename_i hc
      cases e
      cases RV.den rx h1 rfl
      cases RV.den ry h2 rfl
      exact .inl ⟨i, j, rfl, rfl, hc, q _ H F (.refl s) (.int _)⟩
    · cases e
  · rename_i i j h1 h2
    split at e
    · rename_i hc
      cases e
      cases RV.den rx h1 rfl
      cases RV.den ry h2 rfl
      exact .inr (.inl ⟨i, j, rfl, rfl, hc.1, hc.2.1, by rw [lim_eq]; exact hc.2.2, q _ H F (.refl s) (.str _)⟩)
    · cases e
  · rename_i xs j h1 h2
    split at e
    · rename_i hc
      cases e
      obtain ⟨a, vs, rfl, r1, d1⟩ := RV.wrt rx h1 (hw _ h1)
      cases RV.den ry h2 rfl
      refine .inr (.inr ⟨a, j, vs, rfl, rfl, r1, hc.1, hc.2.1, by rw [lim_eq, d1.length]; exact hc.2.2, fun p hp => ?_⟩)
      exact q _ _ F (.newO s _ hp) ⟨p, _, rfl, noT_none hp, s.free hp, upd_same, d1.rep _⟩
    · cases e
  · cases e
/-! ### comparisons -/
def oCmp (p : Int → Int → Bool) : R → R → Option R := oI (fun _ _ => True) fun i j => .bl (p i j)
section
variable {K : PySem.W.Frag} {ca : Nat → Addr}
theorem od_cmp {p : Int → Int → Bool} : OpD K ca (rI0 fun i j => .bl (p i j)) (oCmp p) := od_I0 fun _ _ _ => .bl _
def oLt := oCmp fun i j => decide (i < j)
def oGt := oCmp fun i j => decide (j < i)
def eqR (a b : R) : Option Bool := match a.d, b.d with
  | .str x, .str y => some (decide (x = y))
  | d, e => if (okn 8 d && okn 8 e) = true then some (eqn 8 d e) else none
def oEq : R → R → Option R := fun a b => (eqR a b).map fun k => .va (.bl k)
def oNe : R → R → Option R := fun a b => (eqR a b).map fun k => .va (.bl (!k))
def rEqA (K : PySem.W.Frag) : R2 := fun x y H Q => rEq x y H Q ∨ rEqD K x y H Q
def rNeA (K : PySem.W.Frag) : R2 := fun x y H Q => rNe x y H Q ∨ rNeD K x y H Q
theorem op_eqA {X : Cx} (hu : X.A.units + 64 < cLine) : OpR X (compareOp .Eq) (rEqA X.K) := op_eq.or (op_eqD hu)
theorem op_neA {X : Cx} (hu : X.A.units + 64 < cLine) : OpR X (compareOp .NotEq) (rNeA X.K) := op_ne.or (op_neD hu)
theorem eqR_cases {B : BT} {Hs F H : Hp} {v w : V} {x y : R} {k : Bool} (s : Same F H) (rx : RV K ca B Hs F H v x) (ry : RV K ca B Hs F H w y) (e : eqR x y = some k) :
    (scal v w = true ∧ k = decide (v = w)) ∨ ∃ d f, Dp K H v d ∧ Dp K H w f ∧ SeqAt.shaped d = true ∧ SeqAt.shaped f = true ∧ k = PyData.eqv d f := by
  unfold eqR at e
  split at e
  · rename_i a b h1 h2
    cases e
    cases RV.den rx h1 rfl
    cases RV.den ry h2 rfl
    refine .inl ⟨rfl, ?_⟩
    by_cases h : a = b
    · subst h; simp
    · rw [decide_eq_false h, decide_eq_false (fun z => h (V.str.inj z))]
  · split at e
    · rename_i h
      cases e
      rw [Bool.and_eq_true] at h
      exact .inr ⟨_, _, RV.dp s rx h.1, RV.dp s ry h.2, okn_shaped h.1 (by decide), okn_shaped h.2 (by decide), (eqn_py 8 _ _ h.1 h.2).symm⟩
    · cases e
theorem od_eq : OpD K ca (rEqA K) oEq := by
  intro B H0 F H v w x y z Q s rx ry e q
  unfold oEq at e
  obtain ⟨k, ek, rfl⟩ := Option.map_eq_some_iff.mp e
  rcases eqR_cases s rx ry ek with ⟨h1, h2⟩ | ⟨d, f, h1, h2, h3, h4, h5⟩
  · exact .inl ⟨h1, by rw [← h2]; exact q _ H F (.refl s) (.bl _)⟩
  · exact .inr ⟨d, f, h1, h2, h3, h4, by rw [← h5]; exact q _ H F (.refl s) (.bl _)⟩
theorem od_ne : OpD K ca (rNeA K) oNe := by
  intro B H0 F H v w x y z Q s rx ry e q
  unfold oNe at e
  obtain ⟨k, ek, rfl⟩ := Option.map_eq_some_iff.mp e
  rcases eqR_cases s rx ry ek with ⟨h1, h2⟩ | ⟨d, f, h1, h2, h3, h4, h5⟩
  · exact .inl ⟨h1, by rw [← h2]; exact q _ H F (.refl s) (.bl _)⟩
  · exact .inr ⟨d, f, h1, h2, h3, h4, by rw [← h5]; exact q _ H F (.refl s) (.bl _)⟩
/-- is None -/
def D.isNon : D → Bool
  | .non => true
  | _ => false
theorem RV.non_iff {B : BT} {Hs F H : Hp} {v : V} {x : R} (rx : RV K ca B Hs F H v x) : decide (v = .non) = x.d.isNon := by
  cases x with
  | va d => cases rx <;> rfl
  | tm ds => obtain ⟨a, vs, rfl, _⟩ := rx; rfl
  | bw j ds => obtain ⟨a, vs, rfl, _⟩ := rx; rfl
def D.isBl (k : Bool) : D → Bool
  | .bl b => b == k
  | _ => false
theorem RV.bl_iff {B : BT} {Hs F H : Hp} {v : V} {x : R} {k : Bool} (rx : RV K ca B Hs F H v x) : decide (v = .bl k) = x.d.isBl k := by
  cases x with
  | va d => cases rx <;> first
    | rfl
    | (rename_i b; cases b <;> cases k <;> rfl)
  | tm ds => obtain ⟨a, vs, rfl, _⟩ := rx; rfl
  | bw j ds => obtain ⟨a, vs, rfl, _⟩ := rx; rfl
/-- is None, is True, is False -/
def rIsP : R2 := fun x y H Q => (y = .non ∨ ∃ b, y = .bl b) ∧ Q (.bl (decide (x = y))) H
theorem op_isP {X : Cx} : OpR X (compareOp .Is) rIsP := by
  rintro pins s σ H x y v u Q I rx ry ⟨hy, q⟩
  rcases hy with rfl | ⟨b, rfl⟩
  · exact op_isN pins s σ H x _ v u Q I rx ry ⟨rfl, q⟩
  · have eu : u = Value.bool b := ry
    subst eu
    cases x with
    | non =>
      have ev : v = Value.none := rx
      subst ev
      exact wpAny_is_plain rfl (fin_bl I q rfl)
    | bl c =>
      have ev : v = Value.bool c := rx
      subst ev
      exact wpAny_is_plain rfl (fin_bl I q (by cases c <;> cases b <;> rfl))
    | int i =>
      obtain ⟨t, rfl⟩ := rx
      exact wpAny_is_plain rfl (fin_bl I q rfl)
    | str z =>
      obtain ⟨t, rfl⟩ := rx
      exact wpAny_is_plain rfl (fin_bl I q rfl)
    | byt z =>
      obtain ⟨t, rfl⟩ := rx
      exact wpAny_is_plain rfl (fin_bl I q rfl)
    | flt z =>
      obtain ⟨t, rfl⟩ := rx
      exact wpAny_is_plain rfl (fin_bl I q rfl)
    | ref a =>
      have ev : v = Value.ref a := rx
      subst ev
      exact wpAny_is_plain rfl (fin_bl I q rfl)
    | ty n =>
      have ev : v = Value.type n := rx
      subst ev
      exact wpAny_is_plain rfl (fin_bl I q rfl)
def oIs : R → R → Option R := fun a b => match b with
  | .va .non => some (.va (.bl a.d.isNon))
  | .va (.bl k) => some (.va (.bl (a.d.isBl k)))
  | _ => none
def oIsN : R → R → Option R := fun a b => match b with
  | .va .non => some (.va (.bl (!a.d.isNon)))
  | _ => none
theorem od_is : OpD K ca rIsP oIs := by
  intro B H0 F H v w x y z Q s rx ry e q
  unfold oIs at e
  split at e
  · cases e
    cases ry
    exact ⟨.inl rfl, by rw [RV.non_iff rx]; exact q _ H F (.refl s) (.bl _)⟩
  · cases e
    cases ry
    exact ⟨.inr ⟨_, rfl⟩, by rw [RV.bl_iff rx]; exact q _ H F (.refl s) (.bl _)⟩
  · cases e
theorem od_isn : OpD K ca (fun x y H Q => y = .non ∧ Q (.bl (!decide (x = .non))) H) oIsN := by
  intro B H0 F H v w x y z Q s rx ry e q
  unfold oIsN at e
  split at e
  · cases e
    cases ry
    exact ⟨rfl, by rw [RV.non_iff rx]; exact q _ H F (.refl s) (.bl _)⟩
  · cases e
end
end BK
namespace BK
open PySem PySem.Spec L2
set_option autoImplicit false
/-! ### items, slices, displays -/
def oIx : R → R → Option R := fun a b => match a.d, b.d with
  | .lst xs, .int i => (atI xs i).map .va
  | .tup xs, .int i => (atI xs i).map .va
  | .rol xs, .int i => (atI xs i).map .va
  | .str z, .int i => if z.length ≤ LIM then (atI z.cps.toList i).map fun c => .va (.str ⟨#[c]⟩) else none
  | _, _ => none
section
variable {K : PySem.W.Frag} {ca : Nat → Addr}
theorem atI_den {F : Hp} {vs : List V} {ds : List D} (h : Dens K ca F vs ds) {i : Int} {d : D} (e : atI ds i = some d) : ∃ v, atI vs i = some v ∧ Den K ca F v d := by
  unfold atI at e ⊢
  rw [h.length]
  obtain ⟨j, e1, e2⟩ := Option.bind_eq_some_iff.mp e
  obtain ⟨v, e3, e4⟩ := h.getV e2
  exact ⟨v, by rw [e1]; exact e3, e4⟩
theorem od_ix : OpD K ca (rIx K) oIx := by
  intro B H0 F H v w x y z Q s rx ry e q
  unfold oIx at e
  split at e
  · rename_i xs i h1 h2
    obtain ⟨d, ed, rfl⟩ := Option.map_eq_some_iff.mp e
    obtain ⟨a, vs, rfl, r1, d1⟩ := RV.lst s rx h1
    cases RV.den ry h2 rfl
    obtain ⟨u, e1, e2⟩ := atI_den d1 ed
    exact .inl ⟨a, vs, i, u, rfl, rfl, rd_l r1, e1, q _ H F (.refl s) e2⟩
  · rename_i xs i h1 h2
    obtain ⟨d, ed, rfl⟩ := Option.map_eq_some_iff.mp e
    cases RV.den rx h1 rfl with
    | tup t1 d1 =>
      cases RV.den ry h2 rfl
      obtain ⟨u, e1, e2⟩ := atI_den d1 ed
      exact .inr (.inl ⟨_, _, i, u, rfl, rfl, Same.seqT s t1, e1, q _ H F (.refl s) e2⟩)
  · rename_i xs i h1 h2
    obtain ⟨d, ed, rfl⟩ := Option.map_eq_some_iff.mp e
    cases RV.den rx h1 rfl with
    | rol t1 d1 =>
      cases RV.den ry h2 rfl
      obtain ⟨u, e1, e2⟩ := atI_den d1 ed
      exact .inl ⟨_, _, i, u, rfl, rfl, s.seq t1, e1, q _ H F (.refl s) e2⟩
  · rename_i zz i h1 h2
    split at e
    · rename_i hl
      obtain ⟨c, ed, rfl⟩ := Option.map_eq_some_iff.mp e
      cases RV.den rx h1 rfl
      cases RV.den ry h2 rfl
      exact .inr (.inr ⟨zz, i, c, rfl, rfl, by rw [lim_eq]; exact hl, ed, q _ H F (.refl s) (.str _)⟩)
    · cases e
  · cases e
/-- the items of xs[lo:hi] -/
def cutL {α : Type} (xs : List α) (lo hi : Option Int) : List α := (xs.drop (HT.sIx xs.length 0 lo)).take (HT.sIx xs.length xs.length hi - HT.sIx xs.length 0 lo)
theorem Dens.cut {F : Hp} {vs : List V} {ds : List D} (h : Dens K ca F vs ds) (lo hi : Option Int) : Dens K ca F (cutV vs lo hi) (cutL ds lo hi) := by
  unfold cutV cutL
  rw [h.length]
  exact (h.drop _).take _
def tOV (K : PySem.W.Frag) (ca : Nat → Addr) (m : Gm → Option (Option Int)) : TO := fun σ H Q => ∃ H0 F0 F Γ o, SR K ca H0 F0 σ H F Γ ∧ m Γ = some o ∧ ∀ H' F', Ext ca H F H' F' → Q o H'
def pN : Gm → Option (Option Int) := fun _ => some none
def pS (m : Gm → Option R) : Gm → Option (Option Int) := fun g => (m g).bind fun r => match r with
  | .va (.int i) => some (some i)
  | _ => none
def oSl (a : R) (lo hi : Option Int) : Option R := match a.d with
  | .lst xs => some (.tm (cutL xs lo hi))
  | .tup xs => some (.va (.tup (cutL xs lo hi)))
  | .rol xs => some (.tm (cutL xs lo hi))
  | .str z => if z.length ≤ LIM then some (.va (.str (cutS z lo hi))) else none
  | _ => none
def eSl (m : Gm → Option R) (l h : Gm → Option (Option Int)) : Gm → Option R := fun g => (m g).bind fun a => (l g).bind fun lo => (h g).bind fun hi => oSl a lo hi
def rSlAll (K : PySem.W.Frag) : V → Option Int → Option Int → Hp → VK → Prop := fun x lo hi H Q => rSlL K x lo hi H Q ∨ rSlA K x lo hi H Q ∨ rSlS x lo hi H Q
end
section
variable {X : Cx} {ca : Nat → Addr} {a b e : Expr} {es : List Expr} {m n : Gm → Option R} {ms : Gm → Option (List R)} {pos p : Pos}
abbrev OV (X : Cx) (ca : Nat → Addr) (e : Option Expr) (m : Gm → Option (Option Int)) : Prop := PO X e (tOV X.K ca m)
theorem po_imp {e : Option Expr} {t t' : TO} (h : PO X e t) (i : ∀ σ H Q, t' σ H Q → t σ H Q) : PO X e t' := ⟨fun pins s σ H Q I q => h.run pins s σ H Q I (i σ H Q q)⟩
theorem ov_some (h : EV X ca e m) : OV X ca (some e) (pS m) := by
  refine po_imp (po_some h) ?_
  rintro σ H Q ⟨H0, F0, F, Γ, o, S, e, q⟩
  unfold pS at e
  obtain ⟨r, er, e⟩ := Option.bind_eq_some_iff.mp e
  split at e
  · cases e
    refine ⟨H0, F0, F, Γ, _, S, er, fun v H' F' x h => ?_⟩
    cases h
    exact ⟨_, rfl, q H' F' x⟩
  · cases e
theorem sl_all : SlR X (rSlAll X.K) := sl_list.or (sl_tupA.or sl_str)
theorem ev_slice {l h : Option Expr} {ml mh : Gm → Option (Option Int)} {p2 : Pos} (he : EV X ca e m) (hl : OV X ca l ml) (hh : OV X ca h mh) : EV X ca (.Subscript e (.Slice l h none p2) pos) (eSl m ml mh) := by
  refine pe_imp (pe_slice sl_all he hl hh) ?_
  rintro σ H Q ⟨H0, F0, F, Γ, z, S, e, q⟩
  unfold eSl at e
  obtain ⟨r, er, e⟩ := Option.bind_eq_some_iff.mp e
  obtain ⟨lo, el, e⟩ := Option.bind_eq_some_iff.mp e
  obtain ⟨hi, eh, e⟩ := Option.bind_eq_some_iff.mp e
  refine ⟨H0, F0, F, Γ, r, S, er, fun v H1 F1 x1 r1 => ⟨H0, F0, F1, Γ, lo, S.mono x1, el, fun H2 F2 x2 => ⟨H0, F0, F2, Γ, hi, (S.mono x1).mono x2, eh, fun H3 F3 x3 => ?_⟩⟩⟩
  have x13 := x2.trans x3
  have x03 := x1.trans x13
  have s3 := x3.fh
  have r3 := r1.mono x13
  unfold oSl at e
  split at e
  · rename_i xs h1
    cases e
    obtain ⟨a, vs, rfl, g1, d1⟩ := RV.lst s3 r3 h1
    refine .inl ⟨a, vs, rfl, rd_l g1, fun p hp => ?_⟩
    exact q _ _ F3 (x03.trans (.newO s3 _ hp)) ⟨p, _, rfl, x03.hh.free (noT_none hp), s3.free hp, upd_same, d1.cut lo hi⟩
  · rename_i xs h1
    cases e
    cases RV.den r3 h1 rfl with
    | tup t1 d1 =>
      refine .inr (.inl ⟨_, _, rfl, Same.seqT s3 t1, fun w => ?_, fun _ p hp => ?_⟩)
      · refine q _ H3 F3 x03 ?_
        have : cutL xs lo hi = xs := by
          unfold cutL
          rw [d1.length] at w
          rw [w.1, w.2]
          simp
        rw [this]
        exact .tup t1 d1
      · exact q _ _ _ (x03.trans (.new s3 (.tup _) hp)) (.tup (SqT.of upd_same) ((d1.cut lo hi).mono (same_upd (s3.free hp))))
  · rename_i xs h1
    cases e
    cases RV.den r3 h1 rfl with
    | rol t1 d1 =>
      refine .inl ⟨_, _, rfl, s3.seq t1, fun p hp => ?_⟩
      exact q _ _ F3 (x03.trans (.newO s3 _ hp)) ⟨p, _, rfl, x03.hh.free (noT_none hp), s3.free hp, upd_same, d1.cut lo hi⟩
  · rename_i zz h1
    split at e
    · rename_i hl
      cases e
      cases RV.den r3 h1 rfl
      exact .inr (.inr ⟨zz, rfl, by rw [lim_eq]; exact hl, q _ H3 F3 x03 (.str _)⟩)
    · cases e
  · cases e
theorem RVs.den {K : PySem.W.Frag} {B : BT} {Hs F H : Hp} : ∀ {vs : List V} {rs : List R}, RVs K ca B Hs F H vs rs → (rs.all fun r => !r.wr) = true → Dens K ca F vs (rs.map R.d)
  | _, _, .nil, _ => .nil
  | _, _, .cons (b := r) h hs, o => by
    rw [List.all_cons, Bool.and_eq_true] at o
    cases r with
    | va d => exact .cons h (RVs.den hs o.2)
    | tm ds => exact absurd o.1 (by simp [R.wr])
    | bw j ds => exact absurd o.1 (by simp [R.wr])
theorem RVs.length {K : PySem.W.Frag} {B : BT} {Hs F H : Hp} {vs : List V} {rs : List R} (h : RVs K ca B Hs F H vs rs) : vs.length = rs.length := Paired.length h
/-- displays -/
def oTup (rs : List R) : Option R := if (rs.all (fun r => !r.wr) && decide (rs.length ≤ LIM)) = true then some (.va (.tup (rs.map R.d))) else none
def oLst (rs : List R) : Option R := if (rs.all (fun r => !r.wr) && decide (rs.length ≤ LIM)) = true then some (.tm (rs.map R.d)) else none
theorem ev_tup {x1 : Nat} (h : AV X ca es ms) : EV X ca (.Tuple es x1 pos) (eA oTup ms) := by
  refine pe_imp (pe_tup h) ?_
  rintro σ H Q ⟨H0, F0, F, Γ, z, S, e, q⟩
  unfold eA at e
  obtain ⟨rs, er, e⟩ := Option.bind_eq_some_iff.mp e
  refine ⟨H0, F0, F, Γ, rs, S, er, fun vs H1 F1 x1 r1 => ?_⟩
  unfold oTup at e
  split at e
  · rename_i h
    cases e
    rw [Bool.and_eq_true, decide_eq_true_eq] at h
    refine ⟨by rw [lim_eq, RVs.length r1]; exact h.2, fun p hp => ?_⟩
    exact q _ _ _ (x1.trans (.new x1.fh (.tup _) hp)) (.tup (SqT.of upd_same) ((RVs.den r1 h.1).mono (same_upd (x1.fh.free hp))))
  · cases e
theorem ev_lst (h : AV X ca es ms) : EV X ca (.List es pos) (eA oLst ms) := by
  refine pe_imp (pe_lst h) ?_
  rintro σ H Q ⟨H0, F0, F, Γ, z, S, e, q⟩
  unfold eA at e
  obtain ⟨rs, er, e⟩ := Option.bind_eq_some_iff.mp e
  refine ⟨H0, F0, F, Γ, rs, S, er, fun vs H1 F1 x1 r1 => ?_⟩
  unfold oLst at e
  split at e
  · rename_i h
    cases e
    rw [Bool.and_eq_true, decide_eq_true_eq] at h
    refine ⟨by rw [lim_eq, RVs.length r1]; exact h.2, fun p hp => ?_⟩
    exact q _ _ F1 (x1.trans (.newO x1.fh _ hp)) ⟨p, _, rfl, x1.hh.free (noT_none hp), x1.fh.free hp, upd_same, RVs.den r1 h.1⟩
  · cases e
/-- own lists grow: x.append(e) -/
def sApp (i : Nat) (m : Gm → Option R) : Gm → Option Out := fun g => match g[i]? with
  | some (.ow ds) => (m g).bind fun r => if (!r.isBw && decide (ds.length < LIM)) = true then some (.nx (g.set i (.ow (ds ++ [r.d])))) else none
  | _ => none
theorem sv_app {i : Nat} {x : Str} {pos p1 p2 p3 : Pos} (hx : PE X (.Name x p1) (tVar i)) (he : EV X ca e m) (hs1 : starEach [e] X.env = (false, eval e X.env) :: starEach [] X.env := by rfl)
    (h : PE X (.Call (.Attribute (.Name x p1) "append" p2) [e] [] p3) (tBM X.K "list" rAppend (tVar i) (tCons (tEV X.K ca m) tNil)))
    (hs : swapsWith (.Call (.Attribute (.Name x p1) "append" p2) [e] [] p3) none pos.line X.env = pure false := by rfl) : SV X ca (.Expr (.Call (.Attribute (.Name x p1) "append" p2) [e] [] p3) pos) (sApp i m) [i] := by
  refine ⟨ps_imp (ps_expr h hs) ?_, fun g o e => ?_⟩
  · rintro D σ H ⟨H0, F0, F, Γ, o, S, e, p⟩
    unfold sApp at e
    split at e
    · rename_i ds hg
      obtain ⟨r, er, e⟩ := Option.bind_eq_some_iff.mp e
      split at e
      · rename_i hc
        cases e
        rw [Bool.and_eq_true, decide_eq_true_eq] at hc
        obtain ⟨a, vs, s, h1, h2, h3, h4⟩ := S.ow i ds hg
        refine ⟨_, s, .inl ⟨rfl, vs, SqL.of h3⟩, H0, F0, F, Γ, r, S, er, fun v H1 F1 x1 r1 => ?_⟩
        obtain ⟨F2, x2, s2, d2⟩ := RV.froze x1 r1 (by simpa using hc.1)
        refine ⟨a, vs, v, rfl, rfl, x2.hh.l h3, by rw [lim_eq, h4.length]; exact hc.2, ?_⟩
        have S2 := S.mono x2
        exact p σ _ F2 (S2.upd hg s ((h4.mono x2.ff).append (.one d2))) x2.ff .refl
      · cases e
    · cases e
  · unfold sApp at e
    split at e
    · obtain ⟨r, er, e⟩ := Option.bind_eq_some_iff.mp e
      split at e
      · cases e
        exact kpg_set
      · cases e
    · cases e
/-- an own list is frozen, at no cost: ahead of a statement -/
def sFz (i : Nat) (m : Gm → Option Out) : Gm → Option Out := fun g => match g[i]? with
  | some (.ow ds) => m (g.set i (.va (.lst ds)))
  | _ => m g
theorem sv_fz {i : Nat} {st : Stmt} {m : Gm → Option Out} {T : List Nat} (h : SV X ca st m T) : SV X ca st (sFz i m) (i :: T) := by
  have i2 : ∀ j ∈ T, j ∈ i :: T := fun j h => List.mem_cons_of_mem _ h
  refine ⟨ps_imp h.ps ?_, fun g o e => ?_⟩
  · rintro D σ H ⟨H0, F0, F, Γ, o, S, e, p⟩
    unfold sFz at e
    split at e
    · rename_i ds hg
      obtain ⟨F', sf, S'⟩ := S.frz hg
      exact ⟨H0, F0, F', _, o, S', e, PostO.mono (T := []) sf .refl (fun _ z => nomatch z) i2 p⟩
    · exact ⟨H0, F0, F, Γ, o, S, e, PostO.mono (T := []) (Same.refl _) .refl (fun _ z => nomatch z) i2 p⟩
  · unfold sFz at e
    split at e
    · exact KpG.after (g' := g.set i _) (T := [i]) kpg_set (h.kp _ _ e) (by simp) i2
    · exact (h.kp _ _ e).mono i2
end
end BK
namespace BK
open PySem PySem.Spec L2
open PyProof.Rows (envOfC)
set_option autoImplicit false
/-! ### calls of the text's own defs -/
abbrev NB : BT := fun _ _ _ => False
abbrev Phi := List D → Option R
def spOf (K : PySem.W.Frag) (ca : Nat → Addr) (φ : Phi) : Sp := fun vs H Q _ => ∃ ds F r, Same F H ∧ NT F ∧ TabsC ca H ∧ Dens K ca F vs ds ∧ φ ds = some r ∧ ∀ v H' F', Ext ca H F H' F' → RV K ca NB H F' H' v r → Q v H'
/-- a def as its callers see it: its value is φ's; dds: the defaults that fill up -/
structure Callee (P : Program) (w : World) (K : PySem.W.Frag) (mg : Str → Option Value) (base : Heap) (ca : Nat → Addr) (k : Nat) (x : Str) (φ : Phi) (dds : List D) : Prop where
  ex : ∃ (f : Addr) (fd : FuncData) (ps : List Str) (dvs : List V) (ds : List Value), FnOk P w K mg base CX0 k f fd ps (spOf K ca φ) ∧ mg x = some (.ref f) ∧ PySem.W.keepIn K (.ref f) = true ∧ Binds K fd ps ds ∧ Vals dvs ds ∧ ∀ F, Dens K ca F dvs dds
theorem Callee.mono {P : Program} {w : World} {K : PySem.W.Frag} {mg : Str → Option Value} {base : Heap} {ca : Nat → Addr} {j k : Nat} {x : Str} {φ : Phi} {dds : List D} (C : Callee P w K mg base ca j x φ dds) (h : j ≤ k) : Callee P w K mg base ca k x φ dds := by
  obtain ⟨f, fd, ps, dvs, ds, F, r⟩ := C.ex
  exact ⟨f, fd, ps, dvs, ds, F.mono h, r⟩
/-- no list within -/
def lfn : Nat → D → Bool
  | _, .non => true
  | _, .bl _ => true
  | _, .int _ => true
  | _, .str _ => true
  | n + 1, .tup xs => xs.all (lfn n)
  | n + 1, .ins _ xs => xs.all (lfn n)
  | _, _ => false
def R.lf : R → Bool
  | .va d => lfn 8 d
  | .tm ds => ds.all (lfn 8)
  | .bw _ _ => false
theorem lf_den {K : PySem.W.Frag} {ca : Nat → Addr} {F F' : Hp} (h : ∀ b o, F b = some o → (∀ xs, o ≠ .lst xs) → F' b = some o) : ∀ (n : Nat) {d : D} {v : V}, lfn n d = true → Den K ca F v d → Den K ca F' v d := by
  have all : ∀ (g : D → Bool), (∀ {d : D} {v : V}, g d = true → Den K ca F v d → Den K ca F' v d) → ∀ {ds : List D} {vs : List V}, ds.all g = true → Dens K ca F vs ds → Dens K ca F' vs ds := by
    intro g hg ds vs e hd
    induction ds generalizing vs with
    | nil => cases hd; exact .nil
    | cons d ds ih =>
      cases hd with
      | cons h1 h2 =>
        rw [List.all_cons, Bool.and_eq_true] at e
        exact .cons (hg e.1 h1) (ih e.2 h2)
  have tup : ∀ {a : Addr} {xs : List V}, SqT K F a xs → SqT K F' a xs := by
    rintro a xs ((z | ⟨o, z⟩) | z)
    · exact .inl (.inl (h _ _ z (by intro ys; intro q; cases q)))
    · exact .inl (.inr ⟨o, h _ _ z (by intro ys; intro q; cases q)⟩)
    · exact .inr z
  intro n
  induction n with
  | zero =>
    intro d v e hd
    cases hd <;> first
      | (simp [lfn] at e; done)
      | constructor
  | succ n ih =>
    intro d v e hd
    cases hd with
    | lst _ _ => simp [lfn] at e
    | rol _ _ => simp [lfn] at e
    | dic _ _ _ => simp [lfn] at e
    | exc _ _ _ _ => simp [lfn] at e
    | tup t hs => exact .tup (tup t) (all (lfn n) ih e hs)
    | ins k t e2 hs => exact .ins k (h _ _ t (by intro ys; intro q; cases q)) e2 (all (lfn n) ih e hs)
    | non => exact .non
    | bl b => exact .bl b
    | int i => exact .int i
    | str x => exact .str x
/-- of what kind the first item of a list is -/
def hk : List D → Nat
  | [] => 0
  | .str _ :: _ => 1
  | _ => 2
theorem hk_uniq {K : PySem.W.Frag} {ca : Nat → Addr} {F F' : Hp} {vs : List V} {ds es : List D} (h : Dens K ca F vs ds) (h' : Dens K ca F' vs es) : hk ds = hk es := by
  cases h with
  | nil => cases h'; rfl
  | cons a _ =>
    cases h' with
    | cons b _ => cases a <;> cases b <;> rfl
/-- no list of such a kind within -/
def lfk : Nat → List Nat → D → Bool
  | _, _, .non => true
  | _, _, .bl _ => true
  | _, _, .int _ => true
  | _, _, .str _ => true
  | n + 1, ks, .tup xs => xs.all (lfk n ks)
  | n + 1, ks, .ins _ xs => xs.all (lfk n ks)
  | n + 1, ks, .lst xs => !ks.contains (hk xs) && xs.all (lfk n ks)
  | _, _, _ => false
def R.lfk (ks : List Nat) : R → Bool
  | .va d => BK.lfk 8 ks d
  | .tm ds => ds.all (BK.lfk 8 ks)
  | .bw _ _ => false
def lentK : List R → List Nat
  | [] => []
  | .bw _ ds :: rs => hk ds :: lentK rs
  | _ :: rs => lentK rs
theorem lentK_mem {j : Nat} {ds : List D} : ∀ {rs : List R}, R.bw j ds ∈ rs → hk ds ∈ lentK rs
  | r :: rs, h => by
    rcases List.mem_cons.mp h with e | h
    · subst e; exact List.mem_cons_self
    · have := lentK_mem h
      cases r <;> first | exact this | exact List.mem_cons_of_mem _ this
theorem lfk_den {K : PySem.W.Frag} {ca : Nat → Addr} {F F' : Hp} {ks : List Nat} (h : ∀ b o, F b = some o → (∀ xs, o ≠ .lst xs) → F' b = some o) (hl : ∀ b xs ds, F b = some (.lst xs) → Dens K ca F xs ds → ks.contains (hk ds) = false → F' b = some (.lst xs)) : ∀ (n : Nat) {d : D} {v : V}, lfk n ks d = true → Den K ca F v d → Den K ca F' v d := by
  have all : ∀ (g : D → Bool), (∀ {d : D} {v : V}, g d = true → Den K ca F v d → Den K ca F' v d) → ∀ {ds : List D} {vs : List V}, ds.all g = true → Dens K ca F vs ds → Dens K ca F' vs ds := by
    intro g hg ds vs e hd
    induction ds generalizing vs with
    | nil => cases hd; exact .nil
    | cons d ds ih =>
      cases hd with
      | cons h1 h2 =>
        rw [List.all_cons, Bool.and_eq_true] at e
        exact .cons (hg e.1 h1) (ih e.2 h2)
  have tup : ∀ {a : Addr} {xs : List V}, SqT K F a xs → SqT K F' a xs := by
    rintro a xs ((z | ⟨o, z⟩) | z)
    · exact .inl (.inl (h _ _ z (by intro ys; intro q; cases q)))
    · exact .inl (.inr ⟨o, h _ _ z (by intro ys; intro q; cases q)⟩)
    · exact .inr z
  intro n
  induction n with
  | zero =>
    intro d v e hd
    cases hd <;> first
      | (simp [lfk] at e; done)
      | constructor
  | succ n ih =>
    intro d v e hd
    cases hd with
    | lst t hs =>
      unfold lfk at e
      rw [Bool.and_eq_true, Bool.not_eq_true'] at e
      exact .lst (hl _ _ _ t hs e.1) (all (lfk n ks) ih e.2 hs)
    | rol _ _ => simp [lfk] at e
    | dic _ _ _ => simp [lfk] at e
    | exc _ _ _ _ => simp [lfk] at e
    | tup t hs => exact .tup (tup t) (all (lfk n ks) ih e hs)
    | ins k t e2 hs => exact .ins k (h _ _ t (by intro ys; intro q; cases q)) e2 (all (lfk n ks) ih e hs)
    | non => exact .non
    | bl b => exact .bl b
    | int i => exact .int i
    | str x => exact .str x
theorem dens_by {K : PySem.W.Frag} {ca : Nat → Addr} {F F' : Hp} {g : D → Bool} (hg : ∀ {d : D} {v : V}, g d = true → Den K ca F v d → Den K ca F' v d) : ∀ {ds : List D} {vs : List V}, ds.all g = true → Dens K ca F vs ds → Dens K ca F' vs ds
  | [], _, _, hd => by cases hd; exact .nil
  | d :: ds, _, e, hd => by
    cases hd with
    | cons h1 h2 =>
      rw [List.all_cons, Bool.and_eq_true] at e
      exact .cons (hg e.1 h1) (dens_by hg e.2 h2)
def R.isTm : R → Bool
  | .tm _ => true
  | _ => false
/-- the call by values: where an own list is lent the answer has no list within, or none of the kind of a lent one -/
def callR (φ : Phi) (dds : List D) (rs : List R) : Option R := if (rs.any R.isTm) = true then none else (φ (rs.map R.d ++ dds)).bind fun r => if (!rs.any R.isBw || r.lf || r.lfk (lentK rs)) = true then some r else none
section
variable {X : Cx} {ca : Nat → Addr}
theorem call_core {H0 F0 H F : Hp} {σ : L2.St} {Γ : Gm} {vs dvs : List V} {rs : List R} {dds : List D} {φ : Phi} {z : R} {Hs : Hp} {Q : VK} {E : XK} (S : SR X.K ca H0 F0 σ H F Γ) (hr : RVs X.K ca (BB σ Γ) Hs F H vs rs) (hd : Dens X.K ca F dvs dds) (e : callR φ dds rs = some z)
    (q : ∀ v H' F', Ext ca H F H' F' → RV X.K ca (BB σ Γ) H F' H' v z → Q v H') : spOf X.K ca φ (vs ++ dvs) H Q E := by
  classical
  unfold callR at e
  split at e
  · cases e
  rename_i htm
  obtain ⟨r, er, e⟩ := Option.bind_eq_some_iff.mp e
  by_cases hlf : (!rs.any R.isBw || r.lf || r.lfk (lentK rs)) = true
  rotate_left
  · rw [if_neg hlf] at e
    cases e
  rw [if_pos hlf] at e
  cases e
  have s := S.ext.fh
  -- what is lent
  let Bp : Addr → Prop := fun b => ∃ j ds vs, BB σ Γ j b ds ∧ F b = none ∧ H b = some (.lst vs) ∧ Dens X.K ca F vs ds ∧ R.bw j ds ∈ rs
  let F3 : Hp := fun b => if Bp b then H b else F b
  have s13 : Same F F3 := fun b o h => by
    show (if Bp b then H b else F b) = some o
    by_cases hb : Bp b
    · obtain ⟨_, _, _, _, h2, _⟩ := hb
      rw [h2] at h; cases h
    · rw [if_neg hb]; exact h
  have s3 : Same F3 H := fun b o h => by
    have h : (if Bp b then H b else F b) = some o := h
    by_cases hb : Bp b
    · rw [if_pos hb] at h; exact h
    · rw [if_neg hb] at h; exact s b o h
  have dens : ∀ {us : List V} {ts : List R}, RVs X.K ca (BB σ Γ) Hs F H us ts → (∀ t ∈ ts, t.isTm = false) → (∀ t ∈ ts, t.isBw = true → t ∈ rs) → Dens X.K ca F3 us (ts.map R.d) := by
    intro us ts h
    induction h with
    | nil => intro _ _; exact .nil
    | cons h hs ih =>
      rename_i v t us ts
      intro g1 g2
      refine .cons ?_ (ih (fun t ht => g1 t (List.mem_cons_of_mem _ ht)) fun t ht => g2 t (List.mem_cons_of_mem _ ht))
      cases t with
      | va d => exact Den.mono s13 h
      | tm ds => exact absurd (g1 _ List.mem_cons_self) (by simp [R.isTm])
      | bw j ds =>
        obtain ⟨a, ws, rfl, hb, h2, h3, h4⟩ := h
        have hB : Bp a := ⟨j, ds, ws, hb, h2, h3, h4, g2 _ List.mem_cons_self rfl⟩
        refine .lst ?_ (h4.mono s13)
        show (if Bp a then H a else F a) = some (.lst ws)
        rw [if_pos hB]; exact h3
  have htm' : ∀ t ∈ rs, t.isTm = false := fun t ht => by
    cases q : t.isTm with
    | false => rfl
    | true => exact absurd (List.any_eq_true.mpr ⟨t, ht, q⟩) htm
  have nF : NT F := S.ext.nt S.nt0
  have n3 : NT F3 := fun b ps h => by
    have h : (if Bp b then H b else F b) = some (.tbl ps) := h
    by_cases hb : Bp b
    · rw [if_pos hb] at h
      obtain ⟨_, _, _, _, _, h3, _⟩ := hb
      rw [h3] at h; cases h
    · rw [if_neg hb] at h; exact nF b ps h
  refine ⟨rs.map R.d ++ dds, F3, z, s3, n3, S.tc0.mono S.ext.hh, (dens hr htm' fun t ht hb => ht).append (hd.mono s13), er, fun v H' F4 x4 r4 => ?_⟩
  let F5 : Hp := fun b => if Bp b then none else F4 b
  have s15 : Same F F5 := fun b o h => by
    show (if Bp b then none else F4 b) = some o
    by_cases hb : Bp b
    · obtain ⟨_, _, _, _, h2, _⟩ := hb
      rw [h2] at h; cases h
    · rw [if_neg hb]; exact x4.ff _ _ (s13 b o h)
  have s54 : Same F5 F4 := fun b o h => by
    have h : (if Bp b then none else F4 b) = some o := h
    by_cases hb : Bp b
    · rw [if_pos hb] at h; cases h
    · rw [if_neg hb] at h; exact h
  have x5 : Ext ca H F H' F5 := ⟨x4.hh, s15, s54.trans x4.fh, fun b h => by
    have h : (if Bp b then none else F4 b) ≠ none := h
    by_cases hb : Bp b
    · rw [if_pos hb] at h; exact absurd rfl h
    · rw [if_neg hb] at h
      rcases x4.nw b h with z | z
      · have z : (if Bp b then H b else F b) ≠ none := z
        rw [if_neg hb] at z
        exact .inl z
      · exact .inr z, fun _ b ps h => by
    have h : (if Bp b then none else F4 b) = some (.tbl ps) := h
    by_cases hb : Bp b
    · rw [if_pos hb] at h; cases h
    · rw [if_neg hb] at h; exact x4.nt n3 b ps h⟩
  by_cases hbw : rs.any R.isBw = true
  · have lf : z.lf = true ∨ z.lfk (lentK rs) = true := by
      rw [hbw] at hlf
      simpa using hlf
    have res : ∀ b o, F4 b = some o → (∀ xs, o ≠ .lst xs) → F5 b = some o := fun b o h hn => by
      show (if Bp b then none else F4 b) = some o
      by_cases hb : Bp b
      · exfalso
        obtain ⟨_, _, ws, _, h2, h3, _⟩ := id hb
        have h4 : F3 b = some (.lst ws) := by
          show (if Bp b then H b else F b) = _
          rw [if_pos hb]; exact h3
        have h5 := x4.ff _ _ h4
        rw [h] at h5
        cases h5
        exact hn ws rfl
      · rw [if_neg hb]; exact h
    have resl : ∀ b xs ds, F4 b = some (.lst xs) → Dens X.K ca F4 xs ds → (lentK rs).contains (hk ds) = false → F5 b = some (.lst xs) := fun b xs ds h hd hn => by
      show (if Bp b then none else F4 b) = some (.lst xs)
      by_cases hb : Bp b
      · exfalso
        obtain ⟨j, es, ws, _, h2, h3, h4, h5⟩ := id hb
        have h6 : F3 b = some (.lst ws) := by
          show (if Bp b then H b else F b) = _
          rw [if_pos hb]; exact h3
        have h7 := x4.ff _ _ h6
        rw [h] at h7
        cases h7
        have h8 := lentK_mem h5
        rw [← hk_uniq hd h4, ← List.contains_iff_mem, hn] at h8
        cases h8
      · rw [if_neg hb]; exact h
    have den : ∀ {d : D} {v : V}, (lfn 8 d = true ∨ BK.lfk 8 (lentK rs) d = true) → Den X.K ca F4 v d → Den X.K ca F5 v d := fun h hd => by
      rcases h with h | h
      · exact lf_den res 8 h hd
      · exact lfk_den res resl 8 h hd
    refine q v H' F5 x5 ?_
    cases z with
    | va d => exact den lf r4
    | tm ds =>
      obtain ⟨a, ws, rfl, h1, h2, h3, h4⟩ := r4
      refine ⟨a, ws, rfl, h1, ?_, h3, ?_⟩
      · show (if Bp a then none else F4 a) = none
        split
        · rfl
        · exact h2
      · rcases lf with lf | lf
        · exact dens_by (fun e => den (.inl e)) lf h4
        · exact dens_by (fun e => den (.inr e)) lf h4
    | bw j ds => rcases lf with lf | lf <;> cases lf
  · have e5 : F5 = F4 := funext fun b => by
      show (if Bp b then none else F4 b) = F4 b
      rw [if_neg fun ⟨_, _, _, _, _, _, _, z⟩ => hbw (List.any_eq_true.mpr ⟨_, z, rfl⟩)]
    rw [e5] at x5
    refine q v H' F4 x5 ?_
    cases z with
    | va d => exact r4
    | tm ds => exact r4
    | bw j ds =>
      obtain ⟨_, _, _, h, _⟩ := r4
      exact h.elim
variable {k j : Nat} {x : Str} {φ : Phi} {dds : List D} {p pos : Pos} {e : Expr} {es : List Expr} {ms : Gm → Option (List R)}
theorem t_fn {dvs : List V} {E : XK} (hd : ∀ F, Dens X.K ca F dvs dds) {σ : L2.St} {H : Hp} {Q : VK} (h : tEV X.K ca (eA (callR φ dds) ms) σ H Q) : tCall (spOf X.K ca φ) dvs E (tAV X.K ca ms) σ H Q := by
  obtain ⟨H0, F0, F, Γ, z, S, e, q⟩ := h
  unfold eA at e
  obtain ⟨rs, er, e⟩ := Option.bind_eq_some_iff.mp e
  refine ⟨H0, F0, F, Γ, rs, S, er, fun vs H1 F1 x1 r1 => ?_⟩
  exact call_core (S.mono x1) r1 (hd F1) e fun v H2 F2 x2 r2 => q v H2 F2 (x1.trans x2) (r2.back x1.hh)
theorem ev_fn (C : Callee X.prog X.w X.K X.mg X.base ca j x φ dds) (hr : Room j X.A) (hg : Gl X x) (ha : AV X ca (e :: es) ms) (hdb : (x == ("__debug__" : Str)) = false := by decide)
    (he : starEach (e :: es) X.env = (false, eval e X.env) :: starEach es X.env := by rfl) (hpl : (backTo pos (starEach es X.env)).any (·.1) = false := by rfl) : EV X ca (.Call (.Name x p) (e :: es) [] pos) (eA (callR φ dds) ms) := by
  obtain ⟨f, fd, ps, dvs, ds, G, hm, hk, hb, hv, hd⟩ := C.ex
  exact pe_imp (pe_call G hr hg hm hk hb hv pass0 ha hdb he hpl) fun σ H Q h => t_fn hd h
end
/-! ### a def by its body -/
/-- the def as a function of data -/
def phi (m : Gm → Option Out) (N n : Nat) : Phi := fun ds => if ds.length = n then match m (ds.map Slot.va ++ List.replicate (N - n) Slot.un) with
  | some (.rt r) => some (retR r)
  | some (.nx _) => some (.va .non)
  | _ => none
  else none
theorem start_get {N : List Str} {vs : List V} {i : Nat} {v : V} (h : vs[i]? = some v) : (L2.start N vs)[i]? = some (some v) := by
  unfold L2.start
  have hi : i < vs.length := (List.getElem?_eq_some_iff.mp h).1
  rw [List.getElem?_append_left (by simpa using hi), List.getElem?_map, h]
  rfl
theorem sr_start {K : PySem.W.Frag} {ca : Nat → Addr} {H F : Hp} {N : List Str} {vs : List V} {ds : List D} (s : Same F H) (nt : NT F) (tc : TabsC ca H) (h : Dens K ca F vs ds) : SR K ca H F (L2.start N vs) H F (ds.map Slot.va ++ List.replicate (N.length - ds.length) Slot.un) := by
  have key : ∀ (i : Nat) (x : Slot), (ds.map Slot.va ++ List.replicate (N.length - ds.length) Slot.un)[i]? = some x → x = .un ∨ ∃ d, x = .va d ∧ ds[i]? = some d := by
    intro i x e
    by_cases hi : i < ds.length
    · rw [List.getElem?_append_left (by simpa using hi), List.getElem?_map] at e
      cases q : ds[i]? with
      | none => rw [q] at e; cases e
      | some d => rw [q] at e; cases e; exact .inr ⟨d, rfl, rfl⟩
    · rw [List.getElem?_append_right (by simpa using hi), List.getElem?_replicate] at e
      split at e
      · cases e; exact .inl rfl
      · cases e
  refine ⟨.refl s, nt, tc, ?_, fun i d e => ?_, fun i es e => ?_, fun i j es fs a n e1 e2 => ?_, Own.nil fun i u e => ?_⟩
  · unfold L2.start
    rw [List.length_append, List.length_append, List.length_map, List.length_map, List.length_replicate, List.length_replicate, h.length]
  · rcases key i _ e with z | ⟨d', z, g⟩
    · cases z
    · cases z
      obtain ⟨v, h1, h2⟩ := h.getV g
      exact ⟨v, start_get h1, h2⟩
  · rcases key i _ e with z | ⟨d', z, g⟩ <;> cases z
  · rcases key i _ e1 with z | ⟨d', z, g⟩ <;> cases z
  · rcases key i _ e with z | ⟨d', z, g⟩ <;> cases z
section
variable {P : Program} {w : World} {K : PySem.W.Frag} {mg : Str → Option Value} {base : Heap} {ca : Nat → Addr}
/-- a def as it stands, its defaults of any kind -/
structure FunA (K : PySem.W.Frag) (x qual : Str) (st : Stmt) (f : Addr) (fd : FuncData) : Prop where
  ex : ∃ (oc : Value) (od : Option Addr) (dV kV doc pm : Value) (an : Option Addr) (cdv ct : Value) (osl : Array (Option Value)),
    fd = PySem.W.fnOf x qual (defArgs st) (defBody st) (defScope st) dV kV doc pm an cdv ct ∧ K.lookup f = some ⟨oc, od, .func fd, osl⟩ ∧ PySem.W.codeIn K cdv qual = true
  kp : PySem.W.keepIn K (.ref f) = true
theorem _root_.L2.Fun.toA {x qual : Str} {st : Stmt} {f : Addr} {fd : FuncData} (F : Fun K x qual st f fd) : FunA K x qual st f fd := by
  obtain ⟨oc, od, kV, doc, pm, an, cdv, ct, osl, e, lk, hcd⟩ := F.ex
  exact ⟨⟨oc, od, _, kV, doc, pm, an, cdv, ct, osl, e, lk, hcd⟩, F.kp⟩
theorem FunA.ok {x qual : Str} {st : Stmt} {f : Addr} {fd : FuncData} {N ps : List Str} {k : Nat} {sp : Sp} (F : FunA K x qual st f fd) (S : FnScope N ps (defScope st)) (len : ∀ vs H Q E, sp vs H Q E → vs.length = ps.length)
    (hbody : ∀ (cdv : Value), fd.code = cdv → ∀ (A : Around) (outer : List Env) (s : Shared) (H : Hp) (vs : List V) (Q : VK) (E : XK), Room k (A.deeper (envOfC qual (defScope st) s.heap.objs.size f cdv)) → sp vs H Q E →
      ∃ t, PSs (cxOf CX0 P w K mg base N qual (defScope st) f cdv A outer s H E).nox (defBody st) t ∧ t { nx := fun _ H' => Q .non H', rt := Q } (L2.start N vs) H) : FnOk P w K mg base CX0 (k + 1) f fd ps sp := by
  obtain ⟨oc, od, dV, kV, doc, pm, an, cdv, ct, osl, rfl, lk, hcd⟩ := F.ex
  refine fn_of lk hcd S len fun A outer s H vs Q E hr hsp => ?_
  obtain ⟨t, h, q⟩ := hbody cdv rfl A outer s H vs Q E hr hsp
  exact ⟨t, h.nox, q⟩
theorem fn_okC {x qual : Str} {st : Stmt} {f : Addr} {fd : FuncData} {N ps : List Str} {k n nN : Nat} {m : Gm → Option Out} {T : List Nat} {φ : Phi} (F : FunA K x qual st f fd) (S : FnScope N ps (defScope st)) (hn : ps.length = n) (hN : N.length = nN) (hφ : φ = phi m nN n)
    (hbody : ∀ (cdv : Value), fd.code = cdv → ∀ (A : Around) (outer : List Env) (s : Shared) (H : Hp) (E : XK), Room k (A.deeper (envOfC qual (defScope st) s.heap.objs.size f cdv)) →
      SVs (cxOf CX0 P w K mg base N qual (defScope st) f cdv A outer s H E).nox ca (defBody st) m T) : FnOk P w K mg base CX0 (k + 1) f fd ps (spOf K ca φ) := by
  subst hφ
  subst hn
  subst hN
  refine F.ok S (fun vs H Q E ⟨ds, F0, r, s, _, _, h, e, _⟩ => ?_) (fun cdv hcd A outer s H vs Q E hr ⟨ds, F0, r, sm, nt, tc, h, e, q⟩ => ?_)
  · unfold phi at e
    split at e
    · rw [h.length]; assumption
    · cases e
  · have hb := hbody cdv hcd A outer s H E hr
    refine ⟨_, hb.ps, ?_⟩
    unfold phi at e
    split at e
    · rename_i hl
      have S0 : SR K ca H F0 (L2.start N vs) H F0 (ds.map Slot.va ++ List.replicate (N.length - ps.length) Slot.un) := by
        rw [← hl]
        exact sr_start sm nt tc h
      split at e
      · rename_i r' em
        cases e
        refine ⟨H, F0, F0, _, _, S0, em, fun v H' F' x rv => q v H' F' x ?_⟩
        cases r' with
        | va d => exact rv
        | tm ds => exact rv
        | bw j ds =>
          obtain ⟨_, _, _, z, _⟩ := rv
          exact z.elim
      · rename_i g em
        cases e
        exact ⟨H, F0, F0, _, _, S0, em, fun σ' H' F' S' _ _ => q _ H' F' S'.ext .non⟩
      · cases e
    · cases e
theorem fn_ok {x qual : Str} {st : Stmt} {f : Addr} {fd : FuncData} {N ps : List Str} {k n nN : Nat} {m : Gm → Option Out} {T : List Nat} {φ : Phi} (F : FunA K x qual st f fd) (S : FnScope N ps (defScope st)) (hn : ps.length = n) (hN : N.length = nN) (hφ : φ = phi m nN n)
    (hbody : ∀ (cdv : Value) (A : Around) (outer : List Env) (s : Shared) (H : Hp) (E : XK), Room k (A.deeper (envOfC qual (defScope st) s.heap.objs.size f cdv)) →
      SVs (cxOf CX0 P w K mg base N qual (defScope st) f cdv A outer s H E).nox ca (defBody st) m T) : FnOk P w K mg base CX0 (k + 1) f fd ps (spOf K ca φ) :=
  fn_okC F S hn hN hφ fun cdv _ => hbody cdv
theorem fn_callee {x qual : Str} {st : Stmt} {f : Addr} {fd : FuncData} {ps : List Str} {k : Nat} {φ : Phi} {ds : List Value} {dvs : List V} {dds : List D} (F : FunA K x qual st f fd) (G : FnOk P w K mg base CX0 k f fd ps (spOf K ca φ)) (hm : mg x = some (.ref f)) (hb : Binds K fd ps ds) (hv : Vals dvs ds) (hd : ∀ F, Dens K ca F dvs dds) :
    Callee P w K mg base ca k x φ dds := ⟨f, fd, ps, dvs, ds, G, hm, F.kp, hb, hv, hd⟩
end
end BK
namespace BK
open PySem PySem.Spec L2
open PyProof.Rows (envOfC)
set_option autoImplicit false
/-! ### what is walked -/
def listR : R → Option (List Nat × List D)
  | .bw j ds => some ([j], ds)
  | .tm ds => some ([], ds)
  | .va (.lst ds) => some ([], ds)
  | .va (.rol ds) => some ([], ds)
  | _ => none
def signs (z : Str) : List D := z.cps.toList.map fun c => .str ⟨#[c]⟩
def seqR : R → Option (List Nat × List D)
  | .va (.tup ds) => some ([], ds)
  | .va (.str z) => some ([], signs z)
  | r => listR r
def iSeq (m : Gm → Option R) : Gm → Option (List Nat × List D) := fun g => (m g).bind seqR
section
variable {X : Cx} {ca : Nat → Addr}
theorem pi_or {tg e : Expr} {t t' : TI} (h : PI X tg e t) (h' : PI X tg e t') : PI X tg e (fun σ H R => t σ H R ∨ t' σ H R) := ⟨fun pins s σ H R I q => by
  rcases q with q | q
  · exact h.run pins s σ H R I q
  · exact h'.run pins s σ H R I q⟩
/-- a list walked: what J needs -/
structure LOk (K : PySem.W.Frag) (ca : Nat → Addr) (F1 : Hp) (a : Addr) (PL : List (Nat × Addr × List D)) (ds : List D) : Prop where
  rd : ∀ (H F : Hp), Same F1 F → Same F H → (∀ p ∈ PL, ∃ vs, H p.2.1 = some (.lst vs) ∧ Dens K ca F vs p.2.2) → ∃ vs, SqL K H a vs ∧ Dens K ca F vs ds
theorem LOk.mono {K : PySem.W.Frag} {F1 F2 : Hp} {a : Addr} {PL PL' : List (Nat × Addr × List D)} {ds : List D} (h : LOk K ca F1 a PL ds) (s : Same F1 F2) (i : ∀ p ∈ PL, p ∈ PL') : LOk K ca F2 a PL' ds :=
  ⟨fun H F s1 s2 q => h.rd H F (s.trans s1) s2 fun p hp => q p (i p hp)⟩
/-- a list result is ready to be walked -/
theorem RV.walk {K : PySem.W.Frag} {σ : L2.St} {Γ : Gm} {H F H1 F1 : Hp} {v : V} {r : R} {ps : List Nat} {ds : List D} (x : Ext ca H F H1 F1) (h : RV K ca (BB σ Γ) H F1 H1 v r) (e : listR r = some (ps, ds)) :
    ∃ a F2 PL, v = .ref a ∧ Ext ca H F H1 F2 ∧ Same F1 F2 ∧ LOk K ca F2 a PL ds ∧ ∀ q ∈ PL, q.1 ∈ ps ∧ BB σ Γ q.1 q.2.1 q.2.2 := by
  cases r with
  | bw j es =>
    cases e
    obtain ⟨a, vs, rfl, hb, h2, h3, h4⟩ := h
    refine ⟨a, F1, [(j, a, ds)], rfl, x, Same.refl _, ⟨fun H' F' s1 s2 q => ?_⟩, fun q hq => ?_⟩
    · obtain ⟨ws, g1, g2⟩ := q _ (List.mem_singleton.mpr rfl)
      exact ⟨ws, SqL.of g1, g2⟩
    · rw [List.mem_singleton] at hq
      subst hq
      exact ⟨by simp, hb⟩
  | tm es =>
    cases e
    obtain ⟨a, vs, rfl, h1, h2, h3, h4⟩ := h
    exact ⟨a, upd F1 a (.lst vs), [], rfl, x.frz h1 h3 h2, same_upd h2, ⟨fun H' F' s1 s2 _ => ⟨vs, SqL.of (s2 _ _ (s1 _ _ upd_same)), h4.mono ((same_upd h2).trans s1)⟩⟩, fun q hq => by cases hq⟩
  | va d =>
    cases d <;> first
      | (cases e; done)
      | (cases e
         cases h with
         | lst h hs => exact ⟨_, F1, [], rfl, x, Same.refl _, ⟨fun H' F' s1 s2 _ => ⟨_, rd_l (.inl ((s1.trans s2) _ _ h)), hs.mono s1⟩⟩, fun q hq => by cases hq⟩)
      | (cases e
         cases h with
         | rol h hs => exact ⟨_, F1, [], rfl, x, Same.refl _, ⟨fun H' F' s1 s2 _ => ⟨_, (s1.trans s2).seq h, hs.mono s1⟩⟩, fun q hq => by cases hq⟩)
/-- .. of an argument (no temporary) -/
def listA : R → Option (List Nat × List D)
  | .bw j ds => some ([j], ds)
  | .va (.lst ds) => some ([], ds)
  | .va (.rol ds) => some ([], ds)
  | _ => none
theorem RV.walkA {K : PySem.W.Frag} {σ : L2.St} {Γ : Gm} {Hs H1 F1 : Hp} {v : V} {r : R} {ps : List Nat} {ds : List D} (h : RV K ca (BB σ Γ) Hs F1 H1 v r) (e : listA r = some (ps, ds)) :
    ∃ a PL, v = .ref a ∧ LOk K ca F1 a PL ds ∧ ∀ q ∈ PL, q.1 ∈ ps ∧ BB σ Γ q.1 q.2.1 q.2.2 := by
  cases r with
  | bw j es =>
    cases e
    obtain ⟨a, vs, rfl, hb, h2, h3, h4⟩ := h
    refine ⟨a, [(j, a, ds)], rfl, ⟨fun H' F' s1 s2 q => ?_⟩, fun q hq => ?_⟩
    · obtain ⟨ws, g1, g2⟩ := q _ (List.mem_singleton.mpr rfl)
      exact ⟨ws, SqL.of g1, g2⟩
    · rw [List.mem_singleton] at hq
      subst hq
      exact ⟨by simp, hb⟩
  | tm es => cases e
  | va d =>
    cases d <;> first
      | (cases e; done)
      | (cases e
         cases h with
         | lst h hs => exact ⟨_, [], rfl, ⟨fun H' F' s1 s2 _ => ⟨_, rd_l (.inl ((s1.trans s2) _ _ h)), hs.mono s1⟩⟩, fun q hq => by cases hq⟩)
      | (cases e
         cases h with
         | rol h hs => exact ⟨_, [], rfl, ⟨fun H' F' s1 s2 _ => ⟨_, (s1.trans s2).seq h, hs.mono s1⟩⟩, fun q hq => by cases hq⟩)
theorem jok_list {K : PySem.W.Frag} {F1 : Hp} {a : Addr} {PL : List (Nat × Addr × List D)} {ds : List D} (h : LOk K ca F1 a PL ds) : JOk K ca F1 (Itl K a) PL ds := by
  refine ⟨fun i d H F e s1 s2 q => ?_, fun H F s1 s2 q => ?_⟩
  · obtain ⟨vs, g1, g2⟩ := h.rd H F s1 s2 q
    obtain ⟨v, e1, e2⟩ := g2.getV e
    refine ⟨⟨vs, v, g1, e1⟩, ?_⟩
    rintro x H' ⟨rfl, y⟩
    have := y vs g1
    rw [e1] at this
    cases this
    exact ⟨F, .refl s2, e2⟩
  · obtain ⟨vs, g1, g2⟩ := h.rd H F s1 s2 q
    exact ⟨vs, g1, by rw [g2.length]; exact Nat.le_refl _⟩
variable {tg e : Expr} {es : List Expr} {m : Gm → Option R} {ms : Gm → Option (List R)} {p pos : Pos}
theorem iv_seq (he : EV X ca e m) : IV X ca tg e (iSeq m) := by
  refine pi_imp (pi_or (pi_list he) (pi_or (pi_tup he) (pi_str he))) ?_
  rintro σ H R' ⟨H0, F0, F, Γ, ⟨ps, ds⟩, S, e, q⟩
  unfold iSeq at e
  obtain ⟨r, er, e⟩ := Option.bind_eq_some_iff.mp e
  have lst : listR r = some (ps, ds) → iList X.K (tEV X.K ca m) σ H R' := fun e => by
    refine ⟨H0, F0, F, Γ, r, S, er, fun v H1 F1 x1 r1 => ?_⟩
    obtain ⟨a, F2, PL, rfl, x2, s2, lo, hb⟩ := RV.walk x1 r1 e
    refine ⟨a, rfl, ?_, q _ H1 F2 PL x2 (jok_list lo) hb⟩
    have hpin : ∀ p ∈ PL, ∃ vs, H1 p.2.1 = some (.lst vs) ∧ Dens X.K ca F2 vs p.2.2 := fun p hp => by
      obtain ⟨z1, z2⟩ := (hb p hp).2
      obtain ⟨a, vs, y1, _, _, y4, y5⟩ := (S.mono x2).ow _ _ z2
      rw [z1] at y1
      cases y1
      exact ⟨vs, y4, y5⟩
    obtain ⟨vs, g1, _⟩ := lo.rd H1 F2 (Same.refl _) x2.fh hpin
    exact ⟨vs, g1⟩
  unfold seqR at e
  split at e
  · rename_i es
    cases e
    refine .inr (.inl ⟨H0, F0, F, Γ, _, S, er, fun v H1 F1 x1 r1 => ?_⟩)
    cases r1 with
    | @tup a xs _ t hs =>
      refine ⟨_, rfl, ⟨_, Same.seqT x1.fh t⟩, q _ H1 F1 [] x1 ⟨fun i d H2 F2 e s1 s2 _ => ?_, fun H2 F2 s1 s2 _ => ?_⟩ fun q hq => by cases hq⟩
      · obtain ⟨v, e1, e2⟩ := hs.getV e
        have t2 := Same.seqT (s1.trans s2) t
        refine ⟨⟨_, v, t2, e1⟩, ?_⟩
        rintro x H' ⟨rfl, y⟩
        have := y _ t2
        rw [e1] at this
        cases this
        exact ⟨F2, .refl s2, e2.mono s1⟩
      · exact ⟨_, Same.seqT (s1.trans s2) t, by rw [hs.length]; exact Nat.le_refl _⟩
  · rename_i z
    cases e
    refine .inr (.inr ⟨H0, F0, F, Γ, _, S, er, fun v H1 F1 x1 r1 => ?_⟩)
    cases r1
    refine ⟨z, rfl, q _ H1 F1 [] x1 ⟨fun i d H2 F2 e s1 s2 _ => ?_, fun H2 F2 s1 s2 _ => ?_⟩ fun q hq => by cases hq⟩
    · have hi : i < (signs z).length := (List.getElem?_eq_some_iff.mp e).1
      have hz : (signs z).length = z.cps.size := by simp [signs]
      refine ⟨by show i < z.cps.size; omega, ?_⟩
      rintro x H' ⟨rfl, c, hc, rfl⟩
      refine ⟨F2, .refl s2, ?_⟩
      have hs : (signs z)[i]? = some (.str ⟨#[c]⟩) := by
        unfold signs
        rw [List.getElem?_map, Array.getElem?_toList, hc]
        rfl
      have e : (signs z)[i]? = some d := e
      rw [hs] at e
      cases e
      exact .str _
    · show z.cps.size ≤ (signs z).length
      simp [signs]
  · exact .inl (lst e)
/-! ranges -/
def rangeL (lo : Int) : Nat → List D
  | 0 => []
  | n + 1 => .int lo :: rangeL (lo + 1) n
theorem rangeL_length (n : Nat) : ∀ lo, (rangeL lo n).length = n := by
  induction n with
  | zero => intro _; rfl
  | succ n ih => intro lo; show (rangeL (lo + 1) n).length + 1 = n + 1; rw [ih]
theorem rangeL_get (n : Nat) : ∀ (lo : Int) (i : Nat), i < n → (rangeL lo n)[i]? = some (.int (lo + i)) := by
  induction n with
  | zero => intro _ i h; omega
  | succ n ih =>
    intro lo i h
    cases i with
    | zero => show some (D.int lo) = _; simp
    | succ i =>
      show (rangeL (lo + 1) n)[i]? = _
      rw [ih (lo + 1) i (by omega)]
      congr 2
      omega
def rg1R (rs : List R) : Option (List Nat × List D) := match rs with
  | [.va (.int j)] => if -(2 ^ 62) ≤ j ∧ j < 2 ^ 62 then some ([], rangeL 0 j.toNat) else none
  | _ => none
def iA (f : List R → Option (List Nat × List D)) (ms : Gm → Option (List R)) : Gm → Option (List Nat × List D) := fun g => (ms g).bind f
theorem jok_rng {K : PySem.W.Frag} {F1 : Hp} {PL : List (Nat × Addr × List D)} (lo : Int) (n : Nat) : JOk K ca F1 (Itr lo n) PL (rangeL lo n) := by
  refine ⟨fun i d H F e s1 s2 q => ?_, fun H F s1 s2 q => ?_⟩
  · have hi : i < n := by
      have := (List.getElem?_eq_some_iff.mp e).1
      rw [rangeL_length] at this
      exact this
    rw [rangeL_get n lo i hi] at e
    cases e
    refine ⟨hi, ?_⟩
    rintro x H' ⟨rfl, rfl⟩
    exact ⟨F, .refl s2, .int _⟩
  · show n ≤ (rangeL lo n).length
    rw [rangeL_length]
    exact Nat.le_refl _
theorem iv_rg1 {a : Expr} (hg : Gl X "range") (hm : X.mg "range" = none) (ha : AV X ca [a] ms) (hs : starEach [a] X.env = [(false, eval a X.env)] := by rfl) : IV X ca tg (.Call (.Name "range" p) [a] [] pos) (iA rg1R ms) := by
  refine pi_imp (pi_range1 hg hm ha hs) ?_
  rintro σ H R' ⟨H0, F0, F, Γ, ⟨ps, ds⟩, S, e, q⟩
  unfold iA at e
  obtain ⟨rs, er, e⟩ := Option.bind_eq_some_iff.mp e
  refine ⟨H0, F0, F, Γ, rs, S, er, fun vs H1 F1 x1 r1 => ?_⟩
  unfold rg1R at e
  split at e
  · split at e
    · rename_i h
      cases e
      cases r1 with
      | cons h1 hs =>
        cases hs
        cases h1
        exact ⟨_, rfl, h.1, h.2, q _ H1 F1 [] x1 (jok_rng 0 _) fun q hq => by cases hq⟩
    · cases e
  · cases e
/-! enumerate, zip, reversed -/
def enumL : Nat → List D → List D
  | _, [] => []
  | n, d :: ds => .tup [.int (n : Int), d] :: enumL (n + 1) ds
theorem enumL_get : ∀ (ds : List D) (n i : Nat), (enumL n ds)[i]? = (ds[i]?).map fun d => .tup [.int ((n + i : Nat) : Int), d]
  | [], n, i => by simp [enumL]
  | d :: ds, n, 0 => by simp [enumL]
  | d :: ds, n, i + 1 => by
    show (enumL (n + 1) ds)[i]? = (ds[i]?).map _
    rw [enumL_get ds (n + 1) i, show n + 1 + i = n + (i + 1) by omega]
theorem enumL_length : ∀ (ds : List D) (n : Nat), (enumL n ds).length = ds.length
  | [], _ => rfl
  | d :: ds, n => congrArg (· + 1) (enumL_length ds (n + 1))
def zipL : List D → List D → List D
  | a :: as, b :: bs => .tup [a, b] :: zipL as bs
  | _, _ => []
theorem zipL_get : ∀ (as bs : List D) (i : Nat) (d : D), (zipL as bs)[i]? = some d → ∃ a b, as[i]? = some a ∧ bs[i]? = some b ∧ d = .tup [a, b]
  | [], _, i, d, h => by simp [zipL] at h
  | a :: as, [], i, d, h => by simp [zipL] at h
  | a :: as, b :: bs, 0, d, h => by
    cases h
    exact ⟨a, b, rfl, rfl, rfl⟩
  | a :: as, b :: bs, i + 1, d, h => zipL_get as bs i d h
theorem zipL_length : ∀ (as bs : List D), (zipL as bs).length = min as.length bs.length
  | [], _ => by simp [zipL]
  | a :: as, [] => by simp [zipL]
  | a :: as, b :: bs => by
    show (zipL as bs).length + 1 = _
    rw [zipL_length as bs, List.length_cons, List.length_cons]
    omega
def enR (rs : List R) : Option (List Nat × List D) := match rs with
  | [r] => (listA r).map fun p => (p.1, enumL 0 p.2)
  | _ => none
def zpR (rs : List R) : Option (List Nat × List D) := match rs with
  | [.va (.tup xs), .va (.tup ys)] => some ([], zipL xs ys)
  | [r, s] => (listA r).bind fun p => (listA s).map fun q => (p.1 ++ q.1, zipL p.2 q.2)
  | _ => none
def rvR (rs : List R) : Option (List Nat × List D) := match rs with
  | [r] => (listA r).map fun p => (p.1, p.2.reverse)
  | _ => none
theorem pair_den {K : PySem.W.Frag} {H F : Hp} {a : Addr} {v w : V} {d e : D} (s : Same F H) (n : H a = none) (h1 : Den K ca F v d) (h2 : Den K ca F w e) : ∃ F', Ext ca H F (upd H a (.tup [v, w])) F' ∧ Den K ca F' (.ref a) (.tup [d, e]) :=
  ⟨_, .new s _ n, .tup (SqT.of upd_same) (.cons (h1.mono (same_upd (s.free n))) (.cons (h2.mono (same_upd (s.free n))) .nil))⟩
theorem pins_ok {K : PySem.W.Frag} {H0 F0 H F : Hp} {σ : L2.St} {Γ : Gm} {PL : List (Nat × Addr × List D)} {ps : List Nat} (S : SR K ca H0 F0 σ H F Γ) (hb : ∀ q ∈ PL, q.1 ∈ ps ∧ BB σ Γ q.1 q.2.1 q.2.2) : ∀ p ∈ PL, ∃ vs, H p.2.1 = some (.lst vs) ∧ Dens K ca F vs p.2.2 := fun p hp => by
  obtain ⟨z1, z2⟩ := (hb p hp).2
  obtain ⟨a, vs, y1, _, _, y4, y5⟩ := S.ow _ _ z2
  rw [z1] at y1
  cases y1
  exact ⟨vs, y4, y5⟩
theorem iv_enum {elts : List Expr} {kk : Nat} {tpos : Pos} (hg : Gl X "enumerate") (hm : X.mg "enumerate" = none) (ha : AV X ca [e] ms) (hs : starEach [e] X.env = [(false, eval e X.env)] := by rfl) : IV X ca (.Tuple elts kk tpos) (.Call (.Name "enumerate" p) [e] [] pos) (iA enR ms) := by
  refine pi_imp (pi_enum hg hm ha hs) ?_
  rintro σ H R' ⟨H0, F0, F, Γ, ⟨ps, ds⟩, S, e, q⟩
  unfold iA at e
  obtain ⟨rs, er, e⟩ := Option.bind_eq_some_iff.mp e
  refine ⟨H0, F0, F, Γ, rs, S, er, fun vs H1 F1 x1 r1 => ?_⟩
  unfold enR at e
  split at e
  · rename_i r
    obtain ⟨⟨ps1, ds1⟩, el, e⟩ := Option.map_eq_some_iff.mp e
    cases e
    cases r1 with
    | cons h1 hs =>
      cases hs
      obtain ⟨a, PL, rfl, lo, hb⟩ := RV.walkA h1 el
      obtain ⟨ws, g1, _⟩ := lo.rd H1 F1 (Same.refl _) x1.fh (pins_ok (S.mono x1) hb)
      refine ⟨a, ws, rfl, g1, q _ H1 F1 PL x1 ⟨fun i d H3 F3 e s1 s3 qp => ?_, fun H3 F3 s1 s3 qp => ?_⟩ hb⟩
      · obtain ⟨us, k1, k2⟩ := lo.rd H3 F3 s1 s3 qp
        have e : (enumL 0 ds1)[i]? = some d := e
        rw [enumL_get] at e
        obtain ⟨d', ed, rfl⟩ := Option.map_eq_some_iff.mp e
        obtain ⟨v, e1, e2⟩ := k2.getV ed
        refine ⟨⟨us, v, k1, e1⟩, ?_⟩
        rintro x H' ⟨T, y, rfl, hT, rfl, hy⟩
        have := hy us k1
        rw [e1] at this
        cases this
        rw [Nat.zero_add]
        exact pair_den s3 hT (.int _) e2
      · obtain ⟨us, k1, k2⟩ := lo.rd H3 F3 s1 s3 qp
        refine ⟨us, k1, ?_⟩
        rw [k2.length]
        show ds1.length ≤ (enumL 0 ds1).length
        rw [enumL_length]
        exact Nat.le_refl _
  · cases e
theorem iv_zip {e2 : Expr} {elts : List Expr} {kk : Nat} {tpos : Pos} (hg : Gl X "zip") (hm : X.mg "zip" = none) (ha : AV X ca [e, e2] ms)
    (hs : starEach [e, e2] X.env = (false, eval e X.env) :: starEach [e2] X.env := by rfl) (hpl : (backTo pos (starEach [e2] X.env)).any (·.1) = false := by rfl) : IV X ca (.Tuple elts kk tpos) (.Call (.Name "zip" p) [e, e2] [] pos) (iA zpR ms) := by
  refine pi_imp (RZ.pi_zipA hg hm ha hs hpl) ?_
  rintro σ H R' ⟨H0, F0, F, Γ, ⟨ps, ds⟩, S, e, q⟩
  unfold iA at e
  obtain ⟨rs, er, e⟩ := Option.bind_eq_some_iff.mp e
  refine ⟨H0, F0, F, Γ, rs, S, er, fun vs H1 F1 x1 r1 => ?_⟩
  unfold zpR at e
  split at e
  · rename_i ds1 ds2
    cases e
    cases r1 with
    | cons h1 hs =>
      cases hs with
      | cons h2 hs =>
        cases hs
        cases h1 with
        | tup t1 d1 =>
          cases h2 with
          | tup t2 d2 =>
            refine ⟨_, _, _, _, rfl, .inr ⟨Same.seqT x1.fh t1, Same.seqT x1.fh t2, q _ H1 F1 [] x1 ⟨fun i d H3 F3 e s1 s3 qp => ?_, fun H3 F3 s1 s3 qp => ?_⟩ (fun q hq => by cases hq)⟩⟩
            · have k1 := Same.seqT s3 (Same.seqT s1 t1)
              have k1' := Same.seqT s3 (Same.seqT s1 t2)
              obtain ⟨da, db, ea, eb, rfl⟩ := zipL_get ds1 ds2 i d e
              obtain ⟨v, e1, e2⟩ := (d1.mono s1).getV ea
              obtain ⟨v', e1', e2'⟩ := (d2.mono s1).getV eb
              refine ⟨⟨_, _, v, v', k1, k1', e1, e1'⟩, ?_⟩
              rintro x H' ⟨T, y, y', rfl, hT, rfl, hy, hy'⟩
              have q1 := hy _ k1
              have q2 := hy' _ k1'
              rw [e1] at q1
              rw [e1'] at q2
              cases q1
              cases q2
              exact pair_den s3 hT e2 e2'
            · refine ⟨_, _, Same.seqT s3 (Same.seqT s1 t1), Same.seqT s3 (Same.seqT s1 t2), ?_⟩
              rw [d1.length, d2.length]
              show ds1.length ≤ (zipL ds1 ds2).length ∨ ds2.length ≤ (zipL ds1 ds2).length
              rw [zipL_length]
              omega
  · rename_i r s
    obtain ⟨⟨ps1, ds1⟩, el, e⟩ := Option.bind_eq_some_iff.mp e
    obtain ⟨⟨ps2, ds2⟩, el2, e⟩ := Option.map_eq_some_iff.mp e
    cases e
    cases r1 with
    | cons h1 hs =>
      cases hs with
      | cons h2 hs =>
        cases hs
        obtain ⟨a, PL, rfl, lo, hb⟩ := RV.walkA h1 el
        obtain ⟨b, PL', rfl, lo', hb'⟩ := RV.walkA h2 el2
        have hbb : ∀ q ∈ PL ++ PL', q.1 ∈ ps1 ++ ps2 ∧ BB σ Γ q.1 q.2.1 q.2.2 := fun q hq => by
          rcases List.mem_append.mp hq with z | z
          · exact ⟨List.mem_append_left _ (hb q z).1, (hb q z).2⟩
          · exact ⟨List.mem_append_right _ (hb' q z).1, (hb' q z).2⟩
        have lo := lo.mono (PL' := PL ++ PL') (Same.refl _) fun p hp => List.mem_append_left _ hp
        have lo' := lo'.mono (PL' := PL ++ PL') (Same.refl _) fun p hp => List.mem_append_right _ hp
        have pk := pins_ok (S.mono x1) hbb
        obtain ⟨ws, g1, _⟩ := lo.rd H1 F1 (Same.refl _) x1.fh pk
        obtain ⟨ws', g1', _⟩ := lo'.rd H1 F1 (Same.refl _) x1.fh pk
        refine ⟨a, b, ws, ws', rfl, .inl ⟨g1, g1', q _ H1 F1 _ x1 ⟨fun i d H3 F3 e s1 s3 qp => ?_, fun H3 F3 s1 s3 qp => ?_⟩ hbb⟩⟩
        · obtain ⟨us, k1, k2⟩ := lo.rd H3 F3 s1 s3 qp
          obtain ⟨us', k1', k2'⟩ := lo'.rd H3 F3 s1 s3 qp
          obtain ⟨da, db, ea, eb, rfl⟩ := zipL_get ds1 ds2 i d e
          obtain ⟨v, e1, e2⟩ := k2.getV ea
          obtain ⟨v', e1', e2'⟩ := k2'.getV eb
          refine ⟨⟨us, us', v, v', k1, k1', e1, e1'⟩, ?_⟩
          rintro x H' ⟨T, y, y', rfl, hT, rfl, hy, hy'⟩
          have q1 := hy us k1
          have q2 := hy' us' k1'
          rw [e1] at q1
          rw [e1'] at q2
          cases q1
          cases q2
          exact pair_den s3 hT e2 e2'
        · obtain ⟨us, k1, k2⟩ := lo.rd H3 F3 s1 s3 qp
          obtain ⟨us', k1', k2'⟩ := lo'.rd H3 F3 s1 s3 qp
          refine ⟨us, us', k1, k1', ?_⟩
          rw [k2.length, k2'.length]
          show ds1.length ≤ (zipL ds1 ds2).length ∨ ds2.length ≤ (zipL ds1 ds2).length
          rw [zipL_length]
          omega
  · cases e
end
/-! ### comprehensions -/
def wipeG (g : Gm) : List Nat → Gm
  | [] => g
  | v :: vs => (wipeG g vs).set v .un
def compL (f : D → Gm → Option Gm) (c : Gm → Option Bool) (el : Gm → Option R) (g : Gm) : List D → Option (List D)
  | [] => some []
  | d :: ds => (f d g).bind fun g1 => (c g1).bind fun k => if k = true then (el g1).bind fun r => if r.isBw = true then none else (compL f c el g ds).map (r.d :: ·) else compL f c el g ds
def bY : Gm → Option Bool := fun _ => some true
def eLc (mi : Gm → Option (List Nat × List D)) (f : D → Gm → Option Gm) (c : Gm → Option Bool) (el : Gm → Option R) (own : List Nat) : Gm → Option R := fun g => (mi g).bind fun p => if p.2.length ≤ LIM then (compL f c el (wipeG g own) p.2).map .tm else none
theorem SR.wipe {K : PySem.W.Frag} {ca : Nat → Addr} {H0 F0 H F : Hp} {σ : L2.St} {Γ : Gm} (S : SR K ca H0 F0 σ H F Γ) : ∀ vs : List Nat, SR K ca H0 F0 (L2.wipe σ vs) H F (wipeG Γ vs)
  | [] => S
  | v :: vs => (SR.wipe S vs).setUn none
theorem wipe_kp {σ σ' : L2.St} : ∀ {vs : List Nat}, σ.length = σ'.length → (∀ j, j ∉ vs → σ'[j]? = σ[j]?) → L2.wipe σ' vs = L2.wipe σ vs := by
  intro vs hl h
  have key : ∀ (vs : List Nat) (τ : L2.St) (j : Nat), (L2.wipe τ vs)[j]? = if j ∈ vs then (if j < τ.length then some none else none) else τ[j]? := by
    intro vs
    induction vs with
    | nil => intro τ j; simp [L2.wipe]
    | cons v vs ih =>
      intro τ j
      unfold L2.wipe
      rw [List.getElem?_set, ih τ j, wipe_length]
      by_cases e : v = j
      · subst e
        simp
      · simp [e, List.mem_cons, Ne.symm e]
  apply List.ext_getElem?
  intro j
  rw [key, key]
  by_cases hj : j ∈ vs
  · rw [if_pos hj, if_pos hj, hl]
  · rw [if_neg hj, if_neg hj]
    exact h j hj
section
variable {X : Cx} {ca : Nat → Addr}
theorem pts_imp {ifs : List Expr} {t t' : TT} (h : PTs X ifs t) (i : ∀ σ H Q, t' σ H Q → t σ H Q) : PTs X ifs t' := ⟨fun pins s σ H Q I q => h.run pins s σ H Q I (i σ H Q q)⟩
abbrev CV (X : Cx) (ca : Nat → Addr) (ifs : List Expr) (c : Gm → Option Bool) : Prop := PTs X ifs (tTV X.K ca c)
theorem cv_nil : CV X ca [] bY := by
  refine pts_imp pts_nil ?_
  rintro σ H Q ⟨H0, F0, F, Γ, b, S, e, q⟩
  cases e
  exact q H F (.refl S.ext.fh)
theorem cv_one {c : Expr} {k : Gm → Option Bool} (h : TV X ca c k) : CV X ca [c] k := pts_one h
theorem wipe_get {σ : L2.St} : ∀ {vs : List Nat} {j : Nat}, j ∉ vs → (L2.wipe σ vs)[j]? = σ[j]?
  | [], j, h => rfl
  | v :: vs, j, h => by
    unfold L2.wipe
    rw [List.getElem?_set_ne fun e => h (by simp [e]), wipe_get fun e => h (List.mem_cons_of_mem _ e)]
theorem wipeG_length (g : Gm) : ∀ vs : List Nat, (wipeG g vs).length = g.length
  | [] => rfl
  | v :: vs => by unfold wipeG; rw [List.length_set, wipeG_length g vs]
theorem t_lc {K : PySem.W.Frag} {mi : Gm → Option (List Nat × List D)} {f : D → Gm → Option Gm} {c : Gm → Option Bool} {el : Gm → Option R} {own T : List Nat} (hT : ∀ j ∈ T, j ∈ own) (hln : ∀ d g g', f d g = some g' → g'.length = g.length) : ∀ σ H Q, tEV K ca (eLc mi f c el own) σ H Q → tLc (tIV K ca mi) (tGV K ca f T) (tTV K ca c) (tEV K ca el) own σ H Q := by
  rintro σ H Q ⟨H0, F0, F, Γ, z, S, e, q⟩
  unfold eLc at e
  obtain ⟨⟨ps, ds⟩, em, e⟩ := Option.bind_eq_some_iff.mp e
  by_cases hlen : ds.length ≤ LIM
  rotate_left
  · rw [if_neg hlen] at e; cases e
  rw [if_pos hlen] at e
  obtain ⟨es, ee, rfl⟩ := Option.map_eq_some_iff.mp e
  refine ⟨H0, F0, F, Γ, (ps, ds), S, em, fun J H1 F1 PL x1 jo hPL A hA => ?_⟩
  have S1 := S.mono x1
  -- the comprehension's list stands at A, not frozen
  refine ⟨fun i m H' => ∃ F' acc out, m = ds.length - i ∧ i ≤ ds.length ∧ Ext ca H1 F1 H' F' ∧ F' A = none ∧ H' A = some (.lst acc) ∧ Dens K ca F' acc out ∧ out.length ≤ i ∧ (compL f c el (wipeG Γ own) (ds.drop i)).map (out ++ ·) = some es,
    ⟨_, F1, [], [], rfl, Nat.zero_le _, .newO x1.fh _ hA, x1.fh.free hA, upd_same, .nil, Nat.zero_le _, by
      show (compL f c el (wipeG Γ own) ds).map _ = _
      rw [show compL f c el (wipeG Γ own) ds = some es from ee]; rfl⟩, ?_⟩
  rintro i m H2 ⟨F2, acc, out, rfl, hi, x2, fA, hA2, hd, ho, he⟩
  have S2 := S1.mono x2
  have pk := pins_ok S2 hPL
  by_cases hlt : i < ds.length
  · have hd' : ds[i]? = some ds[i] := List.getElem?_eq_getElem hlt
    have ed : ds.drop i = ds[i] :: ds.drop (i + 1) := List.drop_eq_getElem_cons hlt
    obtain ⟨fs, e1, rfl⟩ := Option.map_eq_some_iff.mp he
    rw [ed] at e1
    unfold compL at e1
    obtain ⟨g1, eg, e1⟩ := Option.bind_eq_some_iff.mp e1
    obtain ⟨k, ek, e1⟩ := Option.bind_eq_some_iff.mp e1
    obtain ⟨jgo, jy⟩ := jo.go i _ H2 F2 hd' x2.ff x2.fh pk
    refine .inr ⟨jgo, fun H' => ∃ F' acc out', Ext ca H1 F1 H' F' ∧ F' A = none ∧ H' A = some (.lst acc) ∧ Dens K ca F' acc out' ∧ out'.length ≤ i + 1 ∧ (compL f c el (wipeG Γ own) (ds.drop (i + 1))).map (out' ++ ·) = some (out ++ fs), fun H' ⟨F', acc', out', w1, w2, w3, w4, w5, w6⟩ => ⟨ds.length - (i + 1), by omega, F', acc', out', rfl, hlt, w1, w2, w3, w4, w5, w6⟩, fun x H3 y => ?_⟩
    obtain ⟨F3, x3, d3⟩ := jy x H3 y
    have S3 := (S2.mono x3).wipe own
    refine ⟨H0, F0, F3, _, _, g1, S3, d3, eg, fun σ4 S4 k4 => ⟨?_, ?_⟩⟩
    · refine wipe_kp ?_ fun j hj => ?_
      · rw [S4.len, hln _ _ _ eg, wipeG_length, S.len]
      · rw [k4 j fun z => hj (hT j z), wipe_get hj]
    · have x23 := x2.trans x3
      have fA3 : F3 A = none := x3.keepN hA2 fA
      refine ⟨H0, F0, F3, g1, k, S4, ek, fun H5 F5 x5 => ?_⟩
      have x25 := x23.trans x5
      have x35 := x3.trans x5
      have hA5 : H5 A = some (.lst acc) := x35.hh.l hA2
      have fA5 : F5 A = none := x35.keepN hA2 fA
      have hd5 := hd.mono x35.ff
      cases k with
      | true =>
        refine iteT ?_
        rw [if_pos rfl] at e1
        obtain ⟨r, er, e1⟩ := Option.bind_eq_some_iff.mp e1
        by_cases hb : r.isBw = true
        · rw [if_pos hb] at e1; cases e1
        rw [if_neg hb] at e1
        obtain ⟨rest, erest, rfl⟩ := Option.map_eq_some_iff.mp e1
        refine ⟨H0, F0, F5, g1, r, S4.mono x5, er, fun v H6 F6 x6 r6 => ?_⟩
        have hA6 : H6 A = some (.lst acc) := x6.hh.l hA5
        obtain ⟨F7, x7, s7, d7⟩ := RV.froze x6 r6 (by simpa using hb)
        have fA7 : F7 A = none := x7.keepN hA5 fA5
        have x27 := x25.trans x7
        refine ⟨acc, hA6, ?_, F7, acc ++ [v], out ++ [r.d], ?_, fA7, upd_same, (hd5.mono x7.ff).append (.one d7), ?_, ?_⟩
        · rw [lim_eq, hd.length]
          omega
        · refine ⟨x27.hh.updO (noT_none hA) (Pl.lst hA6), x27.ff, fun b o h => ?_, x27.nw, x27.nt⟩
          · rw [upd_ne (ne_of_none h fA7)]; exact x27.fh b o h
        · rw [List.length_append]
          simp only [List.length_cons, List.length_nil]
          omega
        · rw [erest]
          simp
      | false =>
        refine iteF ?_
        rw [if_neg Bool.false_ne_true] at e1
        refine ⟨F5, acc, out, x25, fA5, hA5, hd5, by omega, ?_⟩
        rw [e1]
        rfl
  · have ei : i = ds.length := by omega
    subst ei
    rw [List.drop_length] at he
    have he : some (out ++ []) = some es := he
    rw [List.append_nil] at he
    cases he
    refine .inl ⟨jo.stop H2 F2 x2.ff x2.fh pk, ?_⟩
    exact q _ H2 F2 (x1.trans x2) ⟨A, acc, rfl, x1.hh.free (noT_none hA), fA, hA2, hd⟩
theorem gN_ln {i : Nat} : ∀ d g g', gN i d g = some g' → g'.length = g.length := fun d g g' e => by cases e; exact List.length_set
theorem gE_ln : ∀ d g g', gE d g = some g' → g'.length = g.length := fun d g g' e => by
  cases d with
  | nil => cases e; rfl
  | cons d ds => cases e
theorem gC_ln {f : D → Gm → Option Gm} {r : List D → Gm → Option Gm} (h1 : ∀ d g g', f d g = some g' → g'.length = g.length) (h2 : ∀ d g g', r d g = some g' → g'.length = g.length) : ∀ d g g', gC f r d g = some g' → g'.length = g.length := fun d g g' e => by
  cases d with
  | nil => cases e
  | cons d ds =>
    have e : (f d g).bind (r ds) = some g' := e
    obtain ⟨g1, e1, e2⟩ := Option.bind_eq_some_iff.mp e
    rw [h2 _ _ _ e2, h1 _ _ _ e1]
theorem gT_ln {r : List D → Gm → Option Gm} (h : ∀ d g g', r d g = some g' → g'.length = g.length) : ∀ d g g', gT r d g = some g' → g'.length = g.length := fun d g g' e => by
  unfold gT at e
  split at e
  · exact h _ _ _ e
  · cases e
theorem ev_lc {elt tg iter : Expr} {ifs : List Expr} {scope : Scope} {own : List (Str × Nat)} {pos : Pos} {mi : Gm → Option (List Nat × List D)} {f : D → Gm → Option Gm} {c : Gm → Option Bool} {el : Gm → Option R} {T ow : List Nat} (hc : X.calm = true) (hN : X.N.Nodup) (hi : IV X ca tg iter mi) (ok : BlkOk X.N X.env.scope scope own) (how : ow = own.map (·.2))
    (hg : ∀ (s : Shared) (H : Hp) (C : Addr) (cl : List (Str × Addr)) (fp : List Addr), GV (X.blk s H scope (compEnvC scope cl C X.env) fp) ca tg f T) (ht : ∀ (s : Shared) (H : Hp) (C : Addr) (cl : List (Str × Addr)) (fp : List Addr), CV (X.blk s H scope (compEnvC scope cl C X.env) fp) ca ifs c)
    (he : ∀ (s : Shared) (H : Hp) (C : Addr) (cl : List (Str × Addr)) (fp : List Addr), EV (X.blk s H scope (compEnvC scope cl C X.env) fp) ca elt el) (hT : ∀ j ∈ T, j ∈ ow) (ln : ∀ d g g', f d g = some g' → g'.length = g.length) (hs : ∀ x, foldedSetIterable iter X.env x = pure x := by intro _; rfl) :
    EV X ca (.ListComp elt [⟨tg, iter, ifs, 0⟩] scope pos) (eLc mi f c el ow) := by
  subst how
  exact pe_imp (pe_lc (wi := tIV X.K ca mi) (g := tGV X.K ca f T) (tt := tTV X.K ca c) (te := tEV X.K ca el) hc hN hi ok (fun s H C cl fp => (hg s H C cl fp).pg) ht he hs) (t_lc hT ln)
/-- name = [..] on one line -/
theorem sv_setLc {i : Nat} {y : Str} {py : Pos} {elt tg iter : Expr} {ifs : List Expr} {scope : Scope} {own : List (Str × Nat)} {pos spos : Pos} {mi : Gm → Option (List Nat × List D)} {f : D → Gm → Option Gm} {c : Gm → Option Bool} {el : Gm → Option R} {T ow : List Nat} (hc : X.calm = true) (hN : X.N.Nodup) (hy : X.N[i]? = some y) (hyl : X.env.scope.names.lookup y = some .local)
    (hsw : swapsWith (.ListComp elt [⟨tg, iter, ifs, 0⟩] scope pos) (some (.Name y py)) spos.line X.env = pure true) (hi : IV X ca tg iter mi) (ok : BlkOk X.N X.env.scope scope own) (how : ow = own.map (·.2))
    (hg : ∀ (s : Shared) (H : Hp) (C : Addr) (cl : List (Str × Addr)) (fp : List Addr), GV (X.blk s H scope (compEnvC scope cl C X.env) fp) ca tg f T) (ht : ∀ (s : Shared) (H : Hp) (C : Addr) (cl : List (Str × Addr)) (fp : List Addr), CV (X.blk s H scope (compEnvC scope cl C X.env) fp) ca ifs c)
    (he : ∀ (s : Shared) (H : Hp) (C : Addr) (cl : List (Str × Addr)) (fp : List Addr), EV (X.blk s H scope (compEnvC scope cl C X.env) fp) ca elt el) (hT : ∀ j ∈ T, j ∈ ow) (ln : ∀ d g g', f d g = some g' → g'.length = g.length) (hs : ∀ x, foldedSetIterable iter X.env x = pure x := by intro _; rfl) :
    SV X ca (.Assign [.Name y py] (.ListComp elt [⟨tg, iter, ifs, 0⟩] scope pos) spos) (sSet i (eLc mi f c el ow)) [i] := by
  subst how
  refine ⟨ps_imp (ps_setLc (wi := tIV X.K ca mi) (g := tGV X.K ca f T) (tt := tTV X.K ca c) (te := tEV X.K ca el) hc hN hy hyl hsw hi ok (fun s H C cl fp => (hg s H C cl fp).pg) ht he hs) ?_, fun g o e => ?_⟩
  · rintro D σ H ⟨H0, F0, F, Γ, o, S, e, p⟩
    unfold sSet at e
    obtain ⟨r, er, e⟩ := Option.bind_eq_some_iff.mp e
    cases z : setR Γ i r with
    | none => rw [z] at e; cases e
    | some g' =>
      rw [z] at e
      cases e
      exact t_lc hT ln σ H _ ⟨H0, F0, F, Γ, r, S, er, fun v H' F' x h => p _ H' F' (S.setR x h z) x.ff kp_set⟩
  · unfold sSet at e
    obtain ⟨r, er, e⟩ := Option.bind_eq_some_iff.mp e
    cases z : setR g i r with
    | none => rw [z] at e; cases e
    | some g' => rw [z] at e; cases e; exact setR_kp z
end
end BK
namespace BK
open PySem PySem.Spec L2
open PyProof.Rows (envOfC)
set_option autoImplicit false
/-! ### built-ins -/
section
variable {X : Cx} {ca : Nat → Addr} {e : Expr} {es : List Expr} {m n : Gm → Option R} {ms : Gm → Option (List R)} {pos p : Pos} {x : Str}
theorem ev_callB {id : String} {r : List V → Hp → VK → Prop} {f : List R → Option R} (hc : CallR X (.builtin id) r) (o : CallD X.K ca r f) (hg : Gl X x) (hm : X.mg x = none) (hv : bootBuiltins x = some (.builtin id)) (ha : AV X ca (e :: es) ms) (hn : x ≠ "__name__" := by decide) (hdb : (x == ("__debug__" : Str)) = false := by decide)
    (he : starEach (e :: es) X.env = (false, eval e X.env) :: starEach es X.env := by rfl) (hpl : (backTo pos (starEach es X.env)).any (·.1) = false := by rfl) : EV X ca (.Call (.Name x p) (e :: es) [] pos) (eA f ms) := pe_imp (pe_callB hc hg hm hv ha hn hdb he hpl) (t_call o)
theorem ev_callT {T : String} {r : List V → Hp → VK → Prop} {f : List R → Option R} (hc : CallR X (.type T) r) (o : CallD X.K ca r f) (hg : Gl X x) (hm : X.mg x = none) (hv : bootBuiltins x = some (.type T)) (ha : AV X ca (e :: es) ms) (hn : x ≠ "__name__" := by decide) (hdb : (x == ("__debug__" : Str)) = false := by decide)
    (he : starEach (e :: es) X.env = (false, eval e X.env) :: starEach es X.env := by rfl) (hpl : (backTo pos (starEach es X.env)).any (·.1) = false := by rfl) : EV X ca (.Call (.Name x p) (e :: es) [] pos) (eA f ms) := pe_imp (pe_callTy hc hg hm hv ha hn hdb he hpl) (t_call o)
end
section
variable {K : PySem.W.Frag} {ca : Nat → Addr}
def cLen (rs : List R) : Option R := match rs with
  | [r] => match r.d with
    | .lst ds => some (.va (.int ds.length))
    | .tup ds => some (.va (.int ds.length))
    | .rol ds => some (.va (.int ds.length))
    | .str z => if z.length ≤ LIM then some (.va (.int z.length)) else none
    | _ => none
  | _ => none
def rLenA (K : PySem.W.Frag) : List V → Hp → VK → Prop := fun xs H Q => (∃ p ys, xs = [.ref p] ∧ (SqL K H p ys ∨ SqT K H p ys) ∧ Q (.int ys.length) H) ∨ ∃ z, xs = [.str z] ∧ z.length ≤ sizeLine ∧ Q (.int z.length) H
theorem call_lenA {X : Cx} : CallR X (.builtin "len") (rLenA X.K) := call_len_seq.or call_len_str
theorem cd_len : CallD K ca (rLenA K) cLen := by
  intro B Hs F H vs xs z Q s hr e q
  unfold cLen at e
  split at e
  · cases hr with
    | cons h hs =>
      cases hs
      split at e
      · rename_i ds hd
        cases e
        obtain ⟨a, us, rfl, r1, d1⟩ := RV.lst s h hd
        exact .inl ⟨a, us, rfl, .inl (rd_l r1), by rw [d1.length]; exact q _ H F (.refl s) (.int _)⟩
      · rename_i ds hd
        cases e
        cases RV.den h hd rfl with
        | tup t d1 => exact .inl ⟨_, _, rfl, .inr (Same.seqT s t), by rw [d1.length]; exact q _ H F (.refl s) (.int _)⟩
      · rename_i ds hd
        cases e
        cases RV.den h hd rfl with
        | rol t d1 => exact .inl ⟨_, _, rfl, .inl (s.seq t), by rw [d1.length]; exact q _ H F (.refl s) (.int _)⟩
      · rename_i zz hd
        split at e
        · rename_i hl
          cases e
          cases RV.den h hd rfl
          exact .inr ⟨zz, rfl, by rw [lim_eq]; exact hl, q _ H F (.refl s) (.int _)⟩
        · cases e
      · cases e
  · cases e
/-- int of an int, a bool, a text -/
def cInt (rs : List R) : Option R := match rs with
  | [.va (.int i)] => some (.va (.int i))
  | [.va (.bl k)] => some (.va (.int (if k then 1 else 0)))
  | [.va (.str a)] => if a.length ≤ 640 then (PySem.intText? a).map fun n => .va (.int n) else none
  | _ => none
/-- lists of ints, of bools, of texts read off -/
def intsOf : List D → Option (List Int)
  | [] => some []
  | .int i :: ds => (intsOf ds).map (i :: ·)
  | _ => none
def blsOf : List D → Option (List Bool)
  | [] => some []
  | .bl i :: ds => (blsOf ds).map (i :: ·)
  | _ => none
theorem intsOf_eq : ∀ {ds : List D} {ns : List Int}, intsOf ds = some ns → ds = ns.map D.int
  | [], ns, h => by cases h; rfl
  | d :: ds, ns, h => by
    cases d <;> first
      | (obtain ⟨ms, e, rfl⟩ := Option.map_eq_some_iff.mp (show (intsOf ds).map _ = some ns from h)
         rw [intsOf_eq e]
         rfl)
      | cases h
theorem blsOf_eq : ∀ {ds : List D} {ns : List Bool}, blsOf ds = some ns → ds = ns.map D.bl
  | [], ns, h => by cases h; rfl
  | d :: ds, ns, h => by
    cases d <;> first
      | (obtain ⟨ms, e, rfl⟩ := Option.map_eq_some_iff.mp (show (blsOf ds).map _ = some ns from h)
         rw [blsOf_eq e]
         rfl)
      | cases h
theorem intsOf_map : ∀ ns : List Int, intsOf (ns.map D.int) = some ns
  | [] => rfl
  | n :: ns => by show (intsOf (ns.map D.int)).map _ = _; rw [intsOf_map ns]; rfl
theorem blsOf_map : ∀ ns : List Bool, blsOf (ns.map D.bl) = some ns
  | [] => rfl
  | n :: ns => by show (blsOf (ns.map D.bl)).map _ = _; rw [blsOf_map ns]; rfl
def lstD : D → Option (List D)
  | .lst ds => some ds
  | _ => none
theorem lstD_eq {d : D} {ds : List D} (h : lstD d = some ds) : d = .lst ds := by
  cases d <;> first | (cases h; rfl) | cases h
def c1 (f : R → Option R) (rs : List R) : Option R := match rs with
  | [r] => f r
  | _ => none
def cSum : List R → Option R := c1 fun r => ((lstD r.d).bind intsOf).map fun ns => .va (.int ns.sum)
def cAll : List R → Option R := c1 fun r => ((lstD r.d).bind blsOf).map fun ns => .va (.bl (ns.all id))
theorem one_of {f : R → Option R} {rs : List R} {z : R} (h : c1 f rs = some z) : ∃ r, rs = [r] ∧ f r = some z := by
  unfold c1 at h
  split at h
  · exact ⟨_, rfl, h⟩
  · cases h
theorem cd_sum : CallD K ca (rSum K) cSum := by
  intro B Hs F H vs xs z Q s hr e q
  obtain ⟨r, rfl, e⟩ := one_of e
  obtain ⟨ns, en, rfl⟩ := Option.map_eq_some_iff.mp e
  obtain ⟨ds, ed, en⟩ := Option.bind_eq_some_iff.mp en
  cases hr with
  | cons h hs =>
    cases hs
    obtain ⟨a, us, rfl, r1, d1⟩ := RV.lst s h (lstD_eq ed)
    rw [intsOf_eq en] at d1
    have := d1.ints_of
    subst this
    exact ⟨a, ns, rfl, rd_l r1, q _ H F (.refl s) (.int _)⟩
theorem cd_all : CallD K ca (rAll K) cAll := by
  intro B Hs F H vs xs z Q s hr e q
  obtain ⟨r, rfl, e⟩ := one_of e
  obtain ⟨ns, en, rfl⟩ := Option.map_eq_some_iff.mp e
  obtain ⟨ds, ed, en⟩ := Option.bind_eq_some_iff.mp en
  cases hr with
  | cons h hs =>
    cases hs
    obtain ⟨a, us, rfl, r1, d1⟩ := RV.lst s h (lstD_eq ed)
    rw [blsOf_eq en] at d1
    have := d1.bls_of
    subst this
    exact ⟨a, ns, rfl, rd_l r1, q _ H F (.refl s) (.bl _)⟩
/-- list(x), tuple(x) -/
def cList : List R → Option R := c1 fun r => match r.d with
  | .lst ds => some (.tm ds)
  | .tup ds => some (.tm ds)
  | _ => none
theorem cd_list : CallD K ca (fun xs H Q => ∃ p ys, xs = [.ref p] ∧ (SqL K H p ys ∨ SqT K H p ys) ∧ ∀ l, H l = none → Q (.ref l) (upd H l (.lst ys))) cList := by
  intro B Hs F H vs xs z Q s hr e q
  obtain ⟨r, rfl, e2⟩ := one_of e
  clear e
  cases hr with
  | cons h hs =>
    cases hs
    split at e2
    · rename_i ds hd
      cases e2
      obtain ⟨a, us, rfl, r1, d1⟩ := RV.lst s h hd
      exact ⟨a, us, rfl, .inl (rd_l r1), fun l hl => q _ _ F (.newO s _ hl) ⟨l, us, rfl, noT_none hl, s.free hl, upd_same, d1⟩⟩
    · rename_i ds hd
      cases e2
      cases RV.den h hd rfl with
      | tup t d1 => exact ⟨_, _, rfl, .inr (Same.seqT s t), fun l hl => q _ _ F (.newO s _ hl) ⟨l, _, rfl, noT_none hl, s.free hl, upd_same, d1⟩⟩
    · cases e2
def cTuple : List R → Option R := c1 fun r => match r.d with
  | .lst ds => some (.va (.tup ds))
  | .tup ds => some (.va (.tup ds))
  | _ => none
end
/-! ### isinstance of built-in types -/
inductive BTy where
  | int | bool | str | list | tuple
def BTy.nm : BTy → String
  | .int => "int"
  | .bool => "bool"
  | .str => "str"
  | .list => "list"
  | .tuple => "tuple"
def isB : BTy → D → Option Bool
  | _, .ins _ _ => none
  | _, .rol _ => none
  | _, .dic _ _ => none
  | _, .exc _ _ => none
  | .int, .int _ => some true
  | .int, .bl _ => some true
  | .bool, .bl _ => some true
  | .str, .str _ => some true
  | .list, .lst _ => some true
  | .tuple, .tup _ => some true
  | _, _ => some false
def tyN : D → String
  | .non => "NoneType"
  | .bl _ => "bool"
  | .int _ => "int"
  | .str _ => "str"
  | .lst _ => "list"
  | .tup _ => "tuple"
  | .ins _ _ => ""
  | .rol _ => ""
  | .dic _ _ => ""
  | .exc _ _ => ""
theorem isB_kit : ∀ (T : BTy) (d : D) (b : Bool), isB T d = some b → kitB (tyN d) T.nm = some b := by
  intro T d b h
  cases d <;> cases T <;> cases b <;> first
    | (exfalso; simp [isB] at h; done)
    | (clear h; show kitB _ _ = _; simp only [tyN, BTy.nm]; decide +kernel)
theorem RV.ty {K : PySem.W.Frag} {ca : Nat → Addr} {B : BT} {Hs F H : Hp} {v : V} {r : R} (s : Same F H) (h : RV K ca B Hs F H v r) (n : ∀ c fs, r.d ≠ .ins c fs) (n2 : ∀ fs, r.d ≠ .rol fs) (n3 : ∀ ks fs, r.d ≠ .dic ks fs) (n4 : ∀ c fs, r.d ≠ .exc c fs) : TyX K H v (.type (tyN r.d)) := by
  have lst : ∀ ds, r.d = .lst ds → TyX K H v (.type "list") := fun ds e => by
    obtain ⟨a, us, rfl, r1, _⟩ := RV.lst s h e
    rcases r1 with z | ⟨o, z⟩
    · exact .base (.lst z)
    · exact .base (.frz z)
  cases e : r.d with
  | non => cases RV.den h e rfl; exact .base .non
  | bl b => cases RV.den h e rfl; exact .base (.bl _)
  | int i => cases RV.den h e rfl; exact .base (.int _)
  | str x => cases RV.den h e rfl; exact .base (.str _)
  | lst ds => exact lst ds e
  | tup ds =>
    cases RV.den h e rfl with
    | tup t d1 =>
      rcases Same.seqT s t with (z | ⟨o, z⟩) | ⟨o, its, n, z1, z2, _⟩
      · exact .base (.tup z)
      · exact .fTuple z
      · exact .kTuple z1 z2
  | ins c fs => exact absurd e (n c fs)
  | rol fs => exact absurd e (n2 fs)
  | dic ks fs => exact absurd e (n3 ks fs)
  | exc c fs => exact absurd e (n4 c fs)
def eIs (T : BTy) (m : Gm → Option R) : Gm → Option R := fun g => (m g).bind fun r => if r.isTm = true then none else (isB T r.d).map fun b => .va (.bl b)
/-- isinstance(x, (A, B)) -/
def eIs2 (T U : BTy) (m : Gm → Option R) : Gm → Option R := fun g => (m g).bind fun r => if r.isTm = true then none else (isB T r.d).bind fun a => (isB U r.d).map fun b => .va (.bl (a || b))
section
variable {X : Cx} {ca : Nat → Addr} {e : Expr} {m : Gm → Option R} {pos p p1 p2 p3 : Pos}
theorem isB_ins {T : BTy} {r : R} {b : Bool} (h : isB T r.d = some b) : ∀ c fs, r.d ≠ .ins c fs := fun c fs e => by
  rw [e] at h
  cases T <;> cases h
theorem isB_exc {T : BTy} {r : R} {b : Bool} (h : isB T r.d = some b) : ∀ c fs, r.d ≠ .exc c fs := fun c fs e => by
  rw [e] at h
  cases T <;> cases h
theorem isB_dic {T : BTy} {r : R} {b : Bool} (h : isB T r.d = some b) : ∀ ks fs, r.d ≠ .dic ks fs := fun ks fs e => by
  rw [e] at h
  cases T <;> cases h
theorem isB_rol {T : BTy} {r : R} {b : Bool} (h : isB T r.d = some b) : ∀ fs, r.d ≠ .rol fs := fun fs e => by
  rw [e] at h
  cases T <;> cases h
theorem ev_isi {T : BTy} {x : Str} (hg : Gl X "isinstance") (hm : X.mg "isinstance" = none) (hv : bootBuiltins "isinstance" = some (.builtin "isinstance")) (he : EV X ca e m) (hT : PE X (.Name x p1) (tC (.ty T.nm)))
    (hs1 : starEach [e, .Name x p1] X.env = (false, eval e X.env) :: starEach [.Name x p1] X.env := by rfl) (hs2 : starEach [.Name x p1] X.env = (false, eval (.Name x p1) X.env) :: starEach [] X.env := by rfl)
    (hpl : (backTo pos (starEach [.Name x p1] X.env)).any (·.1) = false := by rfl) : EV X ca (.Call (.Name "isinstance" p) [e, .Name x p1] [] pos) (eIs T m) := by
  refine pe_imp (pe_callB call_isi hg hm hv (pa_cons he (pa_cons hT pa_nil hs2) hs1) (by decide) (by decide) hs1 hpl) ?_
  rintro σ H Q ⟨H0, F0, F, Γ, z, S, e, q⟩
  unfold eIs at e
  obtain ⟨r, er, e⟩ := Option.bind_eq_some_iff.mp e
  by_cases ht : r.isTm = true
  · rw [if_pos ht] at e; cases e
  rw [if_neg ht] at e
  obtain ⟨b, eb, rfl⟩ := Option.map_eq_some_iff.mp e
  refine ⟨H0, F0, F, Γ, r, S, er, fun v H1 F1 x1 r1 => ?_⟩
  exact ⟨v, _, _, _, b, rfl, .ty _, RV.ty x1.fh r1 (isB_ins eb) (isB_rol eb) (isB_dic eb) (isB_exc eb), kit_ty (isB_kit T _ b eb), q _ H1 F1 x1 (.bl b)⟩
theorem ev_isi2 {T U : BTy} {x y : Str} {kt : Nat} (hg : Gl X "isinstance") (hm : X.mg "isinstance" = none) (hv : bootBuiltins "isinstance" = some (.builtin "isinstance")) (he : EV X ca e m) (hT : PE X (.Name x p1) (tC (.ty T.nm))) (hU : PE X (.Name y p2) (tC (.ty U.nm)))
    (hs1 : starEach [e, .Tuple [.Name x p1, .Name y p2] kt p3] X.env = (false, eval e X.env) :: starEach [.Tuple [.Name x p1, .Name y p2] kt p3] X.env := by rfl)
    (hs2 : starEach [.Tuple [.Name x p1, .Name y p2] kt p3] X.env = (false, eval (.Tuple [.Name x p1, .Name y p2] kt p3) X.env) :: starEach [] X.env := by rfl)
    (hs3 : starEach [.Name x p1, .Name y p2] X.env = (false, eval (.Name x p1) X.env) :: starEach [.Name y p2] X.env := by rfl) (hs4 : starEach [.Name y p2] X.env = (false, eval (.Name y p2) X.env) :: starEach [] X.env := by rfl)
    (hpl : (backTo pos (starEach [.Tuple [.Name x p1, .Name y p2] kt p3] X.env)).any (·.1) = false := by rfl) : EV X ca (.Call (.Name "isinstance" p) [e, .Tuple [.Name x p1, .Name y p2] kt p3] [] pos) (eIs2 T U m) := by
  refine pe_imp (pe_callB call_isiT hg hm hv (pa_cons he (pa_cons (pe_tup (pa_cons hT (pa_cons hU pa_nil hs4) hs3)) pa_nil hs2) hs1) (by decide) (by decide) hs1 hpl) ?_
  rintro σ H Q ⟨H0, F0, F, Γ, z, S, e, q⟩
  unfold eIs2 at e
  obtain ⟨r, er, e⟩ := Option.bind_eq_some_iff.mp e
  by_cases ht : r.isTm = true
  · rw [if_pos ht] at e; cases e
  rw [if_neg ht] at e
  obtain ⟨a, ea, e⟩ := Option.bind_eq_some_iff.mp e
  obtain ⟨b, eb, rfl⟩ := Option.map_eq_some_iff.mp e
  refine ⟨H0, F0, F, Γ, r, S, er, fun v H1 F1 x1 r1 => ⟨by show 2 ≤ sizeLine; decide, fun t ht2 => ?_⟩⟩
  have x2 := x1.trans (Ext.newO x1.fh (.tup [.ty T.nm, .ty U.nm]) ht2)
  have r2 := r1.mono (Ext.newO x1.fh (.tup [.ty T.nm, .ty U.nm]) ht2)
  refine ⟨v, t, _, _, [.type T.nm, .type U.nm], a || b, rfl, upd_same, .cons (.ty _) (.cons (.ty _) .nil), RV.ty x2.fh r2 (isB_ins ea) (isB_rol ea) (isB_dic ea) (isB_exc ea), ?_, q _ _ F1 x2 (.bl _)⟩
  refine kitAny_cons (kit_ty (isB_kit T _ a ea)) (fun h => ?_) (fun h => by subst h; rfl)
  subst h
  refine kitAny_cons (kit_ty (isB_kit U _ b eb)) (fun h => ?_) (fun h => by subst h; rfl)
  subst h
  exact kitAny_nil
end
end BK
namespace BK
open PySem PySem.Spec L2
open PyProof.Rows (envOfC)
set_option autoImplicit false
/-! ### the other operators on ints -/
section
variable {K : PySem.W.Frag} {ca : Nat → Addr}
def oSub := oI (fun _ _ => True) fun i j => .int (i - j)
def oDiv := oI CDivB fun i j => .int (i.fdiv j)
def oMod := oI (fun _ j => j ≠ 0) fun i j => .int (i.fmod j)
def oPow := oI CPow fun i j => .int (i ^ j.toNat)
def uNeg := uI fun i => .int (-i)
theorem od_sub : OpD K ca (rI0 fun i j => .int (i - j)) oSub := od_I0 fun _ _ _ => .int _
theorem od_div : OpD K ca (rI CDivB fun i j => .int (i.fdiv j)) oDiv := od_I fun _ _ _ => .int _
theorem od_mod : OpD K ca (rI (fun _ j => j ≠ 0) fun i j => .int (i.fmod j)) oMod := od_I fun _ _ _ => .int _
theorem od_pow : OpD K ca (rI CPow fun i j => .int (i ^ j.toNat)) oPow := od_I fun _ _ _ => .int _
theorem ud_neg : UnD K ca (rU fun i => .int (-i)) uNeg := ud_I fun _ _ => .int _
end
theorem b_isinstance : bootBuiltins "isinstance" = some (.builtin "isinstance") := by decide +kernel
theorem b_len : bootBuiltins "len" = some (.builtin "len") := by decide +kernel
theorem b_sum : bootBuiltins "sum" = some (.builtin "sum") := by decide +kernel
theorem b_all : bootBuiltins "all" = some (.builtin "all") := by decide +kernel
theorem b_int : bootBuiltins "int" = some (.type "int") := by decide +kernel
theorem b_bool : bootBuiltins "bool" = some (.type "bool") := by decide +kernel
theorem b_str : bootBuiltins "str" = some (.type "str") := by decide +kernel
theorem b_list : bootBuiltins "list" = some (.type "list") := by decide +kernel
theorem b_tuple : bootBuiltins "tuple" = some (.type "tuple") := by decide +kernel
/-- a built-in type's name as a value -/
theorem pe_ty {X : Cx} {x : Str} {n : String} {pos : Pos} (hg : Gl X x) (hm : X.mg x = none) (hv : bootBuiltins x = some (.type n)) (hn : x ≠ "__name__" := by decide) (hd : (x == ("__debug__" : Str)) = false := by decide) : PE X (.Name x pos) (tC (.ty n)) := pe_bltn hg hm hv rfl hn hd
end BK
namespace BK
open PySem PySem.Spec L2
open PyProof.Rows (envOfC)
set_option autoImplicit false
theorem gE_le : ∀ ds g g', gE ds g = some g' → ds.length = 0 := fun ds g g' e => by
  cases ds with
  | nil => rfl
  | cons d ds => cases e
theorem gC_le {f : D → Gm → Option Gm} {r : List D → Gm → Option Gm} {n : Nat} (h : ∀ ds g g', r ds g = some g' → ds.length = n) : ∀ ds g g', gC f r ds g = some g' → ds.length = n + 1 := fun ds g g' e => by
  cases ds with
  | nil => cases e
  | cons d ds =>
    have e : (f d g).bind (r ds) = some g' := e
    obtain ⟨g1, e1, e2⟩ := Option.bind_eq_some_iff.mp e
    rw [List.length_cons, h _ _ _ e2]
/-! += -/
def rIAdd : TIp := fun x y H Q => ipI (fun i j => i + j) x y H Q ∨ ∃ i j, x = .str i ∧ y = .str j ∧ i.length + j.length ≤ sizeLine ∧ Q (.str (i ++ j)) H
theorem ip_addA {X : Cx} : PIp X .Add rIAdd := by
  intro pins s σ H x y v u Q I r1 r2 h
  rcases h with h | h
  · exact ip_add pins s σ H x y v u Q I r1 r2 h
  · exact iop_add_str pins s σ H x y v u Q I r1 r2 h
def oIAdd : R → R → Option R := fun a b => match a.d, b.d with
  | .int i, .int j => some (.va (.int (i + j)))
  | .str x, .str y => if x.length + y.length ≤ LIM then some (.va (.str (x ++ y))) else none
  | _, _ => none
theorem od_iadd {K : PySem.W.Frag} {ca : Nat → Addr} : OpD K ca rIAdd oIAdd := by
  intro B H0 F H v w x y z Q s rx ry e q
  unfold oIAdd at e
  split at e
  · rename_i i j h1 h2
    cases e
    cases RV.den rx h1 rfl
    cases RV.den ry h2 rfl
    exact .inl ⟨i, j, rfl, rfl, q _ H F (.refl s) (.int _)⟩
  · rename_i i j h1 h2
    split at e
    · rename_i hl
      cases e
      cases RV.den rx h1 rfl
      cases RV.den ry h2 rfl
      exact .inr ⟨i, j, rfl, rfl, by rw [lim_eq]; exact hl, q _ H F (.refl s) (.str _)⟩
    · cases e
  · cases e
end BK
namespace BK
open PySem PySem.Spec L2
set_option autoImplicit false
/-! ### how a def's function is reckoned out: rules for simp -/
def rdS (i : Nat) : Option Slot → Option R
  | some (.va d) => some (.va d)
  | some (.ow ds) => some (.bw i ds)
  | _ => none
@[simp] theorem eV_def (i : Nat) (g : Gm) : eV i g = rdS i (g[i]?) := by
  unfold eV
  cases h : g[i]? with
  | none => rfl
  | some s => cases s <;> rfl
@[simp] theorem rdS_va (i : Nat) (d : D) : rdS i (some (.va d)) = some (.va d) := rfl
@[simp] theorem rdS_ow (i : Nat) (ds : List D) : rdS i (some (.ow ds)) = some (.bw i ds) := rfl
@[simp] theorem eC_def (d : D) (g : Gm) : eC d g = some (.va d) := rfl
def b1 {α β : Type} (x : Option α) (f : α → Option β) : Option β := x.bind f
@[simp] theorem b1_some {α β : Type} (x : α) (f : α → Option β) : b1 (some x) f = f x := (rfl)
def b2 {α β γ : Type} (x : Option α) (y : Option β) (f : α → β → Option γ) : Option γ := x.bind fun x => y.bind fun y => f x y
@[simp] theorem b2_some {α β γ : Type} (x : α) (y : β) (f : α → β → Option γ) : b2 (some x) (some y) f = f x y := (rfl)
@[simp] theorem e1_def (f : R → Option R) (a : Gm → Option R) (g : Gm) : e1 f a g = b1 (a g) f := rfl
@[simp] theorem e2_def (f : R → R → Option R) (a b : Gm → Option R) (g : Gm) : e2 f a b g = b2 (a g) (b g) f := rfl
@[simp] theorem aN_def (g : Gm) : aN g = some [] := rfl
def cF (x : R) (y : List R) : Option (List R) := some (x.fz :: y)
@[simp] theorem aC_def (a : Gm → Option R) (b : Gm → Option (List R)) (g : Gm) : aC a b g = b2 (a g) (b g) cF := rfl
@[simp] theorem cF_def (x : R) (y : List R) : cF x y = some (x.fz :: y) := rfl
@[simp] theorem fz_va (d : D) : (R.va d).fz = .va d := rfl
@[simp] theorem fz_tm (ds : List D) : (R.tm ds).fz = .va (.lst ds) := rfl
@[simp] theorem fz_bw (j : Nat) (ds : List D) : (R.bw j ds).fz = .bw j ds := rfl
@[simp] theorem d_va (d : D) : (R.va d).d = d := rfl
@[simp] theorem d_tm (ds : List D) : (R.tm ds).d = .lst ds := rfl
@[simp] theorem d_bw (j : Nat) (ds : List D) : (R.bw j ds).d = .lst ds := rfl
@[simp] theorem bw_va (d : D) : (R.va d).isBw = false := rfl
@[simp] theorem bw_tm (ds : List D) : (R.tm ds).isBw = false := rfl
@[simp] theorem bw_bw (j : Nat) (ds : List D) : (R.bw j ds).isBw = true := rfl
@[simp] theorem tm_va (d : D) : (R.va d).isTm = false := rfl
@[simp] theorem tm_tm (ds : List D) : (R.tm ds).isTm = true := rfl
@[simp] theorem tm_bw (j : Nat) (ds : List D) : (R.bw j ds).isTm = false := rfl
@[simp] theorem wr_va (d : D) : (R.va d).wr = false := rfl
@[simp] theorem wr_tm (ds : List D) : (R.tm ds).wr = true := rfl
@[simp] theorem wr_bw (j : Nat) (ds : List D) : (R.bw j ds).wr = true := rfl
@[simp] theorem lf_va (d : D) : (R.va d).lf = lfn 8 d := rfl
@[simp] theorem lf_tm (ds : List D) : (R.tm ds).lf = ds.all (lfn 8) := rfl
@[simp] theorem lfn_non (n : Nat) : lfn n .non = true := by cases n <;> rfl
@[simp] theorem lfn_bl (n : Nat) (b : Bool) : lfn n (.bl b) = true := by cases n <;> rfl
@[simp] theorem lfn_int (n : Nat) (b : Int) : lfn n (.int b) = true := by cases n <;> rfl
@[simp] theorem lfn_str (n : Nat) (b : Str) : lfn n (.str b) = true := by cases n <;> rfl
@[simp] theorem lfn_tup (n : Nat) (xs : List D) : lfn (n + 1) (.tup xs) = xs.all (lfn n) := rfl
@[simp] theorem lfn_ins (n c : Nat) (xs : List D) : lfn (n + 1) (.ins c xs) = xs.all (lfn n) := rfl
@[simp] theorem eA_def (f : List R → Option R) (a : Gm → Option (List R)) (g : Gm) : eA f a g = b1 (a g) f := rfl
/-- a value of a call -/
def kR (bw : Bool) (ks : List Nat) (r : R) : Option R := if (!bw || r.lf || r.lfk ks) = true then some r else none
@[simp] theorem kR_false (ks : List Nat) (r : R) : kR false ks r = some r := rfl
@[simp] theorem kR_true (ks : List Nat) (r : R) : kR true ks r = if (r.lf || r.lfk ks) = true then some r else none := by unfold kR; simp
@[simp] theorem callR_def (φ : Phi) (dds : List D) (rs : List R) : callR φ dds rs = if (rs.any R.isTm) = true then none else b1 (φ (rs.map R.d ++ dds)) (kR (rs.any R.isBw) (lentK rs)) := rfl
@[simp] theorem eB_def (a : Gm → Option Bool) (g : Gm) : eB a g = (a g).map fun k => .va (.bl k) := rfl
def bB : R → Option Bool
  | .va (.bl k) => some k
  | _ => none
@[simp] theorem bB_bl (k : Bool) : bB (.va (.bl k)) = some k := rfl
@[simp] theorem bE_def (a : Gm → Option R) (g : Gm) : bE a g = b1 (a g) bB := by
  unfold bE b1
  cases a g with
  | none => rfl
  | some r =>
    cases r with
    | va d => cases d <;> rfl
    | _ => rfl
@[simp] theorem bNot_def (a : Gm → Option Bool) (g : Gm) : bNot a g = (a g).map (!·) := rfl
def anB (b : Gm → Option Bool) (g : Gm) (k : Bool) : Option Bool := if k = true then b g else some false
def orB (b : Gm → Option Bool) (g : Gm) (k : Bool) : Option Bool := if k = true then some true else b g
@[simp] theorem bAnd_def (a b : Gm → Option Bool) (g : Gm) : bAnd a b g = b1 (a g) (anB b g) := rfl
@[simp] theorem bOr_def (a b : Gm → Option Bool) (g : Gm) : bOr a b g = b1 (a g) (orB b g) := rfl
@[simp] theorem anB_def (b : Gm → Option Bool) (g : Gm) (k : Bool) : anB b g k = if k = true then b g else some false := rfl
@[simp] theorem orB_def (b : Gm → Option Bool) (g : Gm) (k : Bool) : orB b g k = if k = true then some true else b g := rfl
def anR (b : Gm → Option R) (g : Gm) (k : Bool) : Option R := if k = true then b g else some (.va (.bl false))
def orR (b : Gm → Option R) (g : Gm) (k : Bool) : Option R := if k = true then some (.va (.bl true)) else b g
@[simp] theorem eAnd_def (a b : Gm → Option R) (g : Gm) : eAnd a b g = b1 (bE a g) (anR b g) := rfl
@[simp] theorem eOr_def (a b : Gm → Option R) (g : Gm) : eOr a b g = b1 (bE a g) (orR b g) := rfl
@[simp] theorem anR_def (b : Gm → Option R) (g : Gm) (k : Bool) : anR b g k = if k = true then b g else some (.va (.bl false)) := rfl
@[simp] theorem orR_def (b : Gm → Option R) (g : Gm) (k : Bool) : orR b g k = if k = true then some (.va (.bl true)) else b g := rfl
@[simp] theorem eNot_def (a : Gm → Option R) (g : Gm) : eNot a g = (bE a g).map fun k => .va (.bl (!k)) := rfl
/-! statements -/
def bO (o : Option Out) (n : Gm → Option Out) : Option Out := o.bind fun o => match o with
  | .nx g' => n g'
  | .rt r => some (.rt r)
  | .bk g' => some (.bk g')
  | .ct g' => some (.ct g')
  | .ex x => some (.ex x)
@[simp] theorem sNil_def (g : Gm) : sNil g = some (.nx g) := rfl
@[simp] theorem sCons_def (m n : Gm → Option Out) (g : Gm) : sCons m n g = bO (m g) n := rfl
@[simp] theorem bO_nx (g : Gm) (n : Gm → Option Out) : bO (some (.nx g)) n = n g := rfl
@[simp] theorem bO_rt (r : R) (n : Gm → Option Out) : bO (some (.rt r)) n = some (.rt r) := rfl
@[simp] theorem bO_bk (g : Gm) (n : Gm → Option Out) : bO (some (.bk g)) n = some (.bk g) := rfl
@[simp] theorem bO_ct (g : Gm) (n : Gm → Option Out) : bO (some (.ct g)) n = some (.ct g) := rfl
@[simp] theorem bO_ex (x : Exc) (n : Gm → Option Out) : bO (some (.ex x)) n = some (.ex x) := rfl
@[simp] theorem bO_ite (c : Prop) [Decidable c] (a b : Option Out) (n : Gm → Option Out) : bO (if c then a else b) n = if c then bO a n else bO b n := by split <;> rfl
def rtO (r : R) : Option Out := some (.rt (retR r))
@[simp] theorem rtO_def (r : R) : rtO r = some (.rt (retR r)) := rfl
@[simp] theorem retR_va (d : D) : retR (.va d) = .va d := rfl
@[simp] theorem retR_tm (ds : List D) : retR (.tm ds) = .tm ds := rfl
@[simp] theorem retR_bw (j : Nat) (ds : List D) : retR (.bw j ds) = .tm ds := rfl
@[simp] theorem sRet_def (m : Gm → Option R) (g : Gm) : sRet m g = b1 (m g) rtO := by
  unfold sRet b1 rtO
  cases m g <;> rfl
@[simp] theorem sRetN_def (g : Gm) : sRetN g = some (.rt (.va .non)) := rfl
def stO (i : Nat) (g : Gm) (r : R) : Option Out := (setR g i r).map .nx
@[simp] theorem sSet_def (i : Nat) (m : Gm → Option R) (g : Gm) : sSet i m g = b1 (m g) (stO i g) := rfl
@[simp] theorem stO_va (i : Nat) (g : Gm) (d : D) : stO i g (.va d) = some (.nx (g.set i (.va d))) := rfl
@[simp] theorem stO_tm (i : Nat) (g : Gm) (ds : List D) : stO i g (.tm ds) = some (.nx (g.set i (.ow ds))) := rfl
def ifO (t u : Gm → Option Out) (g : Gm) (k : Bool) : Option Out := if k = true then t g else u g
@[simp] theorem sIf_def (c : Gm → Option Bool) (t u : Gm → Option Out) (g : Gm) : sIf c t u g = b1 (c g) (ifO t u g) := rfl
@[simp] theorem ifO_def (t u : Gm → Option Out) (g : Gm) (k : Bool) : ifO t u g k = if k = true then t g else u g := rfl
def exO (g : Gm) (r : R) : Option Out := some (.nx g)
@[simp] theorem exO_def (g : Gm) (r : R) : exO g r = some (.nx g) := rfl
@[simp] theorem sExp_def (m : Gm → Option R) (g : Gm) : sExp m g = b1 (m g) (exO g) := by
  unfold sExp b1 exO
  cases m g <;> rfl
@[simp] theorem sBk_def (g : Gm) : sBk g = some (.bk g) := rfl
@[simp] theorem sCt_def (g : Gm) : sCt g = some (.ct g) := rfl
def prO (i j : Nat) (g : Gm) (x y : R) : Option Out := match x.fz, y.fz with
  | .va d, .va e => some (.nx ((g.set i (.va d)).set j (.va e)))
  | _, _ => none
@[simp] theorem sPar_def (i j : Nat) (a b : Gm → Option R) (g : Gm) : sPar i j a b g = b2 (a g) (b g) (prO i j g) := rfl
@[simp] theorem prO_va (i j : Nat) (g : Gm) (d e : D) : prO i j g (.va d) (.va e) = some (.nx ((g.set i (.va d)).set j (.va e))) := rfl
def agO (i : Nat) (f : R → R → Option R) (g : Gm) (x y : R) : Option Out := b1 (f x y) (stO i g)
@[simp] theorem sAug_def (i : Nat) (f : R → R → Option R) (m : Gm → Option R) (g : Gm) : sAug i f m g = b2 (eV i g) (m g) (agO i f g) := rfl
@[simp] theorem agO_def (i : Nat) (f : R → R → Option R) (g : Gm) (x y : R) : agO i f g x y = b1 (f x y) (stO i g) := rfl
def asO (f : D → Gm → Option Gm) (g : Gm) (r : R) : Option Out := match r with
  | .va d => (f d g).map .nx
  | _ => none
@[simp] theorem sAsg_def (m : Gm → Option R) (f : D → Gm → Option Gm) (g : Gm) : sAsg m f g = b1 (m g) (asO f g) := rfl
@[simp] theorem asO_va (f : D → Gm → Option Gm) (g : Gm) (d : D) : asO f g (.va d) = (f d g).map .nx := rfl
@[simp] theorem gN_def (i : Nat) (d : D) (g : Gm) : gN i d g = some (g.set i (.va d)) := rfl
@[simp] theorem gE_def (g : Gm) : gE [] g = some g := rfl
@[simp] theorem gC_def (f : D → Gm → Option Gm) (r : List D → Gm → Option Gm) (d : D) (ds : List D) (g : Gm) : gC f r (d :: ds) g = b1 (f d g) (r ds) := rfl
@[simp] theorem gT_def (f : List D → Gm → Option Gm) (ds : List D) (g : Gm) : gT f (.tup ds) g = f ds g := rfl
def apO (i : Nat) (g : Gm) (ds : List D) (r : R) : Option Out := if (!r.isBw && decide (ds.length < LIM)) = true then some (.nx (g.set i (.ow (ds ++ [r.d])))) else none
def apS (i : Nat) (g : Gm) (x : Option R) : Option Slot → Option Out
  | some (.ow ds) => b1 x (apO i g ds)
  | _ => none
@[simp] theorem sApp_def (i : Nat) (m : Gm → Option R) (g : Gm) : sApp i m g = apS i g (m g) (g[i]?) := by
  unfold sApp
  cases h : g[i]? with
  | none => rfl
  | some s => cases s <;> rfl
@[simp] theorem apS_ow (i : Nat) (g : Gm) (x : Option R) (ds : List D) : apS i g x (some (.ow ds)) = b1 x (apO i g ds) := rfl
theorem apO_ok {i : Nat} {g : Gm} {ds : List D} {r : R} (h : r.isBw = false) (hl : ds.length < LIM) : apO i g ds r = some (.nx (g.set i (.ow (ds ++ [r.d])))) := by
  unfold apO
  rw [h, decide_eq_true hl]
  rfl
@[simp] theorem apO_va (i : Nat) (g : Gm) (ds : List D) (d : D) : apO i g ds (.va d) = if ds.length < LIM then some (.nx (g.set i (.ow (ds ++ [d])))) else none := by
  unfold apO
  by_cases h : ds.length < LIM <;> simp [h]
@[simp] theorem apO_tm (i : Nat) (g : Gm) (ds es : List D) : apO i g ds (.tm es) = if ds.length < LIM then some (.nx (g.set i (.ow (ds ++ [.lst es])))) else none := by
  unfold apO
  by_cases h : ds.length < LIM <;> simp [h]
def fzS (i : Nat) (m : Gm → Option Out) (g : Gm) : Option Slot → Option Out
  | some (.ow ds) => m (g.set i (.va (.lst ds)))
  | _ => m g
@[simp] theorem sFz_def (i : Nat) (m : Gm → Option Out) (g : Gm) : sFz i m g = fzS i m g (g[i]?) := by
  unfold sFz
  cases h : g[i]? with
  | none => rfl
  | some s => cases s <;> rfl
@[simp] theorem fzS_ow (i : Nat) (m : Gm → Option Out) (g : Gm) (ds : List D) : fzS i m g (some (.ow ds)) = m (g.set i (.va (.lst ds))) := rfl
@[simp] theorem fzS_va (i : Nat) (m : Gm → Option Out) (g : Gm) (d : D) : fzS i m g (some (.va d)) = m g := rfl
@[simp] theorem fzS_un (i : Nat) (m : Gm → Option Out) (g : Gm) : fzS i m g (some .un) = m g := rfl
/-! loops -/
def foO (f : D → Gm → Option Gm) (b : Gm → Option Out) (T : List Nat) (g : Gm) (p : List Nat × List D) : Option Out := if p.1.all (fun j => !T.contains j) = true then forL f b p.2 g else none
@[simp] theorem sFor_def (mi : Gm → Option (List Nat × List D)) (f : D → Gm → Option Gm) (b : Gm → Option Out) (T : List Nat) (g : Gm) : sFor mi f b T g = b1 (mi g) (foO f b T g) := rfl
@[simp] theorem foO_def (f : D → Gm → Option Gm) (b : Gm → Option Out) (T : List Nat) (g : Gm) (ps : List Nat) (ds : List D) : foO f b T g (ps, ds) = if ps.all (fun j => !T.contains j) = true then forL f b ds g else none := rfl
@[simp] theorem iA_def (f : List R → Option (List Nat × List D)) (ms : Gm → Option (List R)) (g : Gm) : iA f ms g = b1 (ms g) f := (rfl)
@[simp] theorem iSeq_def (m : Gm → Option R) (g : Gm) : iSeq m g = b1 (m g) seqR := (rfl)
/-- one turn of a for -/
def fL (f : D → Gm → Option Gm) (b : Gm → Option Out) (ds : List D) (o : Option Out) : Option Out := o.bind fun o => match o with
  | .nx g2 => forL f b ds g2
  | .ct g2 => forL f b ds g2
  | .bk g2 => some (.nx g2)
  | .rt r => some (.rt r)
  | .ex x => some (.ex x)
@[simp] theorem forL_nil (f : D → Gm → Option Gm) (b : Gm → Option Out) (g : Gm) : forL f b [] g = some (.nx g) := rfl
theorem forL_cons (f : D → Gm → Option Gm) (b : Gm → Option Out) (d : D) (ds : List D) (g : Gm) : forL f b (d :: ds) g = fL f b ds (b1 (f d g) b) := by
  unfold fL b1
  show (f d g).bind _ = _
  cases f d g <;> rfl
@[simp] theorem fL_nx (f : D → Gm → Option Gm) (b : Gm → Option Out) (ds : List D) (g : Gm) : fL f b ds (some (.nx g)) = forL f b ds g := rfl
@[simp] theorem fL_ct (f : D → Gm → Option Gm) (b : Gm → Option Out) (ds : List D) (g : Gm) : fL f b ds (some (.ct g)) = forL f b ds g := rfl
@[simp] theorem fL_bk (f : D → Gm → Option Gm) (b : Gm → Option Out) (ds : List D) (g : Gm) : fL f b ds (some (.bk g)) = some (.nx g) := rfl
@[simp] theorem fL_rt (f : D → Gm → Option Gm) (b : Gm → Option Out) (ds : List D) (r : R) : fL f b ds (some (.rt r)) = some (.rt r) := rfl
@[simp] theorem fL_ex (f : D → Gm → Option Gm) (b : Gm → Option Out) (ds : List D) (x : Exc) : fL f b ds (some (.ex x)) = some (.ex x) := rfl
@[simp] theorem fL_ite (f : D → Gm → Option Gm) (b : Gm → Option Out) (ds : List D) (c : Prop) [Decidable c] (x y : Option Out) : fL f b ds (if c then x else y) = if c then fL f b ds x else fL f b ds y := by split <;> rfl
def wL (c : Gm → Option Bool) (b : Gm → Option Out) (n : Nat) (o : Option Out) : Option Out := o.bind fun o => match o with
  | .nx g' => sWh c b n g'
  | .ct g' => sWh c b n g'
  | .bk g' => some (.nx g')
  | .rt r => some (.rt r)
  | .ex x => some (.ex x)
def whK (c : Gm → Option Bool) (b : Gm → Option Out) (n : Nat) (g : Gm) (k : Bool) : Option Out := if k = true then wL c b n (b g) else some (.nx g)
@[simp] theorem whK_def (c : Gm → Option Bool) (b : Gm → Option Out) (n : Nat) (g : Gm) (k : Bool) : whK c b n g k = if k = true then wL c b n (b g) else some (.nx g) := rfl
@[simp] theorem wL_nx (c : Gm → Option Bool) (b : Gm → Option Out) (n : Nat) (g : Gm) : wL c b n (some (.nx g)) = sWh c b n g := rfl
@[simp] theorem wL_ct (c : Gm → Option Bool) (b : Gm → Option Out) (n : Nat) (g : Gm) : wL c b n (some (.ct g)) = sWh c b n g := rfl
@[simp] theorem wL_bk (c : Gm → Option Bool) (b : Gm → Option Out) (n : Nat) (g : Gm) : wL c b n (some (.bk g)) = some (.nx g) := rfl
@[simp] theorem wL_rt (c : Gm → Option Bool) (b : Gm → Option Out) (n : Nat) (r : R) : wL c b n (some (.rt r)) = some (.rt r) := rfl
@[simp] theorem wL_ex (c : Gm → Option Bool) (b : Gm → Option Out) (n : Nat) (x : Exc) : wL c b n (some (.ex x)) = some (.ex x) := rfl
@[simp] theorem wL_ite (c : Gm → Option Bool) (b : Gm → Option Out) (n : Nat) (p : Prop) [Decidable p] (x y : Option Out) : wL c b n (if p then x else y) = if p then wL c b n x else wL c b n y := by split <;> rfl
/-! comprehensions -/
def lcO (f : D → Gm → Option Gm) (c : Gm → Option Bool) (el : Gm → Option R) (g : Gm) (p : List Nat × List D) : Option R := if p.2.length ≤ LIM then (compL f c el g p.2).map .tm else none
@[simp] theorem eLc_def (mi : Gm → Option (List Nat × List D)) (f : D → Gm → Option Gm) (c : Gm → Option Bool) (el : Gm → Option R) (own : List Nat) (g : Gm) : eLc mi f c el own g = b1 (mi g) (lcO f c el (wipeG g own)) := rfl
@[simp] theorem lcO_def (f : D → Gm → Option Gm) (c : Gm → Option Bool) (el : Gm → Option R) (g : Gm) (ps : List Nat) (ds : List D) : lcO f c el g (ps, ds) = if ds.length ≤ LIM then (compL f c el g ds).map .tm else none := rfl
@[simp] theorem bY_def (g : Gm) : bY g = some true := rfl
@[simp] theorem compL_nil (f : D → Gm → Option Gm) (c : Gm → Option Bool) (el : Gm → Option R) (g : Gm) : compL f c el g [] = some [] := rfl
def cpR (rest : Option (List D)) (r : R) : Option (List D) := if r.isBw = true then none else rest.map (r.d :: ·)
def cpK (el : Gm → Option R) (rest : Option (List D)) (g1 : Gm) (k : Bool) : Option (List D) := if k = true then b1 (el g1) (cpR rest) else rest
def cpG (c : Gm → Option Bool) (el : Gm → Option R) (rest : Option (List D)) (g1 : Gm) : Option (List D) := b1 (c g1) (cpK el rest g1)
theorem compL_cons (f : D → Gm → Option Gm) (c : Gm → Option Bool) (el : Gm → Option R) (g : Gm) (d : D) (ds : List D) : compL f c el g (d :: ds) = b1 (f d g) (cpG c el (compL f c el g ds)) := rfl
@[simp] theorem cpG_def (c : Gm → Option Bool) (el : Gm → Option R) (rest : Option (List D)) (g1 : Gm) : cpG c el rest g1 = b1 (c g1) (cpK el rest g1) := rfl
@[simp] theorem cpK_def (el : Gm → Option R) (rest : Option (List D)) (g1 : Gm) (k : Bool) : cpK el rest g1 k = if k = true then b1 (el g1) (cpR rest) else rest := rfl
@[simp] theorem cpR_va (rest : Option (List D)) (d : D) : cpR rest (.va d) = rest.map (d :: ·) := rfl
@[simp] theorem cpR_tm (rest : Option (List D)) (ds : List D) : cpR rest (.tm ds) = rest.map (.lst ds :: ·) := rfl
@[simp] theorem wipeG_nil (g : Gm) : wipeG g [] = g := rfl
@[simp] theorem wipeG_cons (g : Gm) (v : Nat) (vs : List Nat) : wipeG g (v :: vs) = (wipeG g vs).set v .un := rfl
/-- a comprehension whose elements are known -/
theorem compL_map {α : Type} (f : D → Gm → Option Gm) (c : Gm → Option Bool) (el : Gm → Option R) (g : Gm) (enc : α → D) (out : α → D) : ∀ (xs : List α), (∀ x ∈ xs, ∀ rest : List D, b1 (f (enc x) g) (cpG c el (some rest)) = some (out x :: rest)) → compL f c el g (xs.map enc) = some (xs.map out)
  | [], _ => rfl
  | x :: xs, h => by
    rw [List.map_cons, compL_cons, compL_map f c el g enc out xs fun y hy => h y (List.mem_cons_of_mem _ hy), h x List.mem_cons_self]
    rfl
/-- .. with a test -/
theorem compL_filter {α : Type} (f : D → Gm → Option Gm) (c : Gm → Option Bool) (el : Gm → Option R) (g : Gm) (enc : α → D) (out : α → D) (p : α → Bool) : ∀ (xs : List α), (∀ x ∈ xs, ∀ rest : List D, b1 (f (enc x) g) (cpG c el (some rest)) = some (if p x = true then out x :: rest else rest)) → compL f c el g (xs.map enc) = some ((xs.filter p).map out)
  | [], _ => rfl
  | x :: xs, h => by
    rw [List.map_cons, compL_cons, compL_filter f c el g enc out p xs fun y hy => h y (List.mem_cons_of_mem _ hy), h x List.mem_cons_self]
    by_cases e : p x = true
    · rw [if_pos e, List.filter_cons_of_pos e]; rfl
    · rw [if_neg e, List.filter_cons_of_neg e]
/-! operators -/
@[simp] theorem oI_def (C : Int → Int → Prop) [∀ i j, Decidable (C i j)] (h : Int → Int → D) (i j : Int) : oI C h (.va (.int i)) (.va (.int j)) = if C i j then some (.va (h i j)) else none := rfl
@[simp] theorem uI_def (h : Int → D) (i : Int) : uI h (.va (.int i)) = some (.va (h i)) := rfl
@[simp] theorem uNeg_def (i : Int) : uNeg (.va (.int i)) = some (.va (.int (-i))) := rfl
@[simp] theorem oAdd_int (i j : Int) : oAdd (.va (.int i)) (.va (.int j)) = some (.va (.int (i + j))) := rfl
@[simp] theorem oIAdd_int (i j : Int) : oIAdd (.va (.int i)) (.va (.int j)) = some (.va (.int (i + j))) := rfl
@[simp] theorem oIAdd_str (i j : Str) : oIAdd (.va (.str i)) (.va (.str j)) = if i.length + j.length ≤ LIM then some (.va (.str (i ++ j))) else none := rfl
@[simp] theorem oAdd_str (i j : Str) : oAdd (.va (.str i)) (.va (.str j)) = if i.length + j.length ≤ LIM then some (.va (.str (i ++ j))) else none := rfl
@[simp] theorem oAdd_tup (i j : List D) : oAdd (.va (.tup i)) (.va (.tup j)) = if i.length + j.length ≤ LIM then some (.va (.tup (i ++ j))) else none := rfl
theorem oAdd_lst {a b : R} {i j : List D} (ha : a.d = .lst i) (hb : b.d = .lst j) : oAdd a b = if i.length + j.length ≤ LIM then some (.tm (i ++ j)) else none := by
  unfold oAdd
  rw [ha, hb]
@[simp] theorem oAdd_tmtm (i j : List D) : oAdd (.tm i) (.tm j) = if i.length + j.length ≤ LIM then some (.tm (i ++ j)) else none := rfl
@[simp] theorem oAdd_bwtm (k : Nat) (i j : List D) : oAdd (.bw k i) (.tm j) = if i.length + j.length ≤ LIM then some (.tm (i ++ j)) else none := rfl
@[simp] theorem oAdd_tmbw (k : Nat) (i j : List D) : oAdd (.tm i) (.bw k j) = if i.length + j.length ≤ LIM then some (.tm (i ++ j)) else none := rfl
@[simp] theorem oAdd_bwbw (k l : Nat) (i j : List D) : oAdd (.bw k i) (.bw l j) = if i.length + j.length ≤ LIM then some (.tm (i ++ j)) else none := rfl
@[simp] theorem oAdd_vatm (i j : List D) : oAdd (.va (.lst i)) (.tm j) = if i.length + j.length ≤ LIM then some (.tm (i ++ j)) else none := rfl
@[simp] theorem oAdd_tmva (i j : List D) : oAdd (.tm i) (.va (.lst j)) = if i.length + j.length ≤ LIM then some (.tm (i ++ j)) else none := rfl
@[simp] theorem oAdd_vava (i j : List D) : oAdd (.va (.lst i)) (.va (.lst j)) = if i.length + j.length ≤ LIM then some (.tm (i ++ j)) else none := rfl
@[simp] theorem oAdd_bwva (k : Nat) (i j : List D) : oAdd (.bw k i) (.va (.lst j)) = if i.length + j.length ≤ LIM then some (.tm (i ++ j)) else none := rfl
@[simp] theorem oAdd_vabw (k : Nat) (i j : List D) : oAdd (.va (.lst i)) (.bw k j) = if i.length + j.length ≤ LIM then some (.tm (i ++ j)) else none := rfl
@[simp] theorem oSub_def (i j : Int) : oSub (.va (.int i)) (.va (.int j)) = some (.va (.int (i - j))) := rfl
@[simp] theorem oDiv_def (i j : Int) : oDiv (.va (.int i)) (.va (.int j)) = if CDivB i j then some (.va (.int (i.fdiv j))) else none := rfl
@[simp] theorem oMod_def (i j : Int) : oMod (.va (.int i)) (.va (.int j)) = if j ≠ 0 then some (.va (.int (i.fmod j))) else none := rfl
@[simp] theorem oPow_def (i j : Int) : oPow (.va (.int i)) (.va (.int j)) = if CPow i j then some (.va (.int (i ^ j.toNat))) else none := rfl
@[simp] theorem oMulA_int (i j : Int) : oMulA (.va (.int i)) (.va (.int j)) = if CMulB i j then some (.va (.int (i * j))) else none := rfl
@[simp] theorem oMulA_str (i : Str) (j : Int) : oMulA (.va (.str i)) (.va (.int j)) = if -(2 ^ 63) ≤ j ∧ j < 2 ^ 63 ∧ i.length * j.toNat ≤ LIM then some (.va (.str (strRep i j))) else none := rfl
@[simp] theorem oMulA_lst (i : List D) (j : Int) : oMulA (.tm i) (.va (.int j)) = if -(2 ^ 63) ≤ j ∧ j < 2 ^ 63 ∧ i.length * j.toNat ≤ LIM then some (.tm (List.replicate j.toNat i).flatten) else none := rfl
@[simp] theorem oLt_def (i j : Int) : oLt (.va (.int i)) (.va (.int j)) = some (.va (.bl (decide (i < j)))) := rfl
@[simp] theorem oGt_def (i j : Int) : oGt (.va (.int i)) (.va (.int j)) = some (.va (.bl (decide (j < i)))) := rfl
@[simp] theorem oEq_int (i j : Int) : oEq (.va (.int i)) (.va (.int j)) = some (.va (.bl (decide (i = j)))) := by
  show some (R.va (.bl (i == j))) = _
  rw [Bool.beq_eq_decide_eq]
@[simp] theorem oNe_int (i j : Int) : oNe (.va (.int i)) (.va (.int j)) = some (.va (.bl (!decide (i = j)))) := by
  show some (R.va (.bl (!(i == j)))) = _
  rw [Bool.beq_eq_decide_eq]
@[simp] theorem oEq_str (i j : Str) : oEq (.va (.str i)) (.va (.str j)) = some (.va (.bl (decide (i = j)))) := rfl
@[simp] theorem oNe_str (i j : Str) : oNe (.va (.str i)) (.va (.str j)) = some (.va (.bl (!decide (i = j)))) := rfl
@[simp] theorem oEq_bl (i j : Bool) : oEq (.va (.bl i)) (.va (.bl j)) = some (.va (.bl (i == j))) := rfl
@[simp] theorem oNe_bl (i j : Bool) : oNe (.va (.bl i)) (.va (.bl j)) = some (.va (.bl (!(i == j)))) := rfl
@[simp] theorem oEq_tup (i j : List D) : oEq (.va (.tup i)) (.va (.tup j)) = if (i.all (okn 7) && j.all (okn 7)) = true then some (.va (.bl (eqL (eqn 7) i j))) else none := by
  show (if (i.all (okn 7) && j.all (okn 7)) = true then some (eqL (eqn 7) i j) else none).map _ = _
  split <;> rfl
@[simp] theorem oNe_tup (i j : List D) : oNe (.va (.tup i)) (.va (.tup j)) = if (i.all (okn 7) && j.all (okn 7)) = true then some (.va (.bl (!eqL (eqn 7) i j))) else none := by
  show (if (i.all (okn 7) && j.all (okn 7)) = true then some (eqL (eqn 7) i j) else none).map _ = _
  split <;> rfl
@[simp] theorem okn_non (n : Nat) : okn n .non = true := by cases n <;> rfl
@[simp] theorem okn_bl (n : Nat) (b : Bool) : okn n (.bl b) = true := by cases n <;> rfl
@[simp] theorem okn_int (n : Nat) (b : Int) : okn n (.int b) = true := by cases n <;> rfl
@[simp] theorem okn_str (n : Nat) (b : Str) : okn n (.str b) = PyData.strOk b := by cases n <;> rfl
@[simp] theorem okn_tup (n : Nat) (xs : List D) : okn (n + 1) (.tup xs) = xs.all (okn n) := rfl
@[simp] theorem okn_lst (n : Nat) (xs : List D) : okn (n + 1) (.lst xs) = xs.all (okn n) := rfl
@[simp] theorem eqn_int (n : Nat) (i j : Int) : eqn n (.int i) (.int j) = decide (i = j) := by cases n <;> exact Bool.beq_eq_decide_eq _ _
@[simp] theorem eqn_bl (n : Nat) (i j : Bool) : eqn n (.bl i) (.bl j) = (i == j) := by cases n <;> rfl
@[simp] theorem eqn_str (n : Nat) (i j : Str) : eqn n (.str i) (.str j) = decide (i = j) := by cases n <;> exact Bool.beq_eq_decide_eq _ _
@[simp] theorem eqn_non (n : Nat) : eqn n .non .non = true := by cases n <;> rfl
@[simp] theorem eqn_tup (n : Nat) (i j : List D) : eqn (n + 1) (.tup i) (.tup j) = eqL (eqn n) i j := rfl
@[simp] theorem eqn_lst (n : Nat) (i j : List D) : eqn (n + 1) (.lst i) (.lst j) = eqL (eqn n) i j := rfl
@[simp] theorem eqL_nil (f : D → D → Bool) : eqL f [] [] = true := rfl
@[simp] theorem eqL_cons (f : D → D → Bool) (x y : D) (xs ys : List D) : eqL f (x :: xs) (y :: ys) = (f x y && eqL f xs ys) := rfl
@[simp] theorem eqL_nc (f : D → D → Bool) (y : D) (ys : List D) : eqL f [] (y :: ys) = false := rfl
@[simp] theorem eqL_cn (f : D → D → Bool) (y : D) (ys : List D) : eqL f (y :: ys) [] = false := rfl
theorem all_map {α β : Type} (f : β → Bool) (g : α → β) (xs : List α) (h : ∀ x ∈ xs, f (g x) = true) : (xs.map g).all f = true := by
  rw [List.all_eq_true]
  intro y hy
  obtain ⟨x, hx, rfl⟩ := List.mem_map.mp hy
  exact h x hx
@[simp] theorem oIs_bl (r : R) (k : Bool) : oIs r (.va (.bl k)) = some (.va (.bl (r.d.isBl k))) := rfl
@[simp] theorem isBl_bl (k b : Bool) : D.isBl k (.bl b) = (b == k) := rfl
@[simp] theorem isBl_non (k : Bool) : D.isBl k .non = false := rfl
@[simp] theorem isBl_int (k : Bool) (i : Int) : D.isBl k (.int i) = false := rfl
@[simp] theorem isBl_str (k : Bool) (i : Str) : D.isBl k (.str i) = false := rfl
@[simp] theorem isBl_lst (k : Bool) (i : List D) : D.isBl k (.lst i) = false := rfl
@[simp] theorem isBl_tup (k : Bool) (i : List D) : D.isBl k (.tup i) = false := rfl
@[simp] theorem isBl_ins (k : Bool) (c : Nat) (i : List D) : D.isBl k (.ins c i) = false := rfl
@[simp] theorem oIs_def (r : R) : oIs r (.va .non) = some (.va (.bl r.d.isNon)) := rfl
@[simp] theorem oIsN_def (r : R) : oIsN r (.va .non) = some (.va (.bl (!r.d.isNon))) := rfl
@[simp] theorem isNon_non : D.isNon .non = true := rfl
@[simp] theorem isNon_int (i : Int) : D.isNon (.int i) = false := rfl
@[simp] theorem isNon_bl (i : Bool) : D.isNon (.bl i) = false := rfl
@[simp] theorem isNon_str (i : Str) : D.isNon (.str i) = false := rfl
@[simp] theorem isNon_tup (i : List D) : D.isNon (.tup i) = false := rfl
@[simp] theorem isNon_lst (i : List D) : D.isNon (.lst i) = false := rfl
@[simp] theorem isNon_ins (c : Nat) (i : List D) : D.isNon (.ins c i) = false := rfl
theorem oIx_lst {a : R} {xs : List D} {i : Int} (h : a.d = .lst xs) : oIx a (.va (.int i)) = (atI xs i).map .va := by
  unfold oIx
  rw [h]
  rfl
@[simp] theorem oIx_vlst (xs : List D) (i : Int) : oIx (.va (.lst xs)) (.va (.int i)) = (atI xs i).map .va := rfl
@[simp] theorem oIx_tm (xs : List D) (i : Int) : oIx (.tm xs) (.va (.int i)) = (atI xs i).map .va := rfl
@[simp] theorem oIx_bw (j : Nat) (xs : List D) (i : Int) : oIx (.bw j xs) (.va (.int i)) = (atI xs i).map .va := rfl
@[simp] theorem oIx_tup (xs : List D) (i : Int) : oIx (.va (.tup xs)) (.va (.int i)) = (atI xs i).map .va := rfl
@[simp] theorem oIx_rol (xs : List D) (i : Int) : oIx (.va (.rol xs)) (.va (.int i)) = (atI xs i).map .va := rfl
@[simp] theorem oIx_str (z : Str) (i : Int) : oIx (.va (.str z)) (.va (.int i)) = if z.length ≤ LIM then (atI z.cps.toList i).map fun c => .va (.str ⟨#[c]⟩) else none := rfl
theorem atI_ofNat {α : Type} (xs : List α) (k : Nat) : atI xs (k : Int) = xs[k]? := by
  unfold atI ixN
  rw [if_pos (by omega)]
  by_cases h : (k : Int) < (xs.length : Int)
  · rw [if_pos h]
    simp
  · rw [if_neg h]
    have : xs.length ≤ k := by omega
    rw [List.getElem?_eq_none this]
    rfl
@[simp] theorem atI_zero {α : Type} (x : α) (xs : List α) : atI (x :: xs) 0 = some x := by
  have := atI_ofNat (x :: xs) 0
  simpa using this
@[simp] theorem atI_one {α : Type} (x y : α) (xs : List α) : atI (x :: y :: xs) 1 = some y := by
  have := atI_ofNat (x :: y :: xs) 1
  simpa using this
@[simp] theorem atI_two {α : Type} (x y z : α) (xs : List α) : atI (x :: y :: z :: xs) 2 = some z := by
  have := atI_ofNat (x :: y :: z :: xs) 2
  simpa using this
@[simp] theorem atI_three {α : Type} (x y z u : α) (xs : List α) : atI (x :: y :: z :: u :: xs) 3 = some u := by
  have := atI_ofNat (x :: y :: z :: u :: xs) 3
  simpa using this
@[simp] theorem atI_four {α : Type} (x y z u v : α) (xs : List α) : atI (x :: y :: z :: u :: v :: xs) 4 = some v := by
  have := atI_ofNat (x :: y :: z :: u :: v :: xs) 4
  simpa using this
theorem atI_map {α β : Type} (f : α → β) (xs : List α) (i : Int) : atI (xs.map f) i = (atI xs i).map f := by
  unfold atI
  rw [List.length_map]
  cases ixN xs.length i with
  | none => rfl
  | some j => simp
/-- an item of a written list at a remainder -/
theorem atI_lt {α : Type} (xs : List α) (i : Int) (h0 : 0 ≤ i) (h1 : i < xs.length) : ∃ x ∈ xs, atI xs i = some x := by
  obtain ⟨k, rfl⟩ := Int.eq_ofNat_of_zero_le h0
  have hk : k < xs.length := by omega
  exact ⟨xs[k], List.getElem_mem hk, by rw [atI_ofNat, List.getElem?_eq_getElem hk]⟩
@[simp] theorem oTup_def (rs : List R) : oTup rs = if (rs.all (fun r => !r.wr) && decide (rs.length ≤ LIM)) = true then some (.va (.tup (rs.map R.d))) else none := rfl
@[simp] theorem oLst_def (rs : List R) : oLst rs = if (rs.all (fun r => !r.wr) && decide (rs.length ≤ LIM)) = true then some (.tm (rs.map R.d)) else none := rfl
@[simp] theorem cLen_vlst (ds : List D) : cLen [.va (.lst ds)] = some (.va (.int ds.length)) := rfl
@[simp] theorem cLen_tm (ds : List D) : cLen [.tm ds] = some (.va (.int ds.length)) := rfl
@[simp] theorem cLen_bw (j : Nat) (ds : List D) : cLen [.bw j ds] = some (.va (.int ds.length)) := rfl
@[simp] theorem cLen_tup (ds : List D) : cLen [.va (.tup ds)] = some (.va (.int ds.length)) := rfl
@[simp] theorem cLen_rol (ds : List D) : cLen [.va (.rol ds)] = some (.va (.int ds.length)) := rfl
@[simp] theorem cLen_str (z : Str) : cLen [.va (.str z)] = if z.length ≤ LIM then some (.va (.int z.length)) else none := rfl
@[simp] theorem cInt_int (i : Int) : cInt [.va (.int i)] = some (.va (.int i)) := rfl
@[simp] theorem cInt_bl (i : Bool) : cInt [.va (.bl i)] = some (.va (.int (if i then 1 else 0))) := rfl
@[simp] theorem cInt_str (a : Str) : cInt [.va (.str a)] = if a.length ≤ 640 then (PySem.intText? a).map fun n => .va (.int n) else none := rfl
@[simp] theorem c1_def (f : R → Option R) (r : R) : c1 f [r] = f r := rfl
theorem cSum_def {r : R} {ns : List Int} (h : r.d = .lst (ns.map D.int)) : cSum [r] = some (.va (.int ns.sum)) := by
  show ((lstD r.d).bind intsOf).map _ = _
  rw [h]
  show (intsOf (ns.map D.int)).map _ = _
  rw [intsOf_map]
  rfl
theorem cAll_def {r : R} {ns : List Bool} (h : r.d = .lst (ns.map D.bl)) : cAll [r] = some (.va (.bl (ns.all id))) := by
  show ((lstD r.d).bind blsOf).map _ = _
  rw [h]
  show (blsOf (ns.map D.bl)).map _ = _
  rw [blsOf_map]
  rfl
@[simp] theorem cList_vlst (ds : List D) : cList [.va (.lst ds)] = some (.tm ds) := rfl
@[simp] theorem cList_tup (ds : List D) : cList [.va (.tup ds)] = some (.tm ds) := rfl
@[simp] theorem cList_bw (j : Nat) (ds : List D) : cList [.bw j ds] = some (.tm ds) := rfl
@[simp] theorem cTuple_vlst (ds : List D) : cTuple [.va (.lst ds)] = some (.va (.tup ds)) := rfl
@[simp] theorem cTuple_tup (ds : List D) : cTuple [.va (.tup ds)] = some (.va (.tup ds)) := rfl
@[simp] theorem cTuple_bw (j : Nat) (ds : List D) : cTuple [.bw j ds] = some (.va (.tup ds)) := rfl
def isO (T : BTy) (r : R) : Option R := if r.isTm = true then none else (isB T r.d).map fun b => .va (.bl b)
@[simp] theorem eIs_def (T : BTy) (m : Gm → Option R) (g : Gm) : eIs T m g = b1 (m g) (isO T) := rfl
@[simp] theorem isO_def (T : BTy) (r : R) : isO T r = if r.isTm = true then none else (isB T r.d).map fun b => .va (.bl b) := rfl
def isO2 (T U : BTy) (r : R) : Option R := if r.isTm = true then none else b2 (isB T r.d) (isB U r.d) fun a b => some (.va (.bl (a || b)))
@[simp] theorem eIs2_def (T U : BTy) (m : Gm → Option R) (g : Gm) : eIs2 T U m g = b1 (m g) (isO2 T U) := by
  unfold eIs2 b1 isO2
  cases m g with
  | none => rfl
  | some r =>
    show (if r.isTm = true then none else _) = (if r.isTm = true then none else _)
    split
    · rfl
    · unfold b2
      cases isB T r.d with
      | none => rfl
      | some a => cases isB U r.d <;> rfl
@[simp] theorem isO2_def (T U : BTy) (r : R) : isO2 T U r = if r.isTm = true then none else b2 (isB T r.d) (isB U r.d) fun a b => some (.va (.bl (a || b))) := rfl
@[simp] theorem isB_int_int (i : Int) : isB .int (.int i) = some true := rfl
@[simp] theorem isB_int_bl (i : Bool) : isB .int (.bl i) = some true := rfl
@[simp] theorem isB_int_non : isB .int .non = some false := rfl
@[simp] theorem isB_int_str (i : Str) : isB .int (.str i) = some false := rfl
@[simp] theorem isB_int_tup (i : List D) : isB .int (.tup i) = some false := rfl
@[simp] theorem isB_int_lst (i : List D) : isB .int (.lst i) = some false := rfl
@[simp] theorem isB_bool_int (i : Int) : isB .bool (.int i) = some false := rfl
@[simp] theorem isB_bool_bl (i : Bool) : isB .bool (.bl i) = some true := rfl
@[simp] theorem isB_bool_non : isB .bool .non = some false := rfl
@[simp] theorem isB_bool_str (i : Str) : isB .bool (.str i) = some false := rfl
@[simp] theorem isB_bool_tup (i : List D) : isB .bool (.tup i) = some false := rfl
@[simp] theorem isB_bool_lst (i : List D) : isB .bool (.lst i) = some false := rfl
@[simp] theorem isB_str_int (i : Int) : isB .str (.int i) = some false := rfl
@[simp] theorem isB_str_bl (i : Bool) : isB .str (.bl i) = some false := rfl
@[simp] theorem isB_str_non : isB .str .non = some false := rfl
@[simp] theorem isB_str_str (i : Str) : isB .str (.str i) = some true := rfl
@[simp] theorem isB_str_tup (i : List D) : isB .str (.tup i) = some false := rfl
@[simp] theorem isB_str_lst (i : List D) : isB .str (.lst i) = some false := rfl
@[simp] theorem isB_list_int (i : Int) : isB .list (.int i) = some false := rfl
@[simp] theorem isB_list_bl (i : Bool) : isB .list (.bl i) = some false := rfl
@[simp] theorem isB_list_non : isB .list .non = some false := rfl
@[simp] theorem isB_list_str (i : Str) : isB .list (.str i) = some false := rfl
@[simp] theorem isB_list_tup (i : List D) : isB .list (.tup i) = some false := rfl
@[simp] theorem isB_list_lst (i : List D) : isB .list (.lst i) = some true := rfl
@[simp] theorem isB_tuple_int (i : Int) : isB .tuple (.int i) = some false := rfl
@[simp] theorem isB_tuple_bl (i : Bool) : isB .tuple (.bl i) = some false := rfl
@[simp] theorem isB_tuple_non : isB .tuple .non = some false := rfl
@[simp] theorem isB_tuple_str (i : Str) : isB .tuple (.str i) = some false := rfl
@[simp] theorem isB_tuple_tup (i : List D) : isB .tuple (.tup i) = some true := rfl
@[simp] theorem isB_tuple_lst (i : List D) : isB .tuple (.lst i) = some false := rfl
@[simp] theorem listR_bw (j : Nat) (ds : List D) : listR (.bw j ds) = some ([j], ds) := rfl
@[simp] theorem listR_tm (ds : List D) : listR (.tm ds) = some ([], ds) := rfl
@[simp] theorem listR_va (ds : List D) : listR (.va (.lst ds)) = some ([], ds) := rfl
@[simp] theorem seqR_bw (j : Nat) (ds : List D) : seqR (.bw j ds) = some ([j], ds) := rfl
@[simp] theorem seqR_tm (ds : List D) : seqR (.tm ds) = some ([], ds) := rfl
@[simp] theorem seqR_va (ds : List D) : seqR (.va (.lst ds)) = some ([], ds) := rfl
@[simp] theorem seqR_rol (ds : List D) : seqR (.va (.rol ds)) = some ([], ds) := rfl
@[simp] theorem seqR_tup (ds : List D) : seqR (.va (.tup ds)) = some ([], ds) := rfl
@[simp] theorem seqR_str (z : Str) : seqR (.va (.str z)) = some ([], signs z) := rfl
@[simp] theorem listA_bw (j : Nat) (ds : List D) : listA (.bw j ds) = some ([j], ds) := rfl
@[simp] theorem listA_va (ds : List D) : listA (.va (.lst ds)) = some ([], ds) := rfl
@[simp] theorem listA_rol (ds : List D) : listA (.va (.rol ds)) = some ([], ds) := rfl
theorem rg1R_def (j : Int) : rg1R [.va (.int j)] = if -(2 ^ 62) ≤ j ∧ j < 2 ^ 62 then some ([], rangeL 0 j.toNat) else none := rfl
@[simp] theorem enR_def (r : R) : enR [r] = (listA r).map fun p => (p.1, enumL 0 p.2) := rfl
@[simp] theorem zpR_tt (xs ys : List D) : zpR [.va (.tup xs), .va (.tup ys)] = some ([], zipL xs ys) := rfl
@[simp] theorem zpR_ll (xs ys : List D) : zpR [.va (.lst xs), .va (.lst ys)] = some ([], zipL xs ys) := rfl
@[simp] theorem zpR_bl (j : Nat) (xs ys : List D) : zpR [.bw j xs, .va (.lst ys)] = some ([j], zipL xs ys) := rfl
@[simp] theorem zpR_lb (j : Nat) (xs ys : List D) : zpR [.va (.lst xs), .bw j ys] = some ([j], zipL xs ys) := rfl
@[simp] theorem zpR_bb (i j : Nat) (xs ys : List D) : zpR [.bw i xs, .bw j ys] = some ([i, j], zipL xs ys) := rfl
@[simp] theorem rvR_def (r : R) : rvR [r] = (listA r).map fun p => (p.1, p.2.reverse) := rfl
@[simp] theorem eSl_def (m : Gm → Option R) (l h : Gm → Option (Option Int)) (g : Gm) : eSl m l h g = b1 (m g) fun a => b2 (l g) (h g) (oSl a) := rfl
@[simp] theorem pN_def (g : Gm) : pN g = some none := rfl
def pI : R → Option (Option Int)
  | .va (.int i) => some (some i)
  | _ => none
@[simp] theorem pI_def (i : Int) : pI (.va (.int i)) = some (some i) := rfl
@[simp] theorem pS_def (m : Gm → Option R) (g : Gm) : pS m g = b1 (m g) pI := by
  unfold pS b1
  cases m g with
  | none => rfl
  | some r =>
    cases r with
    | va d => cases d <;> rfl
    | _ => rfl
@[simp] theorem oSl_vlst (xs : List D) (lo hi : Option Int) : oSl (.va (.lst xs)) lo hi = some (.tm (cutL xs lo hi)) := rfl
@[simp] theorem oSl_tm (xs : List D) (lo hi : Option Int) : oSl (.tm xs) lo hi = some (.tm (cutL xs lo hi)) := rfl
@[simp] theorem oSl_bw (j : Nat) (xs : List D) (lo hi : Option Int) : oSl (.bw j xs) lo hi = some (.tm (cutL xs lo hi)) := rfl
@[simp] theorem oSl_tup (xs : List D) (lo hi : Option Int) : oSl (.va (.tup xs)) lo hi = some (.va (.tup (cutL xs lo hi))) := rfl
@[simp] theorem oSl_rol (xs : List D) (lo hi : Option Int) : oSl (.va (.rol xs)) lo hi = some (.tm (cutL xs lo hi)) := rfl
@[simp] theorem oSl_str (z : Str) (lo hi : Option Int) : oSl (.va (.str z)) lo hi = if z.length ≤ LIM then some (.va (.str (cutS z lo hi))) else none := rfl
/-- the end of a def -/
def fnR : Option Out → Option R
  | some (.rt r) => some (retR r)
  | some (.nx _) => some (.va .non)
  | _ => none
theorem phi_def (m : Gm → Option Out) (N n : Nat) (ds : List D) : phi m N n ds = if ds.length = n then fnR (m (ds.map Slot.va ++ List.replicate (N - n) Slot.un)) else none := by
  unfold phi
  by_cases h : ds.length = n
  · rw [if_pos h, if_pos h]
    cases m (ds.map Slot.va ++ List.replicate (N - n) Slot.un) with
    | none => rfl
    | some o => cases o <;> rfl
  · rw [if_neg h, if_neg h]
@[simp] theorem fnR_rt (r : R) : fnR (some (.rt r)) = some (retR r) := rfl
@[simp] theorem fnR_nx (g : Gm) : fnR (some (.nx g)) = some (.va .non) := rfl
@[simp] theorem fnR_ite (c : Prop) [Decidable c] (a b : Option Out) : fnR (if c then a else b) = if c then fnR a else fnR b := by split <;> rfl
@[simp] theorem lim_num : LIM = 16777216 := rfl
theorem cut_map {α β : Type} (f : α → β) (xs : List α) (lo hi : Option Int) : cutL (xs.map f) lo hi = (cutL xs lo hi).map f := by
  unfold cutL
  simp
theorem cdiv_small {a b : Int} (h0 : 0 < b) (h : b < 2 ^ 64) : CDivB a b := ⟨by omega, by
  have : b.natAbs < 2 ^ 64 := by omega
  have := PySem.Flt.log2_lt_of (by omega : 0 < 64) this
  omega⟩
theorem log_lt {x : Int} {n : Nat} (h0 : 0 < n) (h : x.natAbs < 2 ^ n) : x.natAbs.log2 < n := PySem.Flt.log2_lt_of h0 h
theorem cmul_of {a b : Int} {m n : Nat} (h0 : 0 < m) (h1 : 0 < n) (ha : a.natAbs < 2 ^ m) (hb : b.natAbs < 2 ^ n) (h : m + n ≤ 134000000) : CMulB a b := by
  have x := log_lt h0 ha
  have y := log_lt h1 hb
  unfold CMulB
  omega
end BK
namespace BK
open PySem PySem.Spec L2
set_option autoImplicit false
/-! ### steps -/
@[simp] theorem cdivB_small {a b : Int} (h0 : 0 < b) (h : b < 18446744073709551616) : CDivB a b := cdiv_small h0 h
@[simp] theorem fdiv_nn {a b : Int} (h : 0 ≤ b) : a.fdiv b = a / b := Int.fdiv_eq_ediv_of_nonneg a h
@[simp] theorem fmod_nn {a b : Int} (h : 0 ≤ b) : a.fmod b = a % b := Int.fmod_eq_emod_of_nonneg a h
@[simp] theorem cpow_small {a b : Int} (h0 : -18446744073709551616 < a) (h : a < 18446744073709551616) (h1 : 0 ≤ b) (h2 : b ≤ 1000000) : CPow a b := ⟨h1, h2, by omega⟩
/-- of at most so many bits -/
structure Sz (n : Nat) (z : Int) : Prop where
  lt : z.natAbs < 2 ^ n
theorem Sz.mono {m n : Nat} {z : Int} (h : Sz m z) (l : m ≤ n) : Sz n z := ⟨Nat.lt_of_lt_of_le h.lt (Nat.pow_le_pow_right (by omega) l)⟩
theorem Sz.zero (n : Nat) : Sz n 0 := ⟨Nat.two_pow_pos n⟩
theorem Sz.small {z : Int} (h : z.natAbs < 18446744073709551616) : Sz 64 z := ⟨h⟩
theorem Sz.cmul {m n : Nat} {a b : Int} (h : Sz m a) (k : Sz n b) (h0 : 0 < m) (h1 : 0 < n) (l : m + n ≤ 134000000) : CMulB a b := cmul_of h0 h1 h.lt k.lt l
theorem bits_sz {z : Int} (h : Builtin.Int.intBits z ≤ 1048576) : Sz 1048576 z := by
  unfold Builtin.Int.intBits at h
  by_cases e : z = 0
  · subst e
    exact Sz.zero _
  · have e' : ¬ (z == 0) = true := by simpa using e
    rw [if_neg e'] at h
    exact ⟨Nat.lt_of_lt_of_le (Nat.lt_log2_self (n := z.natAbs)) (Nat.pow_le_pow_right (by omega) (by omega))⟩
theorem mem_split {α : Type} {xs pre : List α} {x : α} (h : ∃ post, xs = pre ++ x :: post) : x ∈ xs := by
  obtain ⟨post, h⟩ := h
  rw [h]
  simp
theorem get_split {α : Type} {xs pre : List α} {x : α} (h : ∃ post, xs = pre ++ x :: post) : xs[pre.length]? = some x ∧ pre = xs.take pre.length ∧ pre.length < xs.length := by
  obtain ⟨post, rfl⟩ := h
  simp
theorem range_split {n : Nat} {pre : List Nat} {x : Nat} (h : ∃ post, List.range n = pre ++ x :: post) : x < n ∧ pre = List.range x := by
  obtain ⟨h1, h2, h3⟩ := get_split h
  rw [List.length_range] at h3
  rw [List.getElem?_range h3] at h1
  cases h1
  refine ⟨h3, h2.trans ?_⟩
  rw [List.take_range, Nat.min_eq_left (by omega)]
end BK
namespace BK
open PySem PySem.Spec L2
set_option autoImplicit false
/-! ### own classes: fields, instances made, the method is_bridge -/
def fldD (c : Nat) (ds : List D) (f : Str) : Option D := ((fldsOf c).zip ds).lookup f
def oFld (f : Str) (r : R) : Option R := match r with
  | .va (.ins c ds) => (fldD c ds f).map .va
  | _ => none
section
variable {K : PySem.W.Frag} {ca : Nat → Addr} {F : Hp}
theorem lookup_den {f : Str} : ∀ {fs : List (Str × V)} {names : List Str} {ds : List D} {d : D}, fs.map (·.1) = names → Dens K ca F (fs.map (·.2)) ds → (names.zip ds).lookup f = some d → f ∈ names ∧ ∃ v, fs.lookup f = some v ∧ Den K ca F v d
  | [], _, ds, d, e, h, q => by
    subst e
    cases q
  | (g, u) :: fs, _, ds, d, e, h, q => by
    subst e
    cases h with
    | cons h1 h2 =>
      rename_i d1 ds
      rw [List.map_cons, List.zip_cons_cons, List.lookup_cons] at q
      by_cases hg : (f == g) = true
      · rw [hg] at q
        cases q
        refine ⟨by rw [eq_of_beq hg]; exact List.mem_cons_self, u, by rw [List.lookup_cons, hg], h1⟩
      · rw [Bool.not_eq_true] at hg
        rw [hg] at q
        obtain ⟨m, v, e1, e2⟩ := lookup_den rfl h2 q
        exact ⟨List.mem_cons_of_mem _ m, v, by rw [List.lookup_cons, hg]; exact e1, e2⟩
theorem lookup_no {f : Str} : ∀ {fs : List (Str × V)}, f ∉ fs.map (·.1) → fs.lookup f = none
  | [], _ => rfl
  | (g, u) :: fs, h => by
    have h1 : ¬ (f == g) = true := fun e => h (by rw [eq_of_beq e]; exact List.mem_cons_self)
    rw [Bool.not_eq_true] at h1
    rw [List.lookup_cons, h1]
    exact lookup_no fun m => h (List.mem_cons_of_mem _ m)
end
section
variable {X : Cx} {ca : Nat → Addr} {e : Expr} {m : Gm → Option R} {pos p apos : Pos}
theorem ev_fld {f : Str} (he : EV X ca e m) (hb : attributeBase e f X.env (eval e X.env) = eval e X.env) : EV X ca (.Attribute e f pos) (e1 (oFld f) m) := by
  refine pe_imp (pe_fld he hb) ?_
  rintro σ H Q ⟨H0, F0, F, Γ, z, S, e, q⟩
  unfold e1 at e
  obtain ⟨r, er, e⟩ := Option.bind_eq_some_iff.mp e
  refine ⟨H0, F0, F, Γ, r, S, er, fun v H1 F1 x1 r1 => ?_⟩
  unfold oFld at e
  split at e
  · rename_i c ds
    obtain ⟨d, ed, rfl⟩ := Option.map_eq_some_iff.mp e
    cases r1 with
    | ins k h n hs =>
      obtain ⟨hm, v, e1, e2⟩ := lookup_den n hs ed
      exact ⟨_, _, _, _, v, rfl, x1.fh _ _ h, k.cl, k.na f hm, e1, q v H1 F1 x1 e2⟩
  · cases e
/-- is_bridge: a def of each of two classes -/
def cIsB (r : R) : Option R := match r with
  | .va (.ins 0 _) => some (.va (.bl false))
  | .va (.ins 1 _) => some (.va (.bl true))
  | _ => none
/-- what the c-th class answers by a method without arguments -/
structure MCallee (P : Program) (w : World) (K : PySem.W.Frag) (mg : Str → Option Value) (base : Heap) (ca : Nat → Addr) (k c : Nat) (m : Str) (φ : Phi) : Prop where
  ex : ∃ (f : Addr) (fd : FuncData) (ps : List Str), FnOk P w K mg base CX0 k f fd ps (spOf K ca φ) ∧ Cls K (ca c) ∧ Meth K (ca c) m f ∧ Binds K fd ps []
theorem MCallee.mono {P : Program} {w : World} {K : PySem.W.Frag} {mg : Str → Option Value} {base : Heap} {ca : Nat → Addr} {j k c : Nat} {m : Str} {φ : Phi} (C : MCallee P w K mg base ca j c m φ) (h : j ≤ k) : MCallee P w K mg base ca k c m φ := by
  obtain ⟨f, fd, ps, F, r⟩ := C.ex
  exact ⟨f, fd, ps, F.mono h, r⟩
theorem pe_or {e : Expr} {t u : TE} (h : PE X e t) (k : PE X e u) : PE X e fun σ H Q => t σ H Q ∨ u σ H Q := ⟨fun pins s σ H Q I q => by
  rcases q with q | q
  · exact h.run pins s σ H Q I q
  · exact k.run pins s σ H Q I q⟩
theorem isb_core {j c : Nat} {mt : Str} {φ : Phi} {H : Hp} {sp : Sp} {σ : L2.St} (hn : mt ∉ fldsOf c) {b : Bool} (hφ : ∀ ds, φ [.ins c ds] = some (.va (.bl b))) {H0 F0 F : Hp} {Γ : Gm} {r : R} {ds : List D} {E : XK} {Q : VK} (S : SR X.K ca H0 F0 σ H F Γ) (er : m Γ = some (.va (.ins c ds)))
    (q : ∀ v H' F', Ext ca H F H' F' → RV X.K ca (BB σ Γ) H F' H' v (.va (.bl b)) → Q v H') : tMeth (ca c) mt (spOf X.K ca φ) [] E (tEV X.K ca m) tNil σ H Q := by
  refine ⟨H0, F0, F, Γ, _, S, er, fun v H1 F1 x1 r1 => ?_⟩
  have r2 := r1
  cases r1 with
  | ins k h n hs =>
    refine ⟨_, _, _, rfl, x1.fh _ _ h, lookup_no (by rw [n]; exact hn), ?_⟩
    refine ⟨[.ins c ds], F1, _, x1.fh, (S.mono x1).ext.nt S.nt0, S.tc0.mono (S.mono x1).ext.hh, .cons r2 .nil, hφ ds, fun v H' F' x2 r3 => ?_⟩
    exact q v H' F' (x1.trans x2) r3
theorem ev_isb {j : Nat} {φ0 φ1 : Phi} (h0 : ∀ ds, φ0 [.ins 0 ds] = some (.va (.bl false))) (h1 : ∀ ds, φ1 [.ins 1 ds] = some (.va (.bl true))) (C0 : MCallee X.prog X.w X.K X.mg X.base ca j 0 "is_bridge" φ0) (C1 : MCallee X.prog X.w X.K X.mg X.base ca j 1 "is_bridge" φ1) (hr : Room j X.A) (he : EV X ca e m)
    {pl : Sem Bool} (hev : eval (.Call (.Attribute e "is_bridge" apos) [] [] pos) X.env = (do
      let ov ← eval e X.env
      standAt apos.atName
      let (f, first) ← holding [ov] (getMethod ov "is_bridge" pl)
      callWith pos f first (backTo pos (starEach [] X.env)) (backToKw pos (keywordEach [] X.env))) := by rfl) : EV X ca (.Call (.Attribute e "is_bridge" apos) [] [] pos) (e1 cIsB m) := by
  obtain ⟨f0, fd0, ps0, G0, c0, m0, b0⟩ := C0.ex
  obtain ⟨f1, fd1, ps1, G1, c1, m1, b1⟩ := C1.ex
  refine pe_imp (pe_or (pe_meth0 he c0 m0 G0 hr b0 .nil pass0 hev) (pe_meth0 he c1 m1 G1 hr b1 .nil pass0 hev)) ?_
  rintro σ H Q ⟨H0, F0, F, Γ, z, S, e, q⟩
  unfold e1 at e
  obtain ⟨r, er, e⟩ := Option.bind_eq_some_iff.mp e
  unfold cIsB at e
  split at e
  · cases e
    exact .inl (isb_core (j := j) (sp := spOf X.K ca φ0) (r := .va .non) (by decide +kernel) h0 S er q)
  · cases e
    exact .inr (isb_core (j := j) (sp := spOf X.K ca φ0) (r := .va .non) (by decide +kernel) h1 S er q)
  · cases e
end
/-! ### instances -/
/-- the fields, each by its expression over the arguments -/
def inis : List (Gm → Option R) → Gm → Option (List D)
  | [], _ => some []
  | m :: ms, g => (m g).bind fun r => if r.isBw = true then none else (inis ms g).map (r.d :: ·)
def allVa : List R → Option (List D)
  | [] => some []
  | .va d :: rs => (allVa rs).map (d :: ·)
  | _ => none
def cMk (c : Nat) (ms : List (Gm → Option R)) (rs : List R) : Option R := (allVa rs).bind fun ds => (inis ms (.un :: ds.map .va)).map fun es => .va (.ins c es)
/-- a result as a tree -/
def R.t : R → BK.T
  | .va d => .fz d
  | .tm ds => .lst (ds.map .fz)
  | .bw _ ds => .fz (.lst ds)
theorem R.t_d : ∀ r : R, r.t.d = r.d
  | .va _ => rfl
  | .tm ds => by show D.lst (T.ds (ds.map .fz)) = .lst ds; rw [T.ds_fz]
  | .bw _ _ => rfl
/-- the fields as trees -/
def tinis : List (Gm → Option R) → Gm → Option (List BK.T)
  | [], _ => some []
  | m :: ms, g => (m g).bind fun r => if r.isBw = true then none else (tinis ms g).map (r.t :: ·)
theorem tinis_ds : ∀ (ms : List (Gm → Option R)) (g : Gm), inis ms g = (tinis ms g).map T.ds
  | [], _ => rfl
  | m :: ms, g => by
    unfold inis tinis
    cases m g with
    | none => rfl
    | some r =>
      show (if r.isBw = true then none else (inis ms g).map (r.d :: ·)) = (if r.isBw = true then none else (tinis ms g).map (r.t :: ·)).map T.ds
      rw [tinis_ds ms g]
      split
      · rfl
      · cases tinis ms g with
        | none => rfl
        | some ts =>
          show some (r.d :: T.ds ts) = some (r.t.d :: T.ds ts)
          rw [R.t_d]
theorem tinis_of {ms : List (Gm → Option R)} {g : Gm} {es : List D} (h : inis ms g = some es) : ∃ ts, tinis ms g = some ts ∧ T.ds ts = es := by
  rw [tinis_ds] at h
  exact Option.map_eq_some_iff.mp h
/-- values of new trees: apart from what was, and from x -/
def TFs (K : PySem.W.Frag) (ca : Nat → Addr) (H0 F H : Hp) (x : Addr) (vs : List V) (ts : List BK.T) : Prop := ∃ as, OTs K ca F H vs ts as ∧ as.Nodup ∧ ∀ b ∈ as, noT H0 b = none ∧ F b = none ∧ b ≠ x
theorem TFs.mono {K : PySem.W.Frag} {ca : Nat → Addr} {H0 F H F' H' : Hp} {x : Addr} {vs : List V} {ts : List BK.T} (h : TFs K ca H0 F H x vs ts) (e : Ext ca H F H' F') : TFs K ca H0 F' H' x vs ts := by
  obtain ⟨as, h1, h2, h3⟩ := h
  have key : ∀ b ∈ as, H' b = H b ∧ F' b = none := fun b hb => by
    obtain ⟨u, hu, hn⟩ := h1.at b hb
    exact ⟨by rw [hu, e.hh.st b u hu hn], e.keepN hu (h3 b hb).2.1 hn⟩
  exact ⟨as, h1.mono e.ff fun b hb => (key b hb).1, h2, fun b hb => ⟨(h3 b hb).1, (key b hb).2, (h3 b hb).2.2⟩⟩
theorem TFs.root {K : PySem.W.Frag} {ca : Nat → Addr} {H0 H1 F H : Hp} {x : Addr} {vs : List V} {ts : List BK.T} (h : TFs K ca H1 F H x vs ts) (s : SameN ca H0 H1) : TFs K ca H0 F H x vs ts := by
  obtain ⟨as, h1, h2, h3⟩ := h
  exact ⟨as, h1, h2, fun b hb => ⟨s.free (h3 b hb).1, (h3 b hb).2⟩⟩
theorem TFs.upd {K : PySem.W.Frag} {ca : Nat → Addr} {H0 F H : Hp} {x : Addr} {o : HO} {vs : List V} {ts : List BK.T} (h : TFs K ca H0 F H x vs ts) : TFs K ca H0 F (L2.upd H x o) x vs ts := by
  obtain ⟨as, h1, h2, h3⟩ := h
  exact ⟨as, h1.mono (Same.refl _) fun b hb => upd_ne (h3 b hb).2.2, h2, h3⟩
/-- one value more -/
theorem TFs.snoc {K : PySem.W.Frag} {ca : Nat → Addr} {B : BT} {H0 F H F' H' : Hp} {x : Addr} {vs : List V} {ts : List BK.T} {v : V} {r : R} (h : TFs K ca H0 F H x vs ts) (e : Ext ca H F H' F') (s : SameN ca H0 H) (hx : noT H x ≠ none) (hb : r.isBw = false) (rv : RV K ca B H F' H' v r) : TFs K ca H0 F' H' x (vs ++ [v]) (ts ++ [r.t]) := by
  obtain ⟨as, h1, h2, h3⟩ := h
  have key : ∀ b ∈ as, H' b = H b ∧ F' b = none ∧ noT H b ≠ none := fun b hb => by
    obtain ⟨u, hu, hn⟩ := h1.at b hb
    exact ⟨by rw [hu, e.hh.st b u hu hn], e.keepN hu (h3 b hb).2.1 hn, by rw [noT_get hu hn]; exact fun z => nomatch z⟩
  have h1' := h1.mono e.ff fun b hb => (key b hb).1
  cases r with
  | bw j ds => cases hb
  | va d =>
    refine ⟨as ++ ([] ++ []), h1'.append (.cons (.fz rv) .nil), by simpa using h2, fun b hb => ?_⟩
    have hb : b ∈ as := by simpa using hb
    exact ⟨(h3 b hb).1, (key b hb).2.1, (h3 b hb).2.2⟩
  | tm ds =>
    obtain ⟨b, us, rfl, n1, f1, k1, d1⟩ := rv
    refine ⟨as ++ ((b :: []) ++ []), h1'.append (.cons (.lst k1 (OTs.fzs d1)) .nil), ?_, fun c hc => ?_⟩
    · simp only [List.append_nil]
      rw [List.nodup_append]
      refine ⟨h2, by simp, fun c hc d hd => ?_⟩
      rw [List.mem_singleton] at hd
      subst hd
      exact fun z => (key c hc).2.2 (z ▸ n1)
    · simp only [List.append_nil, List.mem_append, List.mem_singleton] at hc
      rcases hc with hc | rfl
      · exact ⟨(h3 c hc).1, (key c hc).2.1, (h3 c hc).2.2⟩
      · exact ⟨s.free n1, f1, fun z => hx (z ▸ n1)⟩
/-- a promise of __init__: x is a new instance of the c-th class, without fields; n arguments -/
def spIni (K : PySem.W.Frag) (ca : Nat → Addr) (c n : Nat) (names : List Str) (ms : List (Gm → Option R)) : Sp := fun vs H Q _ => ∃ H0 F x dx us ds es, vs = .ref x :: us ∧ H0 x = none ∧ H = upd H0 x (.ins (ca c) dx []) ∧ Same F H0 ∧ NT F ∧ TabsC ca H0 ∧ Dens K ca F us ds ∧ us.length = n ∧ tinis ms (.un :: ds.map .va) = some es ∧
  ∀ H' F' fs, Ext ca H0 F H' F' → F' x = none → H' x = some (.ins (ca c) dx fs) → fs.map (·.1) = names → TFs K ca H0 F' H' x (fs.map (·.2)) es → Q .non H'
theorem putF_new {f : Str} {v : V} : ∀ {fs : List (Str × V)}, f ∉ fs.map (·.1) → putF f v fs = fs ++ [(f, v)]
  | [], _ => rfl
  | (g, u) :: fs, h => by
    have h1 : ¬ g = f := fun e => h (by rw [e]; exact List.mem_cons_self)
    show (if g = f then _ else _) = _
    rw [if_neg h1, putF_new fun m => h (List.mem_cons_of_mem _ m)]
    rfl
section
variable {X : Cx} {ca : Nat → Addr}
/-- the state within __init__ -/
def JS (K : PySem.W.Frag) (ca : Nat → Addr) (c : Nat) (H0 F0 : Hp) (x dx : Addr) (σ : L2.St) (H F : Hp) (Γ : Gm) (fs : List (Str × V)) (es : List BK.T) : Prop :=
  SR K ca H0 F0 σ H F Γ ∧ σ[0]? = some (some (.ref x)) ∧ H0 x = none ∧ F x = none ∧ H x = some (.ins (ca c) dx fs) ∧ TFs K ca H0 F H x (fs.map (·.2)) es ∧ ∀ (i : Nat) (t : T), Γ[i]? ≠ some (Slot.ot t)
/-- what a part of __init__ does: it stores fields -/
def JRd (K : PySem.W.Frag) (ca : Nat → Addr) (c : Nat) (T : TS) (names : List Str) (ms : List (Gm → Option R)) : Prop := ∀ (H0 F0 : Hp) (x dx : Addr) (σ : L2.St) (H F : Hp) (Γ : Gm) (fs : List (Str × V)) (es es2 : List BK.T) (D : Ends), JS K ca c H0 F0 x dx σ H F Γ fs es → tinis ms Γ = some es2 →
  (fs.map (·.1) ++ names).Nodup → fs.length + names.length < 1000 → (∀ H' F' gs, JS K ca c H0 F0 x dx σ H' F' Γ (fs ++ gs) (es ++ es2) → gs.map (·.1) = names → D.nx σ H') → T D σ H
def JV (X : Cx) (ca : Nat → Addr) (c : Nat) (st : Stmt) (names : List Str) (ms : List (Gm → Option R)) : Prop := ∃ T, PS X st T ∧ JRd X.K ca c T names ms
def JVs (X : Cx) (ca : Nat → Addr) (c : Nat) (sts : List Stmt) (names : List Str) (ms : List (Gm → Option R)) : Prop := ∃ T, PSs X sts T ∧ JRd X.K ca c T names ms
/-- .. from its beginning -/
def JR0 (K : PySem.W.Frag) (ca : Nat → Addr) (c : Nat) (T : TS) (names : List Str) (ms : List (Gm → Option R)) : Prop := ∀ (H0 F0 : Hp) (x dx : Addr) (σ : L2.St) (H F : Hp) (Γ : Gm) (es2 : List BK.T) (D : Ends), JS K ca c H0 F0 x dx σ H F Γ [] [] → tinis ms Γ = some es2 →
  names.Nodup → names.length < 1000 → (∀ H' F' gs, JS K ca c H0 F0 x dx σ H' F' Γ gs es2 → gs.map (·.1) = names → D.nx σ H') → T D σ H
def JVs0 (X : Cx) (ca : Nat → Addr) (c : Nat) (sts : List Stmt) (names : List Str) (ms : List (Gm → Option R)) : Prop := ∃ T, PSs X sts T ∧ JR0 X.K ca c T names ms
theorem jvs0_of {c : Nat} {sts : List Stmt} {names : List Str} {ms : List (Gm → Option R)} (h : JVs X ca c sts names ms) : JVs0 X ca c sts names ms := by
  obtain ⟨T, p, r⟩ := h
  exact ⟨T, p, fun H0 F0 x dx σ H F Γ es2 D J e nd hl q => r H0 F0 x dx σ H F Γ [] [] es2 D J e nd (by simpa using hl) q⟩
theorem inis_cons {m : Gm → Option R} {ms : List (Gm → Option R)} {g : Gm} {es : List BK.T} (h : tinis (m :: ms) g = some es) : ∃ r es2, m g = some r ∧ r.isBw = false ∧ tinis ms g = some es2 ∧ es = r.t :: es2 := by
  obtain ⟨r, er, e⟩ := Option.bind_eq_some_iff.mp h
  by_cases hb : r.isBw = true
  · rw [if_pos hb] at e; cases e
  rw [if_neg hb] at e
  obtain ⟨es3, e3, rfl⟩ := Option.map_eq_some_iff.mp e
  exact ⟨r, es3, er, by simpa using hb, e3, rfl⟩
theorem sr_atX {K : PySem.W.Frag} {H0 F0 H F : Hp} {σ : L2.St} {Γ : Gm} (S : SR K ca H0 F0 σ H F Γ) {x : Addr} {o : HO} (h0 : H0 x = none) (hp : Pl H x) (hf : F x = none) (ho : ∀ (j : Nat) (a : Addr) (ds : List D), Γ[j]? = some (Slot.ow ds) → σ[j]? = some (some (V.ref a)) → a ≠ x) (hno : ∀ (i : Nat) (t : T), Γ[i]? ≠ some (Slot.ot t)) : SR K ca H0 F0 σ (upd H x o) F Γ := by
  refine ⟨⟨S.ext.hh.updO (noT_none h0) hp, S.ext.ff, fun b u e => ?_, S.ext.nw, S.ext.nt⟩, S.nt0, S.tc0, S.len, S.va, fun j ds hj => ?_, S.ap, Own.nil hno⟩
  · rw [upd_ne (ne_of_none e hf)]; exact S.ext.fh b u e
  · obtain ⟨a, vs, s, h1, h2, h3, h4⟩ := S.ow j ds hj
    exact ⟨a, vs, s, h1, h2, by rw [upd_ne (ho j a ds hj s)]; exact h3, h4⟩
theorem jv_fld {c : Nat} {f : Str} {o e : Expr} {m : Gm → Option R} {pos pos' : Pos} (k : Kls X.K (ca c) c) (hf : f ∈ fldsOf c) (ho : PE X o (tVar 0)) (he : EV X ca e m) (hs : swapsWith e (some (.Attribute o f pos')) pos.line X.env = pure false) : JV X ca c (.Assign [.Attribute o f pos'] e pos) [f] [m] := by
  refine ⟨_, ps_fld ho he hs, ?_⟩
  rintro H0 F0 x dx σ H F Γ fs es es2 D ⟨S, s0, h0, hF, hH, hd, hno⟩ e nd hl q
  obtain ⟨r, es3, er, hbw, e3, rfl⟩ := inis_cons e
  cases e3
  have hn : f ∉ fs.map (·.1) := fun m => by
    rw [List.nodup_append] at nd
    exact nd.2.2 _ m _ List.mem_cons_self rfl
  refine ⟨H0, F0, F, Γ, r, S, er, fun v H1 F1 x1 r1 => ?_⟩
  refine ⟨_, s0, x, ca c, dx, fs, rfl, x1.hh.i hH, k.cl, k.na f hf, by simp at hl; omega, ?_⟩
  have hF2 : F1 x = none := x1.keepN hH hF
  rw [putF_new hn]
  refine q _ F1 [(f, v)] ⟨sr_atX (S.mono x1) h0 (Pl.ins (x1.hh.i hH)) hF2 (fun j a ds hj hs e => ?_) hno, s0, h0, hF2, upd_same, ?_, hno⟩ rfl
  · subst e
    obtain ⟨b, vs, g1, g2, g3, g4, _⟩ := S.ow j ds hj
    rw [hs] at g1
    cases g1
    rw [hH] at g4
    cases g4
  · rw [List.map_append]
    exact (hd.snoc x1 S.ext.hh (by rw [noT_get hH fun _ z => nomatch z]; exact fun z => nomatch z) hbw r1).upd
theorem jvs_one {c : Nat} {st : Stmt} {names : List Str} {ms : List (Gm → Option R)} (h : JV X ca c st names ms) : JVs X ca c [st] names ms := by
  obtain ⟨T, p, r⟩ := h
  exact ⟨_, pss_one p, r⟩
theorem jvs_cons {c : Nat} {st : Stmt} {sts : List Stmt} {f : Str} {names : List Str} {m : Gm → Option R} {ms : List (Gm → Option R)} (h : JV X ca c st [f] [m]) (hs : JVs X ca c sts names ms) : JVs X ca c (st :: sts) (f :: names) (m :: ms) := by
  obtain ⟨T, p, r⟩ := h
  obtain ⟨U, pp, rr⟩ := hs
  refine ⟨_, pss_cons p pp, ?_⟩
  intro H0 F0 x dx σ H F Γ fs es es2 D J e nd hl q
  obtain ⟨rv, es3, er, hbw, e3, rfl⟩ := inis_cons e
  have e1 : tinis [m] Γ = some [rv.t] := by
    show ((m Γ).bind fun r => if r.isBw = true then none else (tinis [] Γ).map (r.t :: ·)) = _
    rw [er]
    show (if rv.isBw = true then none else _) = _
    rw [if_neg (by simp [hbw])]
    rfl
  have nd1 : (fs.map (·.1) ++ [f]).Nodup := by
    rw [show fs.map (·.1) ++ f :: names = (fs.map (·.1) ++ [f]) ++ names by simp] at nd
    exact (List.nodup_append.mp nd).1
  refine r H0 F0 x dx σ H F Γ fs es _ _ J e1 nd1 (by simp at hl ⊢; omega) fun H' F' gs J' eg => ?_
  refine rr H0 F0 x dx σ H' F' Γ (fs ++ gs) (es ++ [rv.t]) es3 D J' e3 (by rw [List.map_append, eg]; simpa using nd) (by
    have := congrArg List.length eg
    simp at this hl ⊢
    omega) fun H2 F2 gs2 J2 eg2 => ?_
  refine q H2 F2 (gs ++ gs2) ?_ (by rw [List.map_append, eg, eg2]; rfl)
  rw [← List.append_assoc]
  simpa using J2
/-- an own class's def called by the class's name -/
theorem pe_ucall {CX : CXT} {k : Nat} {f C : Addr} {fd : FuncData} {ps : List Str} {sp : Sp} {dvs : List V} {ds : List Value} {E : XK} {x m : Str} {mc : Value} {p apos pos : Pos} {e : Expr} {es : List Expr} {t : TA} {pl : Sem Bool} (G : FnOk X.prog X.w X.K X.mg X.base CX k f fd ps sp) (hr : Room k X.A) (hg : Gl X x) (hm : X.mg x = some (.ref C))
    (hrd : PySem.W.readsIn X.K C mc = true) (hga : PySem.W.specialIn X.K (.ref C) "__getattribute__" = some (some (.builtin "type.__getattribute__"))) (hfc : PySem.W.findCls X.K (.ref C) mc m = some (.val (.ref f))) (hk : PySem.W.keepIn X.K (.ref f) = true) (hb : Binds X.K fd ps ds) (hv : Vals dvs ds) (hx : Passes CX X E) (ha : PA X (e :: es) t)
    (he : starEach (e :: es) X.env = (false, eval e X.env) :: starEach es X.env := by rfl) (hpl : (backTo pos (starEach es X.env)).any (·.1) = false := by rfl)
    (hev : eval (.Call (.Attribute (.Name x p) m apos) (e :: es) [] pos) X.env = (do
      let ov ← eval (.Name x p) X.env
      standAt apos.atName
      let (f, first) ← holding [ov] (getMethod ov m pl)
      callWith pos f first (backTo pos (starEach (e :: es) X.env)) (backToKw pos (keywordEach [] X.env))) := by rfl) (hdb : (x == ("__debug__" : Str)) = false := by decide) : PE X (.Call (.Attribute (.Name x p) m apos) (e :: es) [] pos) (tCall sp dvs E t) := by
  refine ⟨fun pins s σ H Q I h => ?_⟩
  refine PySem.W.methodCall_KW (ld_glob I hg hm ?_ hdb) hev
  refine PySem.W.method_cls I.kIn hga (PySem.W.cls_value I.kIn hrd hfc rfl ?_)
  have I2 := I.tok (s.toks + 1)
  refine PySem.W.callWith_K (K := X.K) I2.kIn hk ?_ he hpl
  refine thn (ha.run pos pins _ σ H _ I2 h) ?_
  rintro us s' ⟨vs, H', I3, hvs, q⟩
  exact ⟨I3.kIn, run_fn G hr hb hv hx I3 hvs q⟩
/-- the first statement of __init__ is the base's __init__ of one argument -/
theorem jvs0_base {c k i : Nat} {f C : Addr} {fd : FuncData} {ps : List Str} {x m f1 : Str} {mc : Value} {names : List Str} {ms : List (Gm → Option R)} {p p1 p2 apos pos pos2 : Pos} {sts : List Stmt} {y z : Str} {pl : Sem Bool} (G : FnOk X.prog X.w X.K X.mg X.base CX0 k f fd ps (spIni X.K ca c 1 [f1] [eV 1])) (hr : Room k X.A) (hg : Gl X x) (hm : X.mg x = some (.ref C))
    (hrd : PySem.W.readsIn X.K C mc = true) (hga : PySem.W.specialIn X.K (.ref C) "__getattribute__" = some (some (.builtin "type.__getattribute__"))) (hfc : PySem.W.findCls X.K (.ref C) mc m = some (.val (.ref f))) (hk : PySem.W.keepIn X.K (.ref f) = true) (hb : Binds X.K fd ps [])
    (h0 : PE X (.Name y p1) (tVar 0)) (h1 : PE X (.Name z p2) (tVar i)) (hs : JVs X ca c sts names ms)
    (he : starEach [.Name y p1, .Name z p2] X.env = (false, eval (.Name y p1) X.env) :: starEach [.Name z p2] X.env := by rfl) (he2 : starEach [.Name z p2] X.env = (false, eval (.Name z p2) X.env) :: starEach [] X.env := by rfl) (hpl : (backTo pos (starEach [.Name z p2] X.env)).any (·.1) = false := by rfl)
    (hev : eval (.Call (.Attribute (.Name x p) m apos) [.Name y p1, .Name z p2] [] pos) X.env = (do
      let ov ← eval (.Name x p) X.env
      standAt apos.atName
      let (f, first) ← holding [ov] (getMethod ov m pl)
      callWith pos f first (backTo pos (starEach [.Name y p1, .Name z p2] X.env)) (backToKw pos (keywordEach [] X.env))) := by rfl) (hdb : (x == ("__debug__" : Str)) = false := by decide)
    (hsw : swapsWith (.Call (.Attribute (.Name x p) m apos) [.Name y p1, .Name z p2] [] pos) none pos2.line X.env = pure false := by rfl) : JVs0 X ca c (.Expr (.Call (.Attribute (.Name x p) m apos) [.Name y p1, .Name z p2] [] pos) pos2 :: sts) (f1 :: names) (eV i :: ms) := by
  obtain ⟨U, pp, rr⟩ := hs
  refine ⟨_, pss_cons (ps_expr (pe_ucall G hr hg hm hrd hga hfc hk hb .nil pass0 (pa_cons h0 (pa_cons h1 pa_nil he2) he) he hpl hev hdb) hsw) pp, ?_⟩
  rintro H0 F0 a dx σ H F Γ es2 D ⟨S, s0, h0, hF, hH, hd, hno⟩ e nd hl q
  obtain ⟨r, es3, er, hbw, e3, rfl⟩ := inis_cons e
  unfold eV at er
  split at er
  rotate_left
  · cases er; cases hbw
  · cases er
  rename_i d hi
  cases er
  obtain ⟨v, sv, dv⟩ := S.va i d hi
  let H1 : Hp := fun b => if b = a then none else H b
  have e1 : H = L2.upd H1 a (.ins (ca c) dx []) := funext fun b => by
    by_cases hb : b = a
    · subst hb; rw [upd_same]; exact hH
    · rw [upd_ne hb]
      show H b = if b = a then none else H b
      rw [if_neg hb]
  have ha1 : H1 a = none := if_pos rfl
  have hn1 : ∀ b, b ≠ a → H1 b = H b := fun b hb => if_neg hb
  have S1 : SR X.K ca H0 F0 σ H1 F Γ := by
    have key : ∀ {P : Addr} {qn : Str}, LamX.TabS H P qn → LamX.TabS H1 P qn := fun {P qn} t => by
      obtain ⟨ps, t1, t2, t3⟩ := t
      refine ⟨ps, by rw [hn1 P (fun z => by subst z; rw [hH] at t1; cases t1)]; exact t1, t2, fun pos cv hc => ?_⟩
      obtain ⟨b, e1, e2⟩ := t3 pos cv hc
      refine ⟨b, e1, ?_⟩
      by_cases z : b = a
      · subst z; exact absurd e2 ((Pl.ins hH).c qn)
      · rw [hn1 b z]; exact e2
    refine ⟨⟨⟨fun b o e n => by rw [hn1 b (ne_of_none e h0)]; exact S.ext.hh.st b o e n, fun t => ⟨fun k => key ((S.ext.hh.tb t).a k), fun k => key ((S.ext.hh.tb t).b k)⟩⟩, S.ext.ff, fun b o e => ?_, S.ext.nw, S.ext.nt⟩, S.nt0, S.tc0, S.len, S.va, fun j ds hj => ?_, S.ap, Own.nil hno⟩
    · rw [hn1 b (ne_of_none e hF)]; exact S.ext.fh b o e
    · obtain ⟨b, vs, s, g1, g2, g3, g4⟩ := S.ow j ds hj
      refine ⟨b, vs, s, g1, g2, ?_, g4⟩
      rw [hn1 b fun e => by subst e; rw [hH] at g3; cases g3]
      exact g3
  refine ⟨_, s0, _, sv, ?_⟩
  refine ⟨H1, F, a, dx, [v], [d], [.fz d], rfl, ha1, e1, S1.ext.fh, S1.ext.nt S1.nt0, S1.tc0.mono S1.ext.hh, .cons dv .nil, rfl, rfl, fun H' F' fs x' hF' hH' en hd' => ?_⟩
  refine rr H0 F0 a dx σ H' F' Γ fs [.fz d] es3 D ⟨S1.mono x', s0, h0, hF', hH', hd'.root S1.ext.hh, hno⟩ e3 (by rw [en]; simpa using nd) (by
    have := congrArg List.length en
    simp at this hl ⊢
    omega) fun H2 F2 gs2 J2 eg2 => ?_
  refine q H2 F2 (fs ++ gs2) J2 (by rw [List.map_append, en, eg2]; rfl)
end
section
variable {P : Program} {w : World} {K : PySem.W.Frag} {mg : Str → Option Value} {base : Heap} {ca : Nat → Addr}
theorem ini_ok {x qual : Str} {st : Stmt} {f : Addr} {fd : FuncData} {N ps : List Str} {k n c : Nat} {names : List Str} {ms : List (Gm → Option R)} (F : Fun K x qual st f fd) (S : FnScope N ps (defScope st)) (hn : ps.length = n + 1) (hN : N.length = n + 1) (nd : names.Nodup) (hl : names.length < 1000)
    (hbody : ∀ (cdv : Value) (A : Around) (outer : List Env) (s : Shared) (H : Hp) (E : XK), Room k (A.deeper (PyProof.Rows.envOfC qual (defScope st) s.heap.objs.size f cdv)) →
      JVs0 (cxOf CX0 P w K mg base N qual (defScope st) f cdv A outer s H E).nox ca c (defBody st) names ms) : FnOk P w K mg base CX0 (k + 1) f fd ps (spIni K ca c n names ms) := by
  refine F.ok S (fun vs H Q E ⟨H0, F0, a, dx, us, ds, es, ev, h0, eH, sm, nt, tc, hd, hl, ei, q⟩ => ?_) (fun cdv A outer s H vs Q E hr ⟨H0, F0, a, dx, us, ds, es, ev, h0, eH, sm, nt, tc, hd, hlu, ei, q⟩ => ?_)
  · rw [ev, List.length_cons, hl, hn]
  · obtain ⟨T, pb, rd⟩ := hbody cdv A outer s H E hr
    refine ⟨T, pb, ?_⟩
    subst ev
    subst eH
    have hlen : ds.length = n := by rw [← hd.length, hlu]
    have eN : N.length - (V.ref a :: us).length = 0 := by rw [List.length_cons, hlu, hN]; omega
    have eσ : L2.start N (V.ref a :: us) = (V.ref a :: us).map some := by
      unfold L2.start
      rw [eN]
      simp
    have fn : F0 a = none := by
      cases e : F0 a with
      | none => rfl
      | some o => have := sm _ _ e; rw [h0] at this; cases this
    have hno : ∀ (i : Nat) (t : BK.T), (Slot.un :: ds.map Slot.va)[i]? ≠ some (Slot.ot t) := fun i t e => by
      cases i with
      | zero => cases e
      | succ i =>
        rw [List.getElem?_cons_succ, List.getElem?_map] at e
        cases q : ds[i]? with
        | none => rw [q] at e; cases e
        | some d' => rw [q] at e; cases e
    have S0 : SR K ca H0 F0 (L2.start N (V.ref a :: us)) (L2.upd H0 a (.ins (ca c) dx [])) F0 (.un :: ds.map Slot.va) := by
      rw [eσ]
      refine ⟨Ext.newO sm _ h0, nt, tc, by simp [hd.length], fun i d e => ?_, fun i es e => ?_, fun i j es fs b n e1 e2 => ?_, Own.nil hno⟩
      · cases i with
        | zero => cases e
        | succ i =>
          rw [List.getElem?_cons_succ, List.getElem?_map] at e
          cases q : ds[i]? with
          | none => rw [q] at e; cases e
          | some d' =>
            rw [q] at e
            cases e
            obtain ⟨v, h1, h2⟩ := hd.getV q
            exact ⟨v, by rw [List.map_cons, List.getElem?_cons_succ, List.getElem?_map, h1]; rfl, h2⟩
      · cases i with
        | zero => cases e
        | succ i =>
          rw [List.getElem?_cons_succ, List.getElem?_map] at e
          cases q : ds[i]? with
          | none => rw [q] at e; cases e
          | some d' => rw [q] at e; cases e
      · cases i with
        | zero => cases e1
        | succ i =>
          rw [List.getElem?_cons_succ, List.getElem?_map] at e1
          cases q : ds[i]? with
          | none => rw [q] at e1; cases e1
          | some d' => rw [q] at e1; cases e1
    refine rd H0 F0 a dx _ _ F0 _ es _ ⟨S0, by rw [eσ]; rfl, h0, fn, upd_same, ⟨[], .nil, .nil, fun _ z => nomatch z⟩, hno⟩ ei nd hl fun H' F' gs J en => ?_
    obtain ⟨S', s0', h0', hF', hH', hd', _⟩ := J
    exact q H' F' gs S'.ext hF' hH' en hd'
/-- a class as those see it that make instances -/
structure Maker (P : Program) (w : World) (K : PySem.W.Frag) (mg : Str → Option Value) (base : Heap) (ca : Nat → Addr) (k c n : Nat) (x : Str) (ms : List (Gm → Option R)) : Prop where
  ex : ∃ (f : Addr) (fd : FuncData) (ps : List Str), Mk K (ca c) f ∧ Kls K (ca c) c ∧ FnOk P w K mg base CX0 k f fd ps (spIni K ca c n (fldsOf c) ms) ∧ mg x = some (.ref (ca c)) ∧ Binds K fd ps []
end
def cMkN (c n : Nat) (ms : List (Gm → Option R)) (rs : List R) : Option R := if rs.length = n then cMk c ms rs else none
section
variable {X : Cx} {ca : Nat → Addr} {k c n : Nat} {x : Str} {ms : List (Gm → Option R)} {p pos : Pos} {e : Expr} {es : List Expr} {as : Gm → Option (List R)}
theorem allVa_den {K : PySem.W.Frag} {B : BT} {Hs F H : Hp} : ∀ {vs : List V} {rs : List R} {ds : List D}, RVs K ca B Hs F H vs rs → allVa rs = some ds → Dens K ca F vs ds ∧ vs.length = rs.length
  | _, _, _, .nil, e => by cases e; exact ⟨.nil, rfl⟩
  | _, r :: rs, ds, .cons h hs, e => by
    cases r with
    | va d =>
      obtain ⟨ds2, e2, rfl⟩ := Option.map_eq_some_iff.mp e
      obtain ⟨h1, h2⟩ := allVa_den hs e2
      exact ⟨.cons h h1, by rw [List.length_cons, List.length_cons, h2]⟩
    | tm ds => cases e
    | bw j ds => cases e
/-- a new instance is a tree -/
def cMkT (c n : Nat) (ms : List (Gm → Option R)) (rs : List R) : Option BK.T := if rs.length = n then (allVa rs).bind fun ds => (tinis ms (.un :: ds.map .va)).map fun ts => .ins c ts else none
theorem cMkT_d {c n : Nat} {ms : List (Gm → Option R)} {rs : List R} {z : R} (h : cMkN c n ms rs = some z) : ∃ t, cMkT c n ms rs = some t ∧ z = .va t.d := by
  unfold cMkN cMk at h
  split at h
  rotate_left
  · cases h
  rename_i hl
  obtain ⟨ds, ed, h⟩ := Option.bind_eq_some_iff.mp h
  obtain ⟨es, ee, rfl⟩ := Option.map_eq_some_iff.mp h
  obtain ⟨ts, et, rfl⟩ := tinis_of ee
  exact ⟨.ins c ts, by unfold cMkT; rw [if_pos hl, ed]; show (tinis ms _).map _ = _; rw [et]; rfl, rfl⟩
def tMkT (K : PySem.W.Frag) (ca : Nat → Addr) (f : List R → Option BK.T) (as : Gm → Option (List R)) : TE := fun σ H Q => ∃ H0 F0 F Γ rs t, SR K ca H0 F0 σ H F Γ ∧ as Γ = some rs ∧ f rs = some t ∧
  ∀ v H' F' bs, Ext ca H F H' F' → OT K ca F' H' v t bs → bs.Nodup → (∀ b ∈ bs, noT H b = none ∧ F' b = none) → Q v H'
theorem pe_makeT (C : Maker X.prog X.w X.K X.mg X.base ca k c n x ms) (hr : Room (k + 1) X.A) (hg : Gl X x) (ha : AV X ca (e :: es) as) (hdb : (x == ("__debug__" : Str)) = false := by decide)
    (he : starEach (e :: es) X.env = (false, eval e X.env) :: starEach es X.env := by rfl) (hpl : (backTo pos (starEach es X.env)).any (·.1) = false := by rfl) : PE X (.Call (.Name x p) (e :: es) [] pos) (tMkT X.K ca (cMkT c n ms) as) := by
  obtain ⟨f, fd, ps, M, kl, G, hm, hb⟩ := C.ex
  refine pe_imp (pe_make M G hr hg hm hb .nil pass0 ha hdb he hpl) ?_
  rintro σ H Q ⟨H0, F0, F, Γ, rs, t, S, er, e, q⟩
  unfold cMkT at e
  split at e
  rotate_left
  · cases e
  rename_i hln
  obtain ⟨ds, ed, e⟩ := Option.bind_eq_some_iff.mp e
  obtain ⟨fsd, ef, rfl⟩ := Option.map_eq_some_iff.mp e
  refine ⟨H0, F0, F, Γ, rs, S, er, fun vs H1 F1 x1 r1 a dx ha hdx hne => ?_⟩
  obtain ⟨hd, hlv⟩ := allVa_den r1 ed
  have hH2 : (L2.upd H1 dx (.own a)) a = none := by rw [upd_ne hne.symm]; exact ha
  have x2 : Ext ca H1 F1 (L2.upd H1 dx (.own a)) F1 := Ext.newO x1.fh _ hdx
  rw [List.append_nil]
  refine ⟨_, F1, a, dx, vs, ds, fsd, rfl, hH2, rfl, x2.fh, ((S.mono x1).mono x2).ext.nt S.nt0, S.tc0.mono ((S.mono x1).mono x2).ext.hh, hd, by rw [hlv, hln], ef, fun H' F' fs x' hF' hH' en hd' => ⟨rfl, ?_⟩⟩
  have x3 : Ext ca H F H' F' := (x1.trans x2).trans x'
  have hHa : noT H a = none := x1.hh.free (noT_none ha)
  obtain ⟨bs, h1, h2, h3⟩ := hd'.root (x1.trans x2).hh
  refine q _ H' F' (a :: bs) x3 (.ins kl hH' en h1) (List.nodup_cons.mpr ⟨fun z => (h3 a z).2.2 rfl, h2⟩) fun b hb => ?_
  rcases List.mem_cons.mp hb with rfl | hb
  · exact ⟨hHa, hF'⟩
  · exact ⟨(h3 b hb).1, (h3 b hb).2.1⟩
theorem ot_freeze {K : PySem.W.Frag} {H F H' F' : Hp} {v : V} {t : BK.T} {bs : List Addr} (x : Ext ca H F H' F') (h : OT K ca F' H' v t bs) (hf : ∀ b ∈ bs, noT H b = none ∧ F' b = none) : ∃ F2, Ext ca H F H' F2 ∧ Same F' F2 ∧ Den K ca F2 v t.d := by
  classical
  let F2 : Hp := fun b => if b ∈ bs then H' b else F' b
  have sf : Same F' F2 := fun b u e => by
    show (if b ∈ bs then H' b else F' b) = some u
    by_cases hb : b ∈ bs
    · rw [(hf b hb).2] at e; cases e
    · rw [if_neg hb]; exact e
  refine ⟨F2, ⟨x.hh, x.ff.trans sf, fun b u e => ?_, fun b e => ?_, fun n b ps e => ?_⟩, sf, h.den sf fun b hb => if_pos hb⟩
  · have e : (if b ∈ bs then H' b else F' b) = some u := e
    by_cases hb : b ∈ bs
    · rw [if_pos hb] at e; exact e
    · rw [if_neg hb] at e; exact x.fh b u e
  · by_cases hb : b ∈ bs
    · exact .inr (hf b hb).1
    · have e : (if b ∈ bs then H' b else F' b) ≠ none := e
      rw [if_neg hb] at e
      exact x.nw b e
  · have e : (if b ∈ bs then H' b else F' b) = some (.tbl ps) := e
    by_cases hb : b ∈ bs
    · rw [if_pos hb] at e
      obtain ⟨u, hu, hn⟩ := h.at b hb
      rw [hu] at e
      exact hn ps (Option.some.inj e)
    · rw [if_neg hb] at e
      exact x.nt n b ps e
theorem ev_make (C : Maker X.prog X.w X.K X.mg X.base ca k c n x ms) (hr : Room (k + 1) X.A) (hg : Gl X x) (ha : AV X ca (e :: es) as) (hdb : (x == ("__debug__" : Str)) = false := by decide)
    (he : starEach (e :: es) X.env = (false, eval e X.env) :: starEach es X.env := by rfl) (hpl : (backTo pos (starEach es X.env)).any (·.1) = false := by rfl) : EV X ca (.Call (.Name x p) (e :: es) [] pos) (eA (cMkN c n ms) as) := by
  refine pe_imp (pe_makeT C hr hg ha hdb he hpl) ?_
  rintro σ H Q ⟨H0, F0, F, Γ, z, S, e, q⟩
  unfold eA at e
  obtain ⟨rs, er, e⟩ := Option.bind_eq_some_iff.mp e
  obtain ⟨t, et, rfl⟩ := cMkT_d e
  refine ⟨H0, F0, F, Γ, rs, t, S, er, et, fun v H' F' bs x1 h1 _ h3 => ?_⟩
  obtain ⟨F2, x2, _, d2⟩ := ot_freeze x1 h1 h3
  exact q v H' F2 x2 d2
end
end BK
namespace BK
open PySem PySem.Spec L2
set_option autoImplicit false
/-- a promise for whatever addresses the classes have -/
def spAll (K : PySem.W.Frag) (φ : Phi) : Sp := fun vs H Q E => ∀ ca : Nat → Addr, ca 20 = 0 → ca 22 = 0 → spOf K ca φ vs H Q E
theorem fn_all {P : Program} {w : World} {K : PySem.W.Frag} {mg : Str → Option Value} {base : Heap} {CX : CXT} {k : Nat} {f : Addr} {fd : FuncData} {ps : List Str} {φ : Phi} {ca : Nat → Addr} (G : FnOk P w K mg base CX k f fd ps (spOf K ca φ)) (h20 : ca 20 = 0 := by rfl) (h22 : ca 22 = 0 := by rfl) : FnOk P w K mg base CX k f fd ps (spAll K φ) :=
  ⟨fun vs H Q E h => G.len vs H Q E (h ca h20 h22), fun A outer s H args us vs Q E hr he hb hv h => G.run A outer s H args us vs Q E hr he hb hv (h ca h20 h22)⟩
theorem noT_sq {K : PySem.W.Frag} {H : Hp} {a : Addr} {xs : List V} (h : SqL K H a xs) : SqL K (noT H) a xs := by
  rcases h with (h | ⟨o, h⟩) | h
  · exact .inl (.inl (noT_get h fun ps z => nomatch z))
  · exact .inl (.inr ⟨o, noT_get h fun ps z => nomatch z⟩)
  · exact .inr h
theorem tabsC0 {ca : Nat → Addr} {H : Hp} (h : ca 20 = 0) (k : ca 22 = 0) : TabsC ca H := ⟨fun z => (by rw [h] at z; cases z), fun z => (by rw [k] at z; cases z)⟩
def caOf (l : List Addr) (c : Nat) : Addr := l.getD c 0
end BK
namespace BK
open PySem PySem.Spec L2
set_option autoImplicit false
theorem fn_none {P : Program} {w : World} {K : PySem.W.Frag} {mg : Str → Option Value} {base : Heap} {CX : CXT} {k : Nat} {f : Addr} {fd : FuncData} {ps : List Str} {ca : Nat → Addr} : FnOk P w K mg base CX k f fd ps (spOf K ca fun _ => none) :=
  ⟨fun vs H Q E ⟨ds, F, r, _, _, _, _, e, _⟩ => (by cases e), fun A outer s H args us vs Q E hr he hb hv ⟨ds, F, r, _, _, _, _, e, _⟩ => (by cases e)⟩
end BK
namespace BK
open PySem PySem.Spec L2
set_option autoImplicit false
theorem blk_by {X : Cx} {N : List Str} {sc scope : Scope} {own : List (Str × Nat)} (hN : X.N = N) (hs : X.env.scope = sc) (h : blkC N sc scope own = true) : BlkOk X.N X.env.scope scope own := by
  rw [hN, hs]
  exact blkOk_by h
end BK
namespace BK
open PySem PySem.Spec L2
set_option autoImplicit false
/-! ### chains, methods of texts and lists, stores -/
/-- a < b < c -/
def eCh (f f' : R → R → Option R) (a b c : Gm → Option R) : Gm → Option R := fun g => (a g).bind fun x => (b g).bind fun y => (f x y).bind fun z => match z with
  | .va (.bl true) => (c g).bind fun w => f' y.fz w
  | .va (.bl false) => some (.va (.bl false))
  | _ => none
section
variable {X : Cx} {ca : Nat → Addr} {a b c : Expr} {m n k : Gm → Option R} {pos apos p : Pos}
/-! texts -/
/-- two texts -/
def f2s (g : Str → Str → Option R) (x y : R) : Option R := match x with
  | .va (.str a) => match y with
    | .va (.str b) => g a b
    | _ => none
  | _ => none
def gPart (a b : Str) : Option R := if (b.length == 0) = false ∧ a.length ≤ LIM then some (.va (.tup [.str (Txt.partition a b).1, .str (Txt.partition a b).2.1, .str (Txt.partition a b).2.2])) else none
def gSplit (a b : Str) : Option R := if (b.length == 0) = false ∧ a.length + 2 ≤ LIM then some (.tm ((Txt.split a b).map .str)) else none
/-- sep.join(xs) -/
def strsD : List D → Option (List Str)
  | [] => some []
  | .str z :: ds => (strsD ds).map (z :: ·)
  | _ => none
def R.seq (r : R) : Option (List D) := match r.d with
  | .lst ds => some ds
  | .tup ds => some ds
  | .rol ds => some ds
  | _ => none
def fJoin (x y : R) : Option R := match x with
  | .va (.str a) => y.seq.bind fun ds => (strsD ds).bind fun zs => if (zs.map (·.length)).sum + zs.length * a.length ≤ 16777216 then some (.va (.str (Txt.join a zs))) else none
  | _ => none
end
end BK
namespace BK
open PySem PySem.Spec L2
set_option autoImplicit false
end BK
namespace BK
open PySem PySem.Spec L2
set_option autoImplicit false
/-! ### own lists changed otherwise -/
/-- the place that a pop or a store names -/
def ixD (ds : List D) (r : R) : Option Nat := match r with
  | .va (.int k) => if -(2 ^ 63) ≤ k ∧ k < 2 ^ 63 then seqIndex? k ds.length else none
  | _ => none
theorem ixD_some {ds : List D} {r : R} {t : Nat} (h : ixD ds r = some t) : ∃ k : Int, r = .va (.int k) ∧ -(2 ^ 63) ≤ k ∧ k < 2 ^ 63 ∧ seqIndex? k ds.length = some t := by
  unfold ixD at h
  split at h
  · split at h
    · rename_i hb
      exact ⟨_, rfl, hb.1, hb.2, h⟩
    · cases h
  · cases h
/-- y = xs.pop(k) -/
def sPopS (j i : Nat) (a : Gm → Option R) : Gm → Option Out := fun g => match g[i]? with
  | some (.ow ds) => (a g).bind fun r => (ixD ds r).bind fun t => ds[t]?.map fun d => .nx ((g.set i (.ow (ds.eraseIdx t))).set j (.va d))
  | _ => none
/-- xs.pop(k) -/
def sPopX (i : Nat) (a : Gm → Option R) : Gm → Option Out := fun g => match g[i]? with
  | some (.ow ds) => (a g).bind fun r => (ixD ds r).bind fun t => ds[t]?.map fun _ => .nx (g.set i (.ow (ds.eraseIdx t)))
  | _ => none
def sRev (i : Nat) : Gm → Option Out := fun g => match g[i]? with
  | some (.ow ds) => some (.nx (g.set i (.ow ds.reverse)))
  | _ => none
def sClr (i : Nat) : Gm → Option Out := fun g => match g[i]? with
  | some (.ow _) => some (.nx (g.set i (.ow [])))
  | _ => none
/-- xs[k] = v -/
def sSt (i : Nat) (a v : Gm → Option R) : Gm → Option Out := fun g => match g[i]? with
  | some (.ow ds) => (v g).bind fun r => if r.isBw = true then none else (a g).bind fun q => match q with
    | .va (.int k) => (ixN ds.length k).map fun t => .nx (g.set i (.ow (ds.set t r.d)))
    | _ => none
  | _ => none
section
variable {X : Cx} {ca : Nat → Addr} {e : Expr} {m : Gm → Option R} {pos pos' p1 p2 p3 : Pos} {i j : Nat} {x y : Str}
theorem kpg_set2 {g : Gm} {s t : Slot} : KpG [i, j] g (.nx ((g.set i s).set j t)) := fun k hk => by
  have h1 : j ≠ k := fun e => hk (by rw [e]; simp)
  have h2 : i ≠ k := fun e => hk (by rw [e]; simp)
  rw [List.getElem?_set_ne h1, List.getElem?_set_ne h2]
theorem kp_set' {σ : L2.St} {v : Option V} : Kp [i, j] σ (σ.set j v) := fun k hk => by
  have h1 : j ≠ k := fun e => hk (by rw [e]; simp)
  rw [List.getElem?_set_ne h1]
theorem sv_popS (hN : X.N.Nodup) (hi : X.N[j]? = some y) (hy : Loc X.env.scope y) (hx : PE X (.Name x p1) (tVar i)) (he : EV X ca e m) (hs1 : starEach [e] X.env = (false, eval e X.env) :: starEach [] X.env := by rfl)
    (h : PE X (.Call (.Attribute (.Name x p1) "pop" p2) [e] [] p3) (tBM X.K "list" rPopAt (tVar i) (tCons (tEV X.K ca m) tNil)))
    (hs : swapsWith (.Call (.Attribute (.Name x p1) "pop" p2) [e] [] p3) (some (.Name y pos')) pos.line X.env = pure false := by rfl)
    (hf : X.fn y = true ∨ X.env.scope.names.lookup y = some .local := by first | exact .inl rfl | exact .inr rfl | assumption) : SV X ca (.Assign [.Name y pos'] (.Call (.Attribute (.Name x p1) "pop" p2) [e] [] p3) pos) (sPopS j i m) [i, j] := by
  refine ⟨ps_imp (ps_set hN hi hy h hs hf) ?_, fun g o e => ?_⟩
  · rintro D σ H ⟨H0, F0, F, Γ, o, S, e, p⟩
    unfold sPopS at e
    split at e
    · rename_i ds hg
      obtain ⟨r, er, e⟩ := Option.bind_eq_some_iff.mp e
      obtain ⟨t, et, e⟩ := Option.bind_eq_some_iff.mp e
      obtain ⟨d, ed, rfl⟩ := Option.map_eq_some_iff.mp e
      obtain ⟨k, rfl, k1, k2, k3⟩ := ixD_some et
      obtain ⟨a, vs, s, h1, h2, h3, h4⟩ := S.ow i ds hg
      refine ⟨_, s, .inl ⟨rfl, vs, SqL.of h3⟩, H0, F0, F, Γ, _, S, er, fun v H1 F1 x1 r1 => ?_⟩
      cases r1
      have h4' := h4.mono x1.ff
      obtain ⟨w, hw, hd⟩ := h4'.getV ed
      refine ⟨a, vs, k, t, w, rfl, rfl, x1.hh.l h3, k1, k2, by rw [h4.length]; exact k3, hw, ?_⟩
      have S2 := S.mono x1
      have S3 := S2.upd hg s (h4'.eraseIdx t)
      exact p _ _ F1 (S3.setVa hd) x1.ff kp_set'
    · cases e
  · unfold sPopS at e
    split at e
    · obtain ⟨r, er, e⟩ := Option.bind_eq_some_iff.mp e
      obtain ⟨t, et, e⟩ := Option.bind_eq_some_iff.mp e
      obtain ⟨d, ed, rfl⟩ := Option.map_eq_some_iff.mp e
      exact kpg_set2
    · cases e
theorem sv_rev (hx : PE X (.Name x p1) (tVar i)) (h : PE X (.Call (.Attribute (.Name x p1) "reverse" p2) [] [] p3) (tBM0 X.K "list" rReverse (tVar i)))
    (hs : swapsWith (.Call (.Attribute (.Name x p1) "reverse" p2) [] [] p3) none pos.line X.env = pure false := by rfl) : SV X ca (.Expr (.Call (.Attribute (.Name x p1) "reverse" p2) [] [] p3) pos) (sRev i) [i] := by
  refine ⟨ps_imp (ps_expr h hs) ?_, fun g o e => ?_⟩
  · rintro D σ H ⟨H0, F0, F, Γ, o, S, e, p⟩
    unfold sRev at e
    split at e
    · rename_i ds hg
      cases e
      obtain ⟨a, vs, s, h1, h2, h3, h4⟩ := S.ow i ds hg
      exact ⟨_, s, .inl ⟨rfl, vs, SqL.of h3⟩, a, vs, rfl, rfl, h3, p σ _ F (S.upd hg s h4.reverse) (Same.refl _) .refl⟩
    · cases e
  · unfold sRev at e
    split at e
    · cases e; exact kpg_set
    · cases e
end
end BK
namespace BK
open PySem PySem.Spec L2
set_option autoImplicit false
/-- xs += ys -/
def sExt (i : Nat) (m : Gm → Option R) : Gm → Option Out := fun g => match g[i]? with
  | some (.ow ds) => (m g).bind fun r => match r.d with
    | .lst es => if ds.length + es.length ≤ LIM then some (.nx (g.set i (.ow (ds ++ es)))) else none
    | _ => none
  | _ => none
section
variable {X : Cx} {ca : Nat → Addr} {e : Expr} {m : Gm → Option R} {pos pos' : Pos} {i : Nat} {x : Str}
theorem set_same {α : Type} {l : List α} {i : Nat} {v : α} (h : l[i]? = some v) : l.set i v = l := by
  apply List.ext_getElem?
  intro j
  by_cases e : i = j
  · subst e
    rw [List.getElem?_set_self (List.getElem?_eq_some_iff.mp h).1, h]
  · rw [List.getElem?_set_ne e]
theorem sv_ext (hN : X.N.Nodup) (hi : X.N[i]? = some x) (hx : Loc X.env.scope x) (he : EV X ca e m)
    (hf : X.fn x = true ∨ X.env.scope.names.lookup x = some .local := by first | exact .inl rfl | exact .inr rfl | assumption) : SV X ca (.AugAssign (.Name x pos') .Add e pos) (sExt i m) [i] := by
  refine ⟨ps_imp (ps_aug hN hi hx he (op := .Add) iop_ext hf) ?_, fun g o e => ?_⟩
  · rintro D σ H ⟨H0, F0, F, Γ, o, S, e, p⟩
    unfold sExt at e
    split at e
    · rename_i ds hg
      obtain ⟨r, er, e⟩ := Option.bind_eq_some_iff.mp e
      split at e
      · rename_i es hd
        split at e
        · rename_i hl
          cases e
          obtain ⟨a, vs, s, h1, h2, h3, h4⟩ := S.ow i ds hg
          refine ⟨_, s, H0, F0, F, Γ, r, S, er, fun v H1 F1 x1 r1 => ?_⟩
          obtain ⟨b, ws, rfl, w1, w2⟩ := RV.lstH x1.fh r1 hd
          refine ⟨a, b, vs, ws, rfl, rfl, x1.hh.l h3, w1, by rw [lim_eq, h4.length, w2.length]; exact hl, ?_⟩
          have S2 := (S.mono x1).upd hg s ((h4.mono x1.ff).append w2)
          show D.nx (σ.set i (some (.ref a))) _
          rw [set_same s]
          exact p σ _ F1 S2 x1.ff .refl
        · cases e
      · cases e
    · cases e
  · unfold sExt at e
    split at e
    · obtain ⟨r, er, e⟩ := Option.bind_eq_some_iff.mp e
      split at e
      · split at e
        · cases e; exact kpg_set
        · cases e
      · cases e
    · cases e
end
end BK
namespace BK
open PySem PySem.Spec L2
set_option autoImplicit false
/-! isinstance of an own class -/
structure IsC (K : PySem.W.Frag) (C : Addr) : Prop where
  cc : PySem.W.findIn K (.ref C) "__class__" = some (some (.builtin "object.__class__"))
  cg : PySem.W.specialIn K (.builtin "object.__class__") "__get__" = some (some (.builtin "getset_descriptor.__get__"))
  ct : PySem.W.takesIn K (.builtin "object.__class__") = some true
  cm : PySem.W.mroIn K C (.type "object") = some true
def IsiK (K : PySem.W.Frag) (ca : Nat → Addr) (cs : List Nat) (c : Nat) : Prop := ∀ c2 ∈ cs, IsC K (ca c2) ∧ PySem.W.kitOne K (.ref (ca c2)) (.ref (ca c)) = some (c2 == c)
def cIsC (cs : List Nat) (c : Nat) (r : R) : Option R := match r with
  | .va (.ins c2 _) => if cs.contains c2 = true then some (.va (.bl (c2 == c))) else none
  | _ => none
section
variable {X : Cx} {ca : Nat → Addr} {e : Expr} {m : Gm → Option R} {pos p p1 : Pos}
theorem ev_isc {cs : List Nat} {c : Nat} {x : Str} (hg : Gl X "isinstance") (hm : X.mg "isinstance" = none) (hv : bootBuiltins "isinstance" = some (.builtin "isinstance")) (he : EV X ca e m) (hgc : Gl X x) (hmc : X.mg x = some (.ref (ca c))) (I : IsiK X.K ca cs c) (hdb : (x == ("__debug__" : Str)) = false := by decide)
    (hs1 : starEach [e, .Name x p1] X.env = (false, eval e X.env) :: starEach [.Name x p1] X.env := by rfl) (hs2 : starEach [.Name x p1] X.env = (false, eval (.Name x p1) X.env) :: starEach [] X.env := by rfl)
    (hpl : (backTo pos (starEach [.Name x p1] X.env)).any (·.1) = false := by rfl) : EV X ca (.Call (.Name "isinstance" p) [e, .Name x p1] [] pos) (e1 (cIsC cs c) m) := by
  refine pe_imp (pe_callB call_isi hg hm hv (pa_cons he (pa_cons (pe_glob (v := .ref (ca c)) hgc hmc rfl hdb) pa_nil hs2) hs1) (by decide) (by decide) hs1 hpl) ?_
  rintro σ H Q ⟨H0, F0, F, Γ, z, S, e, q⟩
  unfold e1 at e
  obtain ⟨r, er, e⟩ := Option.bind_eq_some_iff.mp e
  refine ⟨H0, F0, F, Γ, r, S, er, fun v H1 F1 x1 r1 => ?_⟩
  unfold cIsC at e
  split at e
  · rename_i c2 ds
    split at e
    · rename_i hc
      cases e
      obtain ⟨ic, hk⟩ := I c2 (by simpa using hc)
      have r2 := r1
      cases r1 with
      | ins k h n hs =>
        exact ⟨_, _, _, _, _, rfl, .own _, .base (.ins (x1.fh _ _ h) k.cl ic.cc ic.cg ic.ct ic.cm), hk, q _ H1 F1 x1 (.bl _)⟩
    · cases e
  · cases e
end
end BK
namespace BK
open PySem PySem.Spec L2
set_option autoImplicit false
theorem kit_own {K : PySem.W.Frag} {C2 C : Addr} {b : Bool} (h1 : PySem.W.isClsIn K C = true) (h2 : PySem.W.typeIn K (.ref C) = some (.type "type")) (h3 : PySem.W.subIn K (.ref C2) (.ref C) = some b) (h4 : PySem.W.subIn K (.ref C) (.ref C) = some true) : PySem.W.kitOne K (.ref C2) (.ref C) = some b := by
  unfold PySem.W.kitOne
  by_cases e : C2 = C
  · subst e
    rw [h3] at h4
    rw [if_pos (by simp), h4]
  · rw [if_neg (by simpa using e)]
    show (if ((PySem.W.clsIn K C).isSome && PySem.W.typeIn K (.ref C) == some (.type "type")) = true then PySem.W.subIn K (.ref C2) (.ref C) else none) = _
    have e1 : (PySem.W.clsIn K C).isSome = true := h1
    rw [e1, h2, if_pos (by simp), h3]
end BK
namespace BK
open PySem PySem.Spec L2
set_option autoImplicit false
/-- ys = xs, xs no more used -/
def sMv (i j : Nat) : Gm → Option Out := fun g => match g[j]? with
  | some (.ow ds) => if i = j then none else some (.nx ((g.set j .un).set i (.ow ds)))
  | some (.va d) => some (.nx (g.set i (.va d)))
  | _ => none
theorem SR.forget {K : PySem.W.Frag} {ca : Nat → Addr} {H0 F0 H F : Hp} {σ : L2.St} {Γ : Gm} (S : SR K ca H0 F0 σ H F Γ) (j : Nat) : SR K ca H0 F0 σ H F (Γ.set j .un) := by
  refine ⟨S.ext, S.nt0, S.tc0, by rw [List.length_set]; exact S.len, fun k e hk => ?_, fun k ds hk => ?_, fun k l ds es a n hk hl sk sl => ?_, S.own.keep (fun k t e => by
    rcases get_set e with ⟨_, e1, _⟩ | ⟨n, e⟩
    · cases e1
    · exact ⟨e, rfl⟩) (fun k ds a g s' => by
    rcases get_set g with ⟨_, e1, _⟩ | ⟨n, g⟩
    · cases e1
    · exact .inl ⟨k, ds, g, s'⟩) (Same.refl _) fun b u e n f _ => ⟨e, f⟩⟩
  · rcases get_set hk with ⟨_, e1, _⟩ | ⟨_, hk⟩
    · cases e1
    · exact S.va k e hk
  · rcases get_set hk with ⟨_, e1, _⟩ | ⟨_, hk⟩
    · cases e1
    · exact S.ow k ds hk
  · rcases get_set hk with ⟨_, e1, _⟩ | ⟨_, hk⟩
    · cases e1
    · rcases get_set hl with ⟨_, e1, _⟩ | ⟨_, hl⟩
      · cases e1
      · exact S.ap k l ds es a n hk hl sk sl
section
variable {X : Cx} {ca : Nat → Addr} {pos pos' p1 : Pos} {i j : Nat} {x y : Str}
theorem sv_mv (hN : X.N.Nodup) (hi : X.N[i]? = some y) (hy : Loc X.env.scope y) (hx : PE X (.Name x p1) (tVar j)) (hs : swapsWith (.Name x p1) (some (.Name y pos')) pos.line X.env = pure false := by rfl)
    (hf : X.fn y = true ∨ X.env.scope.names.lookup y = some .local := by first | exact .inl rfl | exact .inr rfl | assumption) : SV X ca (.Assign [.Name y pos'] (.Name x p1) pos) (sMv i j) [j, i] := by
  refine ⟨ps_imp (ps_set hN hi hy hx hs hf) ?_, fun g o e => ?_⟩
  · rintro D σ H ⟨H0, F0, F, Γ, o, S, e, p⟩
    unfold sMv at e
    split at e
    · rename_i ds hg
      split at e
      · cases e
      rename_i hij
      cases e
      obtain ⟨a, vs, s, h1, h2, h3, h4⟩ := S.ow j ds hg
      refine ⟨_, s, p _ _ F ?_ (Same.refl _) kp_set'⟩
      have S1 := S.forget j
      refine ⟨S1.ext, S1.nt0, S1.tc0, by rw [List.length_set, List.length_set]; exact S1.len, fun k e hk => ?_, fun k es hk => ?_, fun k l es fs b n hk hl sk sl => ?_, S.own.keep (fun k t e => by
        rcases get_set e with ⟨_, e1, _⟩ | ⟨n, e⟩
        · cases e1
        rcases get_set e with ⟨_, e1, _⟩ | ⟨_, e⟩
        · cases e1
        · exact ⟨e, List.getElem?_set_ne n⟩) (fun k es b g s' => by
        rcases get_set g with ⟨e0, e1, hl⟩ | ⟨n, g⟩
        · subst e0
          rw [List.getElem?_set_self (S1.lt hl)] at s'
          cases s'
          exact .inl ⟨j, ds, hg, s⟩
        · rw [List.getElem?_set_ne n] at s'
          rcases get_set g with ⟨_, e1, _⟩ | ⟨_, g⟩
          · cases e1
          · exact .inl ⟨k, es, g, s'⟩) (Same.refl _) fun b u e n f _ => ⟨e, f⟩⟩
      · rcases get_set hk with ⟨rfl, e1, hl⟩ | ⟨n, hk⟩
        · cases e1
        · rw [List.getElem?_set_ne n]; exact S1.va k e hk
      · rcases get_set hk with ⟨rfl, e1, hl⟩ | ⟨n, hk⟩
        · cases e1
          exact ⟨a, vs, List.getElem?_set_self (S1.lt hl), h1, h2, h3, h4⟩
        · rw [List.getElem?_set_ne n]; exact S1.ow k es hk
      · have key : ∀ {k : Nat} {es : List BK.D}, (Γ.set j .un)[k]? = some (.ow es) → σ[k]? = some (some (.ref a)) → False := fun {k es} hk sk => by
          rcases get_set hk with ⟨_, e1, _⟩ | ⟨n, hk⟩
          · cases e1
          · exact S.ap j k ds es a n hg hk s sk
        rcases get_set hk with ⟨rfl, e1, hl1⟩ | ⟨n1, hk⟩
        · rw [List.getElem?_set_self (S1.lt hl1)] at sk
          cases sk
          rcases get_set hl with ⟨rfl, e2, hl2⟩ | ⟨n2, hl⟩
          · exact n rfl
          · rw [List.getElem?_set_ne n2] at sl
            exact key hl sl
        · rcases get_set hl with ⟨rfl, e2, hl2⟩ | ⟨n2, hl⟩
          · rw [List.getElem?_set_self (S1.lt hl2)] at sl
            cases sl
            rw [List.getElem?_set_ne n1] at sk
            exact key hk sk
          · rw [List.getElem?_set_ne n1] at sk
            rw [List.getElem?_set_ne n2] at sl
            exact S1.ap k l es fs b n hk hl sk sl
    · rename_i d hg
      cases e
      obtain ⟨v, s, h⟩ := S.va j d hg
      exact ⟨v, s, p _ _ F (S.setVa h) (Same.refl _) kp_set'⟩
    · cases e
  · unfold sMv at e
    split at e
    · split at e
      · cases e
      cases e
      exact kpg_set2
    · cases e
      intro k hk
      have h1 : i ≠ k := fun e => hk (by rw [e]; simp)
      rw [List.getElem?_set_ne h1]
    · cases e
end
end BK
namespace BK
open PySem PySem.Spec L2
set_option autoImplicit false
/-! ### evaluation of the later combinators -/
/-- fields -/
@[simp] theorem oFld_ins (f : Str) (c : Nat) (ds : List D) : oFld f (.va (.ins c ds)) = (fldD c ds f).map .va := rfl
@[simp] theorem fld_0 (a : D) : fldD 0 [a] "length" = some a := rfl
@[simp] theorem fld_1a (a b c d e : D) : fldD 1 [a, b, c, d, e] "length" = some a := rfl
@[simp] theorem fld_1b (a b c d e : D) : fldD 1 [a, b, c, d, e] "name" = some b := rfl
@[simp] theorem fld_1c (a b c d e : D) : fldD 1 [a, b, c, d, e] "bears" = some c := rfl
@[simp] theorem fld_1d (a b c d e : D) : fldD 1 [a, b, c, d, e] "wide" = some d := rfl
@[simp] theorem fld_1e (a b c d e : D) : fldD 1 [a, b, c, d, e] "most" = some e := rfl
@[simp] theorem fld_2a (a b c : D) : fldD 2 [a, b, c] "pieces" = some a := rfl
@[simp] theorem fld_2b (a b c : D) : fldD 2 [a, b, c] "rounds" = some b := rfl
@[simp] theorem fld_2c (a b c : D) : fldD 2 [a, b, c] "shuts" = some c := rfl
@[simp] theorem fld_3a (a b c : D) : fldD 3 [a, b, c] "name" = some a := rfl
@[simp] theorem fld_3b (a b c : D) : fldD 3 [a, b, c] "speed" = some b := rfl
@[simp] theorem fld_3c (a b c : D) : fldD 3 [a, b, c] "wheels" = some c := rfl
@[simp] theorem fld_4a (a b c d e : D) : fldD 4 [a, b, c, d, e] "cart" = some a := rfl
@[simp] theorem fld_4b (a b c d e : D) : fldD 4 [a, b, c, d, e] "way" = some b := rfl
@[simp] theorem fld_4c (a b c d e : D) : fldD 4 [a, b, c, d, e] "start" = some c := rfl
@[simp] theorem fld_4d (a b c d e : D) : fldD 4 [a, b, c, d, e] "crossings" = some d := rfl
@[simp] theorem fld_4e (a b c d e : D) : fldD 4 [a, b, c, d, e] "ended" = some e := rfl
@[simp] theorem fld_5a (a b c : D) : fldD 5 [a, b, c] "road" = some a := rfl
@[simp] theorem fld_5b (a b c : D) : fldD 5 [a, b, c] "loads" = some b := rfl
@[simp] theorem fld_5c (a b c : D) : fldD 5 [a, b, c] "sends" = some c := rfl
@[simp] theorem cIsB_0 (ds : List D) : cIsB (.va (.ins 0 ds)) = some (.va (.bl false)) := rfl
@[simp] theorem cIsB_1 (ds : List D) : cIsB (.va (.ins 1 ds)) = some (.va (.bl true)) := rfl
@[simp] theorem allVa_nil : allVa [] = some [] := rfl
@[simp] theorem allVa_cons (d : D) (rs : List R) : allVa (.va d :: rs) = (allVa rs).map (d :: ·) := rfl
def iniK (o : Option (List D)) (r : R) : Option (List D) := if r.isBw = true then none else o.map (r.d :: ·)
@[simp] theorem iniK_va (d : D) (o : Option (List D)) : iniK o (.va d) = o.map (d :: ·) := rfl
@[simp] theorem iniK_tm (ds : List D) (o : Option (List D)) : iniK o (.tm ds) = o.map (D.lst ds :: ·) := rfl
@[simp] theorem inis_nil (g : Gm) : inis [] g = some [] := rfl
@[simp] theorem inis_cns (m : Gm → Option R) (ms : List (Gm → Option R)) (g : Gm) : inis (m :: ms) g = b1 (m g) (iniK (inis ms g)) := rfl
@[simp] theorem cMk_def (c : Nat) (ms : List (Gm → Option R)) (rs : List R) : cMk c ms rs = b1 (allVa rs) fun ds => (inis ms (.un :: ds.map .va)).map fun es => .va (.ins c es) := rfl
@[simp] theorem cMkN_def (c n : Nat) (ms : List (Gm → Option R)) (rs : List R) : cMkN c n ms rs = if rs.length = n then cMk c ms rs else none := rfl
/-- chains -/
def chK (f : R → R → Option R) (y : R) (w : Option R) : R → Option R
  | .va (.bl k) => if k = true then b1 w (f y) else some (.va (.bl false))
  | _ => none
@[simp] theorem chK_bl (f : R → R → Option R) (y : R) (w : Option R) (k : Bool) : chK f y w (.va (.bl k)) = if k = true then b1 w (f y) else some (.va (.bl false)) := rfl
@[simp] theorem eCh_def (f f' : R → R → Option R) (a b c : Gm → Option R) (g : Gm) : eCh f f' a b c g = b2 (a g) (b g) fun x y => b1 (f x y) (chK f' y.fz (c g)) := by
  unfold eCh b2
  cases a g with
  | none => rfl
  | some x =>
    cases b g with
    | none => rfl
    | some y =>
      show (f x y).bind _ = b1 (f x y) _
      cases f x y with
      | none => rfl
      | some z =>
        cases z with
        | va d =>
          cases d with
          | bl k => cases k <;> rfl
          | _ => rfl
        | _ => rfl
/-- texts -/
@[simp] theorem f2s_str (g : Str → Str → Option R) (a b : Str) : f2s g (.va (.str a)) (.va (.str b)) = g a b := rfl
@[simp] theorem gPart_def (a b : Str) : gPart a b = if (b.length == 0) = false ∧ a.length ≤ LIM then some (.va (.tup [.str (Txt.partition a b).1, .str (Txt.partition a b).2.1, .str (Txt.partition a b).2.2])) else none := rfl
@[simp] theorem gSplit_def (a b : Str) : gSplit a b = if (b.length == 0) = false ∧ a.length + 2 ≤ LIM then some (.tm ((Txt.split a b).map .str)) else none := rfl
@[simp] theorem strsD_nil : strsD [] = some [] := rfl
@[simp] theorem strsD_cons (z : Str) (ds : List D) : strsD (.str z :: ds) = (strsD ds).map (z :: ·) := rfl
@[simp] theorem strsD_map (zs : List Str) : strsD (zs.map .str) = some zs := by
  induction zs with
  | nil => rfl
  | cons z zs ih => rw [List.map_cons, strsD_cons, ih]; rfl
@[simp] theorem seq_lst (ds : List D) : (R.va (.lst ds)).seq = some ds := rfl
@[simp] theorem seq_tup (ds : List D) : (R.va (.tup ds)).seq = some ds := rfl
@[simp] theorem seq_rol (ds : List D) : (R.va (.rol ds)).seq = some ds := rfl
@[simp] theorem seq_tm (ds : List D) : (R.tm ds).seq = some ds := rfl
@[simp] theorem seq_bw (j : Nat) (ds : List D) : (R.bw j ds).seq = some ds := rfl
@[simp] theorem fJoin_str (a : Str) (y : R) : fJoin (.va (.str a)) y = b1 y.seq fun ds => b1 (strsD ds) fun zs => if (zs.map (·.length)).sum + zs.length * a.length ≤ 16777216 then some (.va (.str (Txt.join a zs))) else none := rfl
/-- own lists -/
def pop1 (ds : List D) (k : Int) : Option Nat := if -(2 ^ 63) ≤ k ∧ k < 2 ^ 63 then seqIndex? k ds.length else none
@[simp] theorem ixD_int (ds : List D) (k : Int) : ixD ds (.va (.int k)) = pop1 ds k := rfl
def popK (j i : Nat) (g : Gm) (ds : List D) (t : Nat) : Option Out := ds[t]?.map fun d => .nx ((g.set i (.ow (ds.eraseIdx t))).set j (.va d))
def popS (j i : Nat) (g : Gm) (r : Option R) : Option Slot → Option Out
  | some (.ow ds) => b1 r fun r => b1 (ixD ds r) (popK j i g ds)
  | _ => none
@[simp] theorem popS_ow (j i : Nat) (g : Gm) (r : Option R) (ds : List D) : popS j i g r (some (.ow ds)) = b1 r fun r => b1 (ixD ds r) (popK j i g ds) := rfl
@[simp] theorem sPopS_def (j i : Nat) (a : Gm → Option R) (g : Gm) : sPopS j i a g = popS j i g (a g) (g[i]?) := by
  unfold sPopS
  cases h : g[i]? with
  | none => rfl
  | some s => cases s <;> rfl
@[simp] theorem pop1_zero (d : D) (ds : List D) : pop1 (d :: ds) 0 = some 0 := by
  unfold pop1 seqIndex?
  rw [if_pos ⟨by decide, by decide⟩]
  simp
@[simp] theorem popK_zero (j i : Nat) (g : Gm) (d : D) (ds : List D) : popK j i g (d :: ds) 0 = some (.nx ((g.set i (.ow ds)).set j (.va d))) := rfl
def popXK (i : Nat) (g : Gm) (ds : List D) (t : Nat) : Option Out := ds[t]?.map fun _ => .nx (g.set i (.ow (ds.eraseIdx t)))
def popX (i : Nat) (g : Gm) (r : Option R) : Option Slot → Option Out
  | some (.ow ds) => b1 r fun r => b1 (ixD ds r) (popXK i g ds)
  | _ => none
@[simp] theorem popX_ow (i : Nat) (g : Gm) (r : Option R) (ds : List D) : popX i g r (some (.ow ds)) = b1 r fun r => b1 (ixD ds r) (popXK i g ds) := rfl
@[simp] theorem sPopX_def (i : Nat) (a : Gm → Option R) (g : Gm) : sPopX i a g = popX i g (a g) (g[i]?) := by
  unfold sPopX
  cases h : g[i]? with
  | none => rfl
  | some s => cases s <;> rfl
def revS (i : Nat) (g : Gm) : Option Slot → Option Out
  | some (.ow ds) => some (.nx (g.set i (.ow ds.reverse)))
  | _ => none
@[simp] theorem revS_ow (i : Nat) (g : Gm) (ds : List D) : revS i g (some (.ow ds)) = some (.nx (g.set i (.ow ds.reverse))) := rfl
@[simp] theorem sRev_def (i : Nat) (g : Gm) : sRev i g = revS i g (g[i]?) := by
  unfold sRev
  cases h : g[i]? with
  | none => rfl
  | some s => cases s <;> rfl
def clrS (i : Nat) (g : Gm) : Option Slot → Option Out
  | some (.ow _) => some (.nx (g.set i (.ow [])))
  | _ => none
@[simp] theorem clrS_ow (i : Nat) (g : Gm) (ds : List D) : clrS i g (some (.ow ds)) = some (.nx (g.set i (.ow []))) := rfl
@[simp] theorem sClr_def (i : Nat) (g : Gm) : sClr i g = clrS i g (g[i]?) := by
  unfold sClr
  cases h : g[i]? with
  | none => rfl
  | some s => cases s <;> rfl
def stK (i : Nat) (g : Gm) (ds : List D) (r q : R) : Option Out := if r.isBw = true then none else match q with
  | .va (.int k) => (ixN ds.length k).map fun t => .nx (g.set i (.ow (ds.set t r.d)))
  | _ => none
@[simp] theorem stK_va (i : Nat) (g : Gm) (ds : List D) (d : D) (k : Int) : stK i g ds (.va d) (.va (.int k)) = (ixN ds.length k).map fun t => .nx (g.set i (.ow (ds.set t d))) := rfl
@[simp] theorem stK_tm (i : Nat) (g : Gm) (ds es : List D) (k : Int) : stK i g ds (.tm es) (.va (.int k)) = (ixN ds.length k).map fun t => .nx (g.set i (.ow (ds.set t (.lst es)))) := rfl
def stS (i : Nat) (g : Gm) (v a : Option R) : Option Slot → Option Out
  | some (.ow ds) => b2 v a (stK i g ds)
  | _ => none
@[simp] theorem stS_ow (i : Nat) (g : Gm) (v a : Option R) (ds : List D) : stS i g v a (some (.ow ds)) = b2 v a (stK i g ds) := rfl
@[simp] theorem sSt_def (i : Nat) (a v : Gm → Option R) (g : Gm) : sSt i a v g = stS i g (v g) (a g) (g[i]?) := by
  unfold sSt
  cases h : g[i]? with
  | none => rfl
  | some s =>
    cases s with
    | ow ds =>
      show (v g).bind _ = b2 (v g) (a g) _
      unfold b2
      cases v g with
      | none => rfl
      | some r =>
        show (if r.isBw = true then none else _) = _
        cases hb : r.isBw with
        | true =>
          cases a g with
          | none => simp
          | some q =>
            show _ = stK i g ds r q
            unfold stK
            rw [hb]
            rfl
        | false =>
          rw [if_neg (by decide)]
          cases a g with
          | none => rfl
          | some q =>
            show _ = stK i g ds r q
            unfold stK
            rw [hb, if_neg (by decide)]
            rfl
    | _ => rfl
@[simp] theorem atI_end {α : Type} (xs : List α) (x : α) : atI (xs ++ [x]) (-1) = some x := by
  unfold atI ixN
  rw [if_neg (by omega), if_pos (by simp; omega)]
  show (xs ++ [x])[(-1 + ((xs ++ [x]).length : Int)).toNat]? = some x
  have e : (-1 + ((xs ++ [x]).length : Int)).toNat = xs.length := by
    rw [List.length_append, List.length_singleton]
    omega
  rw [e]
  simp
end BK
namespace BK
open PySem PySem.Spec L2
set_option autoImplicit false
end BK
namespace BK
open PySem PySem.Spec L2
set_option autoImplicit false
def extO (i : Nat) (g : Gm) (ds : List D) (r : R) : Option Out := match r.d with
  | .lst es => if ds.length + es.length ≤ LIM then some (.nx (g.set i (.ow (ds ++ es)))) else none
  | _ => none
@[simp] theorem extO_tm (i : Nat) (g : Gm) (ds es : List D) : extO i g ds (.tm es) = if ds.length + es.length ≤ LIM then some (.nx (g.set i (.ow (ds ++ es)))) else none := rfl
@[simp] theorem extO_bw (i j : Nat) (g : Gm) (ds es : List D) : extO i g ds (.bw j es) = if ds.length + es.length ≤ LIM then some (.nx (g.set i (.ow (ds ++ es)))) else none := rfl
@[simp] theorem extO_va (i : Nat) (g : Gm) (ds es : List D) : extO i g ds (.va (.lst es)) = if ds.length + es.length ≤ LIM then some (.nx (g.set i (.ow (ds ++ es)))) else none := rfl
def extS (i : Nat) (g : Gm) (v : Option R) : Option Slot → Option Out
  | some (.ow ds) => b1 v (extO i g ds)
  | _ => none
@[simp] theorem extS_ow (i : Nat) (g : Gm) (v : Option R) (ds : List D) : extS i g v (some (.ow ds)) = b1 v (extO i g ds) := rfl
@[simp] theorem sExt_def (i : Nat) (m : Gm → Option R) (g : Gm) : sExt i m g = extS i g (m g) (g[i]?) := by
  unfold sExt
  cases h : g[i]? with
  | none => rfl
  | some s => cases s <;> rfl
end BK
namespace BK
open PySem PySem.Spec L2
set_option autoImplicit false
@[simp] theorem cIsC_ins (cs : List Nat) (c c2 : Nat) (ds : List D) : cIsC cs c (.va (.ins c2 ds)) = if cs.contains c2 = true then some (.va (.bl (c2 == c))) else none := rfl
end BK
namespace BK
open PySem PySem.Spec L2
set_option autoImplicit false
def mvS (i j : Nat) (g : Gm) : Option Slot → Option Out
  | some (.ow ds) => if i = j then none else some (.nx ((g.set j .un).set i (.ow ds)))
  | some (.va d) => some (.nx (g.set i (.va d)))
  | _ => none
@[simp] theorem mvS_ow (i j : Nat) (g : Gm) (ds : List D) : mvS i j g (some (.ow ds)) = if i = j then none else some (.nx ((g.set j .un).set i (.ow ds))) := rfl
@[simp] theorem mvS_va (i j : Nat) (g : Gm) (d : D) : mvS i j g (some (.va d)) = some (.nx (g.set i (.va d))) := rfl
@[simp] theorem sMv_def (i j : Nat) (g : Gm) : sMv i j g = mvS i j g (g[j]?) := by
  unfold sMv
  cases h : g[j]? with
  | none => rfl
  | some s => cases s <;> rfl
end BK
namespace BK
open PySem PySem.Spec L2
set_option autoImplicit false
@[simp] theorem atI_five {α : Type} (a b c d e f : α) (xs : List α) : atI (a :: b :: c :: d :: e :: f :: xs) 5 = some f := by
  have := atI_ofNat (a :: b :: c :: d :: e :: f :: xs) 5
  simpa using this
end BK
namespace BK
open PySem PySem.Spec L2
set_option autoImplicit false
end BK
namespace BK
open PySem PySem.Spec L2
set_option autoImplicit false
/-! a block that ends in a state of which something holds -/
end BK
namespace BK
open PySem PySem.Spec L2
set_option autoImplicit false
theorem cut_mid {α : Type} (xs : List α) (a b : Nat) : cutL xs (some (a : Int)) (some (b : Int)) = (xs.take b).drop a := by
  unfold cutL
  rw [HT.sIx_nat, HT.sIx_nat, List.drop_take]
  by_cases h : a ≤ xs.length
  · rw [Nat.min_eq_left h]
    by_cases h2 : b ≤ xs.length
    · rw [Nat.min_eq_left h2]
    · rw [Nat.min_eq_right (by omega), List.take_of_length_le (by rw [List.length_drop]; omega), List.take_of_length_le (by rw [List.length_drop]; omega)]
  · rw [List.drop_eq_nil_of_le (show xs.length ≤ min a xs.length by omega), List.drop_eq_nil_of_le (show xs.length ≤ a by omega)]
    simp
end BK
namespace BK
open PySem PySem.Spec L2
set_option autoImplicit false
theorem enumL_map {α : Type} (enc : α → D) : ∀ (xs : List α) (k : Nat), enumL k (xs.map enc) = (xs.zipIdx k).map fun p => .tup [.int (p.2 : Nat), enc p.1]
  | [], _ => rfl
  | x :: xs, k => by
    rw [List.map_cons, List.zipIdx_cons, List.map_cons, ← enumL_map enc xs (k + 1)]
    rfl
end BK
namespace BK
open PySem PySem.Spec L2
set_option autoImplicit false
/-! ### reckonings in plain types, and that a def's function follows them -/
def Sm {α β : Type} (o : Option β) (s : Option α) (P : α → β → Prop) : Prop := ∀ x, s = some x → ∃ y, o = some y ∧ P x y
def grd {α : Type} (p : Prop) [Decidable p] (t : Option α) : Option α := if p then t else none
def lt {α β : Type} (v : α) (t : α → Option β) : Option β := t v
theorem grd_pos {α : Type} {p : Prop} [Decidable p] {t : Option α} (h : p) : grd p t = t := if_pos h
theorem lt_def {α β : Type} (v : α) (t : α → Option β) : lt v t = t v := rfl
inductive Ctl (σ ρ : Type) where
  | nx (s : σ) | bk (s : σ) | rt (r : ρ)
def ctl {σ ρ α : Type} (c : Ctl σ ρ) (t : σ → Option α) (u : ρ → Option α) : Option α := match c with
  | .nx s => t s
  | .bk s => t s
  | .rt r => u r
def forO {α σ : Type} (body : α → σ → Option σ) : List α → σ → Option σ
  | [], s => some s
  | x :: xs, s => b1 (body x s) (forO body xs)
def forC {α σ ρ : Type} (body : α → σ → Option (Ctl σ ρ)) : List α → σ → Option (Ctl σ ρ)
  | [], s => some (.nx s)
  | x :: xs, s => b1 (body x s) fun c => match c with
    | .nx s => forC body xs s
    | .bk s => some (.nx s)
    | .rt r => some (.rt r)
/-- comprehensions whose elements are reckoned partly -/
def mapO {α β : Type} (f : α → Option β) : List α → Option (List β)
  | [] => some []
  | x :: xs => b1 (f x) fun y => b1 (mapO f xs) fun ys => some (y :: ys)
def fmapO {α β : Type} (c : α → Option Bool) (f : α → Option β) : List α → Option (List β)
  | [] => some []
  | x :: xs => b1 (c x) fun k => if k = true then b1 (f x) fun y => b1 (fmapO c f xs) fun ys => some (y :: ys) else fmapO c f xs
section
variable {α β γ : Type} {o : Option β} {P : α → β → Prop}
theorem sm_ret {x : α} {y : β} (h : o = some y) (p : P x y) : Sm o (some x) P := fun x e => by cases e; exact ⟨y, h, p⟩
theorem sm_b1 {p : Option γ} {t : γ → Option α} (h : ∀ x, p = some x → Sm o (t x) P) : Sm o (b1 p t) P := by
  cases p with
  | none => exact fun _ e => by cases e
  | some x => exact h x rfl
theorem sm_grd {p : Prop} [Decidable p] {t : Option α} (h : p → Sm o t P) : Sm o (grd p t) P := by
  unfold grd
  split
  · rename_i c; exact h c
  · exact fun _ e => by cases e
theorem Sm.get {s : Option α} (h : Sm o s P) {x : α} (e : s = some x) : ∃ y, o = some y ∧ P x y := h x e
theorem Sm.eq {s : Option α} {k : α → β} (h : Sm o s fun x y => y = k x) {x : α} (e : s = some x) : o = some (k x) := by
  obtain ⟨y, h1, rfl⟩ := h x e
  exact h1
end
/-! blocks -/
def nxt : Gm → Option Out := fun g => some (.nx g)
def cont (b n : Gm → Option Out) : Gm → Option Out := fun g => bO (b g) n
def J {α : Type} (m n : Gm → Option Out) (g : Gm) (s : Option α) (P : α → Out → Prop) : Prop := Sm (bO (m g) n) s P
def PN {σ : Type} (St : σ → Gm → Prop) : σ → Out → Prop := fun s o => ∃ g, o = .nx g ∧ St s g
/-- a loop's turn -/
def PT {σ : Type} (St : σ → Gm → Prop) : σ → Out → Prop := fun s o => ∃ g, (o = .nx g ∨ o = .ct g) ∧ St s g
def PC {σ ρ : Type} (St : σ → Gm → Prop) (k : ρ → R) : Ctl σ ρ → Out → Prop
  | .nx s, o => ∃ g, (o = .nx g ∨ o = .ct g) ∧ St s g
  | .bk s, o => ∃ g, o = .bk g ∧ St s g
  | .rt r, o => o = .rt (k r)
def PF {α : Type} (k : α → R) : α → Out → Prop := fun v o => fnR (some o) = some (k v)
theorem bO_assoc (x : Option Out) (m n : Gm → Option Out) : bO (bO x m) n = bO x (cont m n) := by
  cases x with
  | none => rfl
  | some o => cases o <;> rfl
theorem bO_nxt (x : Option Out) : bO x nxt = x := by
  cases x with
  | none => rfl
  | some o => cases o <;> rfl
section
variable {α γ : Type} {b n : Gm → Option Out} {g g1 : Gm} {P : α → Out → Prop} {s : Option α} {t : γ → Option α} {i : Nat}
theorem j_b1 {m : Gm → Option Out} {p : Option γ} (h : ∀ x, p = some x → J m n g (t x) P) : J m n g (b1 p t) P := sm_b1 h
theorem j_grd {m : Gm → Option Out} {p : Prop} [Decidable p] (h : p → J m n g s P) : J m n g (grd p s) P := sm_grd h
theorem j_seq {a : Gm → Option Out} (h : a g = some (.nx g1)) (k : J b n g1 s P) : J (sCons a b) n g s P := by
  unfold J
  rw [sCons_def, h, bO_nx]
  exact k
/-- a store whose value is a name already -/
theorem j_setN {e : Gm → Option R} {d : D} (h : e g = some (.va d)) (h1 : g.set i (.va d) = g1) (k : J b n g1 s P) : J (sCons (sSet i e) b) n g s P :=
  j_seq (a := sSet i e) (g1 := g1) (by rw [sSet_def, h, b1_some, stO_va, h1]) k
theorem j_setTN {e : Gm → Option R} {d : List D} (h : e g = some (.tm d)) (h1 : g.set i (.ow d) = g1) (k : J b n g1 s P) : J (sCons (sSet i e) b) n g s P :=
  j_seq (a := sSet i e) (g1 := g1) (by rw [sSet_def, h, b1_some, stO_tm, h1]) k
theorem j_asg {e : Gm → Option R} {f : D → Gm → Option Gm} {d : D} (h : e g = some (.va d)) (h1 : f d g = some g1) (k : J b n g1 s P) : J (sCons (sAsg e f) b) n g s P :=
  j_seq (a := sAsg e f) (g1 := g1) (by rw [sAsg_def, h, b1_some, asO_va, h1]; rfl) k
theorem j_aug {e : Gm → Option R} {f : R → R → Option R} {x y : R} {d : D} (h0 : eV i g = some x) (h : e g = some y) (hf : f x y = some (.va d)) (h1 : g.set i (.va d) = g1) (k : J b n g1 s P) : J (sCons (sAug i f e) b) n g s P :=
  j_seq (a := sAug i f e) (g1 := g1) (by rw [sAug_def, h0, h, b2_some, agO_def, hf, b1_some, stO_va, h1]) k
theorem j_app {e : Gm → Option R} {ds : List D} {r : R} (h0 : g[i]? = some (.ow ds)) (h : e g = some r) (hb : r.isBw = false) (hl : ds.length < 16777216) (h1 : g.set i (.ow (ds ++ [r.d])) = g1) (k : J b n g1 s P) : J (sCons (sApp i e) b) n g s P :=
  j_seq (a := sApp i e) (g1 := g1) (by rw [sApp_def, h0, h, apS_ow, b1_some, apO_ok hb hl, h1]) k
theorem j_ext {e : Gm → Option R} {ds es : List D} {r : R} (h0 : g[i]? = some (.ow ds)) (h : e g = some r) (hd : r.d = .lst es) (hl : ds.length + es.length ≤ 16777216) (h1 : g.set i (.ow (ds ++ es)) = g1) (k : J b n g1 s P) : J (sCons (sExt i e) b) n g s P :=
  j_seq (a := sExt i e) (g1 := g1) (by
    rw [sExt_def, h0, h, extS_ow, b1_some]
    unfold extO
    rw [hd]
    show (if ds.length + es.length ≤ LIM then _ else _) = _
    rw [if_pos (show _ ≤ LIM from hl), h1]) k
theorem j_fzO {m : Gm → Option Out} {ds : List D} (h0 : g[i]? = some (.ow ds)) (h1 : g.set i (.va (.lst ds)) = g1) (k : J (sCons m b) n g1 s P) : J (sCons (sFz i m) b) n g s P := by
  unfold J at k ⊢
  rw [sCons_def, sFz_def, h0, fzS_ow, h1]
  exact k
theorem j_mvO {j : Nat} {ds : List D} (h0 : g[j]? = some (.ow ds)) (hij : (i == j) = false) (h1 : (g.set j .un).set i (.ow ds) = g1) (k : J b n g1 s P) : J (sCons (sMv i j) b) n g s P :=
  j_seq (a := sMv i j) (g1 := g1) (by
    rw [sMv_def, h0, mvS_ow, if_neg (by simpa using hij), h1]) k
theorem j_rev {ds : List D} (h0 : g[i]? = some (.ow ds)) (h1 : g.set i (.ow ds.reverse) = g1) (k : J b n g1 s P) : J (sCons (sRev i) b) n g s P :=
  j_seq (a := sRev i) (g1 := g1) (by unfold sRev; rw [h0, ← h1]) k
theorem j_ret {e : Gm → Option R} {r : R} {v : α} (h : e g = some r) (p : P v (.rt (retR r))) : J (sCons (sRet e) b) n g (some v) P := by
  unfold J
  rw [sCons_def, sRet_def, h, b1_some, rtO_def]
  exact sm_ret rfl p
theorem j_nil {v : α} (p : P v (.nx g)) : J sNil nxt g (some v) P := sm_ret rfl p
theorem j_nilC (k : J b n g s P) : J sNil (cont b n) g s P := k
theorem j_if {c : Gm → Option Bool} {A B : Gm → Option Out} {k : Bool} {sA sB : Option α} (h : c g = some k) (hA : k = true → J A (cont b n) g sA P) (hB : k = false → J B (cont b n) g sB P) : J (sCons (sIf c A B) b) n g (if k = true then sA else sB) P := by
  unfold J
  rw [sCons_def, sIf_def, h, b1_some, ifO_def, bO_assoc]
  cases k with
  | true => exact hA rfl
  | false => exact hB rfl
theorem j_cut {m : Gm → Option Out} {σ : Type} {St : σ → Gm → Prop} {u : Option σ} {t : σ → Option α} (h : J m nxt g u (PN St)) (k : ∀ st g', St st g' → J b n g' (t st) P) : J (sCons m b) n g (b1 u t) P := by
  refine sm_b1 fun st e => ?_
  obtain ⟨o, e1, g', rfl, h2⟩ := h st e
  rw [bO_nxt] at e1
  exact j_seq e1 (k st g' h2)
theorem j_joinB {c : Gm → Option Bool} {A B : Gm → Option Out} {k : Bool} {σ : Type} {St : σ → Gm → Prop} {sA sB : Option σ} {t : σ → Option α} (h : c g = some k) (hA : k = true → J A nxt g sA (PN St)) (hB : k = false → J B nxt g sB (PN St)) (q : ∀ st g', St st g' → J b n g' (t st) P) : J (sCons (sIf c A B) b) n g (b1 (if k = true then sA else sB) t) P := by
  refine j_cut (St := St) ?_ q
  unfold J
  rw [sIf_def, h, b1_some, ifO_def]
  cases k with
  | true => exact hA rfl
  | false => exact hB rfl
theorem jn_end {σ : Type} {St : σ → Gm → Prop} {st : σ} (h : St st g) : J sNil nxt g (some st) (PN St) := j_nil ⟨g, rfl, h⟩
theorem jt_end {σ : Type} {St : σ → Gm → Prop} {st : σ} (h : St st g) : J sNil nxt g (some st) (PT St) := j_nil ⟨g, .inl rfl, h⟩
theorem jc_end {σ ρ : Type} {St : σ → Gm → Prop} {k : ρ → R} {st : σ} (h : St st g) : J sNil nxt g (some (.nx st)) (PC St k) := j_nil (P := PC St k) (v := .nx st) ⟨g, .inl rfl, h⟩
theorem jc_ret {σ ρ : Type} {St : σ → Gm → Prop} {k : ρ → R} {e : Gm → Option R} {r : R} {v : ρ} (h : e g = some r) (p : retR r = k v) : J (sCons (sRet e) b) n g (some (.rt v)) (PC St k) := j_ret (P := PC St k) (v := .rt v) h (congrArg Out.rt p)
theorem forO_sm {α σ : Type} {f : D → Gm → Option Gm} {m : Gm → Option Out} (enc : α → D) (St : σ → Gm → Prop) (body : α → σ → Option σ) : ∀ (xs : List α), (∀ x ∈ xs, ∀ st g, St st g → ∃ g1, f (enc x) g = some g1 ∧ J m nxt g1 (body x st) (PT St)) → ∀ st g, St st g → ∀ st', forO body xs st = some st' → ∃ g', forL f m (xs.map enc) g = some (.nx g') ∧ St st' g'
  | [], _, st, g, h, st', e => by cases e; exact ⟨g, rfl, h⟩
  | x :: xs, step, st, g, h, st', e => by
    obtain ⟨g1, e1, j⟩ := step x List.mem_cons_self st g h
    cases e2 : body x st with
    | none => rw [forO, e2] at e; cases e
    | some s2 =>
      rw [forO, e2, b1_some] at e
      obtain ⟨o, e3, g2, ho, h2⟩ := j s2 e2
      rw [bO_nxt] at e3
      obtain ⟨g', e4, h4⟩ := forO_sm enc St body xs (fun y hy => step y (List.mem_cons_of_mem _ hy)) s2 g2 h2 st' e
      refine ⟨g', ?_, h4⟩
      rw [List.map_cons, forL_cons, e1, b1_some, e3]
      rcases ho with rfl | rfl
      · rw [fL_nx, e4]
      · rw [fL_ct, e4]
theorem j_for {δ σ : Type} {mi : Gm → Option (List Nat × List D)} {f : D → Gm → Option Gm} {m : Gm → Option Out} {T : List Nat} {ps : List Nat} (enc : δ → D) (St : σ → Gm → Prop) {body : δ → σ → Option σ} {xs : List δ} {st0 : σ} {t : σ → Option α}
    (hm : mi g = some (ps, xs.map enc)) (hp : ps.all (fun j => !T.contains j) = true) (h0 : St st0 g) (step : ∀ x ∈ xs, ∀ st g, St st g → ∃ g1, f (enc x) g = some g1 ∧ J m nxt g1 (body x st) (PT St)) (k : ∀ st g', St st g' → J b n g' (t st) P) : J (sCons (sFor mi f m T) b) n g (b1 (forO body xs st0) t) P := by
  refine sm_b1 fun st e => ?_
  obtain ⟨g', e1, h1⟩ := forO_sm enc St body xs step st0 g h0 st e
  refine j_seq (g1 := g') ?_ (k st g' h1)
  rw [sFor_def, hm]
  show (if ps.all (fun j => !T.contains j) = true then _ else _) = _
  rw [if_pos hp, e1]
theorem forC_sm {α σ ρ : Type} {f : D → Gm → Option Gm} {m : Gm → Option Out} (enc : α → D) (St : σ → Gm → Prop) (k : ρ → R) (body : α → σ → Option (Ctl σ ρ)) : ∀ (xs : List α), (∀ x ∈ xs, ∀ st g, St st g → ∃ g1, f (enc x) g = some g1 ∧ J m nxt g1 (body x st) (PC St k)) → ∀ st g, St st g → ∀ c, forC body xs st = some c → ∃ o, forL f m (xs.map enc) g = some o ∧ match c with
    | .nx st => ∃ g', o = .nx g' ∧ St st g'
    | .bk _ => False
    | .rt r => o = .rt (k r)
  | [], _, st, g, h, c, e => by cases e; exact ⟨_, rfl, g, rfl, h⟩
  | x :: xs, step, st, g, h, c, e => by
    obtain ⟨g1, e1, j⟩ := step x List.mem_cons_self st g h
    cases e2 : body x st with
    | none => rw [forC, e2] at e; cases e
    | some s2 =>
      rw [forC, e2, b1_some] at e
      obtain ⟨o, e3, ho⟩ := j s2 e2
      rw [bO_nxt] at e3
      cases s2 with
      | nx s2 =>
        obtain ⟨g2, ho, h2⟩ := ho
        obtain ⟨o', e4, h4⟩ := forC_sm enc St k body xs (fun y hy => step y (List.mem_cons_of_mem _ hy)) s2 g2 h2 c e
        refine ⟨o', ?_, h4⟩
        rw [List.map_cons, forL_cons, e1, b1_some, e3]
        rcases ho with rfl | rfl
        · rw [fL_nx, e4]
        · rw [fL_ct, e4]
      | bk s2 =>
        obtain ⟨g2, rfl, h2⟩ := ho
        cases e
        refine ⟨.nx g2, ?_, g2, rfl, h2⟩
        rw [List.map_cons, forL_cons, e1, b1_some, e3, fL_bk]
      | rt r =>
        cases e
        refine ⟨o, ?_, ho⟩
        have ho : o = .rt (k r) := ho
        subst ho
        rw [List.map_cons, forL_cons, e1, b1_some, e3, fL_rt]
theorem j_forC {δ σ ρ : Type} {mi : Gm → Option (List Nat × List D)} {f : D → Gm → Option Gm} {m : Gm → Option Out} {T : List Nat} {ps : List Nat} (enc : δ → D) (St : σ → Gm → Prop) (kr : ρ → R) {body : δ → σ → Option (Ctl σ ρ)} {xs : List δ} {st0 : σ} {t : σ → Option α} {u : ρ → Option α}
    (hm : mi g = some (ps, xs.map enc)) (hp : ps.all (fun j => !T.contains j) = true) (h0 : St st0 g) (step : ∀ x ∈ xs, ∀ st g, St st g → ∃ g1, f (enc x) g = some g1 ∧ J m nxt g1 (body x st) (PC St kr)) (k : ∀ st g', St st g' → J b n g' (t st) P) (k2 : ∀ r, Sm (some (.rt (kr r))) (u r) P) : J (sCons (sFor mi f m T) b) n g (b1 (forC body xs st0) fun c => ctl c t u) P := by
  refine sm_b1 fun c e => ?_
  obtain ⟨o, e1, h1⟩ := forC_sm enc St kr body xs step st0 g h0 c e
  have e2 : sFor mi f m T g = some o := by
    rw [sFor_def, hm]
    show (if ps.all (fun j => !T.contains j) = true then _ else _) = _
    rw [if_pos hp, e1]
  cases c with
  | nx st =>
    obtain ⟨g', rfl, h2⟩ := h1
    exact j_seq e2 (k st g' h2)
  | bk st => exact h1.elim
  | rt r =>
    have h1 : o = .rt (kr r) := h1
    subst h1
    show Sm (bO (bO (sFor mi f m T g) b) n) (u r) P
    rw [e2]
    exact k2 r
end
theorem sim_phi {α : Type} {m : Gm → Option Out} {N n : Nat} {ds : List D} {s : Option α} {k : α → R} (hl : ds.length = n) (h : J m nxt (ds.map Slot.va ++ List.replicate (N - n) Slot.un) s (PF k)) {x : α} (e : s = some x) : phi m N n ds = some (k x) := by
  obtain ⟨o, e1, e2⟩ := h x e
  rw [bO_nxt] at e1
  rw [phi_def, if_pos hl, e1, e2]
end BK
namespace BK
open PySem PySem.Spec L2
set_option autoImplicit false
/-! ### plain types as data -/
abbrev eD (d : D) : D := d
abbrev eL {α : Type} (e : α → D) (xs : List α) : D := .lst (xs.map e)
abbrev eT {α : Type} (e : α → D) (xs : List α) : D := .tup (xs.map e)
abbrev eRL (ns : List Int) : D := .rol (ns.map D.int)
def eO {α : Type} (e : α → D) : Option α → D
  | none => .non
  | some x => e x
abbrev eU (_ : Unit) : D := .non
abbrev eP2 {α β : Type} (a : α → D) (b : β → D) (x : α × β) : D := .tup [a x.1, b x.2]
abbrev eP3 {α β γ : Type} (a : α → D) (b : β → D) (c : γ → D) (x : α × β × γ) : D := .tup [a x.1, b x.2.1, c x.2.2]
abbrev eP4 {α β γ δ : Type} (a : α → D) (b : β → D) (c : γ → D) (d : δ → D) (x : α × β × γ × δ) : D := .tup [a x.1, b x.2.1, c x.2.2.1, d x.2.2.2]
abbrev eP6 {α β γ δ ε ζ : Type} (a : α → D) (b : β → D) (c : γ → D) (d : δ → D) (e : ε → D) (f : ζ → D) (x : α × β × γ × δ × ε × ζ) : D := .tup [a x.1, b x.2.1, c x.2.2.1, d x.2.2.2.1, e x.2.2.2.2.1, f x.2.2.2.2.2]
/-- a bridge -/
structure Bg where
  name : Str
  length : Int
  bears : Int
  wide : Int
  most : Int
abbrev insB (b : Bg) : D := .ins 1 [.int b.length, .str b.name, .int b.bears, .int b.wide, .int b.most]
abbrev Pc := Int ⊕ Bg
/-- a piece: an open one of a length, or a bridge -/
def insP : Pc → D
  | .inl n => .ins 0 [.int n]
  | .inr b => insB b
def pcLen : Pc → Int
  | .inl n => n
  | .inr b => b.length
def pcBr : Pc → Option Bg
  | .inl _ => none
  | .inr b => some b
def isBr : Pc → Bool
  | .inl _ => false
  | .inr _ => true
abbrev Wh := Int × Int × Int
abbrev Fr := Int × Int
structure Rd' where
  pieces : List Pc
  rounds : List (Str × Int)
  shuts : List (Str × Int × Int)
abbrev eRo (r : Rd') : D := .ins 2 [eL insP r.pieces, eL (eP2 D.str D.int) r.rounds, eL (eP3 D.str D.int D.int) r.shuts]
/-! ### expressions -/
section
variable {g : Gm} {α β γ : Type}
theorem x1 {f : R → Option R} {a : Gm → Option R} {x z : R} (h : a g = some x) (k : f x = some z) : e1 f a g = some z := by
  rw [e1_def, h, b1_some, k]
theorem x2 {f : R → R → Option R} {a b : Gm → Option R} {x y z : R} (h : a g = some x) (h' : b g = some y) (k : f x y = some z) : e2 f a b g = some z := by
  rw [e2_def, h, h', b2_some, k]
theorem xA {f : List R → Option R} {a : Gm → Option (List R)} {rs : List R} {z : R} (h : a g = some rs) (k : f rs = some z) : eA f a g = some z := by
  rw [eA_def, h, b1_some, k]
theorem xaN : aN g = some [] := rfl
theorem xaC {a : Gm → Option R} {b : Gm → Option (List R)} {x : R} {rs : List R} (h : a g = some x) (h' : b g = some rs) : aC a b g = some (x.fz :: rs) := by
  rw [aC_def, h, h', b2_some, cF_def]
theorem xV {i : Nat} {d : D} (h : g[i]? = some (.va d)) : eV i g = some (.va d) := by rw [eV_def, h]; rfl
theorem xW {i : Nat} {ds : List D} (h : g[i]? = some (.ow ds)) : eV i g = some (.bw i ds) := by rw [eV_def, h]; rfl
/-! tests -/
theorem t_val {a : Gm → Option R} {k : Bool} (h : a g = some (.va (.bl k))) : bE a g = some k := by rw [bE_def, h]; rfl
theorem t_not {c : Gm → Option Bool} {k : Bool} (h : c g = some k) : bNot c g = some (!k) := by rw [bNot_def, h]; rfl
theorem t_or {c d : Gm → Option Bool} {k l : Bool} (h : c g = some k) (h' : d g = some l) : bOr c d g = some (k || l) := by
  rw [bOr_def, h, b1_some, orB_def, h']; cases k <;> rfl
theorem t_orP {c d : Gm → Option Bool} {k z : Bool} {s : Option Bool} (h : c g = some k) (h' : k = false → Sm (d g) s fun x y => y = x) (e : (if k = true then some true else s) = some z) : bOr c d g = some z := by
  rw [bOr_def, h, b1_some, orB_def]
  cases k with
  | true => exact e
  | false => exact (h' rfl).eq (k := id) (by simpa using e)
theorem v_and {a b : Gm → Option R} {k l : Bool} (h : a g = some (.va (.bl k))) (h' : b g = some (.va (.bl l))) : eAnd a b g = some (.va (.bl (k && l))) := by
  rw [eAnd_def, t_val h, b1_some, anR_def, h']; cases k <;> rfl
theorem v_andP {a b : Gm → Option R} {k z : Bool} {s : Option Bool} (h : a g = some (.va (.bl k))) (h' : k = true → Sm (b g) s fun x y => y = .va (.bl x)) (e : (if k = true then s else some false) = some z) : eAnd a b g = some (.va (.bl z)) := by
  rw [eAnd_def, t_val h, b1_some, anR_def]
  cases k with
  | false => cases e; rfl
  | true => exact (h' rfl).eq (k := fun x => R.va (.bl x)) (by simpa using e)
/-! operators -/
theorem f_mul {i j : Int} (h : CMulB i j) : oMulA (.va (.int i)) (.va (.int j)) = some (.va (.int (i * j))) := by rw [oMulA_int, if_pos h]
theorem f_mod {i j : Int} (h : j ≠ 0) : oMod (.va (.int i)) (.va (.int j)) = some (.va (.int (i.fmod j))) := by rw [oMod_def, if_pos h]
theorem f_addS {i j : Str} (h : i.length + j.length ≤ 16777216) : oAdd (.va (.str i)) (.va (.str j)) = some (.va (.str (i ++ j))) := by rw [oAdd_str, if_pos (show _ ≤ LIM from h)]
theorem f_addT {e : α → D} {xs ys : List α} {us vs : List D} (hx : us = xs.map e) (hy : vs = ys.map e) (h : xs.length + ys.length ≤ 16777216) : oAdd (.va (.tup us)) (.va (.tup vs)) = some (.va (.tup ((xs ++ ys).map e))) := by
  subst hx; subst hy
  rw [oAdd_tup, if_pos (by rw [List.length_map, List.length_map]; exact h), List.map_append]
theorem f_addL {e : α → D} {xs ys : List α} {a b : R} (hx : a.d = .lst (xs.map e)) (hy : b.d = .lst (ys.map e)) (h : xs.length + ys.length ≤ 16777216) : oAdd a b = some (.tm ((xs ++ ys).map e)) := by
  rw [oAdd_lst hx hy, if_pos (by rw [List.length_map, List.length_map]; exact h), List.map_append]
theorem f_mulS {i : Str} {j : Int} (h : -(2 ^ 63) ≤ j ∧ j < 2 ^ 63 ∧ i.length * j.toNat ≤ 16777216) : oMulA (.va (.str i)) (.va (.int j)) = some (.va (.str (strRep i j))) := by rw [oMulA_str, if_pos (show _ ∧ _ ∧ _ ≤ LIM from h)]
theorem f_eq {a b : R} {k : Bool} (h : eqR a b = some k) : oEq a b = some (.va (.bl k)) := by unfold oEq; rw [h]; rfl
theorem eqR_str {x y : Str} : eqR (.va (.str x)) (.va (.str y)) = some (decide (x = y)) := rfl
theorem f_isNN (r : R) : oIsN r (.va .non) = some (.va (.bl (!r.d.isNon))) := rfl
theorem isNon_eO {e : α → D} (h : ∀ x, (e x).isNon = false) (o : Option α) : D.isNon (eO e o) = o.isNone := by
  cases o with
  | none => rfl
  | some x => exact h x
theorem f_isNO {e : α → D} (h : ∀ x, (e x).isNon = false) (o : Option α) : oIsN (.va (eO e o)) (.va .non) = some (.va (.bl o.isSome)) := by
  rw [f_isNN]
  refine congrArg (fun k => some (R.va (.bl k))) ?_
  show (!D.isNon (eO e o)) = _
  rw [isNon_eO h o]
  cases o <;> rfl
/-- items -/
theorem f_ixL {a : R} {e : α → D} {xs : List α} {i : Int} {x : α} (h : a.d = .lst (xs.map e)) (k : atI xs i = some x) : oIx a (.va (.int i)) = some (.va (e x)) := by
  rw [oIx_lst h, atI_map, k]; rfl
theorem f_ixT {e : α → D} {xs : List α} {us : List D} {i : Int} {x : α} (h : us = xs.map e) (k : atI xs i = some x) : oIx (.va (.tup us)) (.va (.int i)) = some (.va (e x)) := by
  subst h
  rw [oIx_tup, atI_map, k]; rfl
theorem f_ixR {ns : List Int} {us : List D} {i x : Int} (h : us = ns.map D.int) (k : atI ns i = some x) : oIx (.va (.rol us)) (.va (.int i)) = some (.va (.int x)) := by
  subst h
  rw [oIx_rol, atI_map, k]; rfl
def sgAt (z : Str) (i : Int) : Option Str := (atI z.cps.toList i).map fun c => ⟨#[c]⟩
theorem f_ixS {z x : Str} {i : Int} (h : z.length ≤ 16777216) (k : sgAt z i = some x) : oIx (.va (.str z)) (.va (.int i)) = some (.va (.str x)) := by
  rw [oIx_str, if_pos (show _ ≤ LIM from h)]
  unfold sgAt at k
  obtain ⟨c, e, rfl⟩ := Option.map_eq_some_iff.mp k
  rw [e]; rfl
/-- slices -/
theorem x_sl {m : Gm → Option R} {l h : Gm → Option (Option Int)} {a z : R} {lo hi : Option Int} (e1 : m g = some a) (e2 : l g = some lo) (e3 : h g = some hi) (k : oSl a lo hi = some z) : eSl m l h g = some z := by
  show (m g).bind _ = _
  rw [e1]
  show (l g).bind _ = _
  rw [e2]
  show (h g).bind _ = _
  rw [e3]
  exact k
theorem x_pS {m : Gm → Option R} {i : Int} (h : m g = some (.va (.int i))) : pS m g = some (some i) := by
  show (m g).bind _ = _
  rw [h]; rfl
theorem f_slR {ns : List Int} {us : List D} {lo hi : Option Int} (h : us = ns.map D.int) : oSl (.va (.rol us)) lo hi = some (.tm ((cutL ns lo hi).map D.int)) := by
  subst h
  rw [← cut_map]; rfl
/-- displays -/
theorem f_tup {rs : List R} {ds : List D} (h : rs.all (fun r => !r.wr) = true) (hl : decide (rs.length ≤ LIM) = true) (hd : rs.map R.d = ds) : oTup rs = some (.va (.tup ds)) := by
  subst hd
  rw [oTup_def, if_pos (by rw [h, hl]; rfl)]
theorem f_lst {rs : List R} {ds : List D} (h : rs.all (fun r => !r.wr) = true) (hl : decide (rs.length ≤ LIM) = true) (hd : rs.map R.d = ds) : oLst rs = some (.tm ds) := by
  subst hd
  rw [oLst_def, if_pos (by rw [h, hl]; rfl)]
/-- calls of built-in names -/
theorem f_lenL {a : R} {e : α → D} {xs : List α} (h : a.d = .lst (xs.map e)) : cLen [a] = some (.va (.int xs.length)) := by
  cases a with
  | va d =>
    obtain rfl : d = .lst (xs.map e) := h
    rw [cLen_vlst, List.length_map]
  | tm ds =>
    obtain rfl : ds = xs.map e := by injection h
    rw [cLen_tm, List.length_map]
  | bw j ds =>
    obtain rfl : ds = xs.map e := by injection h
    rw [cLen_bw, List.length_map]
theorem f_lenC {us : List D} {n : Int} (h : (us.length : Int) = n) : cLen [.va (.tup us)] = some (.va (.int n)) := by
  subst h
  rw [cLen_tup]
theorem f_lenR {us : List D} {ns : List Int} (h : us = ns.map D.int) : cLen [.va (.rol us)] = some (.va (.int ns.length)) := by
  subst h
  rw [cLen_rol, List.length_map]
theorem f_sum {r : R} {ns : List Int} (h : r.d = .lst (ns.map D.int)) : cSum [r] = some (.va (.int ns.sum)) := cSum_def h
theorem f_all {r : R} {ns : List Bool} (h : r.d = .lst (ns.map D.bl)) : cAll [r] = some (.va (.bl (ns.all id))) := cAll_def h
theorem f_list {r : R} {ds : List D} (h : r.d = .lst ds ∨ r.d = .tup ds) : cList [r] = some (.tm ds) := by
  show (match r.d with | .lst ds => some (R.tm ds) | .tup ds => some (R.tm ds) | _ => none) = _
  rcases h with h | h <;> rw [h]
theorem f_isi {T : BTy} {a : Gm → Option R} {r : R} {b : Bool} (h : a g = some r) (ht : r.isTm = false) (k : isB T r.d = some b) : eIs T a g = some (.va (.bl b)) := by
  rw [eIs_def, h, b1_some, isO_def, ht, if_neg (by decide), k]; rfl
/-- own defs -/
theorem f_call {φ : Phi} {dds : List D} {rs : List R} {z : R} (h : φ (rs.map R.d ++ dds) = some z) (ht : rs.any R.isTm = false) (hb : rs.any R.isBw = false ∨ z.lf = true ∨ z.lfk (lentK rs) = true) : callR φ dds rs = some z := by
  rw [callR_def, ht, if_neg (by decide), h, b1_some]
  unfold kR
  rcases hb with hb | hb | hb
  · rw [hb]; rfl
  · rw [hb, Bool.or_true, Bool.true_or, if_pos rfl]
  · rw [hb, Bool.or_true, if_pos rfl]
theorem f_make {c n : Nat} {ms : List (Gm → Option R)} {rs : List R} {ds es : List D} (hl : rs.length = n) (h : allVa rs = some ds) (k : inis ms (.un :: ds.map .va) = some es) : cMkN c n ms rs = some (.va (.ins c es)) := by
  rw [cMkN_def, if_pos hl, cMk_def, h, b1_some, k]; rfl
theorem f_isb (p : Pc) : cIsB (.va (insP p)) = some (.va (.bl (isBr p))) := by cases p <;> rfl
theorem f_pcLen (p : Pc) : oFld "length" (.va (insP p)) = some (.va (.int (pcLen p))) := by cases p <;> rfl
theorem f_fld {f : Str} {c : Nat} {ds : List D} {d : D} (h : fldD c ds f = some d) : oFld f (.va (.ins c ds)) = some (.va d) := by rw [oFld_ins, h]; rfl
theorem pc_br {p : Pc} {b : Bg} (h : pcBr p = some b) : insP p = insB b := by
  cases p with
  | inl n => cases h
  | inr c => cases h; rfl
/-- walks -/
theorem i_seq {m : Gm → Option R} {r : R} {p : List Nat × List D} (h : m g = some r) (k : seqR r = some p) : iSeq m g = some p := by rw [iSeq_def, h, b1_some, k]
theorem i_A {f : List R → Option (List Nat × List D)} {ms : Gm → Option (List R)} {rs : List R} {p : List Nat × List D} (h : ms g = some rs) (k : f rs = some p) : iA f ms g = some p := by rw [iA_def, h, b1_some, k]
def rgI (a b : Int) : List Int := (List.range (b - a).toNat).map fun i : Nat => a + (i : Int)
theorem rangeL_rgI (lo : Int) (n : Nat) : rangeL lo n = ((List.range n).map fun i : Nat => lo + (i : Int)).map D.int := by
  apply List.ext_getElem?
  intro i
  by_cases h : i < n
  · rw [rangeL_get n lo i h, List.getElem?_map, List.getElem?_map, List.getElem?_range h]; rfl
  · rw [List.getElem?_eq_none (by rw [rangeL_length]; omega), List.getElem?_eq_none (by simp; omega)]
theorem f_rg1 {j : Int} (h : -4611686018427387904 ≤ j ∧ j < 4611686018427387904) : rg1R [.va (.int j)] = some ([], (rgI 0 j).map D.int) := by
  rw [rg1R_def, if_pos (by omega), rangeL_rgI, rgI, Int.sub_zero]
def enI {α : Type} (xs : List α) : List (Int × α) := xs.zipIdx.map fun p => ((p.2 : Int), p.1)
theorem f_en {r : R} {ps : List Nat} {e : α → D} {xs : List α} (h : listA r = some (ps, xs.map e)) : enR [r] = some (ps, (enI xs).map (eP2 D.int e)) := by
  rw [enR_def, h]
  show some (ps, enumL 0 (xs.map e)) = _
  rw [enumL_map, enI, List.map_map]
  rfl
/-- comprehensions -/
theorem x_lc {mi : Gm → Option (List Nat × List D)} {f : D → Gm → Option Gm} {el : Gm → Option R} {own : List Nat} {ps : List Nat} {e : α → D} {e' : β → D} {xs : List α} {v : α → β} (r : α → R) (hm : mi g = some (ps, xs.map e)) (hl : xs.length ≤ 16777216) (h : ∀ x ∈ xs, ∃ g1, f (e x) (wipeG g own) = some g1 ∧ el g1 = some (r x)) (hr : ∀ x, (r x).isBw = false ∧ (r x).d = e' (v x) := by exact fun _ => ⟨rfl, rfl⟩) : eLc mi f bY el own g = some (.tm ((xs.map v).map e')) := by
  rw [eLc_def, hm, b1_some, lcO_def, if_pos (by rw [List.length_map]; exact hl), compL_map f bY el (wipeG g own) e (fun x => e' (v x)) xs, List.map_map]
  · rfl
  · intro x hx rest
    obtain ⟨g1, h1, h2⟩ := h x hx
    obtain ⟨h3, h4⟩ := hr x
    rw [h1, b1_some, cpG_def, bY_def, b1_some, cpK_def, if_pos rfl, h2, b1_some]
    unfold cpR
    rw [h3, h4]; rfl
theorem compL_mapO {f : D → Gm → Option Gm} {el : Gm → Option R} {g0 : Gm} {e : α → D} {e' : β → D} (p : α → Option β) (r : β → R) (hr : ∀ x, (r x).isBw = false ∧ (r x).d = e' x) : ∀ (xs : List α), (∀ x ∈ xs, ∃ g1, f (e x) g0 = some g1 ∧ Sm (el g1) (p x) fun y z => z = r y) → ∀ ys, mapO p xs = some ys → compL f bY el g0 (xs.map e) = some (ys.map e')
  | [], _, ys, h => by cases h; rfl
  | x :: xs, step, ys, h => by
    obtain ⟨g1, h1, h2⟩ := step x List.mem_cons_self
    cases e1 : p x with
    | none => rw [mapO, e1] at h; cases h
    | some y =>
      rw [mapO, e1, b1_some] at h
      cases e2 : mapO p xs with
      | none => rw [e2] at h; cases h
      | some zs =>
        rw [e2, b1_some] at h
        cases h
        obtain ⟨h3, h4⟩ := hr y
        rw [List.map_cons, compL_cons, h1, b1_some, cpG_def, bY_def, b1_some, cpK_def, if_pos rfl, h2.eq e1, b1_some, compL_mapO p r hr xs (fun z hz => step z (List.mem_cons_of_mem _ hz)) zs e2]
        unfold cpR
        rw [h3, h4]; rfl
theorem x_lcO {mi : Gm → Option (List Nat × List D)} {f : D → Gm → Option Gm} {el : Gm → Option R} {own : List Nat} {ps : List Nat} {e : α → D} {e' : β → D} {xs : List α} {p : α → Option β} {ys : List β} (r : β → R) (hm : mi g = some (ps, xs.map e)) (hl : xs.length ≤ 16777216) (h : ∀ x ∈ xs, ∃ g1, f (e x) (wipeG g own) = some g1 ∧ Sm (el g1) (p x) fun y z => z = r y) (hy : mapO p xs = some ys) (hr : ∀ x, (r x).isBw = false ∧ (r x).d = e' x := by exact fun _ => ⟨rfl, rfl⟩) : eLc mi f bY el own g = some (.tm (ys.map e')) := by
  rw [eLc_def, hm, b1_some, lcO_def, if_pos (by rw [List.length_map]; exact hl), compL_mapO p r hr xs h ys hy]; rfl
theorem compL_fmapO {f : D → Gm → Option Gm} {c : Gm → Option Bool} {el : Gm → Option R} {g0 : Gm} {e : α → D} {e' : β → D} (k : α → Option Bool) (p : α → Option β) (r : β → R) (hr : ∀ x, (r x).isBw = false ∧ (r x).d = e' x) : ∀ (xs : List α), (∀ x ∈ xs, ∃ g1, f (e x) g0 = some g1 ∧ Sm (c g1) (k x) (fun y z => z = y) ∧ (Sm (el g1) (p x) fun y z => z = r y)) → ∀ ys, fmapO k p xs = some ys → compL f c el g0 (xs.map e) = some (ys.map e')
  | [], _, ys, h => by cases h; rfl
  | x :: xs, step, ys, h => by
    obtain ⟨g1, h1, h5, h2⟩ := step x List.mem_cons_self
    cases e0 : k x with
    | none => rw [fmapO, e0] at h; cases h
    | some q =>
      rw [fmapO, e0, b1_some] at h
      have e00 := h5.eq (k := id) e0
      cases q with
      | false =>
        rw [if_neg (by decide)] at h
        rw [List.map_cons, compL_cons, h1, b1_some, cpG_def, e00, b1_some, cpK_def]
        show (if false = true then _ else _) = _
        rw [if_neg (by decide)]
        exact compL_fmapO k p r hr xs (fun z hz => step z (List.mem_cons_of_mem _ hz)) ys h
      | true =>
        rw [if_pos rfl] at h
        cases e1 : p x with
        | none => rw [e1] at h; cases h
        | some y =>
          rw [e1, b1_some] at h
          cases e2 : fmapO k p xs with
          | none => rw [e2] at h; cases h
          | some zs =>
            rw [e2, b1_some] at h
            cases h
            obtain ⟨h3, h4⟩ := hr y
            rw [List.map_cons, compL_cons, h1, b1_some, cpG_def, e00, b1_some, cpK_def]
            show (if true = true then _ else _) = _
            rw [if_pos rfl, h2.eq e1, b1_some, compL_fmapO k p r hr xs (fun z hz => step z (List.mem_cons_of_mem _ hz)) zs e2]
            unfold cpR
            rw [h3, h4]; rfl
theorem x_lcFO {mi : Gm → Option (List Nat × List D)} {f : D → Gm → Option Gm} {c : Gm → Option Bool} {el : Gm → Option R} {own : List Nat} {ps : List Nat} {e : α → D} {e' : β → D} {xs : List α} {k : α → Option Bool} {p : α → Option β} {ys : List β} (r : β → R) (hm : mi g = some (ps, xs.map e)) (hl : xs.length ≤ 16777216) (h : ∀ x ∈ xs, ∃ g1, f (e x) (wipeG g own) = some g1 ∧ Sm (c g1) (k x) (fun y z => z = y) ∧ (Sm (el g1) (p x) fun y z => z = r y)) (hy : fmapO k p xs = some ys) (hr : ∀ x, (r x).isBw = false ∧ (r x).d = e' x := by exact fun _ => ⟨rfl, rfl⟩) : eLc mi f c el own g = some (.tm (ys.map e')) := by
  rw [eLc_def, hm, b1_some, lcO_def, if_pos (by rw [List.length_map]; exact hl), compL_fmapO k p r hr xs h ys hy]; rfl
end
end BK
namespace BK
open PySem PySem.Spec L2
set_option autoImplicit false
theorem j_lt {α γ : Type} {m n : Gm → Option Out} {P : α → Out → Prop} {t : γ → Option α} (G : γ → Gm) {v : γ} (h : ∀ x, J m n (G x) (t x) P) : J m n (G v) (lt v t) P := h v
section
variable {g : Gm} {α β γ δ ε ζ : Type}
theorem x_get {m : Gm → Option R} {e : α → D} {o : Option α} {x : α} (p : m g = some (.va (eO e o))) (h : o = some x) : m g = some (.va (e x)) := by rw [p, h]; rfl
theorem x_br {m : Gm → Option R} {q : Pc} {b : Bg} (p : m g = some (.va (insP q))) (h : pcBr q = some b) : m g = some (.va (insB b)) := by rw [p, pc_br h]
def dInt : D → Option Int
  | .int i => some i
  | _ => none
def dStr : D → Option Str
  | .str i => some i
  | _ => none
theorem dInt_eq {d : D} {i : Int} (h : dInt d = some i) : d = .int i := by cases d <;> first | (cases h; rfl) | cases h
theorem dStr_eq {d : D} {i : Str} (h : dStr d = some i) : d = .str i := by cases d <;> first | (cases h; rfl) | cases h
theorem x_dInt {m : Gm → Option R} {d : D} {i : Int} (p : m g = some (.va d)) (h : dInt d = some i) : m g = some (.va (.int i)) := by rw [p, dInt_eq h]
theorem x_dStr {m : Gm → Option R} {d : D} {i : Str} (p : m g = some (.va d)) (h : dStr d = some i) : m g = some (.va (.str i)) := by rw [p, dStr_eq h]
theorem f_divK {i k : Int} (h : 0 < k ∧ k < 18446744073709551616) : oDiv (.va (.int i)) (.va (.int k)) = some (.va (.int (i / k))) := by
  rw [oDiv_def, if_pos (cdivB_small h.1 h.2), fdiv_nn (by omega)]
theorem f_modK {i k : Int} (h : 0 < k) : oMod (.va (.int i)) (.va (.int k)) = some (.va (.int (i % k))) := by
  rw [oMod_def, if_pos (by omega), fmod_nn (by omega)]
theorem f_powK {i j k : Int} (h : (0 ≤ i ∧ i < 18446744073709551616) ∧ 0 ≤ j ∧ j ≤ 1000000) (e : i ^ j.toNat = k) : oPow (.va (.int i)) (.va (.int j)) = some (.va (.int k)) := by
  rw [oPow_def, if_pos (cpow_small (by omega) h.1.2 h.2.1 h.2.2), e]
def eqD (a b : D) : Option Bool := eqR (.va a) (.va b)
theorem eqD_R {a b : R} {x y : D} {k : Bool} (h : eqD x y = some k) (ha : a.d = x) (hb : b.d = y) : eqR a b = some k := by
  subst ha; subst hb
  rw [← h]; rfl
def ixD' (d : D) (i : Int) : Option D := (oIx (.va d) (.va (.int i))).bind fun r => match r with
  | .va d => some d
  | _ => none
theorem f_ixD {d x : D} {i : Int} (h : ixD' d i = some x) : oIx (.va d) (.va (.int i)) = some (.va x) := by
  unfold ixD' at h
  obtain ⟨r, e1, e2⟩ := Option.bind_eq_some_iff.mp h
  split at e2
  · cases e2; exact e1
  · cases e2
theorem f_iscOpen {cs : List Nat} (p : Pc) (h0 : cs.contains 0 = true) (h1 : cs.contains 1 = true) : cIsC cs 0 (.va (insP p)) = some (.va (.bl (!isBr p))) := by
  cases p with
  | inl n => show (if cs.contains 0 = true then _ else _) = _; rw [if_pos h0]; rfl
  | inr b => show (if cs.contains 1 = true then _ else _) = _; rw [if_pos h1]; rfl
theorem f_iscBridge {cs : List Nat} (p : Pc) (h0 : cs.contains 0 = true) (h1 : cs.contains 1 = true) : cIsC cs 1 (.va (insP p)) = some (.va (.bl (isBr p))) := by
  cases p with
  | inl n => show (if cs.contains 0 = true then _ else _) = _; rw [if_pos h0]; rfl
  | inr b => show (if cs.contains 1 = true then _ else _) = _; rw [if_pos h1]; rfl
end
instance iq1 : DecidableEq (List (Int × Int × Int)) := inferInstance
instance iq2 : DecidableEq (Int × List (Int × Int × Int)) := inferInstance
instance iq3 : DecidableEq ((Int × Int) × Int × List (Int × Int × Int)) := inferInstance
instance iq4 : DecidableEq (Str × (Int × Int) × Int × (List (Int × Int × Int))) := inferInstance
end BK
namespace BK
open PySem PySem.Spec L2
set_option autoImplicit false
/-! ### reckonings shown -/
def Gs {α : Type} (s : Option α) (P : α → Prop) : Prop := ∃ r, s = some r ∧ P r
section
variable {α β γ σ ρ : Type} {P : α → Prop} {s : Option α}
theorem gs_some {v : α} (h : P v) : Gs (some v) P := ⟨v, rfl, h⟩
theorem Gs.mono {Q : α → Prop} (h : Gs s Q) (k : ∀ x, Q x → P x) : Gs s P := by
  obtain ⟨r, e, q⟩ := h
  exact ⟨r, e, k r q⟩
theorem Gs.eq {v : α} (h : Gs s fun x => x = v) : s = some v := by
  obtain ⟨r, e, rfl⟩ := h
  exact e
theorem gs_b1 {p : Option γ} {t : γ → Option α} {Q : γ → Prop} (h : Gs p Q) (k : ∀ x, Q x → Gs (t x) P) : Gs (b1 p t) P := by
  obtain ⟨x, e, q⟩ := h
  rw [e, b1_some]
  exact k x q
theorem gs_eq {p : Option γ} {t : γ → Option α} {x : γ} (h : p = some x) (k : Gs (t x) P) : Gs (b1 p t) P := by
  rw [h, b1_some]
  exact k
theorem gs_lt {v : γ} {t : γ → Option α} (k : Gs (t v) P) : Gs (lt v t) P := k
theorem gs_ltE {v : γ} {t : γ → Option α} (k : ∀ x, x = v → Gs (t x) P) : Gs (lt v t) P := k v rfl
theorem gs_grd {p : Prop} [Decidable p] (h : p) (k : Gs s P) : Gs (grd p s) P := by rw [grd_pos h]; exact k
theorem gs_if {c : Bool} {a b : Option α} (h1 : c = true → Gs a P) (h2 : c = false → Gs b P) : Gs (if c = true then a else b) P := by
  cases c
  · exact h2 rfl
  · exact h1 rfl
theorem gs_ifT {c : Bool} {a b : Option α} (h : c = true) (k : Gs a P) : Gs (if c = true then a else b) P := by rw [if_pos h]; exact k
theorem gs_ifF {c : Bool} {a b : Option α} (h : c = false) (k : Gs b P) : Gs (if c = true then a else b) P := by rw [h, if_neg (by decide)]; exact k
theorem forO_inv {body : α → σ → Option σ} (I : List α → σ → Prop) (xs : List α) (step : ∀ pre x st, (∃ post, xs = pre ++ x :: post) → I pre st → Gs (body x st) (I (pre ++ [x]))) : ∀ st, I [] st → Gs (forO body xs st) (I xs) := by
  have key : ∀ (post pre : List α) st, xs = pre ++ post → I pre st → Gs (forO body post st) (I xs) := by
    intro post
    induction post with
    | nil =>
      intro pre st e h
      rw [List.append_nil] at e
      subst e
      exact gs_some h
    | cons x post ih =>
      intro pre st e h
      exact gs_b1 (step pre x st ⟨post, e⟩ h) fun st' h' => ih (pre ++ [x]) st' (by rw [e, List.append_assoc]; rfl) h'
  exact fun st h => key xs [] st rfl h
theorem gs_forO {γ : Type} {body : γ → σ → Option σ} {xs : List γ} {st0 : σ} {t : σ → Option α} (I : List γ → σ → Prop) (h0 : I [] st0) (step : ∀ pre x st, (∃ post, xs = pre ++ x :: post) → I pre st → Gs (body x st) (I (pre ++ [x]))) (k : ∀ st, I xs st → Gs (t st) P) : Gs (b1 (forO body xs st0) t) P := gs_b1 (forO_inv I xs step st0 h0) k
theorem forO_map {f : β → α} {body : α → σ → Option σ} : ∀ (xs : List β) st, forO body (xs.map f) st = forO (fun x => body (f x)) xs st
  | [], _ => rfl
  | x :: xs, st => by
    show b1 (body (f x) st) (forO body (xs.map f)) = b1 (body (f x) st) (forO (fun x => body (f x)) xs)
    congr 1
    funext st
    exact forO_map xs st
theorem rgI_nat {m : Int} {n : Nat} (h : m = n) : rgI 0 m = (List.range n).map fun i : Nat => (i : Int) := by
  subst h
  unfold rgI
  rw [Int.sub_zero, Int.toNat_natCast]
  exact List.map_congr_left fun i _ => Int.zero_add _
theorem gs_rg {body : Int → σ → Option σ} {st0 : σ} {t : σ → Option α} {m : Int} (n : Nat) (I : Nat → σ → Prop) (hm : m = n) (h0 : I 0 st0) (step : ∀ (k : Nat) st, k < n → I k st → Gs (body (k : Int) st) (I (k + 1))) (q : ∀ st, I n st → Gs (t st) P) : Gs (b1 (forO body (rgI 0 m) st0) t) P := by
  rw [rgI_nat hm, forO_map]
  refine gs_forO (fun pre st => I pre.length st) h0 ?_ ?_
  · intro pre x st hx h
    obtain ⟨h1, h2⟩ := range_split hx
    have e : pre.length = x := by rw [h2, List.length_range]
    rw [e] at h
    rw [List.length_append, e]
    exact step x st h1 h
  · intro st h
    rw [List.length_range] at h
    exact q st h
/-- a loop that may hand back: it goes through -/
theorem forC_inv {body : α → σ → Option (Ctl σ ρ)} (I : List α → σ → Prop) (xs : List α) (step : ∀ pre x st, (∃ post, xs = pre ++ x :: post) → I pre st → Gs (body x st) fun c => ∃ s, c = .nx s ∧ I (pre ++ [x]) s) : ∀ st, I [] st → Gs (forC body xs st) fun c => ∃ s, c = .nx s ∧ I xs s := by
  have key : ∀ (post pre : List α) st, xs = pre ++ post → I pre st → Gs (forC body post st) fun c => ∃ s, c = .nx s ∧ I xs s := by
    intro post
    induction post with
    | nil =>
      intro pre st e h
      rw [List.append_nil] at e
      subst e
      exact gs_some ⟨st, rfl, h⟩
    | cons x post ih =>
      intro pre st e h
      refine gs_b1 (step pre x st ⟨post, e⟩ h) fun c hc => ?_
      obtain ⟨s, rfl, h'⟩ := hc
      exact ih (pre ++ [x]) s (by rw [e, List.append_assoc]; rfl) h'
  exact fun st h => key xs [] st rfl h
theorem gs_forC {γ : Type} {body : γ → σ → Option (Ctl σ ρ)} {xs : List γ} {st0 : σ} {t : σ → Option α} {u : ρ → Option α} (I : List γ → σ → Prop) (h0 : I [] st0) (step : ∀ pre x st, (∃ post, xs = pre ++ x :: post) → I pre st → Gs (body x st) fun c => ∃ s, c = .nx s ∧ I (pre ++ [x]) s) (k : ∀ st, I xs st → Gs (t st) P) : Gs (b1 (forC body xs st0) fun c => ctl c t u) P := by
  refine gs_b1 (forC_inv I xs step st0 h0) fun c hc => ?_
  obtain ⟨s, rfl, h⟩ := hc
  exact k s h
/-- .. or hands back at the first item of a kind -/
theorem forC_find {body : α → Unit → Option (Ctl Unit ρ)} (p : α → Bool) (out : α → ρ) : ∀ (xs : List α), (∀ x ∈ xs, (p x = true → body x () = some (.rt (out x))) ∧ (p x = false → body x () = some (.nx ()))) → forC body xs () = some (match xs.find? p with | some x => .rt (out x) | none => .nx ())
  | [], _ => rfl
  | x :: xs, h => by
    obtain ⟨h1, h2⟩ := h x List.mem_cons_self
    rw [forC]
    cases e : p x with
    | true => rw [h1 e, List.find?_cons_of_pos e]; rfl
    | false =>
      rw [h2 e, b1_some, List.find?_cons_of_neg (by rw [e]; decide)]
      exact forC_find p out xs fun y hy => h y (List.mem_cons_of_mem _ hy)
theorem mapO_eq {f : α → Option β} {g : α → β} : ∀ (xs : List α), (∀ x ∈ xs, f x = some (g x)) → mapO f xs = some (xs.map g)
  | [], _ => rfl
  | x :: xs, h => by
    rw [mapO, h x List.mem_cons_self, b1_some, mapO_eq xs fun y hy => h y (List.mem_cons_of_mem _ hy), b1_some, List.map_cons]
theorem fmapO_eq {c : α → Option Bool} {k : α → Bool} {f : α → Option β} {g : α → β} : ∀ (xs : List α), (∀ x ∈ xs, c x = some (k x)) → (∀ x ∈ xs, k x = true → f x = some (g x)) → fmapO c f xs = some ((xs.filter k).map g)
  | [], _, _ => rfl
  | x :: xs, h, h' => by
    have ih := fmapO_eq xs (fun y hy => h y (List.mem_cons_of_mem _ hy)) fun y hy => h' y (List.mem_cons_of_mem _ hy)
    rw [fmapO, h x List.mem_cons_self, b1_some]
    cases e : k x with
    | true => rw [if_pos rfl, h' x List.mem_cons_self e, b1_some, ih, b1_some, List.filter_cons_of_pos e, List.map_cons]
    | false => rw [if_neg (by decide), ih, List.filter_cons_of_neg (by rw [e]; decide)]
end
/-! ### plain data compared -/
/-- plain data to a depth -/
def pl : Nat → D → Bool
  | _, .non => true
  | _, .bl _ => true
  | _, .int _ => true
  | _, .str _ => true
  | n + 1, .lst xs => decide (xs.length ≤ 1000000) && xs.all (pl n)
  | n + 1, .tup xs => decide (xs.length ≤ 1000000) && xs.all (pl n)
  | _, _ => false
noncomputable def sameG (a b : D) : Option Bool := @grd _ (a = b ∧ pl 9 a = true) (Classical.propDecidable _) (some true)
theorem sameG_ok {a b : D} (h : a = b) (hp : pl 9 b = true) : sameG a b = some true := by
  subst h
  exact @grd_pos _ _ (Classical.propDecidable _) _ ⟨rfl, hp⟩
theorem sameG_inv {a b : D} {r : Bool} (h : sameG a b = some r) : a = b ∧ pl 9 a = true ∧ r = true := by
  unfold sameG grd at h
  split at h
  · rename_i c
    cases h
    exact ⟨c.1, c.2, rfl⟩
  · cases h
structure PL (n : Nat) {α : Type} (e : α → D) : Prop where
  pl : ∀ x, pl n (e x) = true
@[simp] theorem pl_non (n : Nat) : pl n .non = true := by cases n <;> rfl
@[simp] theorem pl_bl (n : Nat) (b : Bool) : pl n (.bl b) = true := by cases n <;> rfl
@[simp] theorem pl_int (n : Nat) (b : Int) : pl n (.int b) = true := by cases n <;> rfl
@[simp] theorem pl_str (n : Nat) (b : Str) : pl n (.str b) = true := by cases n <;> rfl
theorem pl_lst (n : Nat) (xs : List D) : pl (n + 1) (.lst xs) = (decide (xs.length ≤ 1000000) && xs.all (pl n)) := rfl
theorem pl_tup (n : Nat) (xs : List D) : pl (n + 1) (.tup xs) = (decide (xs.length ≤ 1000000) && xs.all (pl n)) := rfl
@[simp] theorem pl_t2 (n : Nat) (a b : D) : pl (n + 1) (.tup [a, b]) = (pl n a && pl n b) := by simp [pl_tup]
@[simp] theorem pl_t3 (n : Nat) (a b c : D) : pl (n + 1) (.tup [a, b, c]) = (pl n a && (pl n b && pl n c)) := by simp [pl_tup]
@[simp] theorem pl_t4 (n : Nat) (a b c d : D) : pl (n + 1) (.tup [a, b, c, d]) = (pl n a && (pl n b && (pl n c && pl n d))) := by simp [pl_tup]
@[simp] theorem pl_l1 (n : Nat) (a : D) : pl (n + 1) (.lst [a]) = pl n a := by simp [pl_lst]
@[simp] theorem pl_l2 (n : Nat) (a b : D) : pl (n + 1) (.lst [a, b]) = (pl n a && pl n b) := by simp [pl_lst]
@[simp] theorem pl_l3 (n : Nat) (a b c : D) : pl (n + 1) (.lst [a, b, c]) = (pl n a && (pl n b && pl n c)) := by simp [pl_lst]
theorem pl_L {n : Nat} {α : Type} {e : α → D} {xs : List α} (hl : xs.length ≤ 1000000) (h : ∀ x ∈ xs, pl n (e x) = true) : pl (n + 1) (eL e xs) = true := by
  rw [pl_lst, List.length_map, decide_eq_true hl, Bool.true_and, List.all_map, List.all_eq_true]
  exact h
end BK
namespace BK
open PySem PySem.Spec L2
set_option autoImplicit false
/-! ### numbers, fractions -/
/-- a fraction as a pair -/
def qt (q : Rat) : Fr := (q.num, (q.den : Int))
@[simp] theorem qt_1 (q : Rat) : (qt q).1 = q.num := rfl
@[simp] theorem qt_2 (q : Rat) : (qt q).2 = (q.den : Int) := rfl
/-! partly reckoned operators -/
theorem cmul_s {a b : Int} (ha : a.natAbs < 18446744073709551616) (hb : b.natAbs < 18446744073709551616) : CMulB a b := (Sz.small ha).cmul (Sz.small hb) (by omega) (by omega) (by omega)
section
variable {α β σ : Type}
/-- an item of a written list -/
theorem gs_pick {xs : List α} {i : Int} (h0 : 0 ≤ i) (h1 : i < xs.length) : Gs (atI xs i) fun x => x ∈ xs := by
  obtain ⟨x, hx, e⟩ := atI_lt xs i h0 h1
  exact ⟨x, e, hx⟩
theorem atI_nat {xs : List α} {i : Int} {k : Nat} (h : i = k) (hk : k < xs.length) : atI xs i = some xs[k] := by
  subst h
  rw [atI_ofNat, List.getElem?_eq_getElem hk]
theorem atI_last' (xs : List α) (x : α) : atI (xs ++ [x]) (-(1 : Int)) = some x := atI_last xs x
theorem enI_length (xs : List α) : (enI xs).length = xs.length := by unfold enI; simp
theorem enI_split {xs : List α} {pre : List (Int × α)} {x : Int × α} (h : ∃ post, enI xs = pre ++ x :: post) : x.1 = pre.length ∧ (∃ post, xs = pre.map (·.2) ++ x.2 :: post) := by
  obtain ⟨post, h⟩ := h
  have h1 : (enI xs)[pre.length]? = some x := by rw [h]; simp
  have h2 : (enI xs).map (·.2) = xs := by
    unfold enI
    rw [List.map_map]
    exact List.zipIdx_map_fst 0 xs
  constructor
  · unfold enI at h1
    rw [List.getElem?_map, List.getElem?_zipIdx] at h1
    obtain ⟨a, ha, e⟩ := Option.map_eq_some_iff.mp h1
    obtain ⟨b, hb, e2⟩ := Option.map_eq_some_iff.mp ha
    rw [← e, ← e2]
    simp
  · rw [h] at h2
    exact ⟨post.map (·.2), by rw [← h2]; simp⟩
end
end BK
namespace BK
open PySem PySem.Spec L2
set_option autoImplicit false
/-! ### moments by 27720th parts -/
/-- parts of a minute for a length, by a speed -/
def stp (sp : Int) : Int := 27720 / sp
/-! wheels -/
def farW (ws : List Wh) : Int := ((ws.drop 1).map (·.1)).sum
def offs (ws : List Wh) : List Int := (List.range ws.length).map fun i => farW (ws.take (i + 1))
/-- a crossing by parts of a minute -/
structure XZ where
  name : Str
  at_ : Int
  speed : Int
  wheels : List Wh
/-- when each wheel is on a bridge of a length -/
def timesZ (len : Int) (x : XZ) : List (Int × Int) := (offs x.wheels).map fun o => (x.at_ + o * stp x.speed, x.at_ + o * stp x.speed + len * stp x.speed)
abbrev SpZ := Int × Int × Int × Int
def spanZ (len : Int) (x : XZ) : List SpZ := ((timesZ len x).zip x.wheels).map fun p => (p.1.1, p.1.2, p.2.2.1, p.2.2.2)
def spansZ (len : Int) (name : Str) (xs : List XZ) : List SpZ := (xs.filter fun x => decide (x.name = name)).flatMap (spanZ len)
def onZ (m : Int) (s : SpZ) : Bool := decide (s.1 ≤ m) && decide (m < s.2.1)
def sumsZ (ss : List SpZ) (m : Int) : Int × Int := (((ss.filter (onZ m)).map (·.2.2.1)).sum, ((ss.filter (onZ m)).map (·.2.2.2)).sum)
/-- a crossing of sizes that are reckoned with -/
structure XOk (x : XZ) : Prop where
  a0 : -1000000000000000 ≤ x.at_ ∧ x.at_ ≤ 1000000000000000
  sp : 1 ≤ x.speed ∧ x.speed ≤ 12
  wl : x.wheels.length ≤ 64
  wg : ∀ w ∈ x.wheels, 0 ≤ w.1 ∧ w.1 ≤ 1000
end BK
namespace BK
open PySem PySem.Spec L2
set_option autoImplicit false
/-! ### drawn bridges, roads, wheels -/
theorem atI_mod {α : Type} (xs : List α) (i : Int) (h : xs ≠ []) : Gs (atI xs (Int.fmod i (xs.length : Int))) fun x => x ∈ xs := by
  have hl : 0 < xs.length := List.length_pos_iff.mpr h
  rw [fmod_nn (by omega)]
  exact gs_pick (Int.emod_nonneg _ (by omega)) (Int.emod_lt_of_pos _ (by omega))
def LET : Str := "abcdefghijklmnopqrstuvwxyz"
theorem LET_len : LET.length = 26 := by decide +kernel
theorem LET_at {i : Int} (h0 : 0 ≤ i) (h1 : i < 26) : sgAt LET i = some ⟨#[97 + i.toNat]⟩ := by
  obtain ⟨k, rfl⟩ := Int.eq_ofNat_of_zero_le h0
  unfold sgAt
  rw [atI_ofNat]
  have hk : k < 26 := by omega
  have key : ∀ k : Fin 26, LET.cps.toList[k.val]? = some (97 + k.val) := by decide +kernel
  rw [key ⟨k, hk⟩]
  rfl
theorem strRep_one (c : Nat) (n : Int) : (strRep ⟨#[c]⟩ n).cps = (List.replicate n.toNat c).toArray := by
  unfold strRep
  simp
theorem strRep_one_len (c : Nat) (n : Int) : (strRep ⟨#[c]⟩ n).length = n.toNat := by
  unfold Str.length
  rw [strRep_one]
  simp
theorem cut_len {α : Type} (xs : List α) (a b : Option Int) : (cutL xs a b).length ≤ xs.length := by
  unfold cutL
  rw [List.length_take, List.length_drop]
  omega
end BK
namespace BK
open PySem PySem.Spec L2
set_option autoImplicit false
/-! ### sorted(some, key=lambda fraction: fraction[0] * (bottom // fraction[1])) -/
end BK
namespace BK
open PySem PySem.Spec L2
set_option autoImplicit false
end BK
namespace BK
open PySem PySem.Spec L2
set_option autoImplicit false
/-! ### texts -/
abbrev S' (l : List Nat) : Str := ⟨l.toArray⟩
theorem str_len (x : Str) : x.length = x.cps.toList.length := by simp [Str.length]
theorem str_ext {x y : Str} (h : x.cps.toList = y.cps.toList) : x = y := by
  obtain ⟨⟨a⟩⟩ := x
  obtain ⟨⟨b⟩⟩ := y
  exact congrArg (fun l : List Nat => (⟨⟨l⟩⟩ : Str)) h
theorem str_cases (x : Str) : ∃ l : List Nat, x = S' l := ⟨x.cps.toList, str_ext rfl⟩
theorem S'_inj {a b : List Nat} (h : S' a = S' b) : a = b := congrArg (fun x : Str => x.cps.toList) h
theorem S'_len (l : List Nat) : (S' l).length = l.length := by rw [str_len]
theorem S'_add (a b : List Nat) : S' a ++ S' b = S' (a ++ b) := str_ext (TL.tl_append (S' a) (S' b))
theorem add_len (a b : Str) : (a ++ b).length = a.length + b.length := by
  obtain ⟨a, rfl⟩ := str_cases a
  obtain ⟨b, rfl⟩ := str_cases b
  rw [S'_add, S'_len, S'_len, S'_len, List.length_append]
theorem join_le (sep : Str) (zs : List Str) : (Txt.join sep zs).length ≤ (zs.map (·.length)).sum + zs.length * sep.length := by
  rw [show Txt.join sep zs = Str.join sep zs from TL.join_eq sep zs]
  exact StrLaws.join_length_le sep zs
/-- numbers as texts -/
theorem num_nat (n : Nat) : (toString (n : Int) : Str) = S' (TL.numL n) := SX.num_S n
theorem num_len {i : Int} {k : Nat} (h0 : 0 ≤ i) (hk : 0 < k) (h : i < 10 ^ k) : (toString i : Str).length ≤ k ∧ 1 ≤ (toString i : Str).length := by
  obtain ⟨n, rfl⟩ := Int.eq_ofNat_of_zero_le h0
  rw [num_nat, S'_len]
  have e : ((10 : Int) ^ k) = ((10 ^ k : Nat) : Int) := by simp
  rw [e] at h
  exact ⟨TL.numL_len hk (Int.ofNat_lt.mp h), List.length_pos_iff.mpr (TL.numL_ne n)⟩
end BK
namespace BK
open PySem PySem.Spec L2
set_option autoImplicit false
/-! ### numbers and fractions as texts -/
end BK
namespace BK
open PySem PySem.Spec L2
set_option autoImplicit false
/-! ### more block rules -/
end BK
namespace BK
open PySem PySem.Spec L2
set_option autoImplicit false
/-! ### the greatest of some, sums over some, bits -/
/-- r is the greatest of the v x of the x of l with c x, and 0 -/
def Mx {α : Type} (l : List α) (c : α → Prop) (v : α → Int) (r : Int) : Prop := 0 ≤ r ∧ (∀ x ∈ l, c x → v x ≤ r) ∧ (r = 0 ∨ ∃ x ∈ l, c x ∧ r = v x)
section
variable {α β : Type} {l : List α} {c : α → Prop} {v : α → Int} {r : Int}
theorem Mx.nil : Mx ([] : List α) c v 0 := ⟨Int.le_refl _, (fun _ h => by cases h), .inl rfl⟩
theorem Mx.no {x : α} (h : Mx l c v r) (hc : ¬ c x) : Mx (l ++ [x]) c v r := by
  obtain ⟨h0, h1, h2⟩ := h
  refine ⟨h0, ?_, ?_⟩
  · intro y hy hcy
    rw [List.mem_append, List.mem_singleton] at hy
    rcases hy with hy | rfl
    · exact h1 y hy hcy
    · exact absurd hcy hc
  · rcases h2 with h2 | ⟨y, hy, hcy, e⟩
    · exact .inl h2
    · exact .inr ⟨y, List.mem_append_left _ hy, hcy, e⟩
end
theorem pl_mono : ∀ (n : Nat) (d : D), pl n d = true → pl (n + 1) d = true := by
  intro n
  induction n with
  | zero =>
    intro d h
    cases d with
    | lst xs => cases h
    | tup xs => cases h
    | ins c fs => cases h
    | rol xs => cases h
    | dic ks xs => cases h
    | exc ks xs => cases h
    | _ => rfl
  | succ n ih =>
    intro d h
    cases d with
    | lst xs =>
      rw [pl_lst, Bool.and_eq_true, List.all_eq_true] at h ⊢
      exact ⟨h.1, fun x hx => ih x (h.2 x hx)⟩
    | tup xs =>
      rw [pl_tup, Bool.and_eq_true, List.all_eq_true] at h ⊢
      exact ⟨h.1, fun x hx => ih x (h.2 x hx)⟩
    | ins c fs => cases h
    | rol xs => cases h
    | dic ks xs => cases h
    | exc ks xs => cases h
    | _ => rfl
end BK
namespace BK
open PySem PySem.Spec L2
set_option autoImplicit false
/-! ### drawn roads of six bridges at most -/
/-- a name: one to twelve small letters -/
def NmOk (x : Str) : Prop := ∃ l : List Nat, x = S' l ∧ 1 ≤ l.length ∧ l.length ≤ 12 ∧ ∀ c ∈ l, 97 ≤ c ∧ c ≤ 122
theorem NmOk.len {x : Str} (h : NmOk x) : 1 ≤ x.length ∧ x.length ≤ 12 := by
  obtain ⟨l, rfl, h1, h2, _⟩ := h
  rw [S'_len]
  exact ⟨h1, h2⟩
def tellB (b : Bg) : D := eP6 D.str D.str D.int D.int D.int D.int ("bridge", b.name, b.length, b.bears, b.wide, b.most)
def tellO (n : Int) : D := eP2 D.str D.int ("open", n)
def tellP : Pc → D
  | .inl n => tellO n
  | .inr b => tellB b
def pcs (o0 : Int) (qs : List (Bg × Int)) : List Pc := .inl o0 :: qs.flatMap fun q => [.inr q.1, .inl q.2]
theorem pcs_snoc (o0 : Int) (qs : List (Bg × Int)) (q : Bg × Int) : pcs o0 (qs ++ [q]) = pcs o0 qs ++ [.inr q.1, .inl q.2] := by
  unfold pcs
  rw [List.flatMap_append]
  simp
theorem pcs_len (o0 : Int) (qs : List (Bg × Int)) : (pcs o0 qs).length = 1 + 2 * qs.length := by
  unfold pcs
  induction qs with
  | nil => rfl
  | cons q qs ih =>
    rw [List.flatMap_cons]
    simp at ih ⊢
    omega
structure BgOk (b : Bg) : Prop where
  l : 1 ≤ b.length ∧ b.length ≤ 1000
  br : 1 ≤ b.bears ∧ b.bears ≤ 10000000
  w : 1 ≤ b.wide ∧ b.wide ≤ 200
  m : 1 ≤ b.most ∧ b.most ≤ 10000000
structure NsOk (names : List Str) : Prop where
  l : names.length = 8
  d : names.Nodup
  n : ∀ x ∈ names, NmOk x
structure RnOk (N : List Str) (rounds : List (Str × Int)) : Prop where
  l : rounds.length ≤ N.length
  d : (rounds.map (·.1)).Nodup
  n : ∀ r ∈ rounds, r.1 ∈ N ∧ 1 ≤ r.2 ∧ r.2 ≤ 1000
structure QsOk (N : List Str) (qs : List (Bg × Int)) : Prop where
  n : qs.map (·.1.name) = N
  q : ∀ q ∈ qs, BgOk q.1 ∧ 200 ≤ q.2 ∧ q.2 ≤ 1000
structure ShOk (N : List Str) (shuts : List (Str × Int × Int)) : Prop where
  l : shuts.length ≤ 7
  n : ∀ s ∈ shuts, s.1 ∈ N ∧ 0 ≤ s.2.1 ∧ s.2.1 < s.2.2 ∧ s.2.2 ≤ 10000
/-- a drawn road -/
structure RwOk (names : List Str) (o0 : Int) (qs : List (Bg × Int)) (rounds : List (Str × Int)) (shuts : List (Str × Int × Int)) : Prop where
  nm : NsOk names
  n : 1 ≤ qs.length ∧ qs.length ≤ 6
  o : 200 ≤ o0 ∧ o0 ≤ 1000
  q : QsOk (names.take qs.length) qs
  r : RnOk (names.take qs.length) rounds
  s : ShOk (names.take qs.length) shuts
theorem RnOk.rev {N : List Str} {rs : List (Str × Int)} (h : RnOk N rs) : RnOk N rs.reverse :=
  ⟨by rw [List.length_reverse]; exact h.l, by rw [List.map_reverse]; unfold List.Nodup; rw [List.pairwise_reverse]; exact h.d.imp fun h => h.symm, fun r hr => h.n r (List.mem_reverse.mp hr)⟩
theorem take_snoc {names : List Str} {k : Nat} (h : k < names.length) : names.take (k + 1) = names.take k ++ [names[k]] := List.take_succ_eq_append_getElem h
theorem not_in_take {names : List Str} (hd : names.Nodup) {k : Nat} (h : k < names.length) : names[k] ∉ names.take k := by
  have h1 := take_snoc h
  have h2 : (names.take (k + 1)).Nodup := hd.sublist (List.take_sublist _ _)
  rw [h1, List.nodup_append] at h2
  intro hm
  exact h2.2.2 _ hm _ (by simp) rfl
theorem pl_tellP (p : Pc) : pl 8 (tellP p) = true := by
  cases p <;> rfl
end BK
namespace BK
open PySem PySem.Spec L2
set_option autoImplicit false
/-! ### pop -/
def popI {α : Type} (xs : List α) (k : Int) : Option (α × List α) := if -(2 ^ 63) ≤ k ∧ k < 2 ^ 63 then (seqIndex? k xs.length).bind fun t => xs[t]?.map fun d => (d, xs.eraseIdx t) else none
theorem popI_zero {α : Type} (x : α) (xs : List α) : popI (x :: xs) 0 = some (x, xs) := by
  unfold popI
  rw [if_pos (by omega)]
  have : seqIndex? 0 (x :: xs).length = some 0 := by
    unfold seqIndex?
    simp
  rw [this]
  rfl
section
variable {α γ : Type} {b n : Gm → Option Out} {g g1 : Gm} {P : α → Out → Prop} {s : Option α} {t : γ → Option α} {i j : Nat}
theorem popI_D {β : Type} {e : β → D} {xs : List β} {k : Int} {p : β × List β} (h : popI xs k = some p) : ∃ q : Nat, ixD (xs.map e) (.va (.int k)) = some q ∧ (xs.map e)[q]? = some (e p.1) ∧ (xs.map e).eraseIdx q = p.2.map e := by
  unfold popI at h
  split at h
  · rename_i hb
    obtain ⟨q, hq, h2⟩ := Option.bind_eq_some_iff.mp h
    obtain ⟨d, hd, rfl⟩ := Option.map_eq_some_iff.mp h2
    refine ⟨q, ?_, ?_, ?_⟩
    · unfold ixD
      rw [List.length_map]
      exact (if_pos hb).trans hq
    · rw [List.getElem?_map, hd]
      rfl
    · rw [List.eraseIdx_eq_take_drop_succ, List.eraseIdx_eq_take_drop_succ, List.map_append, List.map_take, List.map_drop]
  · cases h
theorem j_popS {β : Type} {e : β → D} {xs : List β} {mk : Gm → Option R} {k : Int} {p : β × List β} (h0 : g[i]? = some (.ow (xs.map e))) (hk : mk g = some (.va (.int k))) (hp : popI xs k = some p) (h1 : (g.set i (.ow (p.2.map e))).set j (.va (e p.1)) = g1) (K : J b n g1 s P) : J (sCons (sPopS j i mk) b) n g s P :=
  j_seq (a := sPopS j i mk) (g1 := g1) (by
    obtain ⟨q, h2, h3, h4⟩ := popI_D (e := e) hp
    unfold sPopS
    rw [h0]
    show (mk g).bind _ = _
    rw [hk]
    show (ixD (xs.map e) (.va (.int k))).bind _ = _
    rw [h2]
    show ((xs.map e)[q]?).map _ = _
    rw [h3]
    show some (Out.nx ((g.set i (.ow ((xs.map e).eraseIdx q))).set j (.va (e p.1)))) = _
    rw [h4, h1]) K
end
end BK
namespace BK
open PySem PySem.Spec L2
set_option autoImplicit false
/-! ### list(range(n)) -/
end BK
/-! ### list(reversed(a list)) -/
namespace BK
open PySem PySem.Spec L2
set_option autoImplicit false
end BK
namespace BK
open PySem PySem.Spec L2
set_option autoImplicit false
end BK
namespace BK
open PySem PySem.Spec L2
set_option autoImplicit false
end BK
namespace BK
open PySem PySem.Spec L2
set_option autoImplicit false
/-! ### the end over a head's facts, with one table -/
end BK
namespace BK
open PySem PySem.Spec L2
set_option autoImplicit false
/-! ### what is asked of entries -/
def meetsZ (ts : List (Int × Int)) (ss : List (Int × Int)) : Bool := ss.any fun s => ts.any fun t => decide (t.1 < 27720 * s.2) && decide (27720 * s.1 < t.2)
def mayZ (len bears : Int) (shuts : List (Int × Int)) (xs : List XZ) (x : XZ) : Bool := !meetsZ (timesZ len x) shuts && (spansZ len x.name (xs ++ [x])).all fun s => decide ((sumsZ (spansZ len x.name (xs ++ [x])) s.1).2 ≤ bears)
end BK
namespace BK
open PySem PySem.Spec L2
set_option autoImplicit false
/-! ### the moments at which an entry is forbidden, on the grid -/
/-- a crossing, entered at a moment -/
def XZ.to (x : XZ) (t : Int) : XZ := { x with at_ := t }
/-- the least moment from c on at which a crossing may enter -/
structure Least (len B : Int) (shuts : List (Int × Int)) (xs : List XZ) (x : XZ) (c m : Int) : Prop where
  ge : c ≤ m
  ok : mayZ len B shuts xs (x.to m) = true
  no : ∀ t, c ≤ t → t < m → mayZ len B shuts xs (x.to t) = false
theorem Least.uniq {len B : Int} {shuts : List (Int × Int)} {xs : List XZ} {x : XZ} {c m n : Int} (h : Least len B shuts xs x c m) (h' : Least len B shuts xs x c n) : m = n := by
  rcases Int.lt_trichotomy m n with a | a | a
  · have := h'.no m h.ge a
    rw [h.ok] at this; cases this
  · exact a
  · have := h.no n h'.ge a
    rw [h'.ok] at this; cases this
noncomputable def entZ (len B : Int) (shuts : List (Int × Int)) (xs : List XZ) (x : XZ) (c : Int) : Int := Classical.epsilon (Least len B shuts xs x c)
theorem Least.eq {len B : Int} {shuts : List (Int × Int)} {xs : List XZ} {x : XZ} {c m : Int} (h : Least len B shuts xs x c m) : entZ len B shuts xs x c = m := (Classical.epsilon_spec (p := Least len B shuts xs x c) ⟨m, h⟩).uniq h
end BK
namespace BK
open PySem PySem.Spec L2
set_option autoImplicit false
/-! ### what stands close, and what is on at one moment -/
theorem XOk.to {x : XZ} (h : XOk x) {t : Int} (ht : -1000000000000000 ≤ t ∧ t ≤ 1000000000000000) : XOk (x.to t) := ⟨ht, h.sp, h.wl, h.wg⟩
end BK
namespace BK
open PySem PySem.Spec L2
set_option autoImplicit false
/-! ### ways -/
def roundQ (rs : List (Str × Int)) (x : Str) : Option Int := (rs.find? fun r => decide (r.1 = x)).map (·.2)
/-- the ways by what is free to be left out -/
def chL (f : Bool) : List Bool := if f = true then [true, false] else [true]
def waysL (fs : List Bool) : List (List Bool) := fs.foldl (fun ws f => ws.flatMap fun w => (chL f).map fun c => w ++ [c]) [[]]
theorem waysL_snoc (fs : List Bool) (f : Bool) : waysL (fs ++ [f]) = (waysL fs).flatMap fun w => (chL f).map fun c => w ++ [c] := by
  unfold waysL
  rw [List.foldl_append]
  rfl
theorem waysL_len (fs : List Bool) : ∀ w ∈ waysL fs, w.length = fs.length := by
  generalize hn : fs.length = n
  induction n generalizing fs with
  | zero =>
    rw [List.length_eq_zero_iff.mp hn]
    intro w hw
    have : w ∈ ([[]] : List (List Bool)) := hw
    rw [List.mem_singleton] at this
    rw [this]
    rfl
  | succ n ih =>
    have hne : fs ≠ [] := by intro e; rw [e] at hn; cases hn
    obtain ⟨ini, x, rfl⟩ : ∃ ini x, fs = ini ++ [x] := ⟨fs.dropLast, fs.getLast hne, (List.dropLast_concat_getLast hne).symm⟩
    intro w hw
    rw [waysL_snoc, List.mem_flatMap] at hw
    obtain ⟨v, hv, hw⟩ := hw
    obtain ⟨c, _, rfl⟩ := List.mem_map.mp hw
    rw [List.length_append, List.length_singleton] at hn ⊢
    rw [ih ini (by omega) v hv]
theorem waysL_size (fs : List Bool) : (waysL fs).length ≤ 2 ^ fs.length := by
  generalize hn : fs.length = n
  induction n generalizing fs with
  | zero =>
    rw [List.length_eq_zero_iff.mp hn]
    decide
  | succ n ih =>
    have hne : fs ≠ [] := by intro e; rw [e] at hn; cases hn
    obtain ⟨ini, x, rfl⟩ : ∃ ini x, fs = ini ++ [x] := ⟨fs.dropLast, fs.getLast hne, (List.dropLast_concat_getLast hne).symm⟩
    rw [List.length_append, List.length_singleton] at hn
    have h := ih ini (by omega)
    rw [waysL_snoc]
    have : ∀ l : List (List Bool), (l.flatMap fun w => (chL x).map fun c => w ++ [c]).length ≤ 2 * l.length := by
      intro l
      induction l with
      | nil => simp
      | cons a l ih2 =>
        rw [List.flatMap_cons, List.length_append, List.length_map, List.length_cons]
        have : (chL x).length ≤ 2 := by unfold chL; split <;> simp
        omega
    have := this (waysL ini)
    rw [Nat.pow_succ]
    omega
def freeQ (rs : List (Str × Int)) (bs : List Bg) : List Bool := bs.map fun b => (roundQ rs b.name).isSome
/-- the ways by the bits of numbers -/
def wayB (n b : Nat) : List Bool := (List.range n).map fun k => !b.testBit (n - 1 - k)
def okW : List Bool → List Bool → Bool
  | f :: fs, w :: ws => (f || w) && okW fs ws
  | _, _ => true
theorem okW_snoc : ∀ (fs ws : List Bool) (f w : Bool), fs.length = ws.length → okW (fs ++ [f]) (ws ++ [w]) = (okW fs ws && (f || w))
  | [], [], f, w, _ => by simp [okW]
  | a :: fs, b :: ws, f, w, h => by
    rw [List.cons_append, List.cons_append]
    show ((a || b) && okW (fs ++ [f]) (ws ++ [w])) = _
    rw [okW_snoc fs ws f w (by simpa using h)]
    show _ = (((a || b) && okW fs ws) && (f || w))
    rw [Bool.and_assoc]
theorem wayB_len (n b : Nat) : (wayB n b).length = n := by unfold wayB; simp
theorem wayB_snoc (n b : Nat) (c : Bool) : wayB (n + 1) (2 * b + (if c = true then 0 else 1)) = wayB n b ++ [c] := by
  unfold wayB
  rw [List.range_succ, List.map_append, List.map_singleton]
  congr 1
  · apply List.map_congr_left
    intro k hk
    have := List.mem_range.mp hk
    rw [show n + 1 - 1 - k = (n - 1 - k) + 1 from by omega, Nat.testBit_succ]
    congr 2
    split <;> omega
  · rw [show n + 1 - 1 - n = 0 from by omega, Nat.testBit_zero]
    cases c <;> simp <;> omega
theorem range_double (n : Nat) : List.range (2 * n) = (List.range n).flatMap fun b => [2 * b, 2 * b + 1] := by
  induction n with
  | zero => rfl
  | succ n ih =>
    rw [List.range_succ, List.flatMap_append, ← ih, show 2 * (n + 1) = 2 * n + 1 + 1 from by omega, List.range_succ, List.range_succ]
    simp
def dueL (fs : List Bool) : List (List Bool) := ((List.range (2 ^ fs.length)).map (wayB fs.length)).filter (okW fs)
theorem dueL_eq (fs : List Bool) : dueL fs = waysL fs := by
  generalize hn : fs.length = n
  induction n generalizing fs with
  | zero =>
    rw [List.length_eq_zero_iff.mp hn]
    rfl
  | succ n ih =>
    have hne : fs ≠ [] := by intro e; rw [e] at hn; cases hn
    obtain ⟨ini, x, rfl⟩ : ∃ ini x, fs = ini ++ [x] := ⟨fs.dropLast, fs.getLast hne, (List.dropLast_concat_getLast hne).symm⟩
    rw [List.length_append, List.length_singleton] at hn
    have hn2 : ini.length = n := by omega
    rw [waysL_snoc, ← ih ini hn2]
    unfold dueL
    rw [List.length_append, List.length_singleton, hn2, show 2 ^ (n + 1) = 2 * 2 ^ n from by rw [Nat.pow_succ]; omega, range_double]
    generalize List.range (2 ^ n) = l
    induction l with
    | nil => rfl
    | cons b l ih2 =>
      have e1 := wayB_snoc n b true
      have e2 := wayB_snoc n b false
      rw [if_pos rfl] at e1
      have e1 : wayB (n + 1) (2 * b) = wayB n b ++ [true] := e1
      rw [if_neg (by decide)] at e2
      have e3 : ([2 * b, 2 * b + 1].map (wayB (n + 1))) = [wayB n b ++ [true], wayB n b ++ [false]] := by
        rw [List.map_cons, List.map_cons, List.map_nil, e1, e2]
      rw [List.flatMap_cons, List.map_append, List.filter_append, ih2, e3, List.map_cons]
      have o1 := okW_snoc ini (wayB n b) x true (by rw [wayB_len, hn2])
      have o2 := okW_snoc ini (wayB n b) x false (by rw [wayB_len, hn2])
      by_cases c : okW ini (wayB n b) = true
      · rw [List.filter_cons_of_pos c, List.flatMap_cons]
        congr 1
        rw [List.filter_cons_of_pos (by rw [o1, c]; simp)]
        unfold chL
        cases x with
        | true => rw [List.filter_cons_of_pos (by rw [o2, c]; rfl)]; rfl
        | false => rw [List.filter_cons_of_neg (by rw [o2, c]; simp)]; rfl
      · rw [List.filter_cons_of_neg c, List.filter_cons_of_neg (by rw [o1]; simp [c]), List.filter_cons_of_neg (by rw [o2]; simp [c])]
        rfl
/-- the last way leads round where it can -/
theorem waysL_last (fs : List Bool) : ∃ ini, waysL fs = ini ++ [fs.map (!·)] := by
  generalize hn : fs.length = n
  induction n generalizing fs with
  | zero =>
    rw [List.length_eq_zero_iff.mp hn]
    exact ⟨[], rfl⟩
  | succ n ih =>
    have hne : fs ≠ [] := by intro e; rw [e] at hn; cases hn
    obtain ⟨i2, x, rfl⟩ : ∃ ini x, fs = ini ++ [x] := ⟨fs.dropLast, fs.getLast hne, (List.dropLast_concat_getLast hne).symm⟩
    rw [List.length_append, List.length_singleton] at hn
    obtain ⟨ini, e⟩ := ih i2 (by omega)
    rw [waysL_snoc, e, List.flatMap_append, List.map_append, List.map_singleton]
    cases x with
    | true => exact ⟨(ini.flatMap fun w => (chL true).map fun c => w ++ [c]) ++ [i2.map (!·) ++ [true]], by simp [chL]⟩
    | false => exact ⟨(ini.flatMap fun w => (chL false).map fun c => w ++ [c]), by simp [chL]⟩
end BK
namespace BK
open PySem PySem.Spec L2
set_option autoImplicit false
/-! ### the moments at which wheels come on, each once; the first of the greatest -/
end BK
namespace BK
open PySem PySem.Spec L2 PyProof.Rows
set_option autoImplicit false
/-! ### chains of three -/
/-! ### xs.append(ys.pop(k)) -/
/-! ### xs.count(x), xs.index(x), x in xs, of items of any depth -/
/-! in plain types -/
end BK
namespace BK
open PySem PySem.Spec L2
set_option autoImplicit false
/-! ### walks and texts of data of any kind -/
end BK
namespace BK
open PySem PySem.Spec L2
set_option autoImplicit false
/-! ### rows of words -/
/-- a word: no blank, no line end -/
structure Wd (x : Str) : Prop where
  b : 32 ∉ x.cps.toList
  n : 10 ∉ x.cps.toList
  l : x.length ≤ 20
  k : ∀ c ∈ x.cps.toList, c < 1114112
theorem NmOk.wd {x : Str} (h : NmOk x) : Wd x := by
  have hl := h.len
  obtain ⟨l, rfl, _, _, h⟩ := h
  refine ⟨fun q => ?_, fun q => ?_, by omega, fun c hc => ?_⟩
  · have := h 32 q; omega
  · have := h 10 q; omega
  · have := h c hc; omega
theorem num_wd {i : Int} (h0 : 0 ≤ i) (h1 : i ≤ 1000000000) : Wd (toString i : Str) := by
  have hn := num_len (i := i) (k := 10) h0 (by omega) (by omega)
  obtain ⟨n, rfl⟩ := Int.eq_ofNat_of_zero_le h0
  rw [num_nat] at hn ⊢
  have hd := TL.numL_digits n
  refine ⟨fun q => ?_, fun q => ?_, by omega, fun c hc => ?_⟩
  · have := hd 32 q; omega
  · have := hd 10 q; omega
  · have := hd c hc; omega
theorem sum_len {n : Nat} : ∀ {ws : List Str}, (∀ w ∈ ws, w.length ≤ n) → (ws.map Str.length).sum ≤ n * ws.length
  | [], _ => by simp
  | w :: ws, h => by
    have h1 := h w List.mem_cons_self
    have h2 := sum_len fun x hx => h x (List.mem_cons_of_mem _ hx)
    rw [List.map_cons, List.sum_cons, List.length_cons, Nat.mul_add]
    omega
/-- words as a row -/
def rowW (ws : List Str) : Str := Txt.join " " ws
theorem rowW_len {ws : List Str} (h : ∀ w ∈ ws, Wd w) : (rowW ws).length ≤ 21 * ws.length := by
  have h1 : (Txt.join " " ws).length ≤ (ws.map Str.length).sum + ws.length * (" " : Str).length := join_le " " ws
  have h2 := sum_len (n := 20) fun w hw => (h w hw).l
  have h3 : (" " : Str).length = 1 := by decide +kernel
  rw [h3] at h1
  unfold rowW
  omega
/-! ### rows of roads -/
inductive Rw where
  | op (n : Int) | br (b : Bg) | rd (r : Str × Int) | sh (s : Str × Int × Int)
def Rw.ws : Rw → List Str
  | .op n => ["open", toString n]
  | .br b => ["bridge", b.name, toString b.length, toString b.bears, toString b.wide, toString b.most]
  | .rd r => ["round", r.1, toString r.2]
  | .sh s => ["shut", s.1, toString s.2.1, toString s.2.2]
def Rw.tx (r : Rw) : Str := rowW r.ws
def Rw.Ok : Rw → Prop
  | .op n => 200 ≤ n ∧ n ≤ 1000
  | .br b => NmOk b.name ∧ BgOk b
  | .rd r => NmOk r.1 ∧ 1 ≤ r.2 ∧ r.2 ≤ 1000
  | .sh s => NmOk s.1 ∧ 0 ≤ s.2.1 ∧ s.2.1 < s.2.2 ∧ s.2.2 ≤ 10000
theorem lit_wd {x : Str} (l : List Nat) (e : x = S' l) (h : 32 ∉ l ∧ 10 ∉ l ∧ l.length ≤ 20 ∧ ∀ c ∈ l, c < 1114112) : Wd x := by
  subst e
  exact ⟨h.1, h.2.1, by rw [S'_len]; exact h.2.2.1, h.2.2.2⟩
theorem open_wd : Wd "open" := lit_wd [111, 112, 101, 110] (by decide +kernel) (by decide)
theorem bridge_wd : Wd "bridge" := lit_wd [98, 114, 105, 100, 103, 101] (by decide +kernel) (by decide)
theorem round_wd : Wd "round" := lit_wd [114, 111, 117, 110, 100] (by decide +kernel) (by decide)
theorem shut_wd : Wd "shut" := lit_wd [115, 104, 117, 116] (by decide +kernel) (by decide)
theorem Rw.wd {r : Rw} (h : r.Ok) : ∀ w ∈ r.ws, Wd w := by
  intro w hw
  cases r with
  | op n =>
    obtain ⟨h1, h2⟩ := h
    simp only [Rw.ws, List.mem_cons, List.not_mem_nil, or_false] at hw
    rcases hw with rfl | rfl
    · exact open_wd
    · exact num_wd (by omega) (by omega)
  | br b =>
    obtain ⟨h1, h2, h3, h4, h5⟩ := h
    simp only [Rw.ws, List.mem_cons, List.not_mem_nil, or_false] at hw
    rcases hw with rfl | rfl | rfl | rfl | rfl | rfl
    · exact bridge_wd
    · exact h1.wd
    · exact num_wd (by omega) (by omega)
    · exact num_wd (by omega) (by omega)
    · exact num_wd (by omega) (by omega)
    · exact num_wd (by omega) (by omega)
  | rd r =>
    obtain ⟨h1, h2, h3⟩ := h
    simp only [Rw.ws, List.mem_cons, List.not_mem_nil, or_false] at hw
    rcases hw with rfl | rfl | rfl
    · exact round_wd
    · exact h1.wd
    · exact num_wd (by omega) (by omega)
  | sh s =>
    obtain ⟨h1, h2, h3, h4⟩ := h
    simp only [Rw.ws, List.mem_cons, List.not_mem_nil, or_false] at hw
    rcases hw with rfl | rfl | rfl | rfl
    · exact shut_wd
    · exact h1.wd
    · exact num_wd (by omega) (by omega)
    · exact num_wd (by omega) (by omega)
theorem Rw.wl (r : Rw) : r.ws.length ≤ 6 := by cases r <;> simp [Rw.ws]
theorem Rw.len {r : Rw} (h : r.Ok) : r.tx.length ≤ 126 := by
  have h1 := rowW_len (Rw.wd h)
  have h2 := r.wl
  unfold Rw.tx
  omega
end BK
namespace BK
open PySem PySem.Spec L2
set_option autoImplicit false
/-! ### own trees: read for a while, frozen for good -/
/-! ### lists of own trees are changed -/
end BK
namespace BK
open PySem PySem.Spec L2
set_option autoImplicit false
/-! ### own trees in plain types -/
end BK
namespace BK
open PySem PySem.Spec L2
open PyProof.Rows (envOfC)
set_option autoImplicit false
/-! ### defs that make trees, defs that change them -/
/-! ### statements of such defs and calls of them -/
end BK
namespace BK
open PySem PySem.Spec L2
set_option autoImplicit false
/-! ### data taken apart; lists seen as other lists; in, deep -/
theorem j_appE {α β : Type} {b n : Gm → Option Out} {g g1 : Gm} {P : α → Out → Prop} {s : Option α} {i : Nat} {e : Gm → Option R} {r : R} (en : β → D) (xs : List β) (v : β) (h0 : g[i]? = some (.ow (xs.map en))) (h : e g = some r) (hd : r.d = en v) (hb : r.isBw = false) (hl : xs.length < 16777216) (h1 : g.set i (.ow ((xs ++ [v]).map en)) = g1) (k : J b n g1 s P) : J (sCons (sApp i e) b) n g s P :=
  j_app h0 h hb (by rw [List.length_map]; exact hl) (by rw [← h1, List.map_append, hd]; rfl) k
end BK
namespace BK
open PySem PySem.Spec L2
set_option autoImplicit false
/-! ### for the mathematics of days of shapes -/
end BK
namespace BK
open PySem PySem.Spec L2
set_option autoImplicit false
/-! ### dict(pairs) with texts as keys, read alone -/
/-! in plain types -/
end BK
namespace BK
open PySem PySem.Spec L2
set_option autoImplicit false
/-! ### tests that take an item out of an own list -/
/-! in plain types -/
end BK
namespace BK
open PySem PySem.Spec L2 PyProof.Rows
set_option autoImplicit false
/-! ### defs that change their first argument, or tell a new tree -/
/-! ### x != [], whatever x's items are -/
/-! ### loads as own trees -/
end BK
namespace BK
open PySem PySem.Spec L2 PyProof.Rows
set_option autoImplicit false
/-! ### an instance made of an own list that is copied -/
end BK
namespace BK
open PySem PySem.Spec L2 PyProof.Rows
set_option autoImplicit false
/-! ### a, b, .. = xs.pop(k) -/
end BK
namespace BK
open PySem PySem.Spec L2
open PyProof.Rows (envOfC)
set_option autoImplicit false
/-! ### exceptions: what raises, beside what answers -/
def XD (K : PySem.W.Frag) (ca : Nat → Addr) (F : Hp) (cls : Value) (d : Option Addr) (x : Exc) : Prop :=
  cls = .ref (ca x.c) ∧ ∃ fs : List (Str × V), (d = none ∧ fs = [] ∨ ∃ dd, d = some dd ∧ F dd = some (.xd fs)) ∧ fs.map (·.1) = xflds x.c ∧ Dens K ca F (fs.map (·.2)) (x.fs.map aD)
def spX (K : PySem.W.Frag) (ca : Nat → Addr) (ψ : List D → Option Exc) : Sp := fun vs H _ E => ∃ ds F x, Same F H ∧ NT F ∧ TabsC ca H ∧ Dens K ca F vs ds ∧ ψ ds = some x ∧ ∀ cls d H' F', Ext ca H F H' F' → XD K ca F' cls d x → E cls d H'
structure CalleeX (P : Program) (w : World) (K : PySem.W.Frag) (mg : Str → Option Value) (base : Heap) (ca : Nat → Addr) (k : Nat) (x : Str) (ψ : List D → Option Exc) : Prop where
  ex : ∃ (f : Addr) (fd : FuncData) (ps : List Str), FnOk P w K mg base (L2.CX P w) k f fd ps (spX K ca ψ) ∧ mg x = some (.ref f) ∧ PySem.W.keepIn K (.ref f) = true ∧ Binds K fd ps []
theorem CalleeX.mono {P : Program} {w : World} {K : PySem.W.Frag} {mg : Str → Option Value} {base : Heap} {ca : Nat → Addr} {j k : Nat} {x : Str} {ψ : List D → Option Exc} (C : CalleeX P w K mg base ca j x ψ) (h : j ≤ k) : CalleeX P w K mg base ca k x ψ := by
  obtain ⟨f, fd, ps, F, r⟩ := C.ex
  exact ⟨f, fd, ps, F.mono h, r⟩
/-! expressions that raise -/
def tXV (K : PySem.W.Frag) (ca : Nat → Addr) (W : WX) (m : Gm → Option Exc) : L2.St → Hp → Prop := fun σ H => ∃ H0 F0 F Γ x, SR K ca H0 F0 σ H F Γ ∧ m Γ = some x ∧ ∀ cls d H' F', Ext ca H F H' F' → XD K ca F' cls d x → W cls d σ H'
section
variable {X : Cx} {ca : Nat → Addr} {e : Expr} {es : List Expr} {m n : Gm → Option Exc} {a : Gm → Option R} {ms : Gm → Option (List R)} {pos p apos : Pos}
theorem tXV.mono {K : PySem.W.Frag} {W : WX} {σ : L2.St} {H0 F0 H F H1 F1 : Hp} {Γ : Gm} {x : Exc} (S : SR K ca H0 F0 σ H F Γ) (x1 : Ext ca H F H1 F1) (e : m Γ = some x) (q : ∀ cls d H' F', Ext ca H F H' F' → XD K ca F' cls d x → W cls d σ H') : tXV K ca W m σ H1 :=
  ⟨H0, F0, F1, Γ, x, S.mono x1, e, fun cls d H' F' x2 r => q cls d H' F' (x1.trans x2) r⟩
end
/-! statements that raise: the state behind is forgotten (XS), or it is the state ahead (X0) -/
section
variable {X : Cx} {ca : Nat → Addr} {e : Expr} {st : Stmt} {rest : List Stmt} {m n : Gm → Option Exc} {mo : Gm → Option Out} {T : List Nat} {pos p apos : Pos}
theorem PSs.ps {t : TS} (h : PS X.nox st t) : PS X st t := ⟨fun pins s σ H D I hw =>
  wpAny_mono (h.run pins s σ H D (I.wish _) hw) (fun _ _ q => q.unwish) fun _ _ z => False.elim z⟩
end
/-! a loop in whose turns something raises -/
end BK
namespace BK
open PySem PySem.Spec L2
open PyProof.Rows (envOfC)
set_option autoImplicit false
/-! ### exceptions: made, raised, let out, caught -/
def toA : R → Option (Int ⊕ Str)
  | .va (.int i) => some (.inl i)
  | .va (.str s) => some (.inr s)
  | _ => none
/-! a def that raises -/
/-! try -/
end BK
set_option maxHeartbeats 4000000
namespace PySem.W
open PySem PySem.Spec PySem.Calls PyProof.Rows
end PySem.W
namespace BK
open PySem PySem.Spec L2
set_option autoImplicit false
/-! ### a caught exception: its class, its fields -/
end BK
namespace BK
open PySem PySem.Spec L2
set_option autoImplicit false
/-! ### what is asked of exception classes, as Bools over a head's facts -/
/-! further contexts -/
end BK
namespace BK
open PySem PySem.Spec L2
open PyProof.Rows (envOfC)
set_option autoImplicit false
/-! ### what answers or raises, in one function -/
/-! statements -/
/-! no statement of these raises -/
end BK
namespace BK
end BK
namespace BK
open PySem PySem.Spec L2
set_option autoImplicit false
/-! ### in plain types: what answers or raises -/
/-! calls -/
/-! blocks -/
/-! loops that may raise -/
section
variable {α : Type} {b n : Gm → Option Out} {g g1 : Gm} {P : α → Out → Prop}
def Fin (o : Out) : Prop := (∃ r, o = .rt r) ∨ ∃ x, o = .ex x
end
/-! a caught exception read -/
end BK
namespace BK
open PySem PySem.Spec L2
set_option autoImplicit false
/-! ### a text's own method without arguments: upper -/
end BK
namespace L2
open PySem PySem.Spec BK
set_option autoImplicit false
/-! ### an exception made as a value -/
end L2
namespace BK
open PySem PySem.Spec L2
set_option autoImplicit false
end BK
namespace BK
open PySem PySem.Spec L2
set_option autoImplicit false
/-! ### a told list that is asked once, then appended to and forgotten: x = f(..); if c: return b; x.append(k) -/
def eH : Hp := fun _ => none
/-! in plain types -/
end BK
namespace BK
open PySem PySem.Spec L2
set_option autoImplicit false
/-! ### an own list that is lent: frozen if it is empty; turned round -/
end BK
namespace BK
open PySem PySem.Spec L2
set_option autoImplicit false
/-! ### f-strings of texts and numbers -/
/-! .. in plain types -/
end BK
namespace BK
open PySem PySem.Spec L2 PyProof.Rows
set_option autoImplicit false
/-! ### sorted(..) of whole numbers, of a list or a tuple -/
end BK
namespace BK
open PySem PySem.Spec L2
set_option autoImplicit false
/-! ### a told thing that is asked once, whose lists are then changed, and that is forgotten: x = f(..); if c: return b; x.p.q.append(e); x.r.reverse(); .. -/
/-! in plain types -/
end BK
namespace BK
open PySem PySem.Spec L2
set_option autoImplicit false
/-! ### lists handed to a class that copies them, then changed behind: x = [e1, ..]; y = C(x[0], ..); x[k].append(e); x[k].insert(0, e); .. -/
/-! in plain types: a road -/
end BK
namespace BK
open PySem PySem.Spec L2
open PyProof.Rows (envOfC)
set_option autoImplicit false
/-! ### a def that tells a pair: a new list and a number; what is asked of the pair in one breath -/
def spW (K : PySem.W.Frag) (ca : Nat → Addr) (φ : List D → Option (List D × Int)) : Sp := fun vs H Q _ => ∃ ds F p, Same F H ∧ NT F ∧ TabsC ca H ∧ Dens K ca F vs ds ∧ φ ds = some p ∧
  ∀ t a ws H' F', Ext ca H F H' F' → H' t = some (.tup [.ref a, .int p.2]) → noT H a = none → F' a = none → H' a = some (.lst ws) → Dens K ca F' ws p.1 → Q (.ref t) H'
def tSVW (K : PySem.W.Frag) (ca : Nat → Addr) (m : Gm → Option Out) (k : Gm → Option (List D × Int)) : TS := fun D σ H => ∃ H0 F0 F Γ g p, SR K ca H0 F0 σ H F Γ ∧ m Γ = some (.nx g) ∧ k g = some p ∧
  ∀ t a ws H' F', Ext ca H0 F0 H' F' → H' t = some (.tup [.ref a, .int p.2]) → noT H0 a = none → F' a = none → H' a = some (.lst ws) → Dens K ca F' ws p.1 → D.rt (.ref t) H'
def kW (i j : Nat) : Gm → Option (List D × Int) := fun g => match g[i]?, g[j]? with
  | some (.ow ds), some (.va (.int n)) => some (ds, n)
  | _, _ => none
section
variable {X : Cx} {ca : Nat → Addr} {st : Stmt} {rest : List Stmt} {m n : Gm → Option Out} {T : List Nat} {k : Gm → Option (List D × Int)} {e : Expr} {pos : Pos}
theorem svw_cons (h1 : SV X ca st m T) (h2 : PSs X rest (tSVW X.K ca n k)) : PSs X (st :: rest) (tSVW X.K ca (sCons m n) k) := by
  refine pss_imp (pss_cons h1.ps h2) ?_
  rintro D σ H ⟨H0, F0, F, Γ, g, t, S, e, ek, p⟩
  unfold sCons at e
  obtain ⟨o1, e1, e⟩ := Option.bind_eq_some_iff.mp e
  refine ⟨H0, F0, F, Γ, o1, S, e1, ?_⟩
  cases o1 with
  | nx g1 => exact fun σ1 H1 F1 S1 s1 k1 => ⟨H0, F0, F1, g1, g, t, S1, e, ek, p⟩
  | rt r => cases e
  | bk g2 => cases e
  | ct g2 => cases e
  | ex x => cases e
theorem svw_ret {i j : Nat} {x y : Str} {p1 p2 p3 : Pos} {kk : Nat} (hx : PE X (.Name x p1) (tVar i)) (hy : PE X (.Name y p2) (tVar j)) (hs1 : starEach [.Name x p1, .Name y p2] X.env = (false, eval (.Name x p1) X.env) :: starEach [.Name y p2] X.env := by rfl) (hs2 : starEach [.Name y p2] X.env = (false, eval (.Name y p2) X.env) :: starEach [] X.env := by rfl) : PSs X [.Return (some (.Tuple [.Name x p1, .Name y p2] kk p3)) pos] (tSVW X.K ca sNil (kW i j)) := by
  refine pss_imp (pss_one (ps_ret (pe_tup (pa_cons hx (pa_cons hy pa_nil hs2) hs1)))) ?_
  rintro D σ H ⟨H0, F0, F, Γ, g, q, S, e, ek, p⟩
  cases e
  unfold kW at ek
  split at ek
  rotate_left
  · cases ek
  rename_i ds z h1 h2
  cases ek
  obtain ⟨a, vs, s, q1, q2, q3, q4⟩ := S.ow i ds h1
  obtain ⟨v, sv, dv⟩ := S.va j _ h2
  cases dv
  refine ⟨_, s, _, sv, (show (2 : Nat) ≤ sizeLine by decide), fun t ht => ?_⟩
  have hat : a ≠ t := fun z => by rw [z, ht] at q3; cases q3
  have x0 : Ext ca H F (upd H t (.tup [.ref a, .int z])) F := .newO (S.ext.fh) _ ht
  exact p t a vs _ F (S.ext.trans x0) upd_same q1 q2 (by rw [upd_ne hat]; exact q3) q4
end
def phiW (m : Gm → Option Out) (k : Gm → Option (List D × Int)) (N n : Nat) : List D → Option (List D × Int) := fun ds => if ds.length = n then match m (ds.map Slot.va ++ List.replicate (N - n) Slot.un) with
  | some (.nx g) => k g
  | _ => none
  else none
section
variable {P : Program} {w : World} {K : PySem.W.Frag} {mg : Str → Option Value} {base : Heap} {ca : Nat → Addr}
theorem fn_okW {x qual : Str} {st : Stmt} {f : Addr} {fd : FuncData} {N ps : List Str} {k n nN : Nat} {m : Gm → Option Out} {kt : Gm → Option (List D × Int)} {φ : List D → Option (List D × Int)} (F : FunA K x qual st f fd) (S : FnScope N ps (defScope st)) (hn : ps.length = n) (hN : N.length = nN) (hφ : φ = phiW m kt nN n)
    (hbody : ∀ (cdv : Value) (A : Around) (outer : List Env) (s : Shared) (H : Hp) (E : XK), Room k (A.deeper (envOfC qual (defScope st) s.heap.objs.size f cdv)) →
      PSs (cxOf CX0 P w K mg base N qual (defScope st) f cdv A outer s H E).nox (defBody st) (tSVW K ca m kt)) : FnOk P w K mg base CX0 (k + 1) f fd ps (spW K ca φ) := by
  subst hφ
  subst hn
  subst hN
  refine F.ok S (fun vs H Q E ⟨ds, F0, r, s, _, _, h, e, _⟩ => ?_) (fun cdv hcd A outer s H vs Q E hr ⟨ds, F0, t, sm, nt, tc, h, e, q⟩ => ?_)
  · unfold phiW at e
    split at e
    · rw [h.length]; assumption
    · cases e
  · have hb := hbody cdv A outer s H E hr
    refine ⟨_, hb, ?_⟩
    unfold phiW at e
    split at e
    · rename_i hl
      have S0 : SR K ca H F0 (L2.start N vs) H F0 (ds.map Slot.va ++ List.replicate (N.length - ps.length) Slot.un) := by
        rw [← hl]
        exact sr_start sm nt tc h
      split at e
      · rename_i g em
        exact ⟨H, F0, F0, _, g, t, S0, em, e, q⟩
      · cases e
    · cases e
structure CalleeW (P : Program) (w : World) (K : PySem.W.Frag) (mg : Str → Option Value) (base : Heap) (ca : Nat → Addr) (k : Nat) (x : Str) (φ : List D → Option (List D × Int)) : Prop where
  ex : ∃ (f : Addr) (fd : FuncData) (ps : List Str), FnOk P w K mg base CX0 k f fd ps (spW K ca φ) ∧ mg x = some (.ref f) ∧ PySem.W.keepIn K (.ref f) = true ∧ Binds K fd ps []
end
/-- f(..)[0] -/
def eW0 (φ : List D → Option (List D × Int)) (as : Gm → Option (List R)) : Gm → Option R := fun g => (as g).bind fun rs => (allVa rs).bind fun ds => (φ ds).map fun p => .tm p.1
/-- f(..)[1] -/
def eW1 (φ : List D → Option (List D × Int)) (as : Gm → Option (List R)) : Gm → Option R := fun g => (as g).bind fun rs => (allVa rs).bind fun ds => (φ ds).map fun p => .va (.int p.2)
section
variable {X : Cx} {ca : Nat → Addr} {j : Nat} {x : Str} {e : Expr} {es : List Expr} {as : Gm → Option (List R)} {p pos pos1 p1 p2 : Pos} {φ : List D → Option (List D × Int)}
theorem pe_fnW {t : TA} (C : CalleeW X.prog X.w X.K X.mg X.base ca j x φ) (hr : Room j X.A) (hg : Gl X x) (ha : PA X (e :: es) t) (hdb : (x == ("__debug__" : Str)) = false := by decide)
    (he : starEach (e :: es) X.env = (false, eval e X.env) :: starEach es X.env := by rfl) (hpl : (backTo pos (starEach es X.env)).any (·.1) = false := by rfl) : PE X (.Call (.Name x p) (e :: es) [] pos) (tCall (spW X.K ca φ) [] E0 t) := by
  obtain ⟨f, fd, ps, G, hm, hk, hb⟩ := C.ex
  exact pe_call G hr hg hm hk hb .nil pass0 ha hdb he hpl
theorem ev_w0 {kk : Nat} (C : CalleeW X.prog X.w X.K X.mg X.base ca j x φ) (hr : Room j X.A) (hg : Gl X x) (ha : AV X ca (e :: es) as) (hdb : (x == ("__debug__" : Str)) = false := by decide)
    (he : starEach (e :: es) X.env = (false, eval e X.env) :: starEach es X.env := by rfl) (hpl : (backTo pos (starEach es X.env)).any (·.1) = false := by rfl) : EV X ca (.Subscript (.Call (.Name x p) (e :: es) [] pos) (.Constant (.int 0) kk p2) p1) (eW0 φ as) := by
  refine pe_imp (pe_ix ix_seq (pe_fnW C hr hg ha hdb he hpl) (pe_int (i := 0)) (fun _ _ => rfl)) ?_
  rintro σ H Q ⟨H0, F0, F, Γ, z, S, e0, q⟩
  unfold eW0 at e0
  obtain ⟨rs, er, e0⟩ := Option.bind_eq_some_iff.mp e0
  obtain ⟨ds, ed, e0⟩ := Option.bind_eq_some_iff.mp e0
  obtain ⟨pr, ep, rfl⟩ := Option.map_eq_some_iff.mp e0
  refine ⟨H0, F0, F, Γ, rs, S, er, fun vs H1 F1 x1 r1 => ?_⟩
  obtain ⟨hd, _⟩ := allVa_den r1 ed
  have S1 := S.mono x1
  rw [List.append_nil]
  refine ⟨ds, F1, pr, S1.ext.fh, S1.ext.nt S1.nt0, S1.tc0.mono S1.ext.hh, hd, ep, fun t a ws H2 F2 x2 h1 h2 h3 h4 h5 => ?_⟩
  refine .inr (.inl ⟨t, _, 0, .ref a, rfl, rfl, SqT.of h1, rfl, ?_⟩)
  exact q _ H2 F2 (x1.trans x2) ⟨a, ws, rfl, x1.hh.free h2, h3, h4, h5⟩
theorem ev_w1 {kk : Nat} (C : CalleeW X.prog X.w X.K X.mg X.base ca j x φ) (hr : Room j X.A) (hg : Gl X x) (ha : AV X ca (e :: es) as) (hdb : (x == ("__debug__" : Str)) = false := by decide)
    (he : starEach (e :: es) X.env = (false, eval e X.env) :: starEach es X.env := by rfl) (hpl : (backTo pos (starEach es X.env)).any (·.1) = false := by rfl) : EV X ca (.Subscript (.Call (.Name x p) (e :: es) [] pos) (.Constant (.int 1) kk p2) p1) (eW1 φ as) := by
  refine pe_imp (pe_ix ix_seq (pe_fnW C hr hg ha hdb he hpl) (pe_int (i := 1)) (fun _ _ => rfl)) ?_
  rintro σ H Q ⟨H0, F0, F, Γ, z, S, e0, q⟩
  unfold eW1 at e0
  obtain ⟨rs, er, e0⟩ := Option.bind_eq_some_iff.mp e0
  obtain ⟨ds, ed, e0⟩ := Option.bind_eq_some_iff.mp e0
  obtain ⟨pr, ep, rfl⟩ := Option.map_eq_some_iff.mp e0
  refine ⟨H0, F0, F, Γ, rs, S, er, fun vs H1 F1 x1 r1 => ?_⟩
  obtain ⟨hd, _⟩ := allVa_den r1 ed
  have S1 := S.mono x1
  rw [List.append_nil]
  refine ⟨ds, F1, pr, S1.ext.fh, S1.ext.nt S1.nt0, S1.tc0.mono S1.ext.hh, hd, ep, fun t a ws H2 F2 x2 h1 h2 h3 h4 h5 => ?_⟩
  refine .inr (.inl ⟨t, _, 1, .int pr.2, rfl, rfl, SqT.of h1, rfl, ?_⟩)
  exact q _ H2 F2 (x1.trans x2) (.int _)
end
theorem sim_phiW {α : Type} {m : Gm → Option Out} {kt : Gm → Option (List D × Int)} {N n : Nat} {ds : List D} {s : Option α} {k : α → List D × Int} (hl : ds.length = n) (h : J m nxt (ds.map Slot.va ++ List.replicate (N - n) Slot.un) s fun v o => ∃ g, o = .nx g ∧ kt g = some (k v)) {x : α} (e : s = some x) : phiW m kt N n ds = some (k x) := by
  obtain ⟨o, e1, g, rfl, e2⟩ := h x e
  rw [bO_nxt] at e1
  unfold phiW
  rw [if_pos hl, e1]
  exact e2
theorem x_w0 {φ : List D → Option (List D × Int)} {as : Gm → Option (List R)} {g : Gm} {rs : List R} {ds : List D} {p : List D × Int} (ha : as g = some rs) (hv : allVa rs = some ds) (hf : φ ds = some p) : eW0 φ as g = some (.tm p.1) := by
  unfold eW0
  rw [ha, Option.bind_some, hv, Option.bind_some, hf]
  rfl
theorem x_w1 {φ : List D → Option (List D × Int)} {as : Gm → Option (List R)} {g : Gm} {rs : List R} {ds : List D} {p : List D × Int} (ha : as g = some rs) (hv : allVa rs = some ds) (hf : φ ds = some p) : eW1 φ as g = some (.va (.int p.2)) := by
  unfold eW1
  rw [ha, Option.bind_some, hv, Option.bind_some, hf]
  rfl
end BK
namespace G
open PySem PySem.Spec L2 BK
set_option autoImplicit false
def topS (i : Nat) : Stmt := PySem.Challenge.pw_ballastway_k12_along_a_way.main.body.getD i (.Pass ⟨0, 0, 0, 0⟩)
structure Blt (mg : Str → Option Value) : Prop where
  z_all : mg "all" = none
  z_bool : mg "bool" = none
  z_enumerate : mg "enumerate" = none
  z_int : mg "int" = none
  z_isinstance : mg "isinstance" = none
  z_len : mg "len" = none
  z_list : mg "list" = none
  z_range : mg "range" = none
  z_str : mg "str" = none
  z_sum : mg "sum" = none
  z_tuple : mg "tuple" = none
  z_zip : mg "zip" = none
abbrev sI_Piece : Stmt := inClass (topS 1) 0
theorem scI_Piece : FnScope ["self", "length"] ["self", "length"] (defScope sI_Piece) := ⟨rfl, rfl, rfl, by decide +kernel, rfl, by decide +kernel, by decide +kernel⟩
def ini_Piece : List (Gm → Option R) := [eV 1]
theorem okI_Piece {P : Program} {w : World} {K : PySem.W.Frag} {mg : Str → Option Value} {base : Heap} {ca : Nat → Addr} {f : Addr} {fd : FuncData} (c : Nat) (kl : Kls K (ca c) c) (hc : ∀ f ∈ (["length"] : List Str), f ∈ fldsOf c) (F : Fun K "__init__" "Piece.__init__" sI_Piece f fd) : FnOk P w K mg base CX0 1 f fd ["self", "length"] (spIni K ca c 1 ["length"] ini_Piece) :=
  ini_ok F scI_Piece rfl rfl (by decide) (by decide) (fun cdv A outer s H E hr => jvs0_of (jvs_one (jv_fld kl (hc _ (by decide)) (pv 0) (ev_var (pv 1)) rfl)))
abbrev sI_Bridge : Stmt := inClass (topS 3) 0
theorem scI_Bridge : FnScope ["self", "name", "length", "bears", "wide", "most"] ["self", "name", "length", "bears", "wide", "most"] (defScope sI_Bridge) := ⟨rfl, rfl, rfl, by decide +kernel, rfl, by decide +kernel, by decide +kernel⟩
def ini_Bridge : List (Gm → Option R) := [eV 2, eV 1, eV 3, eV 4, eV 5]
theorem okI_Bridge {P : Program} {w : World} {K : PySem.W.Frag} {mg : Str → Option Value} {base : Heap} {ca : Nat → Addr} {f fP CP : Addr} {fd fdP : FuncData} (kl : Kls K (ca 1) 1) (GP : FnOk P w K mg base CX0 1 fP fdP ["self", "length"] (spIni K ca 1 1 ["length"] [eV 1])) (mP : mg "Piece" = some (.ref CP)) (rd : PySem.W.readsIn K CP (.type "type") = true) (ga : PySem.W.specialIn K (.ref CP) "__getattribute__" = some (some (.builtin "type.__getattribute__"))) (fc : PySem.W.findCls K (.ref CP) (.type "type") "__init__" = some (.val (.ref fP))) (kP : PySem.W.keepIn K (.ref fP) = true) (bP : Binds K fdP ["self", "length"] []) (F : Fun K "__init__" "Bridge.__init__" sI_Bridge f fd) : FnOk P w K mg base CX0 2 f fd ["self", "name", "length", "bears", "wide", "most"] (spIni K ca 1 5 ["length", "name", "bears", "wide", "most"] ini_Bridge) :=
  ini_ok F scI_Bridge rfl rfl (by decide) (by decide) (fun cdv A outer s H E hr => jvs0_base GP hr rfl mP rd ga fc kP bP (pv 0) (pv 2) (jvs_cons (jv_fld kl (by decide) (pv 0) (ev_var (pv 1)) rfl) (jvs_cons (jv_fld kl (by decide) (pv 0) (ev_var (pv 3)) rfl) (jvs_cons (jv_fld kl (by decide) (pv 0) (ev_var (pv 4)) rfl) (jvs_one (jv_fld kl (by decide) (pv 0) (ev_var (pv 5)) rfl))))))
abbrev sI_Road : Stmt := inClass (topS 4) 0
theorem scI_Road : FnScope ["self", "pieces", "rounds", "shuts"] ["self", "pieces", "rounds", "shuts"] (defScope sI_Road) := ⟨rfl, rfl, rfl, by decide +kernel, rfl, by decide +kernel, by decide +kernel⟩
def ini_Road : List (Gm → Option R) := [eA cList (aC (eV 1) aN), eA cList (aC (eV 2) aN), eA cList (aC (eV 3) aN)]
theorem okI_Road {P : Program} {w : World} {K : PySem.W.Frag} {mg : Str → Option Value} {base : Heap} {ca : Nat → Addr} {f : Addr} {fd : FuncData} (Z : Blt mg) (c : Nat) (kl : Kls K (ca c) c) (hc : ∀ f ∈ (["pieces", "rounds", "shuts"] : List Str), f ∈ fldsOf c) (F : Fun K "__init__" "Road.__init__" sI_Road f fd) : FnOk P w K mg base CX0 1 f fd ["self", "pieces", "rounds", "shuts"] (spIni K ca c 3 ["pieces", "rounds", "shuts"] ini_Road) :=
  ini_ok F scI_Road rfl rfl (by decide) (by decide) (fun cdv A outer s H E hr => jvs0_of (jvs_cons (jv_fld kl (hc _ (by decide)) (pv 0) (ev_callT call_list_of cd_list rfl Z.z_list b_list (av_cons (ev_var (pv 1)) av_nil)) rfl) (jvs_cons (jv_fld kl (hc _ (by decide)) (pv 0) (ev_callT call_list_of cd_list rfl Z.z_list b_list (av_cons (ev_var (pv 2)) av_nil)) rfl) (jvs_one (jv_fld kl (hc _ (by decide)) (pv 0) (ev_callT call_list_of cd_list rfl Z.z_list b_list (av_cons (ev_var (pv 3)) av_nil)) rfl)))))
abbrev ini_Open := ini_Piece
abbrev sM_Piece_is_bridge : Stmt := inClass (topS 1) 1
theorem scM_Piece : FnScope ["self"] ["self"] (defScope sM_Piece_is_bridge) := ⟨rfl, rfl, rfl, by decide +kernel, rfl, by decide +kernel, by decide +kernel⟩
def φ_Piece_is_bridge : Phi := phi (sCons (sRet (eC (.bl false))) sNil) 1 1
theorem okM_Piece {P : Program} {w : World} {K : PySem.W.Frag} {mg : Str → Option Value} {base : Heap} {ca : Nat → Addr} {f : Addr} {fd : FuncData} (F : FunA K "is_bridge" "Piece.is_bridge" sM_Piece_is_bridge f fd) : FnOk P w K mg base CX0 1 f fd ["self"] (spOf K ca φ_Piece_is_bridge) :=
  fn_ok F scM_Piece rfl rfl rfl (fun cdv A outer s H E hr => (svs_cons (sv_ret (ev_c pe_bl fun _ => .bl _)) svs_nil))
abbrev sM_Bridge_is_bridge : Stmt := inClass (topS 3) 1
theorem scM_Bridge : FnScope ["self"] ["self"] (defScope sM_Bridge_is_bridge) := ⟨rfl, rfl, rfl, by decide +kernel, rfl, by decide +kernel, by decide +kernel⟩
def φ_Bridge_is_bridge : Phi := phi (sCons (sRet (eC (.bl true))) sNil) 1 1
theorem okM_Bridge {P : Program} {w : World} {K : PySem.W.Frag} {mg : Str → Option Value} {base : Heap} {ca : Nat → Addr} {f : Addr} {fd : FuncData} (F : FunA K "is_bridge" "Bridge.is_bridge" sM_Bridge_is_bridge f fd) : FnOk P w K mg base CX0 1 f fd ["self"] (spOf K ca φ_Bridge_is_bridge) :=
  fn_ok F scM_Bridge rfl rfl rfl (fun cdv A outer s H E hr => (svs_cons (sv_ret (ev_c pe_bl fun _ => .bl _)) svs_nil))
abbrev s_bridges_of : Stmt := topS 5
theorem sc_bridges_of : FnScope ["road", "piece"] ["road"] (defScope s_bridges_of) := ⟨rfl, rfl, rfl, by decide +kernel, rfl, by decide +kernel, by decide +kernel⟩
def m_bridges_of : Gm → Option Out := sCons (sRet (eLc (iSeq (e1 (oFld "pieces") (eV 0))) (gN 1) (bE (e1 cIsB (eV 1))) (eV 1) [1])) (sNil)
def φ_bridges_of : Phi := phi m_bridges_of 2 1
set_option maxHeartbeats 4000000 in
theorem ok_bridges_of {P : Program} {w : World} {K : PySem.W.Frag} {mg : Str → Option Value} {base : Heap} {ca : Nat → Addr} {f : Addr} {fd : FuncData} (Z : Blt mg) (M_0 : MCallee P w K mg base ca 1 0 "is_bridge" φ_Piece_is_bridge) (M_1 : MCallee P w K mg base ca 1 1 "is_bridge" φ_Bridge_is_bridge) (F : FunA K "bridges_of" "bridges_of" s_bridges_of f fd) : FnOk P w K mg base CX0 (1 + 1) f fd ["road"] (spOf K ca φ_bridges_of) :=
  fn_ok F sc_bridges_of rfl rfl rfl (fun cdv A outer s H E hr => (svs_cons (sv_ret (ev_lc rfl sc_bridges_of.nd (iv_seq (ev_fld (ev_var (pv 0)) rfl)) (blk_by (own := [("piece", 1)]) (N := ["road", "piece"]) (sc := defScope s_bridges_of) rfl rfl (by decide +kernel)) rfl (fun _ _ _ _ _ => (gv_name sc_bridges_of.nd rfl (.inl rfl))) (fun _ _ _ _ _ => (cv_one (tv_val (ev_isb (fun _ => rfl) (fun _ => rfl) M_0 M_1 (hr.mono (by decide)) (ev_var (pv 1)))))) (fun _ _ _ _ _ => (ev_var (pv 1))) (by decide) gN_ln)) svs_nil))
abbrev s_round_of : Stmt := topS 6
theorem sc_round_of : FnScope ["road", "name", "called", "length"] ["road", "name"] (defScope s_round_of) := ⟨rfl, rfl, rfl, by decide +kernel, rfl, by decide +kernel, by decide +kernel⟩
def m_round_of : Gm → Option Out := sCons (sFor (iSeq (e1 (oFld "rounds") (eV 0))) (gT (gC (gN 2) (gC (gN 3) (gE)))) (sCons (sIf (bE (e2 oEq (eV 2) (eV 1))) (sCons (sRet (eV 3)) (sNil)) (sNil)) (sNil)) [2, 3]) (sCons (sRet (eC .non)) (sNil))
def φ_round_of : Phi := phi m_round_of 4 2
set_option maxHeartbeats 4000000 in
theorem ok_round_of {P : Program} {w : World} {K : PySem.W.Frag} {mg : Str → Option Value} {base : Heap} {ca : Nat → Addr} {f : Addr} {fd : FuncData} (Z : Blt mg) (F : FunA K "round_of" "round_of" s_round_of f fd) : FnOk P w K mg base CX0 (0 + 1) f fd ["road", "name"] (spOf K ca φ_round_of) :=
  fn_ok F sc_round_of rfl rfl rfl (fun cdv A outer s H E hr => (svs_cons (sv_for PassesOwn.never rfl (iv_seq (ev_fld (ev_var (pv 0)) rfl)) (gv_tup rfl (gvs_cons (gv_name sc_round_of.nd rfl (.inl rfl)) (gvs_cons (gv_name sc_round_of.nd rfl (.inl rfl)) gvs_nil)) (gC_le (gC_le gE_le))) (svs_cons (sv_if (tv_cmp (op_eqA hr.units) od_eq (ev_var (pv 2)) (ev_var (pv 1)) (nomark _)) (svs_cons (sv_ret (ev_var (pv 3))) svs_nil) svs_nil) svs_nil) rfl) (svs_cons (sv_ret (ev_c pe_non fun _ => .non)) svs_nil)))
abbrev s_ways_of : Stmt := topS 8
theorem sc_ways_of : FnScope ["road", "ways", "bridge", "choices", "longer", "way", "choice"] ["road"] (defScope s_ways_of) := ⟨rfl, rfl, rfl, by decide +kernel, rfl, by decide +kernel, by decide +kernel⟩
def m_ways_of : Gm → Option Out := sCons (sSet 1 (eA oLst (aC (eA oTup (aN)) (aN)))) (sCons (sFor (iSeq (eA (callR φ_bridges_of []) (aC (eV 0) (aN)))) (gN 2) (sCons (sSet 3 (eA oLst (aC (eC (.bl true)) (aN)))) (sCons (sIf (bE (e2 oIsN (eA (callR φ_round_of []) (aC (eV 0) (aC (e1 (oFld "name") (eV 2)) (aN)))) (eC .non))) (sCons (sSet 3 (eA oLst (aC (eC (.bl true)) (aC (eC (.bl false)) (aN))))) (sNil)) (sNil)) (sCons (sSet 4 (eA oLst (aN))) (sCons (sFor (iSeq (eV 1)) (gN 5) (sCons (sExt 4 (eLc (iSeq (eV 3)) (gN 6) (bY) (e2 oAdd (eV 5) (eA oTup (aC (eV 6) (aN)))) [6])) (sNil)) [5, 4]) (sCons (sMv 1 4) (sNil)))))) [2, 3, 3, 4, 5, 4, 4, 1]) (sCons (sRet (eV 1)) (sNil)))
def φ_ways_of : Phi := phi m_ways_of 7 1
set_option maxHeartbeats 4000000 in
theorem ok_ways_of {P : Program} {w : World} {K : PySem.W.Frag} {mg : Str → Option Value} {base : Heap} {ca : Nat → Addr} {f : Addr} {fd : FuncData} (Z : Blt mg) (C_bridges_of : Callee P w K mg base ca 2 "bridges_of" φ_bridges_of []) (C_round_of : Callee P w K mg base ca 1 "round_of" φ_round_of []) (F : FunA K "ways_of" "ways_of" s_ways_of f fd) : FnOk P w K mg base CX0 (2 + 1) f fd ["road"] (spOf K ca φ_ways_of) :=
  fn_ok F sc_ways_of rfl rfl rfl (fun cdv A outer s H E hr => (svs_cons (sv_set (i := 1) sc_ways_of.nd rfl (.inl rfl) (ev_lst (av_cons (ev_tup av_nil) av_nil))) (svs_cons (sv_for PassesOwn.never rfl (iv_seq (ev_fn C_bridges_of (hr.mono (by decide)) rfl (av_cons (ev_var (pv 0)) av_nil))) (gv_name sc_ways_of.nd rfl (.inl rfl)) (svs_cons (sv_set (i := 3) sc_ways_of.nd rfl (.inl rfl) (ev_lst (av_cons (ev_c pe_bl fun _ => .bl _) av_nil))) (svs_cons (sv_if (tv_cmp op_notN od_isn (ev_fn C_round_of (hr.mono (by decide)) rfl (av_cons (ev_var (pv 0)) (av_cons (ev_fld (ev_var (pv 2)) rfl) av_nil))) (ev_c pe_non fun _ => .non) (nomark _)) (svs_cons (sv_set (i := 3) sc_ways_of.nd rfl (.inl rfl) (ev_lst (av_cons (ev_c pe_bl fun _ => .bl _) (av_cons (ev_c pe_bl fun _ => .bl _) av_nil)))) svs_nil) svs_nil) (svs_cons (sv_set (i := 4) sc_ways_of.nd rfl (.inl rfl) (ev_lst av_nil)) (svs_cons (sv_for PassesOwn.never rfl (iv_seq (ev_var (pv 1))) (gv_name sc_ways_of.nd rfl (.inr rfl)) (svs_cons (sv_ext (i := 4) sc_ways_of.nd rfl (.inl rfl) (ev_lc rfl sc_ways_of.nd (iv_seq (ev_var (pv 3))) (blk_by (own := [("choice", 6)]) (N := ["road", "ways", "bridge", "choices", "longer", "way", "choice"]) (sc := defScope s_ways_of) rfl rfl (by decide +kernel)) rfl (fun _ _ _ _ _ => (gv_name sc_ways_of.nd rfl (.inl rfl))) (fun _ _ _ _ _ => cv_nil) (fun _ _ _ _ _ => (ev_op op_addA od_add (ev_var (pv 5)) (ev_tup (av_cons (ev_var (pv 6)) av_nil)))) (by decide) gN_ln)) svs_nil) rfl) (svs_cons (sv_mv (i := 1) (j := 4) sc_ways_of.nd rfl (.inl rfl) (pv 4)) svs_nil))))) rfl) (svs_cons (sv_ret (ev_var (pv 1))) svs_nil))))
abbrev s_step_along : Stmt := topS 9
theorem sc_step_along : FnScope ["road", "piece", "over"] ["road", "piece", "over"] (defScope s_step_along) := ⟨rfl, rfl, rfl, by decide +kernel, rfl, by decide +kernel, by decide +kernel⟩
def m_step_along : Gm → Option Out := sCons (sIf (bE (eV 2)) (sCons (sRet (e1 (oFld "length") (eV 1))) (sNil)) (sNil)) (sCons (sRet (eA (callR φ_round_of []) (aC (eV 0) (aC (e1 (oFld "name") (eV 1)) (aN))))) (sNil))
def φ_step_along : Phi := phi m_step_along 3 3
set_option maxHeartbeats 4000000 in
theorem ok_step_along {P : Program} {w : World} {K : PySem.W.Frag} {mg : Str → Option Value} {base : Heap} {ca : Nat → Addr} {f : Addr} {fd : FuncData} (Z : Blt mg) (C_round_of : Callee P w K mg base ca 1 "round_of" φ_round_of []) (F : FunA K "step_along" "step_along" s_step_along f fd) : FnOk P w K mg base CX0 (1 + 1) f fd ["road", "piece", "over"] (spOf K ca φ_step_along) :=
  fn_ok F sc_step_along rfl rfl rfl (fun cdv A outer s H E hr => (svs_cons (sv_if (tv_val (ev_var (pv 2))) (svs_cons (sv_ret (ev_fld (ev_var (pv 1)) rfl)) svs_nil) svs_nil) (svs_cons (sv_ret (ev_fn C_round_of (hr.mono (by decide)) rfl (av_cons (ev_var (pv 0)) (av_cons (ev_fld (ev_var (pv 1)) rfl) av_nil)))) svs_nil)))
abbrev s_walked : Stmt := topS 10
theorem sc_walked : FnScope ["road", "way", "legs", "place", "left", "piece", "over"] ["road", "way"] (defScope s_walked) := ⟨rfl, rfl, rfl, by decide +kernel, rfl, by decide +kernel, by decide +kernel⟩
def m_walked : Gm → Option Out := sCons (sSet 2 (eA oLst (aN))) (sCons (sSet 3 (eC (.int 0))) (sCons (sSet 4 (eA cList (aC (eV 1) (aN)))) (sCons (sFor (iSeq (e1 (oFld "pieces") (eV 0))) (gN 5) (sCons (sSet 6 (eC (.bl true))) (sCons (sIf (bE (e1 cIsB (eV 5))) (sCons (sPopS 6 4 (eC (.int 0))) (sCons (sIf (bE (eV 6)) (sCons (sApp 2 (eA oTup (aC (eV 5) (aC (eV 3) (aN))))) (sNil)) (sNil)) (sNil))) (sNil)) (sCons (sAug 3 oIAdd (eA (callR φ_step_along []) (aC (eV 0) (aC (eV 5) (aC (eV 6) (aN)))))) (sNil)))) [5, 6, 4, 6, 2, 3]) (sNil))))
def k_walked : Gm → Option (List D × Int) := kW 2 3
def φ_walked : List D → Option (List D × Int) := phiW m_walked k_walked 7 2
set_option maxHeartbeats 4000000 in
theorem ok_walked {P : Program} {w : World} {K : PySem.W.Frag} {mg : Str → Option Value} {base : Heap} {ca : Nat → Addr} {f : Addr} {fd : FuncData} (Z : Blt mg) (C_step_along : Callee P w K mg base ca 2 "step_along" φ_step_along []) (M_0 : MCallee P w K mg base ca 1 0 "is_bridge" φ_Piece_is_bridge) (M_1 : MCallee P w K mg base ca 1 1 "is_bridge" φ_Bridge_is_bridge) (F : FunA K "walked" "walked" s_walked f fd) : FnOk P w K mg base CX0 (2 + 1) f fd ["road", "way"] (spW K ca φ_walked) :=
  fn_okW F sc_walked rfl rfl rfl (fun cdv A outer s H E hr => (svw_cons (sv_set (i := 2) sc_walked.nd rfl (.inl rfl) (ev_lst av_nil)) (svw_cons (sv_set (i := 3) sc_walked.nd rfl (.inl rfl) (ev_c pe_int fun _ => .int _)) (svw_cons (sv_set (i := 4) sc_walked.nd rfl (.inl rfl) (ev_callT call_list_of cd_list rfl Z.z_list b_list (av_cons (ev_var (pv 1)) av_nil))) (svw_cons (sv_for PassesOwn.never rfl (iv_seq (ev_fld (ev_var (pv 0)) rfl)) (gv_name sc_walked.nd rfl (.inl rfl)) (svs_cons (sv_set (i := 6) sc_walked.nd rfl (.inl rfl) (ev_c pe_bl fun _ => .bl _)) (svs_cons (sv_if (tv_val (ev_isb (fun _ => rfl) (fun _ => rfl) M_0 M_1 (hr.mono (by decide)) (ev_var (pv 5)))) (svs_cons (sv_popS (i := 4) (j := 6) sc_walked.nd rfl (.inl rfl) (pv 4) (ev_c pe_int fun _ => .int _) rfl (pe_bm PySem.F.plainAttrs_list PySem.F.slot_list_pop PySem.F.type_list_pop mt_popAt (pv 4) (pa_cons (ev_c pe_int fun _ => .int _) pa_nil))) (svs_cons (sv_if (tv_val (ev_var (pv 6))) (svs_cons (sv_app (i := 2) (pv 2) (ev_tup (av_cons (ev_var (pv 5)) (av_cons (ev_var (pv 3)) av_nil))) rfl (pe_bm PySem.F.plainAttrs_list PySem.F.slot_list_append PySem.F.type_list_append mt_append (pv 2) (pa_cons (ev_tup (av_cons (ev_var (pv 5)) (av_cons (ev_var (pv 3)) av_nil))) pa_nil))) svs_nil) svs_nil) svs_nil)) svs_nil) (svs_cons (sv_aug (i := 3) sc_walked.nd rfl (.inl rfl) (ev_fn C_step_along (hr.mono (by decide)) rfl (av_cons (ev_var (pv 0)) (av_cons (ev_var (pv 5)) (av_cons (ev_var (pv 6)) av_nil)))) ip_addA od_iadd) svs_nil))) rfl) (svw_ret (i := 2) (j := 3) (pv 2) (pv 3)))))))
abbrev s_legs_of : Stmt := topS 11
theorem sc_legs_of : FnScope ["road", "way"] ["road", "way"] (defScope s_legs_of) := ⟨rfl, rfl, rfl, by decide +kernel, rfl, by decide +kernel, by decide +kernel⟩
def m_legs_of : Gm → Option Out := sCons (sRet (eW0 φ_walked (aC (eV 0) (aC (eV 1) (aN))))) (sNil)
def φ_legs_of : Phi := phi m_legs_of 2 2
set_option maxHeartbeats 4000000 in
theorem ok_legs_of {P : Program} {w : World} {K : PySem.W.Frag} {mg : Str → Option Value} {base : Heap} {ca : Nat → Addr} {f : Addr} {fd : FuncData} (Z : Blt mg) (C_walked : CalleeW P w K mg base ca 3 "walked" φ_walked) (F : FunA K "legs_of" "legs_of" s_legs_of f fd) : FnOk P w K mg base CX0 (3 + 1) f fd ["road", "way"] (spOf K ca φ_legs_of) :=
  fn_ok F sc_legs_of rfl rfl rfl (fun cdv A outer s H E hr => (svs_cons (sv_ret (ev_w0 C_walked (hr.mono (by decide)) rfl (av_cons (ev_var (pv 0)) (av_cons (ev_var (pv 1)) av_nil)))) svs_nil))
abbrev s_length_of : Stmt := topS 12
theorem sc_length_of : FnScope ["road", "way"] ["road", "way"] (defScope s_length_of) := ⟨rfl, rfl, rfl, by decide +kernel, rfl, by decide +kernel, by decide +kernel⟩
def m_length_of : Gm → Option Out := sCons (sRet (eW1 φ_walked (aC (eV 0) (aC (eV 1) (aN))))) (sNil)
def φ_length_of : Phi := phi m_length_of 2 2
set_option maxHeartbeats 4000000 in
theorem ok_length_of {P : Program} {w : World} {K : PySem.W.Frag} {mg : Str → Option Value} {base : Heap} {ca : Nat → Addr} {f : Addr} {fd : FuncData} (Z : Blt mg) (C_walked : CalleeW P w K mg base ca 3 "walked" φ_walked) (F : FunA K "length_of" "length_of" s_length_of f fd) : FnOk P w K mg base CX0 (3 + 1) f fd ["road", "way"] (spOf K ca φ_length_of) :=
  fn_ok F sc_length_of rfl rfl rfl (fun cdv A outer s H E hr => (svs_cons (sv_ret (ev_w1 C_walked (hr.mono (by decide)) rfl (av_cons (ev_var (pv 0)) (av_cons (ev_var (pv 1)) av_nil)))) svs_nil))
abbrev s__law_cell : Stmt := topS 14
theorem sc__law_cell : FnScope ["_law_script", "_law_k"] ["_law_script", "_law_k"] (defScope s__law_cell) := ⟨rfl, rfl, rfl, by decide +kernel, rfl, by decide +kernel, by decide +kernel⟩
def m__law_cell : Gm → Option Out := sCons (sIf (bE (e2 oLt (eV 1) (eA cLen (aC (eV 0) (aN))))) (sCons (sRet (e2 oIx (eV 0) (eV 1))) (sNil)) (sNil)) (sCons (sRet (eC (.int 0))) (sNil))
def φ__law_cell : Phi := phi m__law_cell 2 2
set_option maxHeartbeats 4000000 in
theorem ok__law_cell {P : Program} {w : World} {K : PySem.W.Frag} {mg : Str → Option Value} {base : Heap} {ca : Nat → Addr} {f : Addr} {fd : FuncData} (Z : Blt mg) (F : FunA K "_law_cell" "_law_cell" s__law_cell f fd) : FnOk P w K mg base CX0 (0 + 1) f fd ["_law_script", "_law_k"] (spOf K ca φ__law_cell) :=
  fn_ok F sc__law_cell rfl rfl rfl (fun cdv A outer s H E hr => (svs_cons (sv_if (tv_cmp op_lt od_cmp (ev_var (pv 1)) (ev_callB call_lenA cd_len rfl Z.z_len b_len (av_cons (ev_var (pv 0)) av_nil)) (nomark _)) (svs_cons (sv_ret (ev_ix ix_seq od_ix (ev_var (pv 0)) (ev_var (pv 1)) (fun _ _ => rfl))) svs_nil) svs_nil) (svs_cons (sv_ret (ev_c pe_int fun _ => .int _)) svs_nil)))
abbrev s__law_mix : Stmt := topS 15
theorem sc__law_mix : FnScope ["_law_cell_here", "_law_one", "_law_prime", "_law_drawn"] ["_law_cell_here", "_law_one", "_law_prime"] (defScope s__law_mix) := ⟨rfl, rfl, rfl, by decide +kernel, rfl, by decide +kernel, by decide +kernel⟩
def m__law_mix : Gm → Option Out := sCons (sSet 3 (e2 oMod (e2 oMulA (e2 oAdd (e2 oAdd (e2 oAdd (e2 oMod (eV 0) (eV 2)) (eC (.int 12345))) (e2 oMulA (e2 oMulA (eC (.int 31)) (eV 1)) (eV 1))) (eV 1)) (eC (.int 48271))) (eV 2))) (sCons (sRet (e2 oDiv (e2 oMod (e2 oMulA (eV 3) (eV 3)) (eC (.int 998244353))) (eC (.int 3)))) (sNil))
def φ__law_mix : Phi := phi m__law_mix 4 3
set_option maxHeartbeats 4000000 in
theorem ok__law_mix {P : Program} {w : World} {K : PySem.W.Frag} {mg : Str → Option Value} {base : Heap} {ca : Nat → Addr} {f : Addr} {fd : FuncData} (Z : Blt mg) (F : FunA K "_law_mix" "_law_mix" s__law_mix f fd) : FnOk P w K mg base CX0 (0 + 1) f fd ["_law_cell_here", "_law_one", "_law_prime"] (spOf K ca φ__law_mix) :=
  fn_ok F sc__law_mix rfl rfl rfl (fun cdv A outer s H E hr => (svs_cons (sv_set (i := 3) sc__law_mix.nd rfl (.inl rfl) (ev_op op_modN od_mod (ev_op op_mulA od_mul (ev_op op_addA od_add (ev_op op_addA od_add (ev_op op_addA od_add (ev_op op_modN od_mod (ev_var (pv 0)) (ev_var (pv 2))) (ev_c pe_int fun _ => .int _)) (ev_op op_mulA od_mul (ev_op op_mulA od_mul (ev_c pe_int fun _ => .int _) (ev_var (pv 1))) (ev_var (pv 1)))) (ev_var (pv 1))) (ev_c pe_int fun _ => .int _)) (ev_var (pv 2)))) (svs_cons (sv_ret (ev_op op_fdivB od_div (ev_op op_modN od_mod (ev_op op_mulA od_mul (ev_var (pv 3)) (ev_var (pv 3))) (ev_c pe_int fun _ => .int _)) (ev_c pe_int fun _ => .int _))) svs_nil)))
abbrev s__law_names : Stmt := topS 16
theorem sc__law_names : FnScope ["_law_cell_here", "_law_letters", "_law_drawn", "_law_size", "_law_at", "_law_fill", "_law_found", "_law_k", "_law_sign"] ["_law_cell_here"] (defScope s__law_names) := ⟨rfl, rfl, rfl, by decide +kernel, rfl, by decide +kernel, by decide +kernel⟩
def m__law_names : Gm → Option Out := sCons (sSet 1 (eC (.str "abcdefghijklmnopqrstuvwxyz"))) (sCons (sSet 2 (eA (callR φ__law_mix []) (aC (eV 0) (aC (eC (.int 30)) (aC (eC (.int 1000003)) (aN)))))) (sCons (sSet 3 (e2 oAdd (eC (.int 1)) (e2 oMod (eV 2) (eC (.int 12))))) (sCons (sSet 4 (e2 oMod (e2 oDiv (eV 2) (eC (.int 12))) (eV 3))) (sCons (sSet 5 (e2 oIx (eV 1) (e2 oMod (e2 oDiv (eV 2) (eC (.int 150))) (eC (.int 26))))) (sCons (sIf (bE (e2 oEq (e2 oMod (e2 oDiv (eV 2) (eC (.int 4000))) (eC (.int 3))) (eC (.int 0)))) (sCons (sRet (eLc (iA rg1R (aC (eC (.int 8)) (aN))) (gN 7) (bY) (e2 oMulA (eV 5) (e2 oAdd (e2 oAdd (eV 7) (eC (.int 1))) (e2 oMod (eV 2) (eC (.int 5))))) [7])) (sNil)) (sNil)) (sCons (sSet 6 (eA oLst (aN))) (sCons (sFor (iA rg1R (aC (eC (.int 8)) (aN))) (gN 7) (sCons (sSet 8 (e2 oIx (eV 1) (e2 oMod (e2 oAdd (e2 oDiv (eV 2) (eC (.int 12000))) (e2 oMulA (eC (.int 3)) (eV 7))) (eC (.int 26))))) (sCons (sApp 6 (e2 oAdd (e2 oAdd (e2 oMulA (eV 5) (eV 4)) (eV 8)) (e2 oMulA (eV 5) (e2 oSub (e2 oSub (eV 3) (eC (.int 1))) (eV 4))))) (sNil))) [7, 8, 6]) (sCons (sRet (eV 6)) (sNil)))))))))
def φ__law_names : Phi := phi m__law_names 9 1
set_option maxHeartbeats 4000000 in
theorem ok__law_names {P : Program} {w : World} {K : PySem.W.Frag} {mg : Str → Option Value} {base : Heap} {ca : Nat → Addr} {f : Addr} {fd : FuncData} (Z : Blt mg) (C__law_mix : Callee P w K mg base ca 1 "_law_mix" φ__law_mix []) (F : FunA K "_law_names" "_law_names" s__law_names f fd) : FnOk P w K mg base CX0 (1 + 1) f fd ["_law_cell_here"] (spOf K ca φ__law_names) :=
  fn_ok F sc__law_names rfl rfl rfl (fun cdv A outer s H E hr => (svs_cons (sv_set (i := 1) sc__law_names.nd rfl (.inl rfl) (ev_c pe_str fun _ => .str _)) (svs_cons (sv_set (i := 2) sc__law_names.nd rfl (.inr rfl) (ev_fn C__law_mix (hr.mono (by decide)) rfl (av_cons (ev_var (pv 0)) (av_cons (ev_c pe_int fun _ => .int _) (av_cons (ev_c pe_int fun _ => .int _) av_nil))))) (svs_cons (sv_set (i := 3) sc__law_names.nd rfl (.inl rfl) (ev_op op_addA od_add (ev_c pe_int fun _ => .int _) (ev_op op_modN od_mod (ev_var (pv 2)) (ev_c pe_int fun _ => .int _)))) (svs_cons (sv_set (i := 4) sc__law_names.nd rfl (.inl rfl) (ev_op op_modN od_mod (ev_op op_fdivB od_div (ev_var (pv 2)) (ev_c pe_int fun _ => .int _)) (ev_var (pv 3)))) (svs_cons (sv_set (i := 5) sc__law_names.nd rfl (.inr rfl) (ev_ix ix_seq od_ix (ev_var (pv 1)) (ev_op op_modN od_mod (ev_op op_fdivB od_div (ev_var (pv 2)) (ev_c pe_int fun _ => .int _)) (ev_c pe_int fun _ => .int _)) (fun _ _ => rfl))) (svs_cons (sv_if (tv_cmp (op_eqA hr.units) od_eq (ev_op op_modN od_mod (ev_op op_fdivB od_div (ev_var (pv 2)) (ev_c pe_int fun _ => .int _)) (ev_c pe_int fun _ => .int _)) (ev_c pe_int fun _ => .int _) (nomark _)) (svs_cons (sv_ret (ev_lc rfl sc__law_names.nd (iv_rg1 rfl Z.z_range (av_cons (ev_c pe_int fun _ => .int _) av_nil)) (blk_by (own := [("_law_k", 7)]) (N := ["_law_cell_here", "_law_letters", "_law_drawn", "_law_size", "_law_at", "_law_fill", "_law_found", "_law_k", "_law_sign"]) (sc := defScope s__law_names) rfl rfl (by decide +kernel)) rfl (fun _ _ _ _ _ => (gv_name sc__law_names.nd rfl (.inl rfl))) (fun _ _ _ _ _ => cv_nil) (fun _ _ _ _ _ => (ev_op op_mulA od_mul (ev_var (pv 5)) (ev_op op_addA od_add (ev_op op_addA od_add (ev_var (pv 7)) (ev_c pe_int fun _ => .int _)) (ev_op op_modN od_mod (ev_var (pv 2)) (ev_c pe_int fun _ => .int _))))) (by decide) gN_ln)) svs_nil) svs_nil) (svs_cons (sv_set (i := 6) sc__law_names.nd rfl (.inl rfl) (ev_lst av_nil)) (svs_cons (sv_for PassesOwn.never rfl (iv_rg1 rfl Z.z_range (av_cons (ev_c pe_int fun _ => .int _) av_nil)) (gv_name sc__law_names.nd rfl (.inl rfl)) (svs_cons (sv_set (i := 8) sc__law_names.nd rfl (.inl rfl) (ev_ix ix_seq od_ix (ev_var (pv 1)) (ev_op op_modN od_mod (ev_op op_addA od_add (ev_op op_fdivB od_div (ev_var (pv 2)) (ev_c pe_int fun _ => .int _)) (ev_op op_mulA od_mul (ev_c pe_int fun _ => .int _) (ev_var (pv 7)))) (ev_c pe_int fun _ => .int _)) (fun _ _ => rfl))) (svs_cons (sv_app (i := 6) (pv 6) (ev_op op_addA od_add (ev_op op_addA od_add (ev_op op_mulA od_mul (ev_var (pv 5)) (ev_var (pv 4))) (ev_var (pv 8))) (ev_op op_mulA od_mul (ev_var (pv 5)) (ev_op op_sub od_sub (ev_op op_sub od_sub (ev_var (pv 3)) (ev_c pe_int fun _ => .int _)) (ev_var (pv 4))))) rfl (pe_bm PySem.F.plainAttrs_list PySem.F.slot_list_append PySem.F.type_list_append mt_append (pv 6) (pa_cons (ev_op op_addA od_add (ev_op op_addA od_add (ev_op op_mulA od_mul (ev_var (pv 5)) (ev_var (pv 4))) (ev_var (pv 8))) (ev_op op_mulA od_mul (ev_var (pv 5)) (ev_op op_sub od_sub (ev_op op_sub od_sub (ev_var (pv 3)) (ev_c pe_int fun _ => .int _)) (ev_var (pv 4))))) pa_nil))) svs_nil)) rfl) (svs_cons (sv_ret (ev_var (pv 6))) svs_nil))))))))))
abbrev s__law_long : Stmt := topS 17
theorem sc__law_long : FnScope ["_law_cell_here", "_law_one", "_law_least", "_law_drawn"] ["_law_cell_here", "_law_one", "_law_least"] (defScope s__law_long) := ⟨rfl, rfl, rfl, by decide +kernel, rfl, by decide +kernel, by decide +kernel⟩
def m__law_long : Gm → Option Out := sCons (sSet 3 (eA (callR φ__law_mix []) (aC (eV 0) (aC (eV 1) (aC (eC (.int 1000033)) (aN)))))) (sCons (sRet (e2 oIx (eA oLst (aC (eV 2) (aC (eC (.int 1000)) (aC (e2 oAdd (eV 2) (e2 oMod (e2 oDiv (eV 3) (eC (.int 5))) (eC (.int 30)))) (aC (e2 oAdd (eV 2) (e2 oMod (e2 oDiv (eV 3) (eC (.int 5))) (e2 oSub (eC (.int 1001)) (eV 2)))) (aC (e2 oAdd (eV 2) (eC (.int 1))) (aN))))))) (e2 oMod (eV 3) (eC (.int 5))))) (sNil))
def φ__law_long : Phi := phi m__law_long 4 3
set_option maxHeartbeats 4000000 in
theorem ok__law_long {P : Program} {w : World} {K : PySem.W.Frag} {mg : Str → Option Value} {base : Heap} {ca : Nat → Addr} {f : Addr} {fd : FuncData} (Z : Blt mg) (C__law_mix : Callee P w K mg base ca 1 "_law_mix" φ__law_mix []) (F : FunA K "_law_long" "_law_long" s__law_long f fd) : FnOk P w K mg base CX0 (1 + 1) f fd ["_law_cell_here", "_law_one", "_law_least"] (spOf K ca φ__law_long) :=
  fn_ok F sc__law_long rfl rfl rfl (fun cdv A outer s H E hr => (svs_cons (sv_set (i := 3) sc__law_long.nd rfl (.inl rfl) (ev_fn C__law_mix (hr.mono (by decide)) rfl (av_cons (ev_var (pv 0)) (av_cons (ev_var (pv 1)) (av_cons (ev_c pe_int fun _ => .int _) av_nil))))) (svs_cons (sv_ret (ev_ix ix_seq od_ix (ev_lst (av_cons (ev_var (pv 2)) (av_cons (ev_c pe_int fun _ => .int _) (av_cons (ev_op op_addA od_add (ev_var (pv 2)) (ev_op op_modN od_mod (ev_op op_fdivB od_div (ev_var (pv 3)) (ev_c pe_int fun _ => .int _)) (ev_c pe_int fun _ => .int _))) (av_cons (ev_op op_addA od_add (ev_var (pv 2)) (ev_op op_modN od_mod (ev_op op_fdivB od_div (ev_var (pv 3)) (ev_c pe_int fun _ => .int _)) (ev_op op_sub od_sub (ev_c pe_int fun _ => .int _) (ev_var (pv 2))))) (av_cons (ev_op op_addA od_add (ev_var (pv 2)) (ev_c pe_int fun _ => .int _)) av_nil)))))) (ev_op op_modN od_mod (ev_var (pv 3)) (ev_c pe_int fun _ => .int _)) (fun _ _ => rfl))) svs_nil)))
abbrev s__law_bridge : Stmt := topS 18
theorem sc__law_bridge : FnScope ["_law_cell_here", "_law_name", "_law_drawn", "_law_bears", "_law_most", "_law_wide"] ["_law_cell_here", "_law_name"] (defScope s__law_bridge) := ⟨rfl, rfl, rfl, by decide +kernel, rfl, by decide +kernel, by decide +kernel⟩
def m__law_bridge : Gm → Option Out := sCons (sSet 2 (eA (callR φ__law_mix []) (aC (eV 0) (aC (eC (.int 40)) (aC (eC (.int 1000037)) (aN)))))) (sCons (sSet 3 (e2 oIx (eA oLst (aC (eC (.int 1)) (aC (e2 oPow (eC (.int 10)) (eC (.int 7))) (aC (e2 oAdd (eC (.int 1)) (e2 oMod (e2 oDiv (eV 2) (eC (.int 3))) (eC (.int 1000)))) (aC (e2 oAdd (eC (.int 1)) (e2 oMod (eV 0) (e2 oPow (eC (.int 10)) (eC (.int 7))))) (aN)))))) (e2 oMod (eV 2) (eC (.int 4))))) (sCons (sSet 4 (e2 oIx (eA oLst (aC (e2 oAdd (eC (.int 1)) (e2 oMod (e2 oDiv (eV 0) (eC (.int 3))) (e2 oPow (eC (.int 10)) (eC (.int 7))))) (aC (e2 oPow (eC (.int 10)) (eC (.int 7))) (aC (eC (.int 1)) (aC (e2 oAdd (eC (.int 1)) (e2 oMod (e2 oDiv (eV 2) (eC (.int 7))) (eC (.int 1000)))) (aN)))))) (e2 oMod (e2 oDiv (eV 2) (eC (.int 4))) (eC (.int 4))))) (sCons (sSet 5 (e2 oIx (eA oLst (aC (eC (.int 1)) (aC (eC (.int 200)) (aC (e2 oAdd (eC (.int 1)) (e2 oMod (e2 oDiv (eV 2) (eC (.int 16))) (eC (.int 200)))) (aC (e2 oAdd (eC (.int 1)) (e2 oMod (e2 oDiv (eV 2) (eC (.int 16))) (eC (.int 30)))) (aN)))))) (e2 oMod (e2 oDiv (eV 2) (eC (.int 1000))) (eC (.int 4))))) (sCons (sRet (eA oTup (aC (eC (.str "bridge")) (aC (eV 1) (aC (eA (callR φ__law_long []) (aC (eV 0) (aC (eC (.int 41)) (aC (eC (.int 1)) (aN))))) (aC (eV 3) (aC (eV 5) (aC (eV 4) (aN))))))))) (sNil)))))
def φ__law_bridge : Phi := phi m__law_bridge 6 2
set_option maxHeartbeats 4000000 in
theorem ok__law_bridge {P : Program} {w : World} {K : PySem.W.Frag} {mg : Str → Option Value} {base : Heap} {ca : Nat → Addr} {f : Addr} {fd : FuncData} (Z : Blt mg) (C__law_mix : Callee P w K mg base ca 1 "_law_mix" φ__law_mix []) (C__law_long : Callee P w K mg base ca 2 "_law_long" φ__law_long []) (F : FunA K "_law_bridge" "_law_bridge" s__law_bridge f fd) : FnOk P w K mg base CX0 (2 + 1) f fd ["_law_cell_here", "_law_name"] (spOf K ca φ__law_bridge) :=
  fn_ok F sc__law_bridge rfl rfl rfl (fun cdv A outer s H E hr => (svs_cons (sv_set (i := 2) sc__law_bridge.nd rfl (.inl rfl) (ev_fn C__law_mix (hr.mono (by decide)) rfl (av_cons (ev_var (pv 0)) (av_cons (ev_c pe_int fun _ => .int _) (av_cons (ev_c pe_int fun _ => .int _) av_nil))))) (svs_cons (sv_set (i := 3) sc__law_bridge.nd rfl (.inl rfl) (ev_ix ix_seq od_ix (ev_lst (av_cons (ev_c pe_int fun _ => .int _) (av_cons (ev_op op_pow od_pow (ev_c pe_int fun _ => .int _) (ev_c pe_int fun _ => .int _)) (av_cons (ev_op op_addA od_add (ev_c pe_int fun _ => .int _) (ev_op op_modN od_mod (ev_op op_fdivB od_div (ev_var (pv 2)) (ev_c pe_int fun _ => .int _)) (ev_c pe_int fun _ => .int _))) (av_cons (ev_op op_addA od_add (ev_c pe_int fun _ => .int _) (ev_op op_modN od_mod (ev_var (pv 0)) (ev_op op_pow od_pow (ev_c pe_int fun _ => .int _) (ev_c pe_int fun _ => .int _)))) av_nil))))) (ev_op op_modN od_mod (ev_var (pv 2)) (ev_c pe_int fun _ => .int _)) (fun _ _ => rfl))) (svs_cons (sv_set (i := 4) sc__law_bridge.nd rfl (.inl rfl) (ev_ix ix_seq od_ix (ev_lst (av_cons (ev_op op_addA od_add (ev_c pe_int fun _ => .int _) (ev_op op_modN od_mod (ev_op op_fdivB od_div (ev_var (pv 0)) (ev_c pe_int fun _ => .int _)) (ev_op op_pow od_pow (ev_c pe_int fun _ => .int _) (ev_c pe_int fun _ => .int _)))) (av_cons (ev_op op_pow od_pow (ev_c pe_int fun _ => .int _) (ev_c pe_int fun _ => .int _)) (av_cons (ev_c pe_int fun _ => .int _) (av_cons (ev_op op_addA od_add (ev_c pe_int fun _ => .int _) (ev_op op_modN od_mod (ev_op op_fdivB od_div (ev_var (pv 2)) (ev_c pe_int fun _ => .int _)) (ev_c pe_int fun _ => .int _))) av_nil))))) (ev_op op_modN od_mod (ev_op op_fdivB od_div (ev_var (pv 2)) (ev_c pe_int fun _ => .int _)) (ev_c pe_int fun _ => .int _)) (fun _ _ => rfl))) (svs_cons (sv_set (i := 5) sc__law_bridge.nd rfl (.inl rfl) (ev_ix ix_seq od_ix (ev_lst (av_cons (ev_c pe_int fun _ => .int _) (av_cons (ev_c pe_int fun _ => .int _) (av_cons (ev_op op_addA od_add (ev_c pe_int fun _ => .int _) (ev_op op_modN od_mod (ev_op op_fdivB od_div (ev_var (pv 2)) (ev_c pe_int fun _ => .int _)) (ev_c pe_int fun _ => .int _))) (av_cons (ev_op op_addA od_add (ev_c pe_int fun _ => .int _) (ev_op op_modN od_mod (ev_op op_fdivB od_div (ev_var (pv 2)) (ev_c pe_int fun _ => .int _)) (ev_c pe_int fun _ => .int _))) av_nil))))) (ev_op op_modN od_mod (ev_op op_fdivB od_div (ev_var (pv 2)) (ev_c pe_int fun _ => .int _)) (ev_c pe_int fun _ => .int _)) (fun _ _ => rfl))) (svs_cons (sv_ret (ev_tup (av_cons (ev_c pe_str fun _ => .str _) (av_cons (ev_var (pv 1)) (av_cons (ev_fn C__law_long (hr.mono (by decide)) rfl (av_cons (ev_var (pv 0)) (av_cons (ev_c pe_int fun _ => .int _) (av_cons (ev_c pe_int fun _ => .int _) av_nil)))) (av_cons (ev_var (pv 3)) (av_cons (ev_var (pv 5)) (av_cons (ev_var (pv 4)) av_nil)))))))) svs_nil))))))
abbrev s__law_parts : Stmt := topS 19
theorem sc__law_parts : FnScope ["_law_script", "_law_cell_here", "_law_names_here", "_law_many", "_law_pieces_here", "_law_rounds", "_law_k", "_law_shuts", "_law_own", "_law_one", "_law_drawn", "_law_begin", "_law_end"] ["_law_script"] (defScope s__law_parts) := ⟨rfl, rfl, rfl, by decide +kernel, rfl, by decide +kernel, by decide +kernel⟩
def m__law_parts : Gm → Option Out := sCons (sSet 1 (eA (callR φ__law_cell []) (aC (eV 0) (aC (eC (.int 0)) (aN))))) (sCons (sSet 2 (eA (callR φ__law_names []) (aC (eV 1) (aN)))) (sCons (sSet 3 (e2 oAdd (eC (.int 1)) (e2 oMod (eA (callR φ__law_mix []) (aC (eV 1) (aC (eC (.int 31)) (aC (eC (.int 1000039)) (aN))))) (eC (.int 6))))) (sCons (sSet 4 (eA oLst (aC (eA oTup (aC (eC (.str "open")) (aC (eA (callR φ__law_long []) (aC (eV 1) (aC (eC (.int 42)) (aC (eC (.int 200)) (aN))))) (aN)))) (aN)))) (sCons (sSet 5 (eA oLst (aN))) (sCons (sFor (iA rg1R (aC (eV 3) (aN))) (gN 6) (sCons (sSet 8 (e2 oAdd (eA (callR φ__law_cell []) (aC (eV 0) (aC (e2 oAdd (eC (.int 1)) (eV 6)) (aN)))) (e2 oMulA (eC (.int 65537)) (eV 6)))) (sCons (sApp 4 (eA (callR φ__law_bridge []) (aC (eV 8) (aC (e2 oIx (eV 2) (eV 6)) (aN))))) (sCons (sApp 4 (eA oTup (aC (eC (.str "open")) (aC (eA (callR φ__law_long []) (aC (eV 8) (aC (eC (.int 43)) (aC (eC (.int 200)) (aN))))) (aN))))) (sCons (sIf (bE (e2 oEq (e2 oMod (eA (callR φ__law_mix []) (aC (eV 8) (aC (eC (.int 44)) (aC (eC (.int 1000081)) (aN))))) (eC (.int 2))) (eC (.int 0)))) (sCons (sApp 5 (eA oTup (aC (e2 oIx (eV 2) (eV 6)) (aC (eA (callR φ__law_long []) (aC (eV 8) (aC (eC (.int 45)) (aC (eC (.int 1)) (aN))))) (aN))))) (sNil)) (sNil)) (sNil))))) [6, 8, 4, 4, 5]) (sCons (sIf (bE (e2 oEq (e2 oMod (eA (callR φ__law_mix []) (aC (eV 1) (aC (eC (.int 46)) (aC (eC (.int 1000003)) (aN))))) (eC (.int 2))) (eC (.int 1)))) (sCons (sRev 5) (sNil)) (sNil)) (sCons (sSet 7 (eA oLst (aN))) (sCons (sFor (iA enR (aC (e2 oAdd (eA oLst (aC (eV 1) (aN))) (eSl (eV 0) (pS (eC (.int 7))) (pS (eC (.int 13))))) (aN))) (gT (gC (gN 6) (gC (gN 9) (gE)))) (sCons (sSet 10 (eA (callR φ__law_mix []) (aC (eV 9) (aC (e2 oAdd (eC (.int 47)) (eV 6)) (aC (eC (.int 1000033)) (aN)))))) (sCons (sSet 11 (e2 oIx (eA oLst (aC (eC (.int 0)) (aC (e2 oMod (e2 oDiv (eV 10) (eC (.int 12))) (eC (.int 10000))) (aC (eC (.int 9999)) (aN))))) (e2 oMod (eV 10) (eC (.int 3))))) (sCons (sSet 12 (e2 oIx (eA oLst (aC (e2 oAdd (eV 11) (eC (.int 1))) (aC (eC (.int 10000)) (aC (e2 oAdd (e2 oAdd (eV 11) (eC (.int 1))) (e2 oMod (e2 oDiv (eV 10) (eC (.int 40))) (e2 oSub (eC (.int 10000)) (eV 11)))) (aN))))) (e2 oMod (e2 oDiv (eV 10) (eC (.int 3))) (eC (.int 3))))) (sCons (sIf (bE (e2 oGt (e2 oMod (e2 oDiv (eV 10) (eC (.int 9))) (eC (.int 3))) (eC (.int 0)))) (sCons (sApp 7 (eA oTup (aC (e2 oIx (eV 2) (e2 oMod (e2 oDiv (eV 10) (eC (.int 27))) (eV 3))) (aC (eV 11) (aC (eV 12) (aN)))))) (sNil)) (sNil)) (sNil))))) [6, 9, 10, 11, 12, 7]) (sCons (sFz 7 (sFz 5 (sFz 4 (sFz 2 (sRet (eA oTup (aC (eV 2) (aC (eV 4) (aC (eV 5) (aC (eV 7) (aN))))))))))) (sNil))))))))))
def φ__law_parts : Phi := phi m__law_parts 13 1
set_option maxHeartbeats 4000000 in
theorem ok__law_parts {P : Program} {w : World} {K : PySem.W.Frag} {mg : Str → Option Value} {base : Heap} {ca : Nat → Addr} {f : Addr} {fd : FuncData} (Z : Blt mg) (C__law_cell : Callee P w K mg base ca 1 "_law_cell" φ__law_cell []) (C__law_names : Callee P w K mg base ca 2 "_law_names" φ__law_names []) (C__law_mix : Callee P w K mg base ca 1 "_law_mix" φ__law_mix []) (C__law_long : Callee P w K mg base ca 2 "_law_long" φ__law_long []) (C__law_bridge : Callee P w K mg base ca 3 "_law_bridge" φ__law_bridge []) (F : FunA K "_law_parts" "_law_parts" s__law_parts f fd) : FnOk P w K mg base CX0 (3 + 1) f fd ["_law_script"] (spOf K ca φ__law_parts) :=
  fn_ok F sc__law_parts rfl rfl rfl (fun cdv A outer s H E hr => (svs_cons (sv_set (i := 1) sc__law_parts.nd rfl (.inl rfl) (ev_fn C__law_cell (hr.mono (by decide)) rfl (av_cons (ev_var (pv 0)) (av_cons (ev_c pe_int fun _ => .int _) av_nil)))) (svs_cons (sv_set (i := 2) sc__law_parts.nd rfl (.inl rfl) (ev_fn C__law_names (hr.mono (by decide)) rfl (av_cons (ev_var (pv 1)) av_nil))) (svs_cons (sv_set (i := 3) sc__law_parts.nd rfl (.inl rfl) (ev_op op_addA od_add (ev_c pe_int fun _ => .int _) (ev_op op_modN od_mod (ev_fn C__law_mix (hr.mono (by decide)) rfl (av_cons (ev_var (pv 1)) (av_cons (ev_c pe_int fun _ => .int _) (av_cons (ev_c pe_int fun _ => .int _) av_nil)))) (ev_c pe_int fun _ => .int _)))) (svs_cons (sv_set (i := 4) sc__law_parts.nd rfl (.inl rfl) (ev_lst (av_cons (ev_tup (av_cons (ev_c pe_str fun _ => .str _) (av_cons (ev_fn C__law_long (hr.mono (by decide)) rfl (av_cons (ev_var (pv 1)) (av_cons (ev_c pe_int fun _ => .int _) (av_cons (ev_c pe_int fun _ => .int _) av_nil)))) av_nil))) av_nil))) (svs_cons (sv_set (i := 5) sc__law_parts.nd rfl (.inl rfl) (ev_lst av_nil)) (svs_cons (sv_for PassesOwn.never rfl (iv_rg1 rfl Z.z_range (av_cons (ev_var (pv 3)) av_nil)) (gv_name sc__law_parts.nd rfl (.inl rfl)) (svs_cons (sv_set (i := 8) sc__law_parts.nd rfl (.inl rfl) (ev_op op_addA od_add (ev_fn C__law_cell (hr.mono (by decide)) rfl (av_cons (ev_var (pv 0)) (av_cons (ev_op op_addA od_add (ev_c pe_int fun _ => .int _) (ev_var (pv 6))) av_nil))) (ev_op op_mulA od_mul (ev_c pe_int fun _ => .int _) (ev_var (pv 6))))) (svs_cons (sv_app (i := 4) (pv 4) (ev_fn C__law_bridge (hr.mono (by decide)) rfl (av_cons (ev_var (pv 8)) (av_cons (ev_ix ix_seq od_ix (ev_var (pv 2)) (ev_var (pv 6)) (fun _ _ => rfl)) av_nil))) rfl (pe_bm PySem.F.plainAttrs_list PySem.F.slot_list_append PySem.F.type_list_append mt_append (pv 4) (pa_cons (ev_fn C__law_bridge (hr.mono (by decide)) rfl (av_cons (ev_var (pv 8)) (av_cons (ev_ix ix_seq od_ix (ev_var (pv 2)) (ev_var (pv 6)) (fun _ _ => rfl)) av_nil))) pa_nil))) (svs_cons (sv_app (i := 4) (pv 4) (ev_tup (av_cons (ev_c pe_str fun _ => .str _) (av_cons (ev_fn C__law_long (hr.mono (by decide)) rfl (av_cons (ev_var (pv 8)) (av_cons (ev_c pe_int fun _ => .int _) (av_cons (ev_c pe_int fun _ => .int _) av_nil)))) av_nil))) rfl (pe_bm PySem.F.plainAttrs_list PySem.F.slot_list_append PySem.F.type_list_append mt_append (pv 4) (pa_cons (ev_tup (av_cons (ev_c pe_str fun _ => .str _) (av_cons (ev_fn C__law_long (hr.mono (by decide)) rfl (av_cons (ev_var (pv 8)) (av_cons (ev_c pe_int fun _ => .int _) (av_cons (ev_c pe_int fun _ => .int _) av_nil)))) av_nil))) pa_nil))) (svs_cons (sv_if (tv_cmp (op_eqA hr.units) od_eq (ev_op op_modN od_mod (ev_fn C__law_mix (hr.mono (by decide)) rfl (av_cons (ev_var (pv 8)) (av_cons (ev_c pe_int fun _ => .int _) (av_cons (ev_c pe_int fun _ => .int _) av_nil)))) (ev_c pe_int fun _ => .int _)) (ev_c pe_int fun _ => .int _) (nomark _)) (svs_cons (sv_app (i := 5) (pv 5) (ev_tup (av_cons (ev_ix ix_seq od_ix (ev_var (pv 2)) (ev_var (pv 6)) (fun _ _ => rfl)) (av_cons (ev_fn C__law_long (hr.mono (by decide)) rfl (av_cons (ev_var (pv 8)) (av_cons (ev_c pe_int fun _ => .int _) (av_cons (ev_c pe_int fun _ => .int _) av_nil)))) av_nil))) rfl (pe_bm PySem.F.plainAttrs_list PySem.F.slot_list_append PySem.F.type_list_append mt_append (pv 5) (pa_cons (ev_tup (av_cons (ev_ix ix_seq od_ix (ev_var (pv 2)) (ev_var (pv 6)) (fun _ _ => rfl)) (av_cons (ev_fn C__law_long (hr.mono (by decide)) rfl (av_cons (ev_var (pv 8)) (av_cons (ev_c pe_int fun _ => .int _) (av_cons (ev_c pe_int fun _ => .int _) av_nil)))) av_nil))) pa_nil))) svs_nil) svs_nil) svs_nil)))) rfl) (svs_cons (sv_if (tv_cmp (op_eqA hr.units) od_eq (ev_op op_modN od_mod (ev_fn C__law_mix (hr.mono (by decide)) rfl (av_cons (ev_var (pv 1)) (av_cons (ev_c pe_int fun _ => .int _) (av_cons (ev_c pe_int fun _ => .int _) av_nil)))) (ev_c pe_int fun _ => .int _)) (ev_c pe_int fun _ => .int _) (nomark _)) (svs_cons (sv_rev (i := 5) (pv 5) (pe_bm0 PySem.F.plainAttrs_list PySem.F.slot_list_reverse PySem.F.type_list_reverse mt_reverse (pv 5))) svs_nil) svs_nil) (svs_cons (sv_set (i := 7) sc__law_parts.nd rfl (.inl rfl) (ev_lst av_nil)) (svs_cons (sv_for PassesOwn.never rfl (iv_enum rfl Z.z_enumerate (av_cons (ev_op op_addA od_add (ev_lst (av_cons (ev_var (pv 1)) av_nil)) (ev_slice (ev_var (pv 0)) (ov_some (ev_c pe_int fun _ => .int _)) (ov_some (ev_c pe_int fun _ => .int _)))) av_nil)) (gv_tup rfl (gvs_cons (gv_name sc__law_parts.nd rfl (.inl rfl)) (gvs_cons (gv_name sc__law_parts.nd rfl (.inl rfl)) gvs_nil)) (gC_le (gC_le gE_le))) (svs_cons (sv_set (i := 10) sc__law_parts.nd rfl (.inl rfl) (ev_fn C__law_mix (hr.mono (by decide)) rfl (av_cons (ev_var (pv 9)) (av_cons (ev_op op_addA od_add (ev_c pe_int fun _ => .int _) (ev_var (pv 6))) (av_cons (ev_c pe_int fun _ => .int _) av_nil))))) (svs_cons (sv_set (i := 11) sc__law_parts.nd rfl (.inl rfl) (ev_ix ix_seq od_ix (ev_lst (av_cons (ev_c pe_int fun _ => .int _) (av_cons (ev_op op_modN od_mod (ev_op op_fdivB od_div (ev_var (pv 10)) (ev_c pe_int fun _ => .int _)) (ev_c pe_int fun _ => .int _)) (av_cons (ev_c pe_int fun _ => .int _) av_nil)))) (ev_op op_modN od_mod (ev_var (pv 10)) (ev_c pe_int fun _ => .int _)) (fun _ _ => rfl))) (svs_cons (sv_set (i := 12) sc__law_parts.nd rfl (.inl rfl) (ev_ix ix_seq od_ix (ev_lst (av_cons (ev_op op_addA od_add (ev_var (pv 11)) (ev_c pe_int fun _ => .int _)) (av_cons (ev_c pe_int fun _ => .int _) (av_cons (ev_op op_addA od_add (ev_op op_addA od_add (ev_var (pv 11)) (ev_c pe_int fun _ => .int _)) (ev_op op_modN od_mod (ev_op op_fdivB od_div (ev_var (pv 10)) (ev_c pe_int fun _ => .int _)) (ev_op op_sub od_sub (ev_c pe_int fun _ => .int _) (ev_var (pv 11))))) av_nil)))) (ev_op op_modN od_mod (ev_op op_fdivB od_div (ev_var (pv 10)) (ev_c pe_int fun _ => .int _)) (ev_c pe_int fun _ => .int _)) (fun _ _ => rfl))) (svs_cons (sv_if (tv_cmp op_gt od_cmp (ev_op op_modN od_mod (ev_op op_fdivB od_div (ev_var (pv 10)) (ev_c pe_int fun _ => .int _)) (ev_c pe_int fun _ => .int _)) (ev_c pe_int fun _ => .int _) (nomark _)) (svs_cons (sv_app (i := 7) (pv 7) (ev_tup (av_cons (ev_ix ix_seq od_ix (ev_var (pv 2)) (ev_op op_modN od_mod (ev_op op_fdivB od_div (ev_var (pv 10)) (ev_c pe_int fun _ => .int _)) (ev_var (pv 3))) (fun _ _ => rfl)) (av_cons (ev_var (pv 11)) (av_cons (ev_var (pv 12)) av_nil)))) rfl (pe_bm PySem.F.plainAttrs_list PySem.F.slot_list_append PySem.F.type_list_append mt_append (pv 7) (pa_cons (ev_tup (av_cons (ev_ix ix_seq od_ix (ev_var (pv 2)) (ev_op op_modN od_mod (ev_op op_fdivB od_div (ev_var (pv 10)) (ev_c pe_int fun _ => .int _)) (ev_var (pv 3))) (fun _ _ => rfl)) (av_cons (ev_var (pv 11)) (av_cons (ev_var (pv 12)) av_nil)))) pa_nil))) svs_nil) svs_nil) svs_nil)))) rfl) (svs_cons (sv_fz (i := 7) (sv_fz (i := 5) (sv_fz (i := 4) (sv_fz (i := 2) (sv_ret (ev_tup (av_cons (ev_var (pv 2)) (av_cons (ev_var (pv 4)) (av_cons (ev_var (pv 5)) (av_cons (ev_var (pv 7)) av_nil)))))))))) svs_nil)))))))))))
abbrev s__law_pieces : Stmt := topS 20
theorem sc__law_pieces : FnScope ["_law_pieces_here", "_law_found", "_law_piece"] ["_law_pieces_here"] (defScope s__law_pieces) := ⟨rfl, rfl, rfl, by decide +kernel, rfl, by decide +kernel, by decide +kernel⟩
def m__law_pieces : Gm → Option Out := sCons (sSet 1 (eA oLst (aN))) (sCons (sFor (iSeq (eV 0)) (gN 2) (sCons (sIf (bE (e2 oEq (e2 oIx (eV 2) (eC (.int 0))) (eC (.str "open")))) (sCons (sApp 1 (eA (cMkN 0 1 ini_Open) (aC (e2 oIx (eV 2) (eC (.int 1))) (aN)))) (sNil)) (sCons (sApp 1 (eA (cMkN 1 5 ini_Bridge) (aC (e2 oIx (eV 2) (eC (.int 1))) (aC (e2 oIx (eV 2) (eC (.int 2))) (aC (e2 oIx (eV 2) (eC (.int 3))) (aC (e2 oIx (eV 2) (eC (.int 4))) (aC (e2 oIx (eV 2) (eC (.int 5))) (aN)))))))) (sNil))) (sNil)) [2, 1, 1]) (sCons (sRet (eV 1)) (sNil)))
def φ__law_pieces : Phi := phi m__law_pieces 3 1
set_option maxHeartbeats 4000000 in
theorem ok__law_pieces {P : Program} {w : World} {K : PySem.W.Frag} {mg : Str → Option Value} {base : Heap} {ca : Nat → Addr} {f : Addr} {fd : FuncData} (Z : Blt mg) (W_Bridge : Maker P w K mg base ca 2 1 5 "Bridge" ini_Bridge) (W_Open : Maker P w K mg base ca 1 0 1 "Open" ini_Open) (F : FunA K "_law_pieces" "_law_pieces" s__law_pieces f fd) : FnOk P w K mg base CX0 (3 + 1) f fd ["_law_pieces_here"] (spOf K ca φ__law_pieces) :=
  fn_ok F sc__law_pieces rfl rfl rfl (fun cdv A outer s H E hr => (svs_cons (sv_set (i := 1) sc__law_pieces.nd rfl (.inl rfl) (ev_lst av_nil)) (svs_cons (sv_for PassesOwn.never rfl (iv_seq (ev_var (pv 0))) (gv_name sc__law_pieces.nd rfl (.inl rfl)) (svs_cons (sv_if (tv_cmp (op_eqA hr.units) od_eq (ev_ix ix_seq od_ix (ev_var (pv 2)) (ev_c pe_int fun _ => .int _) (fun _ _ => rfl)) (ev_c pe_str fun _ => .str _) (nomark _)) (svs_cons (sv_app (i := 1) (pv 1) (ev_make W_Open (hr.mono (by decide)) rfl (av_cons (ev_ix ix_seq od_ix (ev_var (pv 2)) (ev_c pe_int fun _ => .int _) (fun _ _ => rfl)) av_nil)) rfl (pe_bm PySem.F.plainAttrs_list PySem.F.slot_list_append PySem.F.type_list_append mt_append (pv 1) (pa_cons (ev_make W_Open (hr.mono (by decide)) rfl (av_cons (ev_ix ix_seq od_ix (ev_var (pv 2)) (ev_c pe_int fun _ => .int _) (fun _ _ => rfl)) av_nil)) pa_nil))) svs_nil) (svs_cons (sv_app (i := 1) (pv 1) (ev_make W_Bridge (hr.mono (by decide)) rfl (av_cons (ev_ix ix_seq od_ix (ev_var (pv 2)) (ev_c pe_int fun _ => .int _) (fun _ _ => rfl)) (av_cons (ev_ix ix_seq od_ix (ev_var (pv 2)) (ev_c pe_int fun _ => .int _) (fun _ _ => rfl)) (av_cons (ev_ix ix_seq od_ix (ev_var (pv 2)) (ev_c pe_int fun _ => .int _) (fun _ _ => rfl)) (av_cons (ev_ix ix_seq od_ix (ev_var (pv 2)) (ev_c pe_int fun _ => .int _) (fun _ _ => rfl)) (av_cons (ev_ix ix_seq od_ix (ev_var (pv 2)) (ev_c pe_int fun _ => .int _) (fun _ _ => rfl)) av_nil)))))) rfl (pe_bm PySem.F.plainAttrs_list PySem.F.slot_list_append PySem.F.type_list_append mt_append (pv 1) (pa_cons (ev_make W_Bridge (hr.mono (by decide)) rfl (av_cons (ev_ix ix_seq od_ix (ev_var (pv 2)) (ev_c pe_int fun _ => .int _) (fun _ _ => rfl)) (av_cons (ev_ix ix_seq od_ix (ev_var (pv 2)) (ev_c pe_int fun _ => .int _) (fun _ _ => rfl)) (av_cons (ev_ix ix_seq od_ix (ev_var (pv 2)) (ev_c pe_int fun _ => .int _) (fun _ _ => rfl)) (av_cons (ev_ix ix_seq od_ix (ev_var (pv 2)) (ev_c pe_int fun _ => .int _) (fun _ _ => rfl)) (av_cons (ev_ix ix_seq od_ix (ev_var (pv 2)) (ev_c pe_int fun _ => .int _) (fun _ _ => rfl)) av_nil)))))) pa_nil))) svs_nil)) svs_nil) rfl) (svs_cons (sv_ret (ev_var (pv 1))) svs_nil))))
abbrev s__law_alike : Stmt := topS 21
theorem sc__law_alike : FnScope ["_law_found", "_law_due_here", "_law_one", "_law_other"] ["_law_found", "_law_due_here"] (defScope s__law_alike) := ⟨rfl, rfl, rfl, by decide +kernel, rfl, by decide +kernel, by decide +kernel⟩
abbrev s__law_same : Stmt := topS 22
theorem sc__law_same : FnScope ["_law_found", "_law_due_here"] ["_law_found", "_law_due_here"] (defScope s__law_same) := ⟨rfl, rfl, rfl, by decide +kernel, rfl, by decide +kernel, by decide +kernel⟩
def mo__law_same (φ__law_alike : Phi) : Gm → Option Out := sCons (sIf (bE (e2 oIs (eV 1) (eC .non))) (sCons (sRet (e2 oIs (eV 0) (eC .non))) (sNil)) (sNil)) (sCons (sIf (bE (eIs2 .list .tuple (eV 1))) (sCons (sRet (eAnd (eIs2 .list .tuple (eV 0)) (eA (callR φ__law_alike []) (aC (eV 0) (aC (eV 1) (aN)))))) (sNil)) (sNil)) (sCons (sIf (bE (eIs .str (eV 1))) (sCons (sRet (eAnd (eIs .str (eV 0)) (e2 oEq (eV 0) (eV 1)))) (sNil)) (sNil)) (sCons (sRet (eAnd (eIs .int (eV 0)) (eAnd (e2 oEq (eIs .bool (eV 0)) (eIs .bool (eV 1))) (e2 oEq (eV 0) (eV 1))))) (sNil))))
def φo__law_same (φ__law_alike : Phi) : Phi := phi (mo__law_same φ__law_alike) 2 2
set_option maxHeartbeats 4000000 in
theorem okp__law_same {lv : Nat} {φ__law_alike : Phi} (hlv : 0 ≤ lv) {P : Program} {w : World} {K : PySem.W.Frag} {mg : Str → Option Value} {base : Heap} {ca : Nat → Addr} {f : Addr} {fd : FuncData} (Z : Blt mg) (C__law_alike : Callee P w K mg base ca lv "_law_alike" φ__law_alike []) (F : FunA K "_law_same" "_law_same" s__law_same f fd) : FnOk P w K mg base CX0 (lv + 1) f fd ["_law_found", "_law_due_here"] (spOf K ca (φo__law_same φ__law_alike)) :=
  fn_ok F sc__law_same rfl rfl rfl (fun cdv A outer s H E hr => (svs_cons (sv_if (tv_cmp op_isP od_is (ev_var (pv 1)) (ev_c pe_non fun _ => .non) (nomark _)) (svs_cons (sv_ret (ev_cmp op_isP od_is (ev_var (pv 0)) (ev_c pe_non fun _ => .non) (nomark _))) svs_nil) svs_nil) (svs_cons (sv_if (tv_val (ev_isi2 (T := .list) (U := .tuple) rfl Z.z_isinstance b_isinstance (ev_var (pv 1)) (pe_ty rfl Z.z_list b_list) (pe_ty rfl Z.z_tuple b_tuple))) (svs_cons (sv_ret (ev_and (ev_isi2 (T := .list) (U := .tuple) rfl Z.z_isinstance b_isinstance (ev_var (pv 0)) (pe_ty rfl Z.z_list b_list) (pe_ty rfl Z.z_tuple b_tuple)) (ev_one (ev_fn C__law_alike (hr.mono (by omega)) rfl (av_cons (ev_var (pv 0)) (av_cons (ev_var (pv 1)) av_nil)))))) svs_nil) svs_nil) (svs_cons (sv_if (tv_val (ev_isi (T := .str) rfl Z.z_isinstance b_isinstance (ev_var (pv 1)) (pe_ty rfl Z.z_str b_str))) (svs_cons (sv_ret (ev_and (ev_isi (T := .str) rfl Z.z_isinstance b_isinstance (ev_var (pv 0)) (pe_ty rfl Z.z_str b_str)) (ev_one (ev_cmp (op_eqA hr.units) od_eq (ev_var (pv 0)) (ev_var (pv 1)) (nomark _))))) svs_nil) svs_nil) (svs_cons (sv_ret (ev_and (ev_isi (T := .int) rfl Z.z_isinstance b_isinstance (ev_var (pv 0)) (pe_ty rfl Z.z_int b_int)) (ev_and (ev_cmp (op_eqA hr.units) od_eq (ev_isi (T := .bool) rfl Z.z_isinstance b_isinstance (ev_var (pv 0)) (pe_ty rfl Z.z_bool b_bool)) (ev_isi (T := .bool) rfl Z.z_isinstance b_isinstance (ev_var (pv 1)) (pe_ty rfl Z.z_bool b_bool)) (nomark _)) (ev_one (ev_cmp (op_eqA hr.units) od_eq (ev_var (pv 0)) (ev_var (pv 1)) (nomark _)))))) svs_nil)))))
def mr__law_alike (φ__law_alike : Phi) : Gm → Option Out := sCons (sIf (bAnd (bE (eIs .list (eV 1))) (bNot (bE (eIs .list (eV 0))))) (sCons (sRet (eC (.bl false))) (sNil)) (sNil)) (sCons (sIf (bAnd (bE (eIs .tuple (eV 1))) (bNot (bE (eIs .tuple (eV 0))))) (sCons (sRet (eC (.bl false))) (sNil)) (sNil)) (sCons (sIf (bE (e2 oNe (eA cLen (aC (eV 0) (aN))) (eA cLen (aC (eV 1) (aN))))) (sCons (sRet (eC (.bl false))) (sNil)) (sNil)) (sCons (sRet (eA cAll (aC (eLc (iA zpR (aC (eV 0) (aC (eV 1) (aN)))) (gT (gC (gN 2) (gC (gN 3) (gE)))) (bY) (eA (callR (φo__law_same φ__law_alike) []) (aC (eV 2) (aC (eV 3) (aN)))) [2, 3]) (aN)))) (sNil))))
def φr__law_alike : Nat → Phi
  | 0 => fun _ => none
  | n + 1 => phi (mr__law_alike (φr__law_alike n)) 4 2
set_option maxHeartbeats 4000000 in
theorem okr__law_alike {P : Program} {w : World} {K : PySem.W.Frag} {mg : Str → Option Value} {base : Heap} {ca : Nat → Addr} {f : Addr} {fd : FuncData} (Z : Blt mg) (F : FunA K "_law_alike" "_law_alike" s__law_alike f fd) (hm : mg "_law_alike" = some (.ref f)) (hb : Binds K fd ["_law_found", "_law_due_here"] []) {fo : Addr} {fdo : FuncData} (Fo : FunA K "_law_same" "_law_same" s__law_same fo fdo) (hmo : mg "_law_same" = some (.ref fo)) (hbo : Binds K fdo ["_law_found", "_law_due_here"] []) : ∀ n : Nat, FnOk P w K mg base CX0 (0 + 2 * n + 2) f fd ["_law_found", "_law_due_here"] (spOf K ca (φr__law_alike n))
  | 0 => fn_none
  | n + 1 => by
    have C__law_alike : Callee P w K mg base ca (0 + 2 * n + 2) "_law_alike" (φr__law_alike n) [] := fn_callee F (okr__law_alike Z F hm hb Fo hmo hbo n) hm hb .nil fun _ => .nil
    have G__law_same : FnOk P w K mg base CX0 (0 + 2 * n + 2 + 1) fo fdo _ (spOf K ca (φo__law_same (φr__law_alike n))) := okp__law_same (by omega) Z C__law_alike Fo
    have C__law_same : Callee P w K mg base ca (0 + 2 * n + 2 + 1) "_law_same" (φo__law_same (φr__law_alike n)) [] := fn_callee Fo G__law_same hmo hbo .nil fun _ => .nil
    exact fn_ok (k := 0 + 2 * n + 3) F sc__law_alike rfl rfl rfl (fun cdv A outer s H E hr => (svs_cons (sv_if (tv_w (wv_and (tv_val (ev_isi (T := .list) rfl Z.z_isinstance b_isinstance (ev_var (pv 1)) (pe_ty rfl Z.z_list b_list))) (wv_one (tv_not (tv_val (ev_isi (T := .list) rfl Z.z_isinstance b_isinstance (ev_var (pv 0)) (pe_ty rfl Z.z_list b_list))))))) (svs_cons (sv_ret (ev_c pe_bl fun _ => .bl _)) svs_nil) svs_nil) (svs_cons (sv_if (tv_w (wv_and (tv_val (ev_isi (T := .tuple) rfl Z.z_isinstance b_isinstance (ev_var (pv 1)) (pe_ty rfl Z.z_tuple b_tuple))) (wv_one (tv_not (tv_val (ev_isi (T := .tuple) rfl Z.z_isinstance b_isinstance (ev_var (pv 0)) (pe_ty rfl Z.z_tuple b_tuple))))))) (svs_cons (sv_ret (ev_c pe_bl fun _ => .bl _)) svs_nil) svs_nil) (svs_cons (sv_if (tv_cmp (op_neA hr.units) od_ne (ev_callB call_lenA cd_len rfl Z.z_len b_len (av_cons (ev_var (pv 0)) av_nil)) (ev_callB call_lenA cd_len rfl Z.z_len b_len (av_cons (ev_var (pv 1)) av_nil)) (nomark _)) (svs_cons (sv_ret (ev_c pe_bl fun _ => .bl _)) svs_nil) svs_nil) (svs_cons (sv_ret (ev_callB (cr_all rfl) cd_all rfl Z.z_all b_all (av_cons (ev_lc rfl sc__law_alike.nd (iv_zip rfl Z.z_zip (av_cons (ev_var (pv 0)) (av_cons (ev_var (pv 1)) av_nil))) (blk_by (own := [("_law_one", 2), ("_law_other", 3)]) (N := ["_law_found", "_law_due_here", "_law_one", "_law_other"]) (sc := defScope s__law_alike) rfl rfl (by decide +kernel)) rfl (fun _ _ _ _ _ => (gv_tup rfl (gvs_cons (gv_name sc__law_alike.nd rfl (.inl rfl)) (gvs_cons (gv_name sc__law_alike.nd rfl (.inl rfl)) gvs_nil)) (gC_le (gC_le gE_le)))) (fun _ _ _ _ _ => cv_nil) (fun _ _ _ _ _ => (ev_fn C__law_same (hr.mono (by omega)) rfl (av_cons (ev_var (pv 2)) (av_cons (ev_var (pv 3)) av_nil)))) (by decide) (gT_ln (gC_ln gN_ln (gC_ln gN_ln gE_ln)))) av_nil))) svs_nil)))))
abbrev φ__law_alike : Phi := φr__law_alike 10
abbrev φ__law_same : Phi := φo__law_same φ__law_alike
abbrev s__law_told : Stmt := topS 23
theorem sc__law_told : FnScope ["_law_piece"] ["_law_piece"] (defScope s__law_told) := ⟨rfl, rfl, rfl, by decide +kernel, rfl, by decide +kernel, by decide +kernel⟩
def m__law_told : Gm → Option Out := sCons (sIf (bE (e1 (cIsC [0, 1, 2] 0) (eV 0))) (sCons (sRet (eA oTup (aC (eC (.str "open")) (aC (e1 (oFld "length") (eV 0)) (aN))))) (sNil)) (sNil)) (sCons (sIf (bNot (bE (e1 (cIsC [0, 1, 2] 1) (eV 0)))) (sCons (sRet (eC .non)) (sNil)) (sNil)) (sCons (sRet (eA oTup (aC (eC (.str "bridge")) (aC (e1 (oFld "name") (eV 0)) (aC (e1 (oFld "length") (eV 0)) (aC (e1 (oFld "bears") (eV 0)) (aC (e1 (oFld "wide") (eV 0)) (aC (e1 (oFld "most") (eV 0)) (aN))))))))) (sNil)))
def φ__law_told : Phi := phi m__law_told 1 1
set_option maxHeartbeats 4000000 in
theorem ok__law_told {P : Program} {w : World} {K : PySem.W.Frag} {mg : Str → Option Value} {base : Heap} {ca : Nat → Addr} {f : Addr} {fd : FuncData} (Z : Blt mg) (N_Bridge : mg "Bridge" = some (.ref (ca 1))) (I_Bridge : IsiK K ca [0, 1, 2] 1) (N_Open : mg "Open" = some (.ref (ca 0))) (I_Open : IsiK K ca [0, 1, 2] 0) (F : FunA K "_law_told" "_law_told" s__law_told f fd) : FnOk P w K mg base CX0 (0 + 1) f fd ["_law_piece"] (spOf K ca φ__law_told) :=
  fn_ok F sc__law_told rfl rfl rfl (fun cdv A outer s H E hr => (svs_cons (sv_if (tv_val (ev_isc (cs := [0, 1, 2]) rfl Z.z_isinstance b_isinstance (ev_var (pv 0)) rfl N_Open I_Open)) (svs_cons (sv_ret (ev_tup (av_cons (ev_c pe_str fun _ => .str _) (av_cons (ev_fld (ev_var (pv 0)) rfl) av_nil)))) svs_nil) svs_nil) (svs_cons (sv_if (tv_not (tv_val (ev_isc (cs := [0, 1, 2]) rfl Z.z_isinstance b_isinstance (ev_var (pv 0)) rfl N_Bridge I_Bridge))) (svs_cons (sv_ret (ev_c pe_non fun _ => .non)) svs_nil) svs_nil) (svs_cons (sv_ret (ev_tup (av_cons (ev_c pe_str fun _ => .str _) (av_cons (ev_fld (ev_var (pv 0)) rfl) (av_cons (ev_fld (ev_var (pv 0)) rfl) (av_cons (ev_fld (ev_var (pv 0)) rfl) (av_cons (ev_fld (ev_var (pv 0)) rfl) (av_cons (ev_fld (ev_var (pv 0)) rfl) av_nil)))))))) svs_nil))))
abbrev s__law_road_is : Stmt := topS 24
theorem sc__law_road_is : FnScope ["_law_road", "_law_pieces_here", "_law_rounds", "_law_shuts", "_law_piece"] ["_law_road", "_law_pieces_here", "_law_rounds", "_law_shuts"] (defScope s__law_road_is) := ⟨rfl, rfl, rfl, by decide +kernel, rfl, by decide +kernel, by decide +kernel⟩
def m__law_road_is : Gm → Option Out := sCons (sIf (bOr (bNot (bE (e1 (cIsC [0, 1, 2] 2) (eV 0)))) (bNot (bE (eIs .list (e1 (oFld "pieces") (eV 0)))))) (sCons (sRet (eC (.bl false))) (sNil)) (sNil)) (sCons (sIf (bNot (bE (eA (callR φ__law_same []) (aC (eLc (iSeq (e1 (oFld "pieces") (eV 0))) (gN 4) (bY) (eA (callR φ__law_told []) (aC (eV 4) (aN))) [4]) (aC (eV 1) (aN)))))) (sCons (sRet (eC (.bl false))) (sNil)) (sNil)) (sCons (sRet (eAnd (eA (callR φ__law_same []) (aC (e1 (oFld "rounds") (eV 0)) (aC (eV 2) (aN)))) (eA (callR φ__law_same []) (aC (e1 (oFld "shuts") (eV 0)) (aC (eV 3) (aN)))))) (sNil)))
def φ__law_road_is : Phi := phi m__law_road_is 5 4
set_option maxHeartbeats 4000000 in
theorem ok__law_road_is {P : Program} {w : World} {K : PySem.W.Frag} {mg : Str → Option Value} {base : Heap} {ca : Nat → Addr} {f : Addr} {fd : FuncData} (Z : Blt mg) (C__law_same : Callee P w K mg base ca 23 "_law_same" φ__law_same []) (C__law_told : Callee P w K mg base ca 1 "_law_told" φ__law_told []) (N_Road : mg "Road" = some (.ref (ca 2))) (I_Road : IsiK K ca [0, 1, 2] 2) (F : FunA K "_law_road_is" "_law_road_is" s__law_road_is f fd) : FnOk P w K mg base CX0 (23 + 1) f fd ["_law_road", "_law_pieces_here", "_law_rounds", "_law_shuts"] (spOf K ca φ__law_road_is) :=
  fn_ok F sc__law_road_is rfl rfl rfl (fun cdv A outer s H E hr => (svs_cons (sv_if (tv_w (wv_or (tv_not (tv_val (ev_isc (cs := [0, 1, 2]) rfl Z.z_isinstance b_isinstance (ev_var (pv 0)) rfl N_Road I_Road))) (wv_one' (tv_not (tv_val (ev_isi (T := .list) rfl Z.z_isinstance b_isinstance (ev_fld (ev_var (pv 0)) rfl) (pe_ty rfl Z.z_list b_list))))))) (svs_cons (sv_ret (ev_c pe_bl fun _ => .bl _)) svs_nil) svs_nil) (svs_cons (sv_if (tv_not (tv_val (ev_fn C__law_same (hr.mono (by decide)) rfl (av_cons (ev_lc rfl sc__law_road_is.nd (iv_seq (ev_fld (ev_var (pv 0)) rfl)) (blk_by (own := [("_law_piece", 4)]) (N := ["_law_road", "_law_pieces_here", "_law_rounds", "_law_shuts", "_law_piece"]) (sc := defScope s__law_road_is) rfl rfl (by decide +kernel)) rfl (fun _ _ _ _ _ => (gv_name sc__law_road_is.nd rfl (.inl rfl))) (fun _ _ _ _ _ => cv_nil) (fun _ _ _ _ _ => (ev_fn C__law_told (hr.mono (by decide)) rfl (av_cons (ev_var (pv 4)) av_nil))) (by decide) gN_ln) (av_cons (ev_var (pv 1)) av_nil))))) (svs_cons (sv_ret (ev_c pe_bl fun _ => .bl _)) svs_nil) svs_nil) (svs_cons (sv_ret (ev_and (ev_fn C__law_same (hr.mono (by decide)) rfl (av_cons (ev_fld (ev_var (pv 0)) rfl) (av_cons (ev_var (pv 2)) av_nil))) (ev_one (ev_fn C__law_same (hr.mono (by decide)) rfl (av_cons (ev_fld (ev_var (pv 0)) rfl) (av_cons (ev_var (pv 3)) av_nil)))))) svs_nil))))
abbrev s__law_due : Stmt := topS 25
theorem sc__law_due : FnScope ["_law_pieces_here", "_law_rounds", "_law_way", "_law_far", "_law_legs", "_law_k", "_law_piece", "_law_length", "_law_name", "_law_told_here"] ["_law_pieces_here", "_law_rounds", "_law_way"] (defScope s__law_due) := ⟨rfl, rfl, rfl, by decide +kernel, rfl, by decide +kernel, by decide +kernel⟩
def m__law_due : Gm → Option Out := sCons (sSet 3 (eA oLst (aN))) (sCons (sSet 4 (eA oLst (aN))) (sCons (sFor (iA enR (aC (eV 0) (aN))) (gT (gC (gN 5) (gC (gN 6) (gE)))) (sCons (sSet 7 (e2 oIx (eV 6) (e1 uNeg (eC (.int 1))))) (sCons (sIf (bE (e2 oEq (e2 oIx (eV 6) (eC (.int 0))) (eC (.str "bridge")))) (sCons (sSet 7 (e2 oIx (eV 6) (eC (.int 2)))) (sCons (sIf (bE (e2 oIx (eV 2) (e2 oDiv (eV 5) (eC (.int 2))))) (sCons (sApp 4 (eA oTup (aC (eV 6) (aC (eA cSum (aC (eV 3) (aN))) (aN))))) (sNil)) (sCons (sSet 7 (e2 oIx (eLc (iSeq (eV 1)) (gT (gC (gN 8) (gC (gN 9) (gE)))) (bE (e2 oEq (eV 8) (e2 oIx (eV 6) (eC (.int 1))))) (eV 9) [8, 9]) (eC (.int 0)))) (sNil))) (sNil))) (sNil)) (sCons (sApp 3 (eV 7)) (sNil)))) [5, 6, 7, 7, 4, 7, 3]) (sCons (sFz 4 (sRet (eA oTup (aC (eV 4) (aC (eA cSum (aC (eV 3) (aN))) (aN)))))) (sNil))))
def φ__law_due : Phi := phi m__law_due 10 3
set_option maxHeartbeats 4000000 in
theorem ok__law_due {P : Program} {w : World} {K : PySem.W.Frag} {mg : Str → Option Value} {base : Heap} {ca : Nat → Addr} {f : Addr} {fd : FuncData} (Z : Blt mg) (F : FunA K "_law_due" "_law_due" s__law_due f fd) : FnOk P w K mg base CX0 (0 + 1) f fd ["_law_pieces_here", "_law_rounds", "_law_way"] (spOf K ca φ__law_due) :=
  fn_ok F sc__law_due rfl rfl rfl (fun cdv A outer s H E hr => (svs_cons (sv_set (i := 3) sc__law_due.nd rfl (.inl rfl) (ev_lst av_nil)) (svs_cons (sv_set (i := 4) sc__law_due.nd rfl (.inl rfl) (ev_lst av_nil)) (svs_cons (sv_for PassesOwn.never rfl (iv_enum rfl Z.z_enumerate (av_cons (ev_var (pv 0)) av_nil)) (gv_tup rfl (gvs_cons (gv_name sc__law_due.nd rfl (.inl rfl)) (gvs_cons (gv_name sc__law_due.nd rfl (.inr rfl)) gvs_nil)) (gC_le (gC_le gE_le))) (svs_cons (sv_set (i := 7) sc__law_due.nd rfl (.inl rfl) (ev_ix ix_seq od_ix (ev_var (pv 6)) (ev_un un_neg ud_neg (ev_c pe_int fun _ => .int _)) (fun _ _ => rfl))) (svs_cons (sv_if (tv_cmp (op_eqA hr.units) od_eq (ev_ix ix_seq od_ix (ev_var (pv 6)) (ev_c pe_int fun _ => .int _) (fun _ _ => rfl)) (ev_c pe_str fun _ => .str _) (nomark _)) (svs_cons (sv_set (i := 7) sc__law_due.nd rfl (.inl rfl) (ev_ix ix_seq od_ix (ev_var (pv 6)) (ev_c pe_int fun _ => .int _) (fun _ _ => rfl))) (svs_cons (sv_if (tv_val (ev_ix ix_seq od_ix (ev_var (pv 2)) (ev_op op_fdivB od_div (ev_var (pv 5)) (ev_c pe_int fun _ => .int _)) (fun _ _ => rfl))) (svs_cons (sv_app (i := 4) (pv 4) (ev_tup (av_cons (ev_var (pv 6)) (av_cons (ev_callB (cr_sum rfl) cd_sum rfl Z.z_sum b_sum (av_cons (ev_var (pv 3)) av_nil)) av_nil))) rfl (pe_bm PySem.F.plainAttrs_list PySem.F.slot_list_append PySem.F.type_list_append mt_append (pv 4) (pa_cons (ev_tup (av_cons (ev_var (pv 6)) (av_cons (ev_callB (cr_sum rfl) cd_sum rfl Z.z_sum b_sum (av_cons (ev_var (pv 3)) av_nil)) av_nil))) pa_nil))) svs_nil) (svs_cons (sv_set (i := 7) sc__law_due.nd rfl (.inl rfl) (ev_ix ix_seq od_ix (ev_lc rfl sc__law_due.nd (iv_seq (ev_var (pv 1))) (blk_by (own := [("_law_name", 8), ("_law_told_here", 9)]) (N := ["_law_pieces_here", "_law_rounds", "_law_way", "_law_far", "_law_legs", "_law_k", "_law_piece", "_law_length", "_law_name", "_law_told_here"]) (sc := defScope s__law_due) rfl rfl (by decide +kernel)) rfl (fun _ _ _ _ _ => (gv_tup rfl (gvs_cons (gv_name sc__law_due.nd rfl (.inl rfl)) (gvs_cons (gv_name sc__law_due.nd rfl (.inl rfl)) gvs_nil)) (gC_le (gC_le gE_le)))) (fun _ _ _ _ _ => (cv_one (tv_cmp (op_eqA hr.units) od_eq (ev_var (pv 8)) (ev_ix ix_seq od_ix (ev_var (pv 6)) (ev_c pe_int fun _ => .int _) (fun _ _ => rfl)) (nomark _)))) (fun _ _ _ _ _ => (ev_var (pv 9))) (by decide) (gT_ln (gC_ln gN_ln (gC_ln gN_ln gE_ln)))) (ev_c pe_int fun _ => .int _) (fun _ _ => rfl))) svs_nil)) svs_nil)) svs_nil) (svs_cons (sv_app (i := 3) (pv 3) (ev_var (pv 7)) rfl (pe_bm PySem.F.plainAttrs_list PySem.F.slot_list_append PySem.F.type_list_append mt_append (pv 3) (pa_cons (ev_var (pv 7)) pa_nil))) svs_nil))) rfl) (svs_cons (sv_fz (i := 4) (sv_ret (ev_tup (av_cons (ev_var (pv 4)) (av_cons (ev_callB (cr_sum rfl) cd_sum rfl Z.z_sum b_sum (av_cons (ev_var (pv 3)) av_nil)) av_nil))))) svs_nil)))))
abbrev s__law_asked : Stmt := topS 26
theorem sc__law_asked : FnScope ["_law_road", "_law_pieces_here", "_law_rounds", "_law_way", "_law_found", "_law_told_here", "_law_legs", "_law_far", "_law_bridge_here", "_law_place", "_law_pair"] ["_law_road", "_law_pieces_here", "_law_rounds", "_law_way"] (defScope s__law_asked) := ⟨rfl, rfl, rfl, by decide +kernel, rfl, by decide +kernel, by decide +kernel⟩
def m__law_asked : Gm → Option Out := sCons (sAsg (eA (callR φ__law_due []) (aC (eV 1) (aC (eV 2) (aC (eV 3) (aN))))) (gT (gC (gN 6) (gC (gN 7) (gE))))) (sCons (sSet 4 (eA (callR φ_legs_of []) (aC (eV 0) (aC (eV 3) (aN))))) (sCons (sIf (bOr (bNot (bE (eIs .list (eV 4)))) (bNot (bE (eA cAll (aC (eLc (iSeq (eV 4)) (gN 10) (bY) (eAnd (eIs .tuple (eV 10)) (e2 oEq (eA cLen (aC (eV 10) (aN))) (eC (.int 2)))) [10]) (aN)))))) (sCons (sRet (eC (.bl false))) (sNil)) (sNil)) (sCons (sSet 5 (eLc (iSeq (eV 4)) (gT (gC (gN 8) (gC (gN 9) (gE)))) (bY) (eA oTup (aC (eA (callR φ__law_told []) (aC (eV 8) (aN))) (aC (eV 9) (aN)))) [8, 9])) (sCons (sApp 4 (eC .non)) (sCons (sFz 5 (sRet (eAnd (eA (callR φ__law_same []) (aC (eV 5) (aC (eV 6) (aN)))) (eA (callR φ__law_same []) (aC (eA (callR φ_length_of []) (aC (eV 0) (aC (eV 3) (aN)))) (aC (eV 7) (aN))))))) (sNil))))))
def φ__law_asked : Phi := phi m__law_asked 11 4
set_option maxHeartbeats 4000000 in
theorem ok__law_asked {P : Program} {w : World} {K : PySem.W.Frag} {mg : Str → Option Value} {base : Heap} {ca : Nat → Addr} {f : Addr} {fd : FuncData} (Z : Blt mg) (C__law_due : Callee P w K mg base ca 1 "_law_due" φ__law_due []) (C_legs_of : Callee P w K mg base ca 4 "legs_of" φ_legs_of []) (C__law_told : Callee P w K mg base ca 1 "_law_told" φ__law_told []) (C__law_same : Callee P w K mg base ca 23 "_law_same" φ__law_same []) (C_length_of : Callee P w K mg base ca 4 "length_of" φ_length_of []) (F : FunA K "_law_asked" "_law_asked" s__law_asked f fd) : FnOk P w K mg base CX0 (23 + 1) f fd ["_law_road", "_law_pieces_here", "_law_rounds", "_law_way"] (spOf K ca φ__law_asked) :=
  fn_ok F sc__law_asked rfl rfl rfl (fun cdv A outer s H E hr => (svs_cons (sv_asg (ev_fn C__law_due (hr.mono (by decide)) rfl (av_cons (ev_var (pv 1)) (av_cons (ev_var (pv 2)) (av_cons (ev_var (pv 3)) av_nil)))) (gv_tup rfl (gvs_cons (gv_name sc__law_asked.nd rfl (.inl rfl)) (gvs_cons (gv_name sc__law_asked.nd rfl (.inl rfl)) gvs_nil)) (gC_le (gC_le gE_le)))) (svs_cons (sv_set (i := 4) sc__law_asked.nd rfl (.inl rfl) (ev_fn C_legs_of (hr.mono (by decide)) rfl (av_cons (ev_var (pv 0)) (av_cons (ev_var (pv 3)) av_nil)))) (svs_cons (sv_if (tv_w (wv_or (tv_not (tv_val (ev_isi (T := .list) rfl Z.z_isinstance b_isinstance (ev_var (pv 4)) (pe_ty rfl Z.z_list b_list)))) (wv_one' (tv_not (tv_val (ev_callB (cr_all rfl) cd_all rfl Z.z_all b_all (av_cons (ev_lc rfl sc__law_asked.nd (iv_seq (ev_var (pv 4))) (blk_by (own := [("_law_pair", 10)]) (N := ["_law_road", "_law_pieces_here", "_law_rounds", "_law_way", "_law_found", "_law_told_here", "_law_legs", "_law_far", "_law_bridge_here", "_law_place", "_law_pair"]) (sc := defScope s__law_asked) rfl rfl (by decide +kernel)) rfl (fun _ _ _ _ _ => (gv_name sc__law_asked.nd rfl (.inl rfl))) (fun _ _ _ _ _ => cv_nil) (fun _ _ _ _ _ => (ev_and (ev_isi (T := .tuple) rfl Z.z_isinstance b_isinstance (ev_var (pv 10)) (pe_ty rfl Z.z_tuple b_tuple)) (ev_one (ev_cmp (op_eqA hr.units) od_eq (ev_callB call_lenA cd_len rfl Z.z_len b_len (av_cons (ev_var (pv 10)) av_nil)) (ev_c pe_int fun _ => .int _) (nomark _))))) (by decide) gN_ln) av_nil))))))) (svs_cons (sv_ret (ev_c pe_bl fun _ => .bl _)) svs_nil) svs_nil) (svs_cons (sv_setLc (i := 5) rfl sc__law_asked.nd rfl rfl (sw_true rfl rfl rfl (by decide +kernel)) (iv_seq (ev_var (pv 4))) (blk_by (own := [("_law_bridge_here", 8), ("_law_place", 9)]) (N := ["_law_road", "_law_pieces_here", "_law_rounds", "_law_way", "_law_found", "_law_told_here", "_law_legs", "_law_far", "_law_bridge_here", "_law_place", "_law_pair"]) (sc := defScope s__law_asked) rfl rfl (by decide +kernel)) rfl (fun _ _ _ _ _ => (gv_tup rfl (gvs_cons (gv_name sc__law_asked.nd rfl (.inl rfl)) (gvs_cons (gv_name sc__law_asked.nd rfl (.inl rfl)) gvs_nil)) (gC_le (gC_le gE_le)))) (fun _ _ _ _ _ => cv_nil) (fun _ _ _ _ _ => (ev_tup (av_cons (ev_fn C__law_told (hr.mono (by decide)) rfl (av_cons (ev_var (pv 8)) av_nil)) (av_cons (ev_var (pv 9)) av_nil)))) (by decide) (gT_ln (gC_ln gN_ln (gC_ln gN_ln gE_ln)))) (svs_cons (sv_app (i := 4) (pv 4) (ev_c pe_non fun _ => .non) rfl (pe_bm PySem.F.plainAttrs_list PySem.F.slot_list_append PySem.F.type_list_append mt_append (pv 4) (pa_cons (ev_c pe_non fun _ => .non) pa_nil))) (svs_cons (sv_fz (i := 5) (sv_ret (ev_and (ev_fn C__law_same (hr.mono (by decide)) rfl (av_cons (ev_var (pv 5)) (av_cons (ev_var (pv 6)) av_nil))) (ev_one (ev_fn C__law_same (hr.mono (by decide)) rfl (av_cons (ev_fn C_length_of (hr.mono (by decide)) rfl (av_cons (ev_var (pv 0)) (av_cons (ev_var (pv 3)) av_nil))) (av_cons (ev_var (pv 7)) av_nil))))))) svs_nil)))))))
abbrev s_law : Stmt := topS 27
theorem sc_law : FnScope ["_law_script", "_law_road", "_law_ways", "_law_some", "_law_way", "_law_names_here", "_law_pieces_here", "_law_rounds", "_law_shuts", "_law_k", "_law_cell_here"] ["_law_script"] (defScope s_law) := ⟨rfl, rfl, rfl, by decide +kernel, rfl, by decide +kernel, by decide +kernel⟩
def m_law : Gm → Option Out := sCons (sAsg (eA (callR φ__law_parts []) (aC (eV 0) (aN))) (gT (gC (gN 5) (gC (gN 6) (gC (gN 7) (gC (gN 8) (gE))))))) (sCons (sSet 1 (eA (cMkN 2 3 ini_Road) (aC (eA (callR φ__law_pieces []) (aC (eV 6) (aN))) (aC (eV 7) (aC (eV 8) (aN)))))) (sCons (sSet 2 (eA (callR φ_ways_of []) (aC (eV 1) (aN)))) (sCons (sSet 3 (eA oLst (aC (e2 oIx (eV 2) (eC (.int 0))) (aC (e2 oIx (eV 2) (e1 uNeg (eC (.int 1)))) (aN))))) (sCons (sFor (iA enR (aC (e2 oAdd (eA oLst (aC (eA cLen (aC (eV 0) (aN))) (aN))) (eSl (eV 0) (pS (eC (.int 7))) (pS (eC (.int 16))))) (aN))) (gT (gC (gN 9) (gC (gN 10) (gE)))) (sCons (sApp 3 (e2 oIx (eV 2) (e2 oMod (eA (callR φ__law_mix []) (aC (eV 10) (aC (e2 oAdd (eC (.int 75)) (eV 9)) (aC (eC (.int 1000003)) (aN))))) (eA cLen (aC (eV 2) (aN)))))) (sNil)) [9, 10, 3]) (sCons (sFor (iSeq (e2 oAdd (eV 3) (eA oLst (aC (e2 oIx (eV 3) (eC (.int 0))) (aN))))) (gN 4) (sCons (sIf (bNot (bE (eA (callR φ__law_asked []) (aC (eV 1) (aC (eV 6) (aC (eV 7) (aC (eV 4) (aN)))))))) (sCons (sRet (eC (.bl false))) (sNil)) (sNil)) (sNil)) [4]) (sCons (sRet (eA (callR φ__law_road_is []) (aC (eV 1) (aC (eV 6) (aC (eV 7) (aC (eV 8) (aN))))))) (sNil)))))))
def φ_law : Phi := phi m_law 11 1
set_option maxHeartbeats 4000000 in
theorem ok_law {P : Program} {w : World} {K : PySem.W.Frag} {mg : Str → Option Value} {base : Heap} {ca : Nat → Addr} {f : Addr} {fd : FuncData} (Z : Blt mg) (C__law_parts : Callee P w K mg base ca 4 "_law_parts" φ__law_parts []) (C__law_pieces : Callee P w K mg base ca 4 "_law_pieces" φ__law_pieces []) (C_ways_of : Callee P w K mg base ca 3 "ways_of" φ_ways_of []) (C__law_mix : Callee P w K mg base ca 1 "_law_mix" φ__law_mix []) (C__law_asked : Callee P w K mg base ca 24 "_law_asked" φ__law_asked []) (C__law_road_is : Callee P w K mg base ca 24 "_law_road_is" φ__law_road_is []) (W_Road : Maker P w K mg base ca 1 2 3 "Road" ini_Road) (F : FunA K "law" "law" s_law f fd) : FnOk P w K mg base CX0 (24 + 1) f fd ["_law_script"] (spOf K ca φ_law) :=
  fn_ok F sc_law rfl rfl rfl (fun cdv A outer s H E hr => (svs_cons (sv_asg (ev_fn C__law_parts (hr.mono (by decide)) rfl (av_cons (ev_var (pv 0)) av_nil)) (gv_tup rfl (gvs_cons (gv_name sc_law.nd rfl (.inl rfl)) (gvs_cons (gv_name sc_law.nd rfl (.inl rfl)) (gvs_cons (gv_name sc_law.nd rfl (.inl rfl)) (gvs_cons (gv_name sc_law.nd rfl (.inl rfl)) gvs_nil)))) (gC_le (gC_le (gC_le (gC_le gE_le)))))) (svs_cons (sv_set (i := 1) sc_law.nd rfl (.inl rfl) (ev_make W_Road (hr.mono (by decide)) rfl (av_cons (ev_fn C__law_pieces (hr.mono (by decide)) rfl (av_cons (ev_var (pv 6)) av_nil)) (av_cons (ev_var (pv 7)) (av_cons (ev_var (pv 8)) av_nil))))) (svs_cons (sv_set (i := 2) sc_law.nd rfl (.inl rfl) (ev_fn C_ways_of (hr.mono (by decide)) rfl (av_cons (ev_var (pv 1)) av_nil))) (svs_cons (sv_set (i := 3) sc_law.nd rfl (.inl rfl) (ev_lst (av_cons (ev_ix ix_seq od_ix (ev_var (pv 2)) (ev_c pe_int fun _ => .int _) (fun _ _ => rfl)) (av_cons (ev_ix ix_seq od_ix (ev_var (pv 2)) (ev_un un_neg ud_neg (ev_c pe_int fun _ => .int _)) (fun _ _ => rfl)) av_nil)))) (svs_cons (sv_for PassesOwn.never rfl (iv_enum rfl Z.z_enumerate (av_cons (ev_op op_addA od_add (ev_lst (av_cons (ev_callB call_lenA cd_len rfl Z.z_len b_len (av_cons (ev_var (pv 0)) av_nil)) av_nil)) (ev_slice (ev_var (pv 0)) (ov_some (ev_c pe_int fun _ => .int _)) (ov_some (ev_c pe_int fun _ => .int _)))) av_nil)) (gv_tup rfl (gvs_cons (gv_name sc_law.nd rfl (.inl rfl)) (gvs_cons (gv_name sc_law.nd rfl (.inl rfl)) gvs_nil)) (gC_le (gC_le gE_le))) (svs_cons (sv_app (i := 3) (pv 3) (ev_ix ix_seq od_ix (ev_var (pv 2)) (ev_op op_modN od_mod (ev_fn C__law_mix (hr.mono (by decide)) rfl (av_cons (ev_var (pv 10)) (av_cons (ev_op op_addA od_add (ev_c pe_int fun _ => .int _) (ev_var (pv 9))) (av_cons (ev_c pe_int fun _ => .int _) av_nil)))) (ev_callB call_lenA cd_len rfl Z.z_len b_len (av_cons (ev_var (pv 2)) av_nil))) (fun _ _ => rfl)) rfl (pe_bm PySem.F.plainAttrs_list PySem.F.slot_list_append PySem.F.type_list_append mt_append (pv 3) (pa_cons (ev_ix ix_seq od_ix (ev_var (pv 2)) (ev_op op_modN od_mod (ev_fn C__law_mix (hr.mono (by decide)) rfl (av_cons (ev_var (pv 10)) (av_cons (ev_op op_addA od_add (ev_c pe_int fun _ => .int _) (ev_var (pv 9))) (av_cons (ev_c pe_int fun _ => .int _) av_nil)))) (ev_callB call_lenA cd_len rfl Z.z_len b_len (av_cons (ev_var (pv 2)) av_nil))) (fun _ _ => rfl)) pa_nil))) svs_nil) rfl) (svs_cons (sv_for PassesOwn.never rfl (iv_seq (ev_op op_addA od_add (ev_var (pv 3)) (ev_lst (av_cons (ev_ix ix_seq od_ix (ev_var (pv 3)) (ev_c pe_int fun _ => .int _) (fun _ _ => rfl)) av_nil)))) (gv_name sc_law.nd rfl (.inl rfl)) (svs_cons (sv_if (tv_not (tv_val (ev_fn C__law_asked (hr.mono (by decide)) rfl (av_cons (ev_var (pv 1)) (av_cons (ev_var (pv 6)) (av_cons (ev_var (pv 7)) (av_cons (ev_var (pv 4)) av_nil))))))) (svs_cons (sv_ret (ev_c pe_bl fun _ => .bl _)) svs_nil) svs_nil) svs_nil) rfl) (svs_cons (sv_ret (ev_fn C__law_road_is (hr.mono (by decide)) rfl (av_cons (ev_var (pv 1)) (av_cons (ev_var (pv 6)) (av_cons (ev_var (pv 7)) (av_cons (ev_var (pv 8)) av_nil)))))) svs_nil))))))))
end G
namespace G
open PySem L2 BK
set_option autoImplicit false
def brs (ps : List Pc) : List Bg := ps.filterMap pcBr
theorem brs_filter (ps : List Pc) : (ps.filter isBr).map insP = (brs ps).map insB := by
  induction ps with
  | nil => rfl
  | cons p ps ih =>
    cases p with
    | inl n => exact ih
    | inr b => exact congrArg (insB b :: ·) ih
noncomputable def sh_bridges_of (road : Rd') : Option (List Bg) := grd (road.pieces.length ≤ 16777216) (some (brs road.pieces))
theorem sim_bridges_of {road : Rd'} {r : List Bg} (e : sh_bridges_of road = some r) : φ_bridges_of [eRo road] = some (.tm (r.map insB)) := by
  unfold sh_bridges_of grd at e
  split at e
  · rename_i hl2
    cases e
    rw [← brs_filter]
    have h := compL_filter (gN 1) (bE (e1 cIsB (eV 1))) (eV 1) [.va (eRo road), .un] insP insP isBr road.pieces (by
      intro x hx rest
      cases x <;> simp [insP, isBr])
    simp [φ_bridges_of, m_bridges_of, phi_def, h, hl2]
  · cases e
noncomputable def sh_round_of (road : Rd') (name : Str) : Option (Option Int) :=
  b1 (forC (fun (e3 : (Str × Int)) (st3 : Unit) =>
      if (decide (e3.1 = name)) = true then
          some (.rt (some e3.2))
      else
        some (.nx ())) road.rounds ()) fun c => ctl c (fun u1 =>
  some none) fun r => some r
set_option maxHeartbeats 2000000 in
theorem sim_round_of {road : Rd'} {name : Str} {r : (Option Int)} (e : sh_round_of road name = some r) : φ_round_of [eRo road, D.str name] = some ((fun v => R.va ((eO D.int) v)) r) := by
  refine sim_phi (m := m_round_of) (N := 4) (n := 2) (ds := [eRo road, D.str name]) (s := sh_round_of road name) (k := (fun v => R.va ((eO D.int) v))) rfl ?_ e
  show J m_round_of nxt [.va (eRo road), .va (D.str name), .un, .un] (sh_round_of road name) (PF (fun v => R.va ((eO D.int) v)))
  unfold m_round_of sh_round_of
  refine j_forC (eP2 D.str D.int) (fun (st : Unit) (g : Gm) => ∃ s1 s2 : Slot, g = [.va (eRo road), .va (D.str name), s1, s2]) (fun v => R.va ((eO D.int) v)) (i_seq (x1 (xV rfl) (f_fld rfl)) rfl) rfl ⟨_, _, rfl⟩ ?_ ?_ ?_
  · rintro e3 hx st3 g ⟨s1, s2, rfl⟩
    refine ⟨[.va (eRo road), .va (D.str name), .va (D.str e3.1), .va (D.int e3.2)], rfl, ?_⟩
    refine j_if (t_val (x2 (xV rfl) (xV rfl) (f_eq eqR_str))) (fun hc => ?_) (fun hc => ?_)
    · exact jc_ret (xV rfl) rfl
    · refine j_nilC ?_
      exact jc_end ⟨_, _, rfl⟩
  · rintro ⟨⟩ g ⟨s1, s2, rfl⟩
    exact j_ret rfl rfl
  · exact fun r => sm_ret rfl rfl
noncomputable def sh_ways_of (road : Rd') : Option (List (List Bool)) :=
  lt ([[]]) fun (ways : (List (List Bool))) =>
  b1 (sh_bridges_of road) fun t1 =>
  b1 (forO (fun (e5 : Bg) (st5 : (List (List Bool))) =>
      lt ([true]) fun (choices : (List Bool)) =>
      b1 (sh_round_of road e5.name) fun t2 =>
      b1 (if (Option.isSome t2) = true then
          lt ([true, false]) fun (choices' : (List Bool)) =>
          some choices'
        else
          some choices) fun choices'2 =>
      b1 (forO (fun (e7 : (List Bool)) (st7 : (List (List Bool))) =>
          grd (List.length choices'2 ≤ 16777216) <|
          b1 (mapO (fun e8 : Bool => grd (List.length e7 + List.length ([e8] : List Bool) ≤ 16777216) <| some (e7 ++ [e8])) choices'2) fun t3 =>
          grd (List.length st7 + List.length t3 ≤ 16777216) <|
          lt (st7 ++ t3) fun (longer' : (List (List Bool))) =>
          some longer') st5 []) fun longer'2 =>
      some longer'2) t1 ways) fun ways' =>
  some ways'
set_option maxHeartbeats 2000000 in
theorem sim_ways_of {road : Rd'} {r : (List (List Bool))} (e : sh_ways_of road = some r) : φ_ways_of [eRo road] = some ((fun v => R.tm (List.map (eT D.bl) v)) r) := by
  refine sim_phi (m := m_ways_of) (N := 7) (n := 1) (ds := [eRo road]) (s := sh_ways_of road) (k := (fun v => R.tm (List.map (eT D.bl) v))) rfl ?_ e
  show J m_ways_of nxt [.va (eRo road), .un, .un, .un, .un, .un, .un] (sh_ways_of road) (PF (fun v => R.tm (List.map (eT D.bl) v)))
  unfold m_ways_of sh_ways_of
  refine j_setTN (i := 1) (g1 := [.va (eRo road), .ow (List.map (eT D.bl) [[]]), .un, .un, .un, .un, .un]) (xA (xaC (xA xaN (f_tup rfl rfl rfl)) xaN) (f_lst rfl rfl rfl)) rfl ?_
  refine j_lt (fun (ways : (List (List Bool))) => [.va (eRo road), .ow (List.map (eT D.bl) ways), .un, .un, .un, .un, .un]) fun ways => ?_
  refine j_b1 fun t1 h1 => ?_
  refine j_for insB (fun (st : (List (List Bool))) (g : Gm) => ∃ s1 s2 s3 s4 : Slot, g = [.va (eRo road), .ow (List.map (eT D.bl) st), s4, s1, s2, s3, .un]) (i_seq (xA (xaC (xV rfl) xaN) (f_call (@sim_bridges_of road _ h1) rfl (.inl rfl))) rfl) rfl ⟨_, _, _, _, rfl⟩ ?_ ?_
  · rintro e5 hx st5 g ⟨s1, s2, s3, s4, rfl⟩
    refine ⟨[.va (eRo road), .ow (List.map (eT D.bl) st5), .va (insB e5), s1, s2, s3, .un], rfl, ?_⟩
    refine j_setTN (i := 3) (g1 := [.va (eRo road), .ow (List.map (eT D.bl) st5), .va (insB e5), .ow (List.map D.bl [true]), s2, s3, .un]) (xA (xaC rfl xaN) (f_lst rfl rfl rfl)) rfl ?_
    refine j_lt (fun (choices : (List Bool)) => [.va (eRo road), .ow (List.map (eT D.bl) st5), .va (insB e5), .ow (List.map D.bl choices), s2, s3, .un]) fun choices => ?_
    refine j_b1 fun t2 h2 => ?_
    refine j_joinB (St := fun (st : (List Bool)) (g : Gm) => g = [.va (eRo road), .ow (List.map (eT D.bl) st5), .va (insB e5), .ow (List.map D.bl st), s2, s3, .un]) (t_val (x2 (xA (xaC (xV rfl) (xaC (x1 (xV rfl) (f_fld rfl)) xaN)) (f_call (@sim_round_of road e5.name _ h2) rfl (.inl rfl))) rfl (f_isNO (fun _ => rfl) _))) (fun hc => ?_) (fun hc => ?_) ?_
    · refine j_setTN (i := 3) (g1 := [.va (eRo road), .ow (List.map (eT D.bl) st5), .va (insB e5), .ow (List.map D.bl [true, false]), s2, s3, .un]) (xA (xaC rfl (xaC rfl xaN)) (f_lst rfl rfl rfl)) rfl ?_
      refine j_lt (fun (choices' : (List Bool)) => [.va (eRo road), .ow (List.map (eT D.bl) st5), .va (insB e5), .ow (List.map D.bl choices'), s2, s3, .un]) fun choices' => ?_
      exact jn_end rfl
    · exact jn_end rfl
    rintro choices'2 g rfl
    refine j_setTN (i := 4) (g1 := [.va (eRo road), .ow (List.map (eT D.bl) st5), .va (insB e5), .ow (List.map D.bl choices'2), .ow (List.map (eT D.bl) []), s3, .un]) (xA xaN (f_lst rfl rfl rfl)) rfl ?_
    refine j_for (eT D.bl) (fun (st : (List (List Bool))) (g : Gm) => ∃ s6 : Slot, g = [.va (eRo road), .ow (List.map (eT D.bl) st5), .va (insB e5), .ow (List.map D.bl choices'2), .ow (List.map (eT D.bl) st), s6, .un]) (i_seq (xW rfl) rfl) rfl ⟨_, rfl⟩ ?_ ?_
    · rintro e7 hx st7 g ⟨s6, rfl⟩
      refine ⟨[.va (eRo road), .ow (List.map (eT D.bl) st5), .va (insB e5), .ow (List.map D.bl choices'2), .ow (List.map (eT D.bl) st7), .va ((eT D.bl) e7), .un], rfl, ?_⟩
      refine j_grd fun h3 => ?_
      refine j_b1 fun t3 h5 => ?_
      refine j_grd fun h6 => ?_
      refine j_ext (i := 4) (g1 := [.va (eRo road), .ow (List.map (eT D.bl) st5), .va (insB e5), .ow (List.map D.bl choices'2), .ow (List.map (eT D.bl) (st7 ++ t3)), .va ((eT D.bl) e7), .un]) rfl (x_lcO (e := D.bl) (e' := (eT D.bl)) (xs := choices'2) (fun y8 => R.va ((eT D.bl) y8)) (i_seq (xW rfl) rfl) h3 (fun e8 _ => ⟨[.va (eRo road), .ow (List.map (eT D.bl) st5), .va (insB e5), .ow (List.map D.bl choices'2), .ow (List.map (eT D.bl) st7), .va ((eT D.bl) e7), .va (D.bl e8)], rfl, (sm_grd fun h4 => (sm_ret (x2 (xV rfl) (xA (xaC (xV rfl) xaN) (f_tup rfl rfl rfl)) (f_addT (e := D.bl) (xs := e7) (ys := [e8]) rfl rfl h4)) rfl))⟩) h5) rfl (by simpa only [List.length_map] using h6) (by simp only [← List.map_append]; rfl) ?_
      refine j_lt (fun (longer' : (List (List Bool))) => [.va (eRo road), .ow (List.map (eT D.bl) st5), .va (insB e5), .ow (List.map D.bl choices'2), .ow (List.map (eT D.bl) longer'), .va ((eT D.bl) e7), .un]) fun longer' => ?_
      exact jt_end ⟨_, rfl⟩
    rintro longer'2 g ⟨s6, rfl⟩
    refine j_mvO (g1 := [.va (eRo road), .ow (List.map (eT D.bl) longer'2), .va (insB e5), .ow (List.map D.bl choices'2), .un, s6, .un]) rfl rfl rfl ?_
    exact jt_end ⟨_, _, _, _, rfl⟩
  rintro ways' g ⟨s1, s2, s3, s4, rfl⟩
  exact j_ret (xW rfl) rfl
noncomputable def sh_step_along (road : Rd') (piece : Pc) (over_v : Bool) : Option (Option Int) :=
  if over_v = true then
      some (some (pcLen piece))
  else
    b1 (pcBr piece) fun t1 =>
    b1 (sh_round_of road t1.name) fun t2 =>
    some t2
set_option maxHeartbeats 2000000 in
theorem sim_step_along {road : Rd'} {piece : Pc} {over_v : Bool} {r : (Option Int)} (e : sh_step_along road piece over_v = some r) : φ_step_along [eRo road, insP piece, D.bl over_v] = some ((fun v => R.va ((eO D.int) v)) r) := by
  refine sim_phi (m := m_step_along) (N := 3) (n := 3) (ds := [eRo road, insP piece, D.bl over_v]) (s := sh_step_along road piece over_v) (k := (fun v => R.va ((eO D.int) v))) rfl ?_ e
  show J m_step_along nxt [.va (eRo road), .va (insP piece), .va (D.bl over_v)] (sh_step_along road piece over_v) (PF (fun v => R.va ((eO D.int) v)))
  unfold m_step_along sh_step_along
  refine j_if (t_val (xV rfl)) (fun hc => ?_) (fun hc => ?_)
  · exact j_ret (x1 (xV rfl) (f_pcLen _)) rfl
  · refine j_nilC ?_
    refine j_b1 fun t1 h1 => ?_
    refine j_b1 fun t2 h2 => ?_
    exact j_ret (xA (xaC (xV rfl) (xaC (x1 (x_br (xV rfl) h1) (f_fld rfl)) xaN)) (f_call (@sim_round_of road t1.name _ h2) rfl (.inl rfl))) rfl
noncomputable def sh_walked (road : Rd') (way : (List Bool)) : Option ((List (Bg × Int)) × Int) :=
  b1 (forO (fun (e3 : Pc) (st3 : (List Bool) × (List (Bg × Int)) × Int) =>
      b1 (if (isBr e3) = true then
          b1 (popI st3.1 (0 : Int)) fun q1 =>
          b1 (if q1.1 = true then
              b1 (pcBr e3) fun t2 =>
              grd (List.length st3.2.1 < 16777216) <|
              lt (st3.2.1 ++ [(t2, st3.2.2)]) fun (legs' : (List (Bg × Int))) =>
              some legs'
            else
              some st3.2.1) fun legs'2 =>
          some (q1.1, q1.2, legs'2)
        else
          some (true, st3.1, st3.2.1)) fun u3 =>
      b1 (sh_step_along road e3 u3.1) fun t4 =>
      b1 (t4) fun t5 =>
      lt (st3.2.2 + t5) fun (place' : Int) =>
      some (u3.2.1, u3.2.2, place')) road.pieces (way, [], (0 : Int))) fun u6 =>
  some (u6.2.1, u6.2.2)
set_option maxHeartbeats 2000000 in
theorem sim_walked {road : Rd'} {way : (List Bool)} {r : ((List (Bg × Int)) × Int)} (e : sh_walked road way = some r) : φ_walked [eRo road, (eT D.bl) way] = some ((fun v : ((List (Bg × Int)) × Int) => (List.map (eP2 insB D.int) v.1, v.2)) r) := by
  refine sim_phiW (m := m_walked) (kt := k_walked) (N := 7) (n := 2) (ds := [eRo road, (eT D.bl) way]) (s := sh_walked road way) (k := (fun v : ((List (Bg × Int)) × Int) => (List.map (eP2 insB D.int) v.1, v.2))) rfl ?_ e
  show J m_walked nxt [.va (eRo road), .va ((eT D.bl) way), .un, .un, .un, .un, .un] (sh_walked road way) (fun v o => ∃ g, o = .nx g ∧ k_walked g = some ((fun v : ((List (Bg × Int)) × Int) => (List.map (eP2 insB D.int) v.1, v.2)) v))
  unfold m_walked sh_walked
  refine j_setTN (i := 2) (g1 := [.va (eRo road), .va ((eT D.bl) way), .ow (List.map (eP2 insB D.int) []), .un, .un, .un, .un]) (xA xaN (f_lst rfl rfl rfl)) rfl ?_
  refine j_setN (i := 3) (g1 := [.va (eRo road), .va ((eT D.bl) way), .ow (List.map (eP2 insB D.int) []), .va (D.int (0 : Int)), .un, .un, .un]) rfl rfl ?_
  refine j_setTN (i := 4) (g1 := [.va (eRo road), .va ((eT D.bl) way), .ow (List.map (eP2 insB D.int) []), .va (D.int (0 : Int)), .ow (List.map D.bl way), .un, .un]) (xA (xaC (xV rfl) xaN) (f_list (.inr rfl))) rfl ?_
  refine j_for insP (fun (st : (List Bool) × (List (Bg × Int)) × Int) (g : Gm) => ∃ s1 s2 : Slot, g = [.va (eRo road), .va ((eT D.bl) way), .ow (List.map (eP2 insB D.int) st.2.1), .va (D.int st.2.2), .ow (List.map D.bl st.1), s2, s1]) (i_seq (x1 (xV rfl) (f_fld rfl)) rfl) rfl ⟨_, _, rfl⟩ ?_ ?_
  · rintro e3 hx st3 g ⟨s1, s2, rfl⟩
    refine ⟨[.va (eRo road), .va ((eT D.bl) way), .ow (List.map (eP2 insB D.int) st3.2.1), .va (D.int st3.2.2), .ow (List.map D.bl st3.1), .va (insP e3), s1], rfl, ?_⟩
    refine j_setN (i := 6) (g1 := [.va (eRo road), .va ((eT D.bl) way), .ow (List.map (eP2 insB D.int) st3.2.1), .va (D.int st3.2.2), .ow (List.map D.bl st3.1), .va (insP e3), .va (D.bl true)]) rfl rfl ?_
    refine j_joinB (St := fun (st : Bool × (List Bool) × (List (Bg × Int))) (g : Gm) => g = [.va (eRo road), .va ((eT D.bl) way), .ow (List.map (eP2 insB D.int) st.2.2), .va (D.int st3.2.2), .ow (List.map D.bl st.2.1), .va (insP e3), .va (D.bl st.1)]) (t_val (x1 (xV rfl) (f_isb _))) (fun hc => ?_) (fun hc => ?_) ?_
    · refine j_b1 fun q1 h1 => ?_
      refine j_popS (i := 4) (j := 6) (e := D.bl) (xs := st3.1) (g1 := [.va (eRo road), .va ((eT D.bl) way), .ow (List.map (eP2 insB D.int) st3.2.1), .va (D.int st3.2.2), .ow (List.map D.bl q1.2), .va (insP e3), .va (D.bl q1.1)]) rfl rfl h1 rfl ?_
      refine j_joinB (St := fun (st : (List (Bg × Int))) (g : Gm) => g = [.va (eRo road), .va ((eT D.bl) way), .ow (List.map (eP2 insB D.int) st), .va (D.int st3.2.2), .ow (List.map D.bl q1.2), .va (insP e3), .va (D.bl q1.1)]) (t_val (xV rfl)) (fun hc => ?_) (fun hc => ?_) ?_
      · refine j_b1 fun t2 h2 => ?_
        refine j_grd fun h3 => ?_
        refine j_appE (i := 2) (g1 := [.va (eRo road), .va ((eT D.bl) way), .ow (List.map (eP2 insB D.int) (st3.2.1 ++ [(t2, st3.2.2)])), .va (D.int st3.2.2), .ow (List.map D.bl q1.2), .va (insP e3), .va (D.bl q1.1)]) (eP2 insB D.int) st3.2.1 (t2, st3.2.2) rfl (xA (xaC (x_br (xV rfl) h2) (xaC (xV rfl) xaN)) (f_tup rfl rfl rfl)) rfl rfl h3 rfl ?_
        refine j_lt (fun (legs' : (List (Bg × Int))) => [.va (eRo road), .va ((eT D.bl) way), .ow (List.map (eP2 insB D.int) legs'), .va (D.int st3.2.2), .ow (List.map D.bl q1.2), .va (insP e3), .va (D.bl q1.1)]) fun legs' => ?_
        exact jn_end rfl
      · exact jn_end rfl
      rintro legs'2 g rfl
      exact jn_end rfl
    · exact jn_end rfl
    rintro u3 g rfl
    refine j_b1 fun t4 h4 => ?_
    refine j_b1 fun t5 h5 => ?_
    refine j_aug (g1 := [.va (eRo road), .va ((eT D.bl) way), .ow (List.map (eP2 insB D.int) u3.2.2), .va (D.int (st3.2.2 + t5)), .ow (List.map D.bl u3.2.1), .va (insP e3), .va (D.bl u3.1)]) (xV rfl) (x_get (xA (xaC (xV rfl) (xaC (xV rfl) (xaC (xV rfl) xaN))) (f_call (@sim_step_along road e3 u3.1 _ h4) rfl (.inl rfl))) h5) (oIAdd_int _ _) rfl ?_
    refine j_lt (fun (place' : Int) => [.va (eRo road), .va ((eT D.bl) way), .ow (List.map (eP2 insB D.int) u3.2.2), .va (D.int place'), .ow (List.map D.bl u3.2.1), .va (insP e3), .va (D.bl u3.1)]) fun place' => ?_
    exact jt_end ⟨_, _, rfl⟩
  rintro u6 g ⟨s1, s2, rfl⟩
  exact j_nil ⟨_, rfl, rfl⟩
noncomputable def sh_legs_of (road : Rd') (way : (List Bool)) : Option (List (Bg × Int)) :=
  b1 (sh_walked road way) fun t1 =>
  some t1.1
set_option maxHeartbeats 2000000 in
theorem sim_legs_of {road : Rd'} {way : (List Bool)} {r : (List (Bg × Int))} (e : sh_legs_of road way = some r) : φ_legs_of [eRo road, (eT D.bl) way] = some ((fun v => R.tm (List.map (eP2 insB D.int) v)) r) := by
  refine sim_phi (m := m_legs_of) (N := 2) (n := 2) (ds := [eRo road, (eT D.bl) way]) (s := sh_legs_of road way) (k := (fun v => R.tm (List.map (eP2 insB D.int) v))) rfl ?_ e
  show J m_legs_of nxt [.va (eRo road), .va ((eT D.bl) way)] (sh_legs_of road way) (PF (fun v => R.tm (List.map (eP2 insB D.int) v)))
  unfold m_legs_of sh_legs_of
  refine j_b1 fun t1 h1 => ?_
  exact j_ret (x_w0 (p := (List.map (eP2 insB D.int) t1.1, t1.2)) (xaC (xV rfl) (xaC (xV rfl) xaN)) rfl (sim_walked h1)) rfl
noncomputable def sh_length_of (road : Rd') (way : (List Bool)) : Option Int :=
  b1 (sh_walked road way) fun t1 =>
  some t1.2
set_option maxHeartbeats 2000000 in
theorem sim_length_of {road : Rd'} {way : (List Bool)} {r : Int} (e : sh_length_of road way = some r) : φ_length_of [eRo road, (eT D.bl) way] = some ((fun v => R.va (D.int v)) r) := by
  refine sim_phi (m := m_length_of) (N := 2) (n := 2) (ds := [eRo road, (eT D.bl) way]) (s := sh_length_of road way) (k := (fun v => R.va (D.int v))) rfl ?_ e
  show J m_length_of nxt [.va (eRo road), .va ((eT D.bl) way)] (sh_length_of road way) (PF (fun v => R.va (D.int v)))
  unfold m_length_of sh_length_of
  refine j_b1 fun t1 h1 => ?_
  exact j_ret (x_w1 (p := (List.map (eP2 insB D.int) t1.1, t1.2)) (xaC (xV rfl) (xaC (xV rfl) xaN)) rfl (sim_walked h1)) rfl
noncomputable def sh__law_cell (script : (List Int)) (k_v : Int) : Option Int :=
  if (decide (k_v < (List.length script : Int))) = true then
      b1 (atI script k_v) fun t1 =>
      some t1
  else
    some (0 : Int)
set_option maxHeartbeats 2000000 in
theorem sim__law_cell {script : (List Int)} {k_v : Int} {r : Int} (e : sh__law_cell script k_v = some r) : φ__law_cell [eRL script, D.int k_v] = some ((fun v => R.va (D.int v)) r) := by
  refine sim_phi (m := m__law_cell) (N := 2) (n := 2) (ds := [eRL script, D.int k_v]) (s := sh__law_cell script k_v) (k := (fun v => R.va (D.int v))) rfl ?_ e
  show J m__law_cell nxt [.va (eRL script), .va (D.int k_v)] (sh__law_cell script k_v) (PF (fun v => R.va (D.int v)))
  unfold m__law_cell sh__law_cell
  refine j_if (t_val (x2 (xV rfl) (xA (xaC (xV rfl) xaN) (f_lenR rfl)) (oLt_def _ _))) (fun hc => ?_) (fun hc => ?_)
  · refine j_b1 fun t1 h1 => ?_
    exact j_ret (x2 (xV rfl) (xV rfl) (f_ixR rfl h1)) rfl
  · refine j_nilC ?_
    exact j_ret rfl rfl
noncomputable def sh__law_mix (cell_here : Int) (one : Int) (prime : Int) : Option Int :=
  grd (prime ≠ 0) <|
  grd (CMulB (31 : Int) one) <|
  grd (CMulB ((31 : Int) * one) one) <|
  grd (CMulB ((((Int.fmod cell_here prime) + (12345 : Int)) + (((31 : Int) * one) * one)) + one) (48271 : Int)) <|
  grd (prime ≠ 0) <|
  lt (Int.fmod (((((Int.fmod cell_here prime) + (12345 : Int)) + (((31 : Int) * one) * one)) + one) * (48271 : Int)) prime) fun (drawn : Int) =>
  grd (CMulB drawn drawn) <|
  some (((drawn * drawn) % (998244353 : Int)) / (3 : Int))
set_option maxHeartbeats 2000000 in
theorem sim__law_mix {cell_here : Int} {one : Int} {prime : Int} {r : Int} (e : sh__law_mix cell_here one prime = some r) : φ__law_mix [D.int cell_here, D.int one, D.int prime] = some ((fun v => R.va (D.int v)) r) := by
  refine sim_phi (m := m__law_mix) (N := 4) (n := 3) (ds := [D.int cell_here, D.int one, D.int prime]) (s := sh__law_mix cell_here one prime) (k := (fun v => R.va (D.int v))) rfl ?_ e
  show J m__law_mix nxt [.va (D.int cell_here), .va (D.int one), .va (D.int prime), .un] (sh__law_mix cell_here one prime) (PF (fun v => R.va (D.int v)))
  unfold m__law_mix sh__law_mix
  refine j_grd fun h1 => ?_
  refine j_grd fun h2 => ?_
  refine j_grd fun h3 => ?_
  refine j_grd fun h4 => ?_
  refine j_grd fun h5 => ?_
  refine j_setN (i := 3) (g1 := [.va (D.int cell_here), .va (D.int one), .va (D.int prime), .va (D.int (Int.fmod (((((Int.fmod cell_here prime) + (12345 : Int)) + (((31 : Int) * one) * one)) + one) * (48271 : Int)) prime))]) (x2 (x2 (x2 (x2 (x2 (x2 (xV rfl) (xV rfl) (f_mod h1)) rfl (oAdd_int _ _)) (x2 (x2 rfl (xV rfl) (f_mul h2)) (xV rfl) (f_mul h3)) (oAdd_int _ _)) (xV rfl) (oAdd_int _ _)) rfl (f_mul h4)) (xV rfl) (f_mod h5)) rfl ?_
  refine j_lt (fun (drawn : Int) => [.va (D.int cell_here), .va (D.int one), .va (D.int prime), .va (D.int drawn)]) fun drawn => ?_
  refine j_grd fun h6 => ?_
  exact j_ret (x2 (x2 (x2 (xV rfl) (xV rfl) (f_mul h6)) rfl (f_modK (by decide))) rfl (f_divK (by decide))) rfl
noncomputable def sh__law_names (cell_here : Int) : Option (List Str) :=
  lt ("abcdefghijklmnopqrstuvwxyz" : Str) fun (letters : Str) =>
  b1 (sh__law_mix cell_here (30 : Int) (1000003 : Int)) fun drawn =>
  lt ((1 : Int) + (drawn % (12 : Int))) fun (size : Int) =>
  grd (size ≠ 0) <|
  lt (Int.fmod (drawn / (12 : Int)) size) fun (at_v : Int) =>
  grd (Str.length letters ≤ 16777216) <|
  b1 (sgAt letters ((drawn / (150 : Int)) % (26 : Int))) fun fill =>
  if (decide (((drawn / (4000 : Int)) % (3 : Int)) = (0 : Int))) = true then
      grd (-4611686018427387904 ≤ (8 : Int) ∧ (8 : Int) < 4611686018427387904) <|
      grd (List.length (rgI 0 (8 : Int)) ≤ 16777216) <|
      b1 (mapO (fun e1 : Int => grd (-(2 ^ 63) ≤ ((e1 + (1 : Int)) + (drawn % (5 : Int))) ∧ ((e1 + (1 : Int)) + (drawn % (5 : Int))) < 2 ^ 63 ∧ Str.length fill * Int.toNat ((e1 + (1 : Int)) + (drawn % (5 : Int))) ≤ 16777216) <| some (strRep fill ((e1 + (1 : Int)) + (drawn % (5 : Int))))) (rgI 0 (8 : Int))) fun t3 =>
      some t3
  else
    grd (-4611686018427387904 ≤ (8 : Int) ∧ (8 : Int) < 4611686018427387904) <|
    b1 (forO (fun (e4 : Int) (st4 : (List Str)) =>
        grd (CMulB (3 : Int) e4) <|
        grd (Str.length letters ≤ 16777216) <|
        b1 (sgAt letters (((drawn / (12000 : Int)) + ((3 : Int) * e4)) % (26 : Int))) fun sign =>
        grd (-(2 ^ 63) ≤ at_v ∧ at_v < 2 ^ 63 ∧ Str.length fill * Int.toNat at_v ≤ 16777216) <|
        grd (Str.length (strRep fill at_v) + Str.length sign ≤ 16777216) <|
        grd (-(2 ^ 63) ≤ ((size - (1 : Int)) - at_v) ∧ ((size - (1 : Int)) - at_v) < 2 ^ 63 ∧ Str.length fill * Int.toNat ((size - (1 : Int)) - at_v) ≤ 16777216) <|
        grd (Str.length ((strRep fill at_v) ++ sign) + Str.length (strRep fill ((size - (1 : Int)) - at_v)) ≤ 16777216) <|
        grd (List.length st4 < 16777216) <|
        lt (st4 ++ [(((strRep fill at_v) ++ sign) ++ (strRep fill ((size - (1 : Int)) - at_v)))]) fun (found' : (List Str)) =>
        some found') (rgI 0 (8 : Int)) []) fun found'2 =>
    some found'2
set_option maxHeartbeats 2000000 in
theorem sim__law_names {cell_here : Int} {r : (List Str)} (e : sh__law_names cell_here = some r) : φ__law_names [D.int cell_here] = some ((fun v => R.tm (List.map D.str v)) r) := by
  refine sim_phi (m := m__law_names) (N := 9) (n := 1) (ds := [D.int cell_here]) (s := sh__law_names cell_here) (k := (fun v => R.tm (List.map D.str v))) rfl ?_ e
  show J m__law_names nxt [.va (D.int cell_here), .un, .un, .un, .un, .un, .un, .un, .un] (sh__law_names cell_here) (PF (fun v => R.tm (List.map D.str v)))
  unfold m__law_names sh__law_names
  refine j_setN (i := 1) (g1 := [.va (D.int cell_here), .va (D.str ("abcdefghijklmnopqrstuvwxyz" : Str)), .un, .un, .un, .un, .un, .un, .un]) rfl rfl ?_
  refine j_lt (fun (letters : Str) => [.va (D.int cell_here), .va (D.str letters), .un, .un, .un, .un, .un, .un, .un]) fun letters => ?_
  refine j_b1 fun drawn h1 => ?_
  refine j_setN (i := 2) (g1 := [.va (D.int cell_here), .va (D.str letters), .va (D.int drawn), .un, .un, .un, .un, .un, .un]) (xA (xaC (xV rfl) (xaC rfl (xaC rfl xaN))) (f_call (@sim__law_mix cell_here (30 : Int) (1000003 : Int) _ h1) rfl (.inl rfl))) rfl ?_
  refine j_setN (i := 3) (g1 := [.va (D.int cell_here), .va (D.str letters), .va (D.int drawn), .va (D.int ((1 : Int) + (drawn % (12 : Int)))), .un, .un, .un, .un, .un]) (x2 rfl (x2 (xV rfl) rfl (f_modK (by decide))) (oAdd_int _ _)) rfl ?_
  refine j_lt (fun (size : Int) => [.va (D.int cell_here), .va (D.str letters), .va (D.int drawn), .va (D.int size), .un, .un, .un, .un, .un]) fun size => ?_
  refine j_grd fun h2 => ?_
  refine j_setN (i := 4) (g1 := [.va (D.int cell_here), .va (D.str letters), .va (D.int drawn), .va (D.int size), .va (D.int (Int.fmod (drawn / (12 : Int)) size)), .un, .un, .un, .un]) (x2 (x2 (xV rfl) rfl (f_divK (by decide))) (xV rfl) (f_mod h2)) rfl ?_
  refine j_lt (fun (at_v : Int) => [.va (D.int cell_here), .va (D.str letters), .va (D.int drawn), .va (D.int size), .va (D.int at_v), .un, .un, .un, .un]) fun at_v => ?_
  refine j_grd fun h3 => ?_
  refine j_b1 fun fill h4 => ?_
  refine j_setN (i := 5) (g1 := [.va (D.int cell_here), .va (D.str letters), .va (D.int drawn), .va (D.int size), .va (D.int at_v), .va (D.str fill), .un, .un, .un]) (x2 (xV rfl) (x2 (x2 (xV rfl) rfl (f_divK (by decide))) rfl (f_modK (by decide))) (f_ixS h3 h4)) rfl ?_
  refine j_if (t_val (x2 (x2 (x2 (xV rfl) rfl (f_divK (by decide))) rfl (f_modK (by decide))) rfl (oEq_int _ _))) (fun hc => ?_) (fun hc => ?_)
  · refine j_grd fun h5 => ?_
    refine j_grd fun h6 => ?_
    refine j_b1 fun t3 h8 => ?_
    exact j_ret (x_lcO (e := D.int) (e' := D.str) (xs := (rgI 0 (8 : Int))) (fun y1 => R.va (D.str y1)) (i_A (xaC rfl xaN) (f_rg1 h5)) h6 (fun e1 _ => ⟨[.va (D.int cell_here), .va (D.str letters), .va (D.int drawn), .va (D.int size), .va (D.int at_v), .va (D.str fill), .un, .va (D.int e1), .un], rfl, (sm_grd fun h7 => (sm_ret (x2 (xV rfl) (x2 (x2 (xV rfl) rfl (oAdd_int _ _)) (x2 (xV rfl) rfl (f_modK (by decide))) (oAdd_int _ _)) (f_mulS h7)) rfl))⟩) h8) rfl
  · refine j_nilC ?_
    refine j_setTN (i := 6) (g1 := [.va (D.int cell_here), .va (D.str letters), .va (D.int drawn), .va (D.int size), .va (D.int at_v), .va (D.str fill), .ow (List.map D.str []), .un, .un]) (xA xaN (f_lst rfl rfl rfl)) rfl ?_
    refine j_grd fun h9 => ?_
    refine j_for D.int (fun (st : (List Str)) (g : Gm) => ∃ s2 s3 : Slot, g = [.va (D.int cell_here), .va (D.str letters), .va (D.int drawn), .va (D.int size), .va (D.int at_v), .va (D.str fill), .ow (List.map D.str st), s3, s2]) (i_A (xaC rfl xaN) (f_rg1 h9)) rfl ⟨_, _, rfl⟩ ?_ ?_
    · rintro e4 hx st4 g ⟨s2, s3, rfl⟩
      refine ⟨[.va (D.int cell_here), .va (D.str letters), .va (D.int drawn), .va (D.int size), .va (D.int at_v), .va (D.str fill), .ow (List.map D.str st4), .va (D.int e4), s2], rfl, ?_⟩
      refine j_grd fun h10 => ?_
      refine j_grd fun h11 => ?_
      refine j_b1 fun sign h12 => ?_
      refine j_setN (i := 8) (g1 := [.va (D.int cell_here), .va (D.str letters), .va (D.int drawn), .va (D.int size), .va (D.int at_v), .va (D.str fill), .ow (List.map D.str st4), .va (D.int e4), .va (D.str sign)]) (x2 (xV rfl) (x2 (x2 (x2 (xV rfl) rfl (f_divK (by decide))) (x2 rfl (xV rfl) (f_mul h10)) (oAdd_int _ _)) rfl (f_modK (by decide))) (f_ixS h11 h12)) rfl ?_
      refine j_grd fun h13 => ?_
      refine j_grd fun h14 => ?_
      refine j_grd fun h15 => ?_
      refine j_grd fun h16 => ?_
      refine j_grd fun h17 => ?_
      refine j_appE (i := 6) (g1 := [.va (D.int cell_here), .va (D.str letters), .va (D.int drawn), .va (D.int size), .va (D.int at_v), .va (D.str fill), .ow (List.map D.str (st4 ++ [(((strRep fill at_v) ++ sign) ++ (strRep fill ((size - (1 : Int)) - at_v)))])), .va (D.int e4), .va (D.str sign)]) D.str st4 (((strRep fill at_v) ++ sign) ++ (strRep fill ((size - (1 : Int)) - at_v))) rfl (x2 (x2 (x2 (xV rfl) (xV rfl) (f_mulS h13)) (xV rfl) (f_addS h14)) (x2 (xV rfl) (x2 (x2 (xV rfl) rfl (oSub_def _ _)) (xV rfl) (oSub_def _ _)) (f_mulS h15)) (f_addS h16)) rfl rfl h17 rfl ?_
      refine j_lt (fun (found' : (List Str)) => [.va (D.int cell_here), .va (D.str letters), .va (D.int drawn), .va (D.int size), .va (D.int at_v), .va (D.str fill), .ow (List.map D.str found'), .va (D.int e4), .va (D.str sign)]) fun found' => ?_
      exact jt_end ⟨_, _, rfl⟩
    rintro found'2 g ⟨s2, s3, rfl⟩
    exact j_ret (xW rfl) rfl
noncomputable def sh__law_long (cell_here : Int) (one : Int) (least : Int) : Option Int :=
  b1 (sh__law_mix cell_here one (1000033 : Int)) fun drawn =>
  grd (((1001 : Int) - least) ≠ 0) <|
  b1 (atI ([least, (1000 : Int), (least + ((drawn / (5 : Int)) % (30 : Int))), (least + (Int.fmod (drawn / (5 : Int)) ((1001 : Int) - least))), (least + (1 : Int))] : List Int) (drawn % (5 : Int))) fun t2 =>
  some t2
set_option maxHeartbeats 2000000 in
theorem sim__law_long {cell_here : Int} {one : Int} {least : Int} {r : Int} (e : sh__law_long cell_here one least = some r) : φ__law_long [D.int cell_here, D.int one, D.int least] = some ((fun v => R.va (D.int v)) r) := by
  refine sim_phi (m := m__law_long) (N := 4) (n := 3) (ds := [D.int cell_here, D.int one, D.int least]) (s := sh__law_long cell_here one least) (k := (fun v => R.va (D.int v))) rfl ?_ e
  show J m__law_long nxt [.va (D.int cell_here), .va (D.int one), .va (D.int least), .un] (sh__law_long cell_here one least) (PF (fun v => R.va (D.int v)))
  unfold m__law_long sh__law_long
  refine j_b1 fun drawn h1 => ?_
  refine j_setN (i := 3) (g1 := [.va (D.int cell_here), .va (D.int one), .va (D.int least), .va (D.int drawn)]) (xA (xaC (xV rfl) (xaC (xV rfl) (xaC rfl xaN))) (f_call (@sim__law_mix cell_here one (1000033 : Int) _ h1) rfl (.inl rfl))) rfl ?_
  refine j_grd fun h2 => ?_
  refine j_b1 fun t2 h3 => ?_
  exact j_ret (x2 (xA (xaC (xV rfl) (xaC rfl (xaC (x2 (xV rfl) (x2 (x2 (xV rfl) rfl (f_divK (by decide))) rfl (f_modK (by decide))) (oAdd_int _ _)) (xaC (x2 (xV rfl) (x2 (x2 (xV rfl) rfl (f_divK (by decide))) (x2 rfl (xV rfl) (oSub_def _ _)) (f_mod h2)) (oAdd_int _ _)) (xaC (x2 (xV rfl) rfl (oAdd_int _ _)) xaN))))) (f_lst rfl rfl rfl)) (x2 (xV rfl) rfl (f_modK (by decide))) (f_ixL (e := D.int) (xs := [least, (1000 : Int), (least + ((drawn / (5 : Int)) % (30 : Int))), (least + (Int.fmod (drawn / (5 : Int)) ((1001 : Int) - least))), (least + (1 : Int))]) rfl h3)) rfl
noncomputable def sh__law_bridge (cell_here : Int) (name : Str) : Option (Str × Str × Int × Int × Int × Int) :=
  b1 (sh__law_mix cell_here (40 : Int) (1000037 : Int)) fun drawn =>
  b1 (atI ([(1 : Int), (10000000 : Int), ((1 : Int) + ((drawn / (3 : Int)) % (1000 : Int))), ((1 : Int) + (cell_here % (10000000 : Int)))] : List Int) (drawn % (4 : Int))) fun bears =>
  b1 (atI ([((1 : Int) + ((cell_here / (3 : Int)) % (10000000 : Int))), (10000000 : Int), (1 : Int), ((1 : Int) + ((drawn / (7 : Int)) % (1000 : Int)))] : List Int) ((drawn / (4 : Int)) % (4 : Int))) fun most =>
  b1 (atI ([(1 : Int), (200 : Int), ((1 : Int) + ((drawn / (16 : Int)) % (200 : Int))), ((1 : Int) + ((drawn / (16 : Int)) % (30 : Int)))] : List Int) ((drawn / (1000 : Int)) % (4 : Int))) fun wide =>
  b1 (sh__law_long cell_here (41 : Int) (1 : Int)) fun t5 =>
  some (("bridge" : Str), name, t5, bears, wide, most)
set_option maxHeartbeats 2000000 in
theorem sim__law_bridge {cell_here : Int} {name : Str} {r : (Str × Str × Int × Int × Int × Int)} (e : sh__law_bridge cell_here name = some r) : φ__law_bridge [D.int cell_here, D.str name] = some ((fun v => R.va ((eP6 D.str D.str D.int D.int D.int D.int) v)) r) := by
  refine sim_phi (m := m__law_bridge) (N := 6) (n := 2) (ds := [D.int cell_here, D.str name]) (s := sh__law_bridge cell_here name) (k := (fun v => R.va ((eP6 D.str D.str D.int D.int D.int D.int) v))) rfl ?_ e
  show J m__law_bridge nxt [.va (D.int cell_here), .va (D.str name), .un, .un, .un, .un] (sh__law_bridge cell_here name) (PF (fun v => R.va ((eP6 D.str D.str D.int D.int D.int D.int) v)))
  unfold m__law_bridge sh__law_bridge
  refine j_b1 fun drawn h1 => ?_
  refine j_setN (i := 2) (g1 := [.va (D.int cell_here), .va (D.str name), .va (D.int drawn), .un, .un, .un]) (xA (xaC (xV rfl) (xaC rfl (xaC rfl xaN))) (f_call (@sim__law_mix cell_here (40 : Int) (1000037 : Int) _ h1) rfl (.inl rfl))) rfl ?_
  refine j_b1 fun bears h2 => ?_
  refine j_setN (i := 3) (g1 := [.va (D.int cell_here), .va (D.str name), .va (D.int drawn), .va (D.int bears), .un, .un]) (x2 (xA (xaC rfl (xaC (x2 rfl rfl (f_powK (by decide) (by decide))) (xaC (x2 rfl (x2 (x2 (xV rfl) rfl (f_divK (by decide))) rfl (f_modK (by decide))) (oAdd_int _ _)) (xaC (x2 rfl (x2 (xV rfl) (x2 rfl rfl (f_powK (by decide) (by decide))) (f_modK (by decide))) (oAdd_int _ _)) xaN)))) (f_lst rfl rfl rfl)) (x2 (xV rfl) rfl (f_modK (by decide))) (f_ixL (e := D.int) (xs := [(1 : Int), (10000000 : Int), ((1 : Int) + ((drawn / (3 : Int)) % (1000 : Int))), ((1 : Int) + (cell_here % (10000000 : Int)))]) rfl h2)) rfl ?_
  refine j_b1 fun most h3 => ?_
  refine j_setN (i := 4) (g1 := [.va (D.int cell_here), .va (D.str name), .va (D.int drawn), .va (D.int bears), .va (D.int most), .un]) (x2 (xA (xaC (x2 rfl (x2 (x2 (xV rfl) rfl (f_divK (by decide))) (x2 rfl rfl (f_powK (by decide) (by decide))) (f_modK (by decide))) (oAdd_int _ _)) (xaC (x2 rfl rfl (f_powK (by decide) (by decide))) (xaC rfl (xaC (x2 rfl (x2 (x2 (xV rfl) rfl (f_divK (by decide))) rfl (f_modK (by decide))) (oAdd_int _ _)) xaN)))) (f_lst rfl rfl rfl)) (x2 (x2 (xV rfl) rfl (f_divK (by decide))) rfl (f_modK (by decide))) (f_ixL (e := D.int) (xs := [((1 : Int) + ((cell_here / (3 : Int)) % (10000000 : Int))), (10000000 : Int), (1 : Int), ((1 : Int) + ((drawn / (7 : Int)) % (1000 : Int)))]) rfl h3)) rfl ?_
  refine j_b1 fun wide h4 => ?_
  refine j_setN (i := 5) (g1 := [.va (D.int cell_here), .va (D.str name), .va (D.int drawn), .va (D.int bears), .va (D.int most), .va (D.int wide)]) (x2 (xA (xaC rfl (xaC rfl (xaC (x2 rfl (x2 (x2 (xV rfl) rfl (f_divK (by decide))) rfl (f_modK (by decide))) (oAdd_int _ _)) (xaC (x2 rfl (x2 (x2 (xV rfl) rfl (f_divK (by decide))) rfl (f_modK (by decide))) (oAdd_int _ _)) xaN)))) (f_lst rfl rfl rfl)) (x2 (x2 (xV rfl) rfl (f_divK (by decide))) rfl (f_modK (by decide))) (f_ixL (e := D.int) (xs := [(1 : Int), (200 : Int), ((1 : Int) + ((drawn / (16 : Int)) % (200 : Int))), ((1 : Int) + ((drawn / (16 : Int)) % (30 : Int)))]) rfl h4)) rfl ?_
  refine j_b1 fun t5 h5 => ?_
  exact j_ret (xA (xaC rfl (xaC (xV rfl) (xaC (xA (xaC (xV rfl) (xaC rfl (xaC rfl xaN))) (f_call (@sim__law_long cell_here (41 : Int) (1 : Int) _ h5) rfl (.inl rfl))) (xaC (xV rfl) (xaC (xV rfl) (xaC (xV rfl) xaN)))))) (f_tup rfl rfl rfl)) rfl
noncomputable def sh__law_parts (script : (List Int)) : Option ((List Str) × (List D) × (List (Str × Int)) × (List (Str × Int × Int))) :=
  b1 (sh__law_cell script (0 : Int)) fun cell_here =>
  b1 (sh__law_names cell_here) fun names_here =>
  b1 (sh__law_mix cell_here (31 : Int) (1000039 : Int)) fun t3 =>
  lt ((1 : Int) + (t3 % (6 : Int))) fun (many : Int) =>
  b1 (sh__law_long cell_here (42 : Int) (200 : Int)) fun t4 =>
  lt ([((eP2 D.str D.int) (("open" : Str), t4))]) fun (pieces_here : (List D)) =>
  grd (-4611686018427387904 ≤ many ∧ many < 4611686018427387904) <|
  b1 (forO (fun (e3 : Int) (st3 : (List D) × (List (Str × Int))) =>
      b1 (sh__law_cell script ((1 : Int) + e3)) fun t5 =>
      grd (CMulB (65537 : Int) e3) <|
      lt (t5 + ((65537 : Int) * e3)) fun (own : Int) =>
      b1 (atI names_here e3) fun t6 =>
      b1 (sh__law_bridge own t6) fun t7 =>
      grd (List.length st3.1 < 16777216) <|
      lt (st3.1 ++ [((eP6 D.str D.str D.int D.int D.int D.int) t7)]) fun (pieces_here' : (List D)) =>
      b1 (sh__law_long own (43 : Int) (200 : Int)) fun t8 =>
      grd (List.length pieces_here' < 16777216) <|
      lt (pieces_here' ++ [((eP2 D.str D.int) (("open" : Str), t8))]) fun (pieces_here'2 : (List D)) =>
      b1 (sh__law_mix own (44 : Int) (1000081 : Int)) fun t9 =>
      b1 (if (decide ((t9 % (2 : Int)) = (0 : Int))) = true then
          b1 (atI names_here e3) fun t10 =>
          b1 (sh__law_long own (45 : Int) (1 : Int)) fun t11 =>
          grd (List.length st3.2 < 16777216) <|
          lt (st3.2 ++ [(t10, t11)]) fun (rounds' : (List (Str × Int))) =>
          some rounds'
        else
          some st3.2) fun rounds'2 =>
      some (pieces_here'2, rounds'2)) (rgI 0 many) (pieces_here, [])) fun u12 =>
  b1 (sh__law_mix cell_here (46 : Int) (1000003 : Int)) fun t13 =>
  b1 (if (decide ((t13 % (2 : Int)) = (1 : Int))) = true then
      lt (List.reverse u12.2) fun (rounds'3 : (List (Str × Int))) =>
      some rounds'3
    else
      some u12.2) fun rounds'4 =>
  grd (List.length ([cell_here] : List Int) + List.length (cutL script (some (7 : Int)) (some (13 : Int))) ≤ 16777216) <|
  b1 (forO (fun (e9 : (Int × Int)) (st9 : (List (Str × Int × Int))) =>
      b1 (sh__law_mix e9.2 ((47 : Int) + e9.1) (1000033 : Int)) fun drawn =>
      b1 (atI ([(0 : Int), ((drawn / (12 : Int)) % (10000 : Int)), (9999 : Int)] : List Int) (drawn % (3 : Int))) fun begin =>
      grd (((10000 : Int) - begin) ≠ 0) <|
      b1 (atI ([(begin + (1 : Int)), (10000 : Int), ((begin + (1 : Int)) + (Int.fmod (drawn / (40 : Int)) ((10000 : Int) - begin)))] : List Int) ((drawn / (3 : Int)) % (3 : Int))) fun end_v =>
      b1 (if (decide ((0 : Int) < ((drawn / (9 : Int)) % (3 : Int)))) = true then
          grd (many ≠ 0) <|
          b1 (atI names_here (Int.fmod (drawn / (27 : Int)) many)) fun t17 =>
          grd (List.length st9 < 16777216) <|
          lt (st9 ++ [(t17, begin, end_v)]) fun (shuts' : (List (Str × Int × Int))) =>
          some shuts'
        else
          some st9) fun shuts'2 =>
      some shuts'2) (enI ([cell_here] ++ (cutL script (some (7 : Int)) (some (13 : Int))))) []) fun shuts'3 =>
  some (names_here, u12.1, rounds'4, shuts'3)
set_option maxHeartbeats 2000000 in
theorem sim__law_parts {script : (List Int)} {r : ((List Str) × (List D) × (List (Str × Int)) × (List (Str × Int × Int)))} (e : sh__law_parts script = some r) : φ__law_parts [eRL script] = some ((fun v => R.va ((eP4 (eL D.str) (eL eD) (eL (eP2 D.str D.int)) (eL (eP3 D.str D.int D.int))) v)) r) := by
  refine sim_phi (m := m__law_parts) (N := 13) (n := 1) (ds := [eRL script]) (s := sh__law_parts script) (k := (fun v => R.va ((eP4 (eL D.str) (eL eD) (eL (eP2 D.str D.int)) (eL (eP3 D.str D.int D.int))) v))) rfl ?_ e
  show J m__law_parts nxt [.va (eRL script), .un, .un, .un, .un, .un, .un, .un, .un, .un, .un, .un, .un] (sh__law_parts script) (PF (fun v => R.va ((eP4 (eL D.str) (eL eD) (eL (eP2 D.str D.int)) (eL (eP3 D.str D.int D.int))) v)))
  unfold m__law_parts sh__law_parts
  refine j_b1 fun cell_here h1 => ?_
  refine j_setN (i := 1) (g1 := [.va (eRL script), .va (D.int cell_here), .un, .un, .un, .un, .un, .un, .un, .un, .un, .un, .un]) (xA (xaC (xV rfl) (xaC rfl xaN)) (f_call (@sim__law_cell script (0 : Int) _ h1) rfl (.inl rfl))) rfl ?_
  refine j_b1 fun names_here h2 => ?_
  refine j_setTN (i := 2) (g1 := [.va (eRL script), .va (D.int cell_here), .ow (List.map D.str names_here), .un, .un, .un, .un, .un, .un, .un, .un, .un, .un]) (xA (xaC (xV rfl) xaN) (f_call (@sim__law_names cell_here _ h2) rfl (.inl rfl))) rfl ?_
  refine j_b1 fun t3 h3 => ?_
  refine j_setN (i := 3) (g1 := [.va (eRL script), .va (D.int cell_here), .ow (List.map D.str names_here), .va (D.int ((1 : Int) + (t3 % (6 : Int)))), .un, .un, .un, .un, .un, .un, .un, .un, .un]) (x2 rfl (x2 (xA (xaC (xV rfl) (xaC rfl (xaC rfl xaN))) (f_call (@sim__law_mix cell_here (31 : Int) (1000039 : Int) _ h3) rfl (.inl rfl))) rfl (f_modK (by decide))) (oAdd_int _ _)) rfl ?_
  refine j_lt (fun (many : Int) => [.va (eRL script), .va (D.int cell_here), .ow (List.map D.str names_here), .va (D.int many), .un, .un, .un, .un, .un, .un, .un, .un, .un]) fun many => ?_
  refine j_b1 fun t4 h4 => ?_
  refine j_setTN (i := 4) (g1 := [.va (eRL script), .va (D.int cell_here), .ow (List.map D.str names_here), .va (D.int many), .ow (List.map eD [((eP2 D.str D.int) (("open" : Str), t4))]), .un, .un, .un, .un, .un, .un, .un, .un]) (xA (xaC (xA (xaC rfl (xaC (xA (xaC (xV rfl) (xaC rfl (xaC rfl xaN))) (f_call (@sim__law_long cell_here (42 : Int) (200 : Int) _ h4) rfl (.inl rfl))) xaN)) (f_tup rfl rfl rfl)) xaN) (f_lst rfl rfl rfl)) rfl ?_
  refine j_lt (fun (pieces_here : (List D)) => [.va (eRL script), .va (D.int cell_here), .ow (List.map D.str names_here), .va (D.int many), .ow (List.map eD pieces_here), .un, .un, .un, .un, .un, .un, .un, .un]) fun pieces_here => ?_
  refine j_setTN (i := 5) (g1 := [.va (eRL script), .va (D.int cell_here), .ow (List.map D.str names_here), .va (D.int many), .ow (List.map eD pieces_here), .ow (List.map (eP2 D.str D.int) []), .un, .un, .un, .un, .un, .un, .un]) (xA xaN (f_lst rfl rfl rfl)) rfl ?_
  refine j_grd fun h5 => ?_
  refine j_for D.int (fun (st : (List D) × (List (Str × Int))) (g : Gm) => ∃ s1 s2 : Slot, g = [.va (eRL script), .va (D.int cell_here), .ow (List.map D.str names_here), .va (D.int many), .ow (List.map eD st.1), .ow (List.map (eP2 D.str D.int) st.2), s2, .un, s1, .un, .un, .un, .un]) (i_A (xaC (xV rfl) xaN) (f_rg1 h5)) rfl ⟨_, _, rfl⟩ ?_ ?_
  · rintro e3 hx st3 g ⟨s1, s2, rfl⟩
    refine ⟨[.va (eRL script), .va (D.int cell_here), .ow (List.map D.str names_here), .va (D.int many), .ow (List.map eD st3.1), .ow (List.map (eP2 D.str D.int) st3.2), .va (D.int e3), .un, s1, .un, .un, .un, .un], rfl, ?_⟩
    refine j_b1 fun t5 h6 => ?_
    refine j_grd fun h7 => ?_
    refine j_setN (i := 8) (g1 := [.va (eRL script), .va (D.int cell_here), .ow (List.map D.str names_here), .va (D.int many), .ow (List.map eD st3.1), .ow (List.map (eP2 D.str D.int) st3.2), .va (D.int e3), .un, .va (D.int (t5 + ((65537 : Int) * e3))), .un, .un, .un, .un]) (x2 (xA (xaC (xV rfl) (xaC (x2 rfl (xV rfl) (oAdd_int _ _)) xaN)) (f_call (@sim__law_cell script ((1 : Int) + e3) _ h6) rfl (.inl rfl))) (x2 rfl (xV rfl) (f_mul h7)) (oAdd_int _ _)) rfl ?_
    refine j_lt (fun (own : Int) => [.va (eRL script), .va (D.int cell_here), .ow (List.map D.str names_here), .va (D.int many), .ow (List.map eD st3.1), .ow (List.map (eP2 D.str D.int) st3.2), .va (D.int e3), .un, .va (D.int own), .un, .un, .un, .un]) fun own => ?_
    refine j_b1 fun t6 h8 => ?_
    refine j_b1 fun t7 h9 => ?_
    refine j_grd fun h10 => ?_
    refine j_appE (i := 4) (g1 := [.va (eRL script), .va (D.int cell_here), .ow (List.map D.str names_here), .va (D.int many), .ow (List.map eD (st3.1 ++ [((eP6 D.str D.str D.int D.int D.int D.int) t7)])), .ow (List.map (eP2 D.str D.int) st3.2), .va (D.int e3), .un, .va (D.int own), .un, .un, .un, .un]) eD st3.1 ((eP6 D.str D.str D.int D.int D.int D.int) t7) rfl (xA (xaC (xV rfl) (xaC (x2 (xW rfl) (xV rfl) (f_ixL (e := D.str) (xs := names_here) rfl h8)) xaN)) (f_call (@sim__law_bridge own t6 _ h9) rfl (.inl rfl))) rfl rfl h10 rfl ?_
    refine j_lt (fun (pieces_here' : (List D)) => [.va (eRL script), .va (D.int cell_here), .ow (List.map D.str names_here), .va (D.int many), .ow (List.map eD pieces_here'), .ow (List.map (eP2 D.str D.int) st3.2), .va (D.int e3), .un, .va (D.int own), .un, .un, .un, .un]) fun pieces_here' => ?_
    refine j_b1 fun t8 h11 => ?_
    refine j_grd fun h12 => ?_
    refine j_appE (i := 4) (g1 := [.va (eRL script), .va (D.int cell_here), .ow (List.map D.str names_here), .va (D.int many), .ow (List.map eD (pieces_here' ++ [((eP2 D.str D.int) (("open" : Str), t8))])), .ow (List.map (eP2 D.str D.int) st3.2), .va (D.int e3), .un, .va (D.int own), .un, .un, .un, .un]) eD pieces_here' ((eP2 D.str D.int) (("open" : Str), t8)) rfl (xA (xaC rfl (xaC (xA (xaC (xV rfl) (xaC rfl (xaC rfl xaN))) (f_call (@sim__law_long own (43 : Int) (200 : Int) _ h11) rfl (.inl rfl))) xaN)) (f_tup rfl rfl rfl)) rfl rfl h12 rfl ?_
    refine j_lt (fun (pieces_here'2 : (List D)) => [.va (eRL script), .va (D.int cell_here), .ow (List.map D.str names_here), .va (D.int many), .ow (List.map eD pieces_here'2), .ow (List.map (eP2 D.str D.int) st3.2), .va (D.int e3), .un, .va (D.int own), .un, .un, .un, .un]) fun pieces_here'2 => ?_
    refine j_b1 fun t9 h13 => ?_
    refine j_joinB (St := fun (st : (List (Str × Int))) (g : Gm) => g = [.va (eRL script), .va (D.int cell_here), .ow (List.map D.str names_here), .va (D.int many), .ow (List.map eD pieces_here'2), .ow (List.map (eP2 D.str D.int) st), .va (D.int e3), .un, .va (D.int own), .un, .un, .un, .un]) (t_val (x2 (x2 (xA (xaC (xV rfl) (xaC rfl (xaC rfl xaN))) (f_call (@sim__law_mix own (44 : Int) (1000081 : Int) _ h13) rfl (.inl rfl))) rfl (f_modK (by decide))) rfl (oEq_int _ _))) (fun hc => ?_) (fun hc => ?_) ?_
    · refine j_b1 fun t10 h14 => ?_
      refine j_b1 fun t11 h15 => ?_
      refine j_grd fun h16 => ?_
      refine j_appE (i := 5) (g1 := [.va (eRL script), .va (D.int cell_here), .ow (List.map D.str names_here), .va (D.int many), .ow (List.map eD pieces_here'2), .ow (List.map (eP2 D.str D.int) (st3.2 ++ [(t10, t11)])), .va (D.int e3), .un, .va (D.int own), .un, .un, .un, .un]) (eP2 D.str D.int) st3.2 (t10, t11) rfl (xA (xaC (x2 (xW rfl) (xV rfl) (f_ixL (e := D.str) (xs := names_here) rfl h14)) (xaC (xA (xaC (xV rfl) (xaC rfl (xaC rfl xaN))) (f_call (@sim__law_long own (45 : Int) (1 : Int) _ h15) rfl (.inl rfl))) xaN)) (f_tup rfl rfl rfl)) rfl rfl h16 rfl ?_
      refine j_lt (fun (rounds' : (List (Str × Int))) => [.va (eRL script), .va (D.int cell_here), .ow (List.map D.str names_here), .va (D.int many), .ow (List.map eD pieces_here'2), .ow (List.map (eP2 D.str D.int) rounds'), .va (D.int e3), .un, .va (D.int own), .un, .un, .un, .un]) fun rounds' => ?_
      exact jn_end rfl
    · exact jn_end rfl
    rintro rounds'2 g rfl
    exact jt_end ⟨_, _, rfl⟩
  rintro u12 g ⟨s1, s2, rfl⟩
  refine j_b1 fun t13 h17 => ?_
  refine j_joinB (St := fun (st : (List (Str × Int))) (g : Gm) => g = [.va (eRL script), .va (D.int cell_here), .ow (List.map D.str names_here), .va (D.int many), .ow (List.map eD u12.1), .ow (List.map (eP2 D.str D.int) st), s2, .un, s1, .un, .un, .un, .un]) (t_val (x2 (x2 (xA (xaC (xV rfl) (xaC rfl (xaC rfl xaN))) (f_call (@sim__law_mix cell_here (46 : Int) (1000003 : Int) _ h17) rfl (.inl rfl))) rfl (f_modK (by decide))) rfl (oEq_int _ _))) (fun hc => ?_) (fun hc => ?_) ?_
  · refine j_rev (i := 5) (g1 := [.va (eRL script), .va (D.int cell_here), .ow (List.map D.str names_here), .va (D.int many), .ow (List.map eD u12.1), .ow (List.map (eP2 D.str D.int) (List.reverse u12.2)), s2, .un, s1, .un, .un, .un, .un]) rfl (by simp only [List.map_reverse]; rfl) ?_
    refine j_lt (fun (rounds'3 : (List (Str × Int))) => [.va (eRL script), .va (D.int cell_here), .ow (List.map D.str names_here), .va (D.int many), .ow (List.map eD u12.1), .ow (List.map (eP2 D.str D.int) rounds'3), s2, .un, s1, .un, .un, .un, .un]) fun rounds'3 => ?_
    exact jn_end rfl
  · exact jn_end rfl
  rintro rounds'4 g rfl
  refine j_setTN (i := 7) (g1 := [.va (eRL script), .va (D.int cell_here), .ow (List.map D.str names_here), .va (D.int many), .ow (List.map eD u12.1), .ow (List.map (eP2 D.str D.int) rounds'4), s2, .ow (List.map (eP3 D.str D.int D.int) []), s1, .un, .un, .un, .un]) (xA xaN (f_lst rfl rfl rfl)) rfl ?_
  refine j_grd fun h18 => ?_
  refine j_for (eP2 D.int D.int) (fun (st : (List (Str × Int × Int))) (g : Gm) => ∃ s4 s5 s6 s7 s8 : Slot, g = [.va (eRL script), .va (D.int cell_here), .ow (List.map D.str names_here), .va (D.int many), .ow (List.map eD u12.1), .ow (List.map (eP2 D.str D.int) rounds'4), s7, .ow (List.map (eP3 D.str D.int D.int) st), s1, s8, s4, s5, s6]) (i_A (xaC (x2 (xA (xaC (xV rfl) xaN) (f_lst rfl rfl rfl)) (x_sl (xV rfl) (x_pS rfl) (x_pS rfl) (f_slR rfl)) (f_addL (e := D.int) (xs := [cell_here]) (ys := (cutL script (some (7 : Int)) (some (13 : Int)))) rfl rfl h18)) xaN) (f_en (e := D.int) (xs := ([cell_here] ++ (cutL script (some (7 : Int)) (some (13 : Int))))) rfl)) rfl ⟨_, _, _, _, _, rfl⟩ ?_ ?_
  · rintro e9 hx st9 g ⟨s4, s5, s6, s7, s8, rfl⟩
    refine ⟨[.va (eRL script), .va (D.int cell_here), .ow (List.map D.str names_here), .va (D.int many), .ow (List.map eD u12.1), .ow (List.map (eP2 D.str D.int) rounds'4), .va (D.int e9.1), .ow (List.map (eP3 D.str D.int D.int) st9), s1, .va (D.int e9.2), s4, s5, s6], rfl, ?_⟩
    refine j_b1 fun drawn h19 => ?_
    refine j_setN (i := 10) (g1 := [.va (eRL script), .va (D.int cell_here), .ow (List.map D.str names_here), .va (D.int many), .ow (List.map eD u12.1), .ow (List.map (eP2 D.str D.int) rounds'4), .va (D.int e9.1), .ow (List.map (eP3 D.str D.int D.int) st9), s1, .va (D.int e9.2), .va (D.int drawn), s5, s6]) (xA (xaC (xV rfl) (xaC (x2 rfl (xV rfl) (oAdd_int _ _)) (xaC rfl xaN))) (f_call (@sim__law_mix e9.2 ((47 : Int) + e9.1) (1000033 : Int) _ h19) rfl (.inl rfl))) rfl ?_
    refine j_b1 fun begin h20 => ?_
    refine j_setN (i := 11) (g1 := [.va (eRL script), .va (D.int cell_here), .ow (List.map D.str names_here), .va (D.int many), .ow (List.map eD u12.1), .ow (List.map (eP2 D.str D.int) rounds'4), .va (D.int e9.1), .ow (List.map (eP3 D.str D.int D.int) st9), s1, .va (D.int e9.2), .va (D.int drawn), .va (D.int begin), s6]) (x2 (xA (xaC rfl (xaC (x2 (x2 (xV rfl) rfl (f_divK (by decide))) rfl (f_modK (by decide))) (xaC rfl xaN))) (f_lst rfl rfl rfl)) (x2 (xV rfl) rfl (f_modK (by decide))) (f_ixL (e := D.int) (xs := [(0 : Int), ((drawn / (12 : Int)) % (10000 : Int)), (9999 : Int)]) rfl h20)) rfl ?_
    refine j_grd fun h21 => ?_
    refine j_b1 fun end_v h22 => ?_
    refine j_setN (i := 12) (g1 := [.va (eRL script), .va (D.int cell_here), .ow (List.map D.str names_here), .va (D.int many), .ow (List.map eD u12.1), .ow (List.map (eP2 D.str D.int) rounds'4), .va (D.int e9.1), .ow (List.map (eP3 D.str D.int D.int) st9), s1, .va (D.int e9.2), .va (D.int drawn), .va (D.int begin), .va (D.int end_v)]) (x2 (xA (xaC (x2 (xV rfl) rfl (oAdd_int _ _)) (xaC rfl (xaC (x2 (x2 (xV rfl) rfl (oAdd_int _ _)) (x2 (x2 (xV rfl) rfl (f_divK (by decide))) (x2 rfl (xV rfl) (oSub_def _ _)) (f_mod h21)) (oAdd_int _ _)) xaN))) (f_lst rfl rfl rfl)) (x2 (x2 (xV rfl) rfl (f_divK (by decide))) rfl (f_modK (by decide))) (f_ixL (e := D.int) (xs := [(begin + (1 : Int)), (10000 : Int), ((begin + (1 : Int)) + (Int.fmod (drawn / (40 : Int)) ((10000 : Int) - begin)))]) rfl h22)) rfl ?_
    refine j_joinB (St := fun (st : (List (Str × Int × Int))) (g : Gm) => g = [.va (eRL script), .va (D.int cell_here), .ow (List.map D.str names_here), .va (D.int many), .ow (List.map eD u12.1), .ow (List.map (eP2 D.str D.int) rounds'4), .va (D.int e9.1), .ow (List.map (eP3 D.str D.int D.int) st), s1, .va (D.int e9.2), .va (D.int drawn), .va (D.int begin), .va (D.int end_v)]) (t_val (x2 (x2 (x2 (xV rfl) rfl (f_divK (by decide))) rfl (f_modK (by decide))) rfl (oGt_def _ _))) (fun hc => ?_) (fun hc => ?_) ?_
    · refine j_grd fun h23 => ?_
      refine j_b1 fun t17 h24 => ?_
      refine j_grd fun h25 => ?_
      refine j_appE (i := 7) (g1 := [.va (eRL script), .va (D.int cell_here), .ow (List.map D.str names_here), .va (D.int many), .ow (List.map eD u12.1), .ow (List.map (eP2 D.str D.int) rounds'4), .va (D.int e9.1), .ow (List.map (eP3 D.str D.int D.int) (st9 ++ [(t17, begin, end_v)])), s1, .va (D.int e9.2), .va (D.int drawn), .va (D.int begin), .va (D.int end_v)]) (eP3 D.str D.int D.int) st9 (t17, begin, end_v) rfl (xA (xaC (x2 (xW rfl) (x2 (x2 (xV rfl) rfl (f_divK (by decide))) (xV rfl) (f_mod h23)) (f_ixL (e := D.str) (xs := names_here) rfl h24)) (xaC (xV rfl) (xaC (xV rfl) xaN))) (f_tup rfl rfl rfl)) rfl rfl h25 rfl ?_
      refine j_lt (fun (shuts' : (List (Str × Int × Int))) => [.va (eRL script), .va (D.int cell_here), .ow (List.map D.str names_here), .va (D.int many), .ow (List.map eD u12.1), .ow (List.map (eP2 D.str D.int) rounds'4), .va (D.int e9.1), .ow (List.map (eP3 D.str D.int D.int) shuts'), s1, .va (D.int e9.2), .va (D.int drawn), .va (D.int begin), .va (D.int end_v)]) fun shuts' => ?_
      exact jn_end rfl
    · exact jn_end rfl
    rintro shuts'2 g rfl
    exact jt_end ⟨_, _, _, _, _, rfl⟩
  rintro shuts'3 g ⟨s4, s5, s6, s7, s8, rfl⟩
  refine j_fzO (g1 := [.va (eRL script), .va (D.int cell_here), .ow (List.map D.str names_here), .va (D.int many), .ow (List.map eD u12.1), .ow (List.map (eP2 D.str D.int) rounds'4), s7, .va ((eL (eP3 D.str D.int D.int)) shuts'3), s1, s8, s4, s5, s6]) rfl rfl ?_
  refine j_fzO (g1 := [.va (eRL script), .va (D.int cell_here), .ow (List.map D.str names_here), .va (D.int many), .ow (List.map eD u12.1), .va ((eL (eP2 D.str D.int)) rounds'4), s7, .va ((eL (eP3 D.str D.int D.int)) shuts'3), s1, s8, s4, s5, s6]) rfl rfl ?_
  refine j_fzO (g1 := [.va (eRL script), .va (D.int cell_here), .ow (List.map D.str names_here), .va (D.int many), .va ((eL eD) u12.1), .va ((eL (eP2 D.str D.int)) rounds'4), s7, .va ((eL (eP3 D.str D.int D.int)) shuts'3), s1, s8, s4, s5, s6]) rfl rfl ?_
  refine j_fzO (g1 := [.va (eRL script), .va (D.int cell_here), .va ((eL D.str) names_here), .va (D.int many), .va ((eL eD) u12.1), .va ((eL (eP2 D.str D.int)) rounds'4), s7, .va ((eL (eP3 D.str D.int D.int)) shuts'3), s1, s8, s4, s5, s6]) rfl rfl ?_
  exact j_ret (xA (xaC (xV rfl) (xaC (xV rfl) (xaC (xV rfl) (xaC (xV rfl) xaN)))) (f_tup rfl rfl rfl)) rfl
noncomputable def sh__law_pieces (pieces_here : (List D)) : Option (List Pc) :=
  b1 (forO (fun (e2 : D) (st2 : (List Pc)) =>
      b1 (ixD' e2 (0 : Int)) fun t1 =>
      b1 (eqD t1 (D.str ("open" : Str))) fun t2 =>
      b1 (if (t2) = true then
          b1 (ixD' e2 (1 : Int)) fun t3 =>
          b1 (dInt t3) fun t4 =>
          grd (List.length st2 < 16777216) <|
          lt (st2 ++ [(Sum.inl t4)]) fun (found' : (List Pc)) =>
          some found'
        else
          b1 (ixD' e2 (1 : Int)) fun t5 =>
          b1 (dStr t5) fun t6 =>
          b1 (ixD' e2 (2 : Int)) fun t7 =>
          b1 (dInt t7) fun t8 =>
          b1 (ixD' e2 (3 : Int)) fun t9 =>
          b1 (dInt t9) fun t10 =>
          b1 (ixD' e2 (4 : Int)) fun t11 =>
          b1 (dInt t11) fun t12 =>
          b1 (ixD' e2 (5 : Int)) fun t13 =>
          b1 (dInt t13) fun t14 =>
          grd (List.length st2 < 16777216) <|
          lt (st2 ++ [(Sum.inr (Bg.mk t6 t8 t10 t12 t14))]) fun (found'2 : (List Pc)) =>
          some found'2) fun found'3 =>
      some found'3) pieces_here []) fun found'4 =>
  some found'4
set_option maxHeartbeats 2000000 in
theorem sim__law_pieces {pieces_here : (List D)} {r : (List Pc)} (e : sh__law_pieces pieces_here = some r) : φ__law_pieces [(eL eD) pieces_here] = some ((fun v => R.tm (List.map insP v)) r) := by
  refine sim_phi (m := m__law_pieces) (N := 3) (n := 1) (ds := [(eL eD) pieces_here]) (s := sh__law_pieces pieces_here) (k := (fun v => R.tm (List.map insP v))) rfl ?_ e
  show J m__law_pieces nxt [.va ((eL eD) pieces_here), .un, .un] (sh__law_pieces pieces_here) (PF (fun v => R.tm (List.map insP v)))
  unfold m__law_pieces sh__law_pieces
  refine j_setTN (i := 1) (g1 := [.va ((eL eD) pieces_here), .ow (List.map insP []), .un]) (xA xaN (f_lst rfl rfl rfl)) rfl ?_
  refine j_for eD (fun (st : (List Pc)) (g : Gm) => ∃ s1 : Slot, g = [.va ((eL eD) pieces_here), .ow (List.map insP st), s1]) (i_seq (xV rfl) rfl) rfl ⟨_, rfl⟩ ?_ ?_
  · rintro e2 hx st2 g ⟨s1, rfl⟩
    refine ⟨[.va ((eL eD) pieces_here), .ow (List.map insP st2), .va (eD e2)], rfl, ?_⟩
    refine j_b1 fun t1 h1 => ?_
    refine j_b1 fun t2 h2 => ?_
    refine j_joinB (St := fun (st : (List Pc)) (g : Gm) => g = [.va ((eL eD) pieces_here), .ow (List.map insP st), .va (eD e2)]) (t_val (x2 (x2 (xV rfl) rfl (f_ixD h1)) rfl (f_eq (eqD_R h2 rfl rfl)))) (fun hc => ?_) (fun hc => ?_) ?_
    · refine j_b1 fun t3 h3 => ?_
      refine j_b1 fun t4 h4 => ?_
      refine j_grd fun h5 => ?_
      refine j_appE (i := 1) (g1 := [.va ((eL eD) pieces_here), .ow (List.map insP (st2 ++ [(Sum.inl t4)])), .va (eD e2)]) insP st2 (Sum.inl t4) rfl (xA (xaC (x_dInt (x2 (xV rfl) rfl (f_ixD h3)) h4) xaN) (f_make rfl rfl rfl)) rfl rfl h5 rfl ?_
      refine j_lt (fun (found' : (List Pc)) => [.va ((eL eD) pieces_here), .ow (List.map insP found'), .va (eD e2)]) fun found' => ?_
      exact jn_end rfl
    · refine j_b1 fun t5 h6 => ?_
      refine j_b1 fun t6 h7 => ?_
      refine j_b1 fun t7 h8 => ?_
      refine j_b1 fun t8 h9 => ?_
      refine j_b1 fun t9 h10 => ?_
      refine j_b1 fun t10 h11 => ?_
      refine j_b1 fun t11 h12 => ?_
      refine j_b1 fun t12 h13 => ?_
      refine j_b1 fun t13 h14 => ?_
      refine j_b1 fun t14 h15 => ?_
      refine j_grd fun h16 => ?_
      refine j_appE (i := 1) (g1 := [.va ((eL eD) pieces_here), .ow (List.map insP (st2 ++ [(Sum.inr (Bg.mk t6 t8 t10 t12 t14))])), .va (eD e2)]) insP st2 (Sum.inr (Bg.mk t6 t8 t10 t12 t14)) rfl (xA (xaC (x_dStr (x2 (xV rfl) rfl (f_ixD h6)) h7) (xaC (x_dInt (x2 (xV rfl) rfl (f_ixD h8)) h9) (xaC (x_dInt (x2 (xV rfl) rfl (f_ixD h10)) h11) (xaC (x_dInt (x2 (xV rfl) rfl (f_ixD h12)) h13) (xaC (x_dInt (x2 (xV rfl) rfl (f_ixD h14)) h15) xaN))))) (f_make rfl rfl rfl)) rfl rfl h16 rfl ?_
      refine j_lt (fun (found'2 : (List Pc)) => [.va ((eL eD) pieces_here), .ow (List.map insP found'2), .va (eD e2)]) fun found'2 => ?_
      exact jn_end rfl
    rintro found'3 g rfl
    exact jt_end ⟨_, rfl⟩
  rintro found'4 g ⟨s1, rfl⟩
  exact j_ret (xW rfl) rfl
theorem zipL_same : ∀ xs : List D, zipL xs xs = xs.map fun x => .tup [x, x]
  | [] => rfl
  | x :: xs => by
    rw [List.map_cons, ← zipL_same xs]
    rfl
theorem alike_same (φ : Phi) (mk : List D → D) (xs : List D) (hm : mk = .lst ∨ mk = .tup) (hl : xs.length ≤ 1000000) (ih : ∀ x ∈ xs, φo__law_same φ [x, x] = some (.va (.bl true))) : phi (mr__law_alike φ) 4 2 [mk xs, mk xs] = some (.va (.bl true)) := by
  have hcp := compL_map (gT (gC (gN 2) (gC (gN 3) (gE)))) bY (eA (callR (φo__law_same φ) []) (aC (eV 2) (aC (eV 3) (aN)))) [.va (mk xs), .va (mk xs), .un, .un] (fun x : D => D.tup [x, x]) (fun _ => D.bl true) xs (by
    intro x hx rest
    simp [ih x hx])
  have hz := zipL_same xs
  have ha : cAll [R.va (.lst (xs.map fun _ => D.bl true))] = some (.va (.bl true)) := by
    rw [cAll_def (ns := xs.map fun _ => true) (by simp)]
    simp
  have hl2 : xs.length ≤ 16777216 := by omega
  rcases hm with rfl | rfl
  · simp [mr__law_alike, phi_def, hz, hcp, hl2, ha]
  · simp [mr__law_alike, phi_def, hz, hcp, hl2, ha]
theorem same_refl (n : Nat) : ∀ d : D, pl n d = true → φo__law_same (φr__law_alike n) [d, d] = some (.va (.bl true)) := by
  induction n with
  | zero =>
    intro d h
    cases d with
    | non => simp [φo__law_same, mo__law_same, phi_def]
    | bl b => cases b <;> simp [φo__law_same, mo__law_same, phi_def]
    | int i => simp [φo__law_same, mo__law_same, phi_def]
    | str z => simp [φo__law_same, mo__law_same, phi_def]
    | lst xs => cases h
    | tup xs => cases h
    | ins c fs => cases h
    | rol xs => cases h
    | dic ks xs => cases h
    | exc c fs => cases h
  | succ n ih =>
    intro d h
    have hR : φr__law_alike (n + 1) = phi (mr__law_alike (φr__law_alike n)) 4 2 := rfl
    cases d with
    | non => simp [φo__law_same, mo__law_same, phi_def]
    | bl b => cases b <;> simp [φo__law_same, mo__law_same, phi_def]
    | int i => simp [φo__law_same, mo__law_same, phi_def]
    | str z => simp [φo__law_same, mo__law_same, phi_def]
    | lst xs =>
      unfold pl at h
      rw [Bool.and_eq_true, decide_eq_true_eq, List.all_eq_true] at h
      have key := alike_same (φr__law_alike n) .lst xs (.inl rfl) h.1 fun x hx => ih x (h.2 x hx)
      rw [← hR] at key
      generalize φr__law_alike (n + 1) = φ at *
      simp [φo__law_same, mo__law_same, phi_def, key]
    | tup xs =>
      unfold pl at h
      rw [Bool.and_eq_true, decide_eq_true_eq, List.all_eq_true] at h
      have key := alike_same (φr__law_alike n) .tup xs (.inr rfl) h.1 fun x hx => ih x (h.2 x hx)
      rw [← hR] at key
      generalize φr__law_alike (n + 1) = φ at *
      simp [φo__law_same, mo__law_same, phi_def, key]
    | ins c fs => cases h
    | rol xs => cases h
    | dic ks xs => cases h
    | exc c fs => cases h
noncomputable def sh__law_same (a b : D) : Option Bool := sameG a b
theorem sim__law_same {a b : D} {r : Bool} (e : sh__law_same a b = some r) : φ__law_same [eD a, eD b] = some (.va (.bl r)) := by
  obtain ⟨rfl, h, rfl⟩ := sameG_inv e
  exact same_refl 10 a (pl_mono 9 a h)
noncomputable def sh__law_told (piece : Pc) : Option D :=
  if (!isBr piece) = true then
      some ((eP2 D.str D.int) (("open" : Str), (pcLen piece)))
  else
    if (!(isBr piece)) = true then
        some (eU ())
    else
      b1 (pcBr piece) fun t1 =>
      b1 (pcBr piece) fun t2 =>
      b1 (pcBr piece) fun t3 =>
      b1 (pcBr piece) fun t4 =>
      some ((eP6 D.str D.str D.int D.int D.int D.int) (("bridge" : Str), t1.name, (pcLen piece), t2.bears, t3.wide, t4.most))
set_option maxHeartbeats 2000000 in
theorem sim__law_told {piece : Pc} {r : D} (e : sh__law_told piece = some r) : φ__law_told [insP piece] = some ((fun v => R.va (eD v)) r) := by
  refine sim_phi (m := m__law_told) (N := 1) (n := 1) (ds := [insP piece]) (s := sh__law_told piece) (k := (fun v => R.va (eD v))) rfl ?_ e
  show J m__law_told nxt [.va (insP piece)] (sh__law_told piece) (PF (fun v => R.va (eD v)))
  unfold m__law_told sh__law_told
  refine j_if (t_val (x1 (xV rfl) (f_iscOpen _ rfl rfl))) (fun hc => ?_) (fun hc => ?_)
  · exact j_ret (xA (xaC rfl (xaC (x1 (xV rfl) (f_pcLen _)) xaN)) (f_tup rfl rfl rfl)) rfl
  · refine j_nilC ?_
    refine j_if (t_not (t_val (x1 (xV rfl) (f_iscBridge _ rfl rfl)))) (fun hc => ?_) (fun hc => ?_)
    · exact j_ret rfl rfl
    · refine j_nilC ?_
      refine j_b1 fun t1 h1 => ?_
      refine j_b1 fun t2 h2 => ?_
      refine j_b1 fun t3 h3 => ?_
      refine j_b1 fun t4 h4 => ?_
      exact j_ret (xA (xaC rfl (xaC (x1 (x_br (xV rfl) h1) (f_fld rfl)) (xaC (x1 (xV rfl) (f_pcLen _)) (xaC (x1 (x_br (xV rfl) h2) (f_fld rfl)) (xaC (x1 (x_br (xV rfl) h3) (f_fld rfl)) (xaC (x1 (x_br (xV rfl) h4) (f_fld rfl)) xaN)))))) (f_tup rfl rfl rfl)) rfl
noncomputable def sh__law_road_is (road : Rd') (pieces_here : (List D)) (rounds : (List (Str × Int))) (shuts : (List (Str × Int × Int))) : Option Bool :=
  if ((!true) || (!true)) = true then
      some false
  else
    grd (List.length road.pieces ≤ 16777216) <|
    b1 (mapO (fun e1 : Pc => b1 (sh__law_told e1) fun t1 => some t1) road.pieces) fun t2 =>
    b1 (sh__law_same ((eL eD) t2) ((eL eD) pieces_here)) fun t3 =>
    if (!t3) = true then
        some false
    else
      b1 (sh__law_same ((eL (eP2 D.str D.int)) road.rounds) ((eL (eP2 D.str D.int)) rounds)) fun t4 =>
      b1 (if t4 = true then b1 (sh__law_same ((eL (eP3 D.str D.int D.int)) road.shuts) ((eL (eP3 D.str D.int D.int)) shuts)) fun t5 => some t5 else some false) fun t6 =>
      some t6
set_option maxHeartbeats 2000000 in
theorem sim__law_road_is {road : Rd'} {pieces_here : (List D)} {rounds : (List (Str × Int))} {shuts : (List (Str × Int × Int))} {r : Bool} (e : sh__law_road_is road pieces_here rounds shuts = some r) : φ__law_road_is [eRo road, (eL eD) pieces_here, (eL (eP2 D.str D.int)) rounds, (eL (eP3 D.str D.int D.int)) shuts] = some ((fun v => R.va (D.bl v)) r) := by
  refine sim_phi (m := m__law_road_is) (N := 5) (n := 4) (ds := [eRo road, (eL eD) pieces_here, (eL (eP2 D.str D.int)) rounds, (eL (eP3 D.str D.int D.int)) shuts]) (s := sh__law_road_is road pieces_here rounds shuts) (k := (fun v => R.va (D.bl v))) rfl ?_ e
  show J m__law_road_is nxt [.va (eRo road), .va ((eL eD) pieces_here), .va ((eL (eP2 D.str D.int)) rounds), .va ((eL (eP3 D.str D.int D.int)) shuts), .un] (sh__law_road_is road pieces_here rounds shuts) (PF (fun v => R.va (D.bl v)))
  unfold m__law_road_is sh__law_road_is
  refine j_if (t_or (t_not (t_val (x1 (xV rfl) rfl))) (t_not (t_val (f_isi (x1 (xV rfl) (f_fld rfl)) rfl rfl)))) (fun hc => ?_) (fun hc => ?_)
  · exact j_ret rfl rfl
  · refine j_nilC ?_
    refine j_grd fun h1 => ?_
    refine j_b1 fun t2 h3 => ?_
    refine j_b1 fun t3 h4 => ?_
    refine j_if (t_not (t_val (xA (xaC (x_lcO (e := insP) (e' := eD) (xs := road.pieces) (fun y1 => R.va (eD y1)) (i_seq (x1 (xV rfl) (f_fld rfl)) rfl) h1 (fun e1 _ => ⟨[.va (eRo road), .va ((eL eD) pieces_here), .va ((eL (eP2 D.str D.int)) rounds), .va ((eL (eP3 D.str D.int D.int)) shuts), .va (insP e1)], rfl, (sm_b1 fun t1 h2 => (sm_ret (xA (xaC (xV rfl) xaN) (f_call (@sim__law_told e1 _ h2) rfl (.inl rfl))) rfl))⟩) h3) (xaC (xV rfl) xaN)) (f_call (@sim__law_same ((eL eD) t2) ((eL eD) pieces_here) _ h4) rfl (.inl rfl))))) (fun hc => ?_) (fun hc => ?_)
    · exact j_ret rfl rfl
    · refine j_nilC ?_
      refine j_b1 fun t4 h5 => ?_
      refine j_b1 fun t6 h7 => ?_
      exact j_ret (v_andP (xA (xaC (x1 (xV rfl) (f_fld rfl)) (xaC (xV rfl) xaN)) (f_call (@sim__law_same ((eL (eP2 D.str D.int)) road.rounds) ((eL (eP2 D.str D.int)) rounds) _ h5) rfl (.inl rfl))) (fun _ => (sm_b1 fun t5 h6 => (sm_ret (xA (xaC (x1 (xV rfl) (f_fld rfl)) (xaC (xV rfl) xaN)) (f_call (@sim__law_same ((eL (eP3 D.str D.int D.int)) road.shuts) ((eL (eP3 D.str D.int D.int)) shuts) _ h6) rfl (.inl rfl))) rfl))) h7) rfl
noncomputable def sh__law_due (pieces_here : (List D)) (rounds : (List (Str × Int))) (way : (List Bool)) : Option ((List (D × Int)) × Int) :=
  b1 (forO (fun (e4 : (Int × D)) (st4 : (List (D × Int)) × (List Int)) =>
      b1 (ixD' e4.2 (-(1 : Int))) fun t1 =>
      b1 (dInt t1) fun length =>
      b1 (ixD' e4.2 (0 : Int)) fun t3 =>
      b1 (eqD t3 (D.str ("bridge" : Str))) fun t4 =>
      b1 (if (t4) = true then
          b1 (ixD' e4.2 (2 : Int)) fun t5 =>
          b1 (dInt t5) fun length' =>
          b1 (atI way (e4.1 / (2 : Int))) fun t7 =>
          b1 (if t7 = true then
              grd (List.length st4.1 < 16777216) <|
              lt (st4.1 ++ [(e4.2, (List.sum st4.2))]) fun (legs' : (List (D × Int))) =>
              some (legs', length')
            else
              grd (List.length rounds ≤ 16777216) <|
              b1 (fmapO (fun e5 : (Str × Int) => b1 (ixD' e4.2 (1 : Int)) fun t8 => b1 (eqD (D.str e5.1) t8) fun t9 => some (t9)) (fun e5 : (Str × Int) => some e5.2) rounds) fun t10 =>
              b1 (atI t10 (0 : Int)) fun length'2 =>
              some (st4.1, length'2)) fun u12 =>
          some (u12.2, u12.1)
        else
          some (length, st4.1)) fun u13 =>
      grd (List.length st4.2 < 16777216) <|
      lt (st4.2 ++ [u13.1]) fun (far' : (List Int)) =>
      some (u13.2, far')) (enI pieces_here) ([], [])) fun u14 =>
  some (u14.1, (List.sum u14.2))
set_option maxHeartbeats 2000000 in
theorem sim__law_due {pieces_here : (List D)} {rounds : (List (Str × Int))} {way : (List Bool)} {r : ((List (D × Int)) × Int)} (e : sh__law_due pieces_here rounds way = some r) : φ__law_due [(eL eD) pieces_here, (eL (eP2 D.str D.int)) rounds, (eT D.bl) way] = some ((fun v => R.va ((eP2 (eL (eP2 eD D.int)) D.int) v)) r) := by
  refine sim_phi (m := m__law_due) (N := 10) (n := 3) (ds := [(eL eD) pieces_here, (eL (eP2 D.str D.int)) rounds, (eT D.bl) way]) (s := sh__law_due pieces_here rounds way) (k := (fun v => R.va ((eP2 (eL (eP2 eD D.int)) D.int) v))) rfl ?_ e
  show J m__law_due nxt [.va ((eL eD) pieces_here), .va ((eL (eP2 D.str D.int)) rounds), .va ((eT D.bl) way), .un, .un, .un, .un, .un, .un, .un] (sh__law_due pieces_here rounds way) (PF (fun v => R.va ((eP2 (eL (eP2 eD D.int)) D.int) v)))
  unfold m__law_due sh__law_due
  refine j_setTN (i := 3) (g1 := [.va ((eL eD) pieces_here), .va ((eL (eP2 D.str D.int)) rounds), .va ((eT D.bl) way), .ow (List.map D.int []), .un, .un, .un, .un, .un, .un]) (xA xaN (f_lst rfl rfl rfl)) rfl ?_
  refine j_setTN (i := 4) (g1 := [.va ((eL eD) pieces_here), .va ((eL (eP2 D.str D.int)) rounds), .va ((eT D.bl) way), .ow (List.map D.int []), .ow (List.map (eP2 eD D.int) []), .un, .un, .un, .un, .un]) (xA xaN (f_lst rfl rfl rfl)) rfl ?_
  refine j_for (eP2 D.int eD) (fun (st : (List (D × Int)) × (List Int)) (g : Gm) => ∃ s1 s2 s3 : Slot, g = [.va ((eL eD) pieces_here), .va ((eL (eP2 D.str D.int)) rounds), .va ((eT D.bl) way), .ow (List.map D.int st.2), .ow (List.map (eP2 eD D.int) st.1), s2, s3, s1, .un, .un]) (i_A (xaC (xV rfl) xaN) (f_en (e := eD) (xs := pieces_here) rfl)) rfl ⟨_, _, _, rfl⟩ ?_ ?_
  · rintro e4 hx st4 g ⟨s1, s2, s3, rfl⟩
    refine ⟨[.va ((eL eD) pieces_here), .va ((eL (eP2 D.str D.int)) rounds), .va ((eT D.bl) way), .ow (List.map D.int st4.2), .ow (List.map (eP2 eD D.int) st4.1), .va (D.int e4.1), .va (eD e4.2), s1, .un, .un], rfl, ?_⟩
    refine j_b1 fun t1 h1 => ?_
    refine j_b1 fun length h2 => ?_
    refine j_setN (i := 7) (g1 := [.va ((eL eD) pieces_here), .va ((eL (eP2 D.str D.int)) rounds), .va ((eT D.bl) way), .ow (List.map D.int st4.2), .ow (List.map (eP2 eD D.int) st4.1), .va (D.int e4.1), .va (eD e4.2), .va (D.int length), .un, .un]) (x_dInt (x2 (xV rfl) (x1 rfl (uNeg_def _)) (f_ixD h1)) h2) rfl ?_
    refine j_b1 fun t3 h3 => ?_
    refine j_b1 fun t4 h4 => ?_
    refine j_joinB (St := fun (st : Int × (List (D × Int))) (g : Gm) => g = [.va ((eL eD) pieces_here), .va ((eL (eP2 D.str D.int)) rounds), .va ((eT D.bl) way), .ow (List.map D.int st4.2), .ow (List.map (eP2 eD D.int) st.2), .va (D.int e4.1), .va (eD e4.2), .va (D.int st.1), .un, .un]) (t_val (x2 (x2 (xV rfl) rfl (f_ixD h3)) rfl (f_eq (eqD_R h4 rfl rfl)))) (fun hc => ?_) (fun hc => ?_) ?_
    · refine j_b1 fun t5 h5 => ?_
      refine j_b1 fun length' h6 => ?_
      refine j_setN (i := 7) (g1 := [.va ((eL eD) pieces_here), .va ((eL (eP2 D.str D.int)) rounds), .va ((eT D.bl) way), .ow (List.map D.int st4.2), .ow (List.map (eP2 eD D.int) st4.1), .va (D.int e4.1), .va (eD e4.2), .va (D.int length'), .un, .un]) (x_dInt (x2 (xV rfl) rfl (f_ixD h5)) h6) rfl ?_
      refine j_b1 fun t7 h7 => ?_
      refine j_joinB (St := fun (st : (List (D × Int)) × Int) (g : Gm) => g = [.va ((eL eD) pieces_here), .va ((eL (eP2 D.str D.int)) rounds), .va ((eT D.bl) way), .ow (List.map D.int st4.2), .ow (List.map (eP2 eD D.int) st.1), .va (D.int e4.1), .va (eD e4.2), .va (D.int st.2), .un, .un]) (t_val (x2 (xV rfl) (x2 (xV rfl) rfl (f_divK (by decide))) (f_ixT (e := D.bl) (xs := way) rfl h7))) (fun hc => ?_) (fun hc => ?_) ?_
      · refine j_grd fun h8 => ?_
        refine j_appE (i := 4) (g1 := [.va ((eL eD) pieces_here), .va ((eL (eP2 D.str D.int)) rounds), .va ((eT D.bl) way), .ow (List.map D.int st4.2), .ow (List.map (eP2 eD D.int) (st4.1 ++ [(e4.2, (List.sum st4.2))])), .va (D.int e4.1), .va (eD e4.2), .va (D.int length'), .un, .un]) (eP2 eD D.int) st4.1 (e4.2, (List.sum st4.2)) rfl (xA (xaC (xV rfl) (xaC (xA (xaC (xW rfl) xaN) (f_sum (ns := st4.2) rfl)) xaN)) (f_tup rfl rfl rfl)) rfl rfl h8 rfl ?_
        refine j_lt (fun (legs' : (List (D × Int))) => [.va ((eL eD) pieces_here), .va ((eL (eP2 D.str D.int)) rounds), .va ((eT D.bl) way), .ow (List.map D.int st4.2), .ow (List.map (eP2 eD D.int) legs'), .va (D.int e4.1), .va (eD e4.2), .va (D.int length'), .un, .un]) fun legs' => ?_
        exact jn_end rfl
      · refine j_grd fun h9 => ?_
        refine j_b1 fun t10 h12 => ?_
        refine j_b1 fun length'2 h13 => ?_
        refine j_setN (i := 7) (g1 := [.va ((eL eD) pieces_here), .va ((eL (eP2 D.str D.int)) rounds), .va ((eT D.bl) way), .ow (List.map D.int st4.2), .ow (List.map (eP2 eD D.int) st4.1), .va (D.int e4.1), .va (eD e4.2), .va (D.int length'2), .un, .un]) (x2 (x_lcFO (e := (eP2 D.str D.int)) (e' := D.int) (xs := rounds) (fun y5 => R.va (D.int y5)) (i_seq (xV rfl) rfl) h9 (fun e5 _ => ⟨[.va ((eL eD) pieces_here), .va ((eL (eP2 D.str D.int)) rounds), .va ((eT D.bl) way), .ow (List.map D.int st4.2), .ow (List.map (eP2 eD D.int) st4.1), .va (D.int e4.1), .va (eD e4.2), .va (D.int length'), .va (D.str e5.1), .va (D.int e5.2)], rfl, (sm_b1 fun t8 h10 => (sm_b1 fun t9 h11 => (sm_ret (t_val (x2 (xV rfl) (x2 (xV rfl) rfl (f_ixD h10)) (f_eq (eqD_R h11 rfl rfl)))) rfl))), (sm_ret (xV rfl) rfl)⟩) h12) rfl (f_ixL (e := D.int) (xs := t10) rfl h13)) rfl ?_
        exact jn_end rfl
      rintro u12 g rfl
      exact jn_end rfl
    · exact jn_end rfl
    rintro u13 g rfl
    refine j_grd fun h14 => ?_
    refine j_appE (i := 3) (g1 := [.va ((eL eD) pieces_here), .va ((eL (eP2 D.str D.int)) rounds), .va ((eT D.bl) way), .ow (List.map D.int (st4.2 ++ [u13.1])), .ow (List.map (eP2 eD D.int) u13.2), .va (D.int e4.1), .va (eD e4.2), .va (D.int u13.1), .un, .un]) D.int st4.2 u13.1 rfl (xV rfl) rfl rfl h14 rfl ?_
    refine j_lt (fun (far' : (List Int)) => [.va ((eL eD) pieces_here), .va ((eL (eP2 D.str D.int)) rounds), .va ((eT D.bl) way), .ow (List.map D.int far'), .ow (List.map (eP2 eD D.int) u13.2), .va (D.int e4.1), .va (eD e4.2), .va (D.int u13.1), .un, .un]) fun far' => ?_
    exact jt_end ⟨_, _, _, rfl⟩
  rintro u14 g ⟨s1, s2, s3, rfl⟩
  refine j_fzO (g1 := [.va ((eL eD) pieces_here), .va ((eL (eP2 D.str D.int)) rounds), .va ((eT D.bl) way), .ow (List.map D.int u14.2), .va ((eL (eP2 eD D.int)) u14.1), s2, s3, s1, .un, .un]) rfl rfl ?_
  exact j_ret (xA (xaC (xV rfl) (xaC (xA (xaC (xW rfl) xaN) (f_sum (ns := u14.2) rfl)) xaN)) (f_tup rfl rfl rfl)) rfl
noncomputable def sh__law_asked (road : Rd') (pieces_here : (List D)) (rounds : (List (Str × Int))) (way : (List Bool)) : Option Bool :=
  b1 (sh__law_due pieces_here rounds way) fun t1 =>
  b1 (sh_legs_of road way) fun found =>
  b1 (if (!true) = true then some true else grd (List.length found ≤ 16777216) <| some (!(List.all (List.map (fun e1 : (Bg × Int) => (true && (decide ((2 : Int) = (2 : Int))))) found) id))) fun t3 =>
  if t3 = true then
      some false
  else
    grd (List.length found ≤ 16777216) <|
    b1 (mapO (fun e2 : (Bg × Int) => b1 (sh__law_told (Sum.inr e2.1)) fun t4 => some (t4, e2.2)) found) fun told_here =>
    grd (List.length found < 16777216) <|
    b1 (sh__law_same ((eL (eP2 eD D.int)) told_here) ((eL (eP2 eD D.int)) t1.1)) fun t6 =>
    b1 (if t6 = true then b1 (sh_length_of road way) fun t7 => b1 (sh__law_same (D.int t7) (D.int t1.2)) fun t8 => some t8 else some false) fun t9 =>
    some t9
set_option maxHeartbeats 2000000 in
theorem sim__law_asked {road : Rd'} {pieces_here : (List D)} {rounds : (List (Str × Int))} {way : (List Bool)} {r : Bool} (e : sh__law_asked road pieces_here rounds way = some r) : φ__law_asked [eRo road, (eL eD) pieces_here, (eL (eP2 D.str D.int)) rounds, (eT D.bl) way] = some ((fun v => R.va (D.bl v)) r) := by
  refine sim_phi (m := m__law_asked) (N := 11) (n := 4) (ds := [eRo road, (eL eD) pieces_here, (eL (eP2 D.str D.int)) rounds, (eT D.bl) way]) (s := sh__law_asked road pieces_here rounds way) (k := (fun v => R.va (D.bl v))) rfl ?_ e
  show J m__law_asked nxt [.va (eRo road), .va ((eL eD) pieces_here), .va ((eL (eP2 D.str D.int)) rounds), .va ((eT D.bl) way), .un, .un, .un, .un, .un, .un, .un] (sh__law_asked road pieces_here rounds way) (PF (fun v => R.va (D.bl v)))
  unfold m__law_asked sh__law_asked
  refine j_b1 fun t1 h1 => ?_
  refine j_asg (g1 := [.va (eRo road), .va ((eL eD) pieces_here), .va ((eL (eP2 D.str D.int)) rounds), .va ((eT D.bl) way), .un, .un, .va ((eL (eP2 eD D.int)) t1.1), .va (D.int t1.2), .un, .un, .un]) (xA (xaC (xV rfl) (xaC (xV rfl) (xaC (xV rfl) xaN))) (f_call (@sim__law_due pieces_here rounds way _ h1) rfl (.inl rfl))) rfl ?_
  refine j_b1 fun found h2 => ?_
  refine j_setTN (i := 4) (g1 := [.va (eRo road), .va ((eL eD) pieces_here), .va ((eL (eP2 D.str D.int)) rounds), .va ((eT D.bl) way), .ow (List.map (eP2 insB D.int) found), .un, .va ((eL (eP2 eD D.int)) t1.1), .va (D.int t1.2), .un, .un, .un]) (xA (xaC (xV rfl) (xaC (xV rfl) xaN)) (f_call (@sim_legs_of road way _ h2) rfl (.inl rfl))) rfl ?_
  refine j_b1 fun t3 h4 => ?_
  refine j_if (t_orP (t_not (t_val (f_isi (xW rfl) rfl rfl))) (fun _ => (sm_grd fun h3 => (sm_ret (t_not (t_val (xA (xaC (x_lc (e := (eP2 insB D.int)) (e' := D.bl) (xs := found) (v := fun e1 => (true && (decide ((2 : Int) = (2 : Int))))) (fun e1 => R.va (D.bl (true && (decide ((2 : Int) = (2 : Int)))))) (i_seq (xW rfl) rfl) h3 (fun e1 _ => ⟨[.va (eRo road), .va ((eL eD) pieces_here), .va ((eL (eP2 D.str D.int)) rounds), .va ((eT D.bl) way), .ow (List.map (eP2 insB D.int) found), .un, .va ((eL (eP2 eD D.int)) t1.1), .va (D.int t1.2), .un, .un, .va ((eP2 insB D.int) e1)], rfl, (v_and (f_isi (xV rfl) rfl rfl) (x2 (xA (xaC (xV rfl) xaN) (f_lenC rfl)) rfl (oEq_int _ _)))⟩)) xaN) (f_all (ns := (List.map (fun e1 : (Bg × Int) => (true && (decide ((2 : Int) = (2 : Int))))) found)) rfl)))) rfl))) h4) (fun hc => ?_) (fun hc => ?_)
  · exact j_ret rfl rfl
  · refine j_nilC ?_
    refine j_grd fun h5 => ?_
    refine j_b1 fun told_here h7 => ?_
    refine j_setTN (i := 5) (g1 := [.va (eRo road), .va ((eL eD) pieces_here), .va ((eL (eP2 D.str D.int)) rounds), .va ((eT D.bl) way), .ow (List.map (eP2 insB D.int) found), .ow (List.map (eP2 eD D.int) told_here), .va ((eL (eP2 eD D.int)) t1.1), .va (D.int t1.2), .un, .un, .un]) (x_lcO (e := (eP2 insB D.int)) (e' := (eP2 eD D.int)) (xs := found) (fun y2 => R.va ((eP2 eD D.int) y2)) (i_seq (xW rfl) rfl) h5 (fun e2 _ => ⟨[.va (eRo road), .va ((eL eD) pieces_here), .va ((eL (eP2 D.str D.int)) rounds), .va ((eT D.bl) way), .ow (List.map (eP2 insB D.int) found), .un, .va ((eL (eP2 eD D.int)) t1.1), .va (D.int t1.2), .va (insB e2.1), .va (D.int e2.2), .un], rfl, (sm_b1 fun t4 h6 => (sm_ret (xA (xaC (xA (xaC (xV rfl) xaN) (f_call (@sim__law_told (Sum.inr e2.1) _ h6) rfl (.inl rfl))) (xaC (xV rfl) xaN)) (f_tup rfl rfl rfl)) rfl))⟩) h7) rfl ?_
    refine j_grd fun h8 => ?_
    refine j_app (i := 4) (g1 := [.va (eRo road), .va ((eL eD) pieces_here), .va ((eL (eP2 D.str D.int)) rounds), .va ((eT D.bl) way), .ow (List.map (eP2 insB D.int) found ++ [D.non]), .ow (List.map (eP2 eD D.int) told_here), .va ((eL (eP2 eD D.int)) t1.1), .va (D.int t1.2), .un, .un, .un]) rfl rfl rfl (by simpa only [List.length_map] using h8) rfl ?_
    refine j_fzO (g1 := [.va (eRo road), .va ((eL eD) pieces_here), .va ((eL (eP2 D.str D.int)) rounds), .va ((eT D.bl) way), .ow (List.map (eP2 insB D.int) found ++ [D.non]), .va ((eL (eP2 eD D.int)) told_here), .va ((eL (eP2 eD D.int)) t1.1), .va (D.int t1.2), .un, .un, .un]) rfl rfl ?_
    refine j_b1 fun t6 h9 => ?_
    refine j_b1 fun t9 h12 => ?_
    exact j_ret (v_andP (xA (xaC (xV rfl) (xaC (xV rfl) xaN)) (f_call (@sim__law_same ((eL (eP2 eD D.int)) told_here) ((eL (eP2 eD D.int)) t1.1) _ h9) rfl (.inl rfl))) (fun _ => (sm_b1 fun t7 h10 => (sm_b1 fun t8 h11 => (sm_ret (xA (xaC (xA (xaC (xV rfl) (xaC (xV rfl) xaN)) (f_call (@sim_length_of road way _ h10) rfl (.inl rfl))) (xaC (xV rfl) xaN)) (f_call (@sim__law_same (D.int t7) (D.int t1.2) _ h11) rfl (.inl rfl))) rfl)))) h12) rfl
noncomputable def sh_law (script : (List Int)) : Option Bool :=
  b1 (sh__law_parts script) fun t1 =>
  b1 (sh__law_pieces t1.2.1) fun t2 =>
  lt (Rd'.mk t2 t1.2.2.1 t1.2.2.2) fun (road : Rd') =>
  b1 (sh_ways_of road) fun ways =>
  b1 (atI ways (0 : Int)) fun t4 =>
  b1 (atI ways (-(1 : Int))) fun t5 =>
  lt ([t4, t5]) fun (some_v : (List (List Bool))) =>
  grd (List.length ([(List.length script : Int)] : List Int) + List.length (cutL script (some (7 : Int)) (some (16 : Int))) ≤ 16777216) <|
  b1 (forO (fun (e3 : (Int × Int)) (st3 : (List (List Bool))) =>
      b1 (sh__law_mix e3.2 ((75 : Int) + e3.1) (1000003 : Int)) fun t6 =>
      grd ((List.length ways : Int) ≠ 0) <|
      b1 (atI ways (Int.fmod t6 (List.length ways : Int))) fun t7 =>
      grd (List.length st3 < 16777216) <|
      lt (st3 ++ [t7]) fun (some_v' : (List (List Bool))) =>
      some some_v') (enI ([(List.length script : Int)] ++ (cutL script (some (7 : Int)) (some (16 : Int))))) some_v) fun some_v'2 =>
  b1 (atI some_v'2 (0 : Int)) fun t8 =>
  grd (List.length some_v'2 + List.length ([t8] : List (List Bool)) ≤ 16777216) <|
  b1 (forC (fun (e5 : (List Bool)) (st5 : Unit) =>
      b1 (sh__law_asked road t1.2.1 t1.2.2.1 e5) fun t9 =>
      if (!t9) = true then
          some (.rt false)
      else
        some (.nx ())) (some_v'2 ++ [t8]) ()) fun c => ctl c (fun u10 =>
  b1 (sh__law_road_is road t1.2.1 t1.2.2.1 t1.2.2.2) fun t11 =>
  some t11) fun r => some r
set_option maxHeartbeats 2000000 in
theorem sim_law {script : (List Int)} {r : Bool} (e : sh_law script = some r) : φ_law [eRL script] = some ((fun v => R.va (D.bl v)) r) := by
  refine sim_phi (m := m_law) (N := 11) (n := 1) (ds := [eRL script]) (s := sh_law script) (k := (fun v => R.va (D.bl v))) rfl ?_ e
  show J m_law nxt [.va (eRL script), .un, .un, .un, .un, .un, .un, .un, .un, .un, .un] (sh_law script) (PF (fun v => R.va (D.bl v)))
  unfold m_law sh_law
  refine j_b1 fun t1 h1 => ?_
  refine j_asg (g1 := [.va (eRL script), .un, .un, .un, .un, .va ((eL D.str) t1.1), .va ((eL eD) t1.2.1), .va ((eL (eP2 D.str D.int)) t1.2.2.1), .va ((eL (eP3 D.str D.int D.int)) t1.2.2.2), .un, .un]) (xA (xaC (xV rfl) xaN) (f_call (@sim__law_parts script _ h1) rfl (.inl rfl))) rfl ?_
  refine j_b1 fun t2 h2 => ?_
  refine j_setN (i := 1) (g1 := [.va (eRL script), .va (eRo (Rd'.mk t2 t1.2.2.1 t1.2.2.2)), .un, .un, .un, .va ((eL D.str) t1.1), .va ((eL eD) t1.2.1), .va ((eL (eP2 D.str D.int)) t1.2.2.1), .va ((eL (eP3 D.str D.int D.int)) t1.2.2.2), .un, .un]) (xA (xaC (xA (xaC (xV rfl) xaN) (f_call (@sim__law_pieces t1.2.1 _ h2) rfl (.inl rfl))) (xaC (xV rfl) (xaC (xV rfl) xaN))) (f_make rfl rfl rfl)) rfl ?_
  refine j_lt (fun (road : Rd') => [.va (eRL script), .va (eRo road), .un, .un, .un, .va ((eL D.str) t1.1), .va ((eL eD) t1.2.1), .va ((eL (eP2 D.str D.int)) t1.2.2.1), .va ((eL (eP3 D.str D.int D.int)) t1.2.2.2), .un, .un]) fun road => ?_
  refine j_b1 fun ways h3 => ?_
  refine j_setTN (i := 2) (g1 := [.va (eRL script), .va (eRo road), .ow (List.map (eT D.bl) ways), .un, .un, .va ((eL D.str) t1.1), .va ((eL eD) t1.2.1), .va ((eL (eP2 D.str D.int)) t1.2.2.1), .va ((eL (eP3 D.str D.int D.int)) t1.2.2.2), .un, .un]) (xA (xaC (xV rfl) xaN) (f_call (@sim_ways_of road _ h3) rfl (.inl rfl))) rfl ?_
  refine j_b1 fun t4 h4 => ?_
  refine j_b1 fun t5 h5 => ?_
  refine j_setTN (i := 3) (g1 := [.va (eRL script), .va (eRo road), .ow (List.map (eT D.bl) ways), .ow (List.map (eT D.bl) [t4, t5]), .un, .va ((eL D.str) t1.1), .va ((eL eD) t1.2.1), .va ((eL (eP2 D.str D.int)) t1.2.2.1), .va ((eL (eP3 D.str D.int D.int)) t1.2.2.2), .un, .un]) (xA (xaC (x2 (xW rfl) rfl (f_ixL (e := (eT D.bl)) (xs := ways) rfl h4)) (xaC (x2 (xW rfl) (x1 rfl (uNeg_def _)) (f_ixL (e := (eT D.bl)) (xs := ways) rfl h5)) xaN)) (f_lst rfl rfl rfl)) rfl ?_
  refine j_lt (fun (some_v : (List (List Bool))) => [.va (eRL script), .va (eRo road), .ow (List.map (eT D.bl) ways), .ow (List.map (eT D.bl) some_v), .un, .va ((eL D.str) t1.1), .va ((eL eD) t1.2.1), .va ((eL (eP2 D.str D.int)) t1.2.2.1), .va ((eL (eP3 D.str D.int D.int)) t1.2.2.2), .un, .un]) fun some_v => ?_
  refine j_grd fun h6 => ?_
  refine j_for (eP2 D.int D.int) (fun (st : (List (List Bool))) (g : Gm) => ∃ s1 s2 : Slot, g = [.va (eRL script), .va (eRo road), .ow (List.map (eT D.bl) ways), .ow (List.map (eT D.bl) st), .un, .va ((eL D.str) t1.1), .va ((eL eD) t1.2.1), .va ((eL (eP2 D.str D.int)) t1.2.2.1), .va ((eL (eP3 D.str D.int D.int)) t1.2.2.2), s1, s2]) (i_A (xaC (x2 (xA (xaC (xA (xaC (xV rfl) xaN) (f_lenR rfl)) xaN) (f_lst rfl rfl rfl)) (x_sl (xV rfl) (x_pS rfl) (x_pS rfl) (f_slR rfl)) (f_addL (e := D.int) (xs := [(List.length script : Int)]) (ys := (cutL script (some (7 : Int)) (some (16 : Int)))) rfl rfl h6)) xaN) (f_en (e := D.int) (xs := ([(List.length script : Int)] ++ (cutL script (some (7 : Int)) (some (16 : Int))))) rfl)) rfl ⟨_, _, rfl⟩ ?_ ?_
  · rintro e3 hx st3 g ⟨s1, s2, rfl⟩
    refine ⟨[.va (eRL script), .va (eRo road), .ow (List.map (eT D.bl) ways), .ow (List.map (eT D.bl) st3), .un, .va ((eL D.str) t1.1), .va ((eL eD) t1.2.1), .va ((eL (eP2 D.str D.int)) t1.2.2.1), .va ((eL (eP3 D.str D.int D.int)) t1.2.2.2), .va (D.int e3.1), .va (D.int e3.2)], rfl, ?_⟩
    refine j_b1 fun t6 h7 => ?_
    refine j_grd fun h8 => ?_
    refine j_b1 fun t7 h9 => ?_
    refine j_grd fun h10 => ?_
    refine j_appE (i := 3) (g1 := [.va (eRL script), .va (eRo road), .ow (List.map (eT D.bl) ways), .ow (List.map (eT D.bl) (st3 ++ [t7])), .un, .va ((eL D.str) t1.1), .va ((eL eD) t1.2.1), .va ((eL (eP2 D.str D.int)) t1.2.2.1), .va ((eL (eP3 D.str D.int D.int)) t1.2.2.2), .va (D.int e3.1), .va (D.int e3.2)]) (eT D.bl) st3 t7 rfl (x2 (xW rfl) (x2 (xA (xaC (xV rfl) (xaC (x2 rfl (xV rfl) (oAdd_int _ _)) (xaC rfl xaN))) (f_call (@sim__law_mix e3.2 ((75 : Int) + e3.1) (1000003 : Int) _ h7) rfl (.inl rfl))) (xA (xaC (xW rfl) xaN) (f_lenL (e := (eT D.bl)) (xs := ways) rfl)) (f_mod h8)) (f_ixL (e := (eT D.bl)) (xs := ways) rfl h9)) rfl rfl h10 rfl ?_
    refine j_lt (fun (some_v' : (List (List Bool))) => [.va (eRL script), .va (eRo road), .ow (List.map (eT D.bl) ways), .ow (List.map (eT D.bl) some_v'), .un, .va ((eL D.str) t1.1), .va ((eL eD) t1.2.1), .va ((eL (eP2 D.str D.int)) t1.2.2.1), .va ((eL (eP3 D.str D.int D.int)) t1.2.2.2), .va (D.int e3.1), .va (D.int e3.2)]) fun some_v' => ?_
    exact jt_end ⟨_, _, rfl⟩
  rintro some_v'2 g ⟨s1, s2, rfl⟩
  refine j_b1 fun t8 h11 => ?_
  refine j_grd fun h12 => ?_
  refine j_forC (eT D.bl) (fun (st : Unit) (g : Gm) => ∃ s4 : Slot, g = [.va (eRL script), .va (eRo road), .ow (List.map (eT D.bl) ways), .ow (List.map (eT D.bl) some_v'2), s4, .va ((eL D.str) t1.1), .va ((eL eD) t1.2.1), .va ((eL (eP2 D.str D.int)) t1.2.2.1), .va ((eL (eP3 D.str D.int D.int)) t1.2.2.2), s1, s2]) (fun v => R.va (D.bl v)) (i_seq (x2 (xW rfl) (xA (xaC (x2 (xW rfl) rfl (f_ixL (e := (eT D.bl)) (xs := some_v'2) rfl h11)) xaN) (f_lst rfl rfl rfl)) (f_addL (e := (eT D.bl)) (xs := some_v'2) (ys := [t8]) rfl rfl h12)) rfl) rfl ⟨_, rfl⟩ ?_ ?_ ?_
  · rintro e5 hx st5 g ⟨s4, rfl⟩
    refine ⟨[.va (eRL script), .va (eRo road), .ow (List.map (eT D.bl) ways), .ow (List.map (eT D.bl) some_v'2), .va ((eT D.bl) e5), .va ((eL D.str) t1.1), .va ((eL eD) t1.2.1), .va ((eL (eP2 D.str D.int)) t1.2.2.1), .va ((eL (eP3 D.str D.int D.int)) t1.2.2.2), s1, s2], rfl, ?_⟩
    refine j_b1 fun t9 h13 => ?_
    refine j_if (t_not (t_val (xA (xaC (xV rfl) (xaC (xV rfl) (xaC (xV rfl) (xaC (xV rfl) xaN)))) (f_call (@sim__law_asked road t1.2.1 t1.2.2.1 e5 _ h13) rfl (.inl rfl))))) (fun hc => ?_) (fun hc => ?_)
    · exact jc_ret rfl rfl
    · refine j_nilC ?_
      exact jc_end ⟨_, rfl⟩
  · rintro ⟨⟩ g ⟨s4, rfl⟩
    refine j_b1 fun t11 h14 => ?_
    exact j_ret (xA (xaC (xV rfl) (xaC (xV rfl) (xaC (xV rfl) (xaC (xV rfl) xaN)))) (f_call (@sim__law_road_is road t1.2.1 t1.2.2.1 t1.2.2.2 _ h14) rfl (.inl rfl))) rfl
  · exact fun r => sm_ret rfl rfl
end G
namespace G
open PySem L2 BK
set_option autoImplicit false
-- bridges_of
-- round_of
theorem round_sh (road : Rd') (x : Str) : sh_round_of road x = some (roundQ road.rounds x) := by
  unfold sh_round_of
  rw [forC_find (fun r : Str × Int => decide (r.1 = x)) (fun r => some r.2)]
  · unfold roundQ
    cases road.rounds.find? (fun r => decide (r.1 = x)) <;> rfl
  · intro r _
    by_cases h : r.1 = x <;> simp [h]
-- ways_of
theorem ways_sh (road : Rd') (hl : road.pieces.length ≤ 100000) (hb : (brs road.pieces).length ≤ 20) : sh_ways_of road = some (waysL (freeQ road.rounds (brs road.pieces))) := by
  refine Gs.eq ?_
  unfold sh_ways_of
  refine gs_lt ?_
  unfold sh_bridges_of
  rw [grd_pos (by omega), b1_some]
  refine gs_forO (fun pre st => st = waysL (freeQ road.rounds pre)) rfl ?_ fun st h => gs_some h
  rintro pre b st hx rfl
  have hp := (get_split hx).2.2
  refine gs_lt ?_
  rw [round_sh, b1_some]
  refine gs_b1 (Q := fun c => c = chL (roundQ road.rounds b.name).isSome) (gs_if (fun h => gs_lt (gs_some ?_)) fun h => gs_some ?_) fun ch hch => ?_
  · rw [h]; rfl
  · rw [h]; rfl
  have hsz := waysL_size (freeQ road.rounds pre)
  have hfl : (freeQ road.rounds pre).length = pre.length := by unfold freeQ; rw [List.length_map]
  rw [hfl] at hsz
  have hp20 : (2 : Nat) ^ pre.length ≤ 2 ^ 19 := Nat.pow_le_pow_right (by omega) (by omega)
  have hcl : ch.length ≤ 2 := by rw [hch]; unfold chL; split <;> simp
  refine gs_forO (fun p2 s2 => s2 = p2.flatMap fun w => ch.map fun c => w ++ [c]) rfl ?_ ?_
  · rintro p2 w s2 hx2 rfl
    have hp2 := (get_split hx2).2.2
    refine gs_grd (by omega) ?_
    have hw : w ∈ waysL (freeQ road.rounds pre) := by
      obtain ⟨q, hq⟩ := hx2
      rw [hq]; simp
    have hwl := waysL_len _ w hw
    rw [hfl] at hwl
    have hm : mapO (fun e8 : Bool => grd (List.length w + List.length ([e8] : List Bool) ≤ 16777216) <| some (w ++ [e8])) ch = some (ch.map fun c => w ++ [c]) := mapO_eq _ fun x _ => by
      rw [grd_pos (by rw [List.length_singleton]; omega)]
    rw [hm, b1_some]
    have hfm : ∀ l : List (List Bool), (l.flatMap fun w => ch.map fun c => w ++ [c]).length ≤ 2 * l.length := by
      intro l
      induction l with
      | nil => simp
      | cons a l ih2 =>
        rw [List.flatMap_cons, List.length_append, List.length_map, List.length_cons]
        omega
    have := hfm p2
    refine gs_grd (by rw [List.length_map]; omega) ?_
    refine gs_lt (gs_some ?_)
    rw [List.flatMap_append]
    simp
  · rintro s2 rfl
    refine gs_some ?_
    have : freeQ road.rounds (pre ++ [b]) = freeQ road.rounds pre ++ [(roundQ road.rounds b.name).isSome] := by
      unfold freeQ
      rw [List.map_append, List.map_singleton]
    rw [this, waysL_snoc, hch]
-- step_along
theorem step_sh (road : Rd') (p : Pc) (c : Bool) : sh_step_along road p c = match c, p with
    | true, p => some (some (pcLen p))
    | false, .inl _ => none
    | false, .inr b => some (roundQ road.rounds b.name) := by
  unfold sh_step_along
  cases c with
  | true => rfl
  | false =>
    cases p with
    | inl n => rfl
    | inr b =>
      show b1 (some b) _ = _
      rw [b1_some, round_sh]
      rfl
-- walked
/-- a way that leaves out only what has a round -/
def wayOk (rs : List (Str × Int)) : List Bg → List Bool → Prop
  | [], _ => True
  | b :: bs, c :: w => (c = true ∨ (roundQ rs b.name).isSome = true) ∧ wayOk rs bs w
  | _ :: _, [] => False
def walkQ (rs : List (Str × Int)) : List Pc → List Bool → Int → List (Bg × Int) × Int
  | [], _, p => ([], p)
  | .inl n :: ps, w, p => walkQ rs ps w (p + n)
  | .inr b :: ps, true :: w, p => ((b, p) :: (walkQ rs ps w (p + b.length)).1, (walkQ rs ps w (p + b.length)).2)
  | .inr b :: ps, false :: w, p => walkQ rs ps w (p + (roundQ rs b.name).getD 0)
  | .inr _ :: _, [], p => ([], p)
theorem walked_sh (road : Rd') (w : List Bool) (hl : road.pieces.length ≤ 100000) (hw : wayOk road.rounds (brs road.pieces) w) : sh_walked road w = some (walkQ road.rounds road.pieces w 0) := by
  unfold sh_walked
  have key : ∀ (ps : List Pc) (w : List Bool) (legs : List (Bg × Int)) (p : Int), legs.length + ps.length ≤ 100000 → wayOk road.rounds (brs ps) w → Gs (forO (fun (e3 : Pc) (st3 : (List Bool) × (List (Bg × Int)) × Int) =>
      b1 (if (isBr e3) = true then
          b1 (popI st3.1 (0 : Int)) fun q1 =>
          b1 (if q1.1 = true then
              b1 (pcBr e3) fun t2 =>
              grd (List.length st3.2.1 < 16777216) <|
              lt (st3.2.1 ++ [(t2, st3.2.2)]) fun (legs' : (List (Bg × Int))) =>
              some legs'
            else
              some st3.2.1) fun legs'2 =>
          some (q1.1, q1.2, legs'2)
        else
          some (true, st3.1, st3.2.1)) fun u3 =>
      b1 (sh_step_along road e3 u3.1) fun t4 =>
      b1 (t4) fun t5 =>
      lt (st3.2.2 + t5) fun (place' : Int) =>
      some (u3.2.1, u3.2.2, place')) ps (w, legs, p)) fun r => r.2.1 = legs ++ (walkQ road.rounds ps w p).1 ∧ r.2.2 = (walkQ road.rounds ps w p).2 := by
    intro ps
    induction ps with
    | nil =>
      intro w legs p _ _
      exact gs_some ⟨by simp [walkQ], rfl⟩
    | cons x ps ih =>
      intro w legs p hlen hok
      rw [List.length_cons] at hlen
      unfold forO
      cases x with
      | inl n =>
        rw [if_neg (by simp [isBr]), b1_some, step_sh]
        show Gs (b1 (b1 (some (some n)) _) _) _
        rw [b1_some, b1_some, lt_def, b1_some]
        exact (ih w legs (p + n) (by omega) hok)
      | inr b =>
        rw [if_pos (by rfl)]
        cases w with
        | nil => exact absurd hok id
        | cons c w =>
          have hok2 : (c = true ∨ (roundQ road.rounds b.name).isSome = true) ∧ wayOk road.rounds (brs ps) w := hok
          show Gs (b1 (b1 (b1 (popI (c :: w) 0) _) _) _) _
          rw [popI_zero, b1_some]
          cases c with
          | true =>
            rw [if_pos rfl]
            show Gs (b1 (b1 (b1 (b1 (some b) _) _) _) _) _
            rw [b1_some, grd_pos (by dsimp only; omega), lt_def, b1_some, b1_some, step_sh]
            show Gs (b1 (b1 (some (some b.length)) _) _) _
            rw [b1_some, b1_some, lt_def, b1_some]
            refine (ih w (legs ++ [(b, p)]) (p + b.length) (by rw [List.length_append, List.length_singleton]; omega) hok2.2).mono fun r hr => ⟨?_, hr.2⟩
            rw [hr.1, List.append_assoc]
            rfl
          | false =>
            rw [if_neg (by simp), b1_some, b1_some, step_sh]
            have hs := hok2.1.resolve_left (by decide)
            obtain ⟨z, hz⟩ := Option.isSome_iff_exists.mp hs
            show Gs (b1 (b1 (some (roundQ road.rounds b.name)) _) _) _
            rw [b1_some, hz, b1_some, lt_def, b1_some]
            have e : walkQ road.rounds (.inr b :: ps) (false :: w) p = walkQ road.rounds ps w (p + z) := by
              show walkQ road.rounds ps w (p + (roundQ road.rounds b.name).getD 0) = _
              rw [hz]; rfl
            rw [e]
            exact ih w legs (p + z) (by omega) hok2.2
  obtain ⟨r, e, h1, h2⟩ := key road.pieces w [] 0 (by simpa using hl) hw
  rw [e, b1_some]
  rw [List.nil_append] at h1
  rw [h1, h2]
theorem ways_ok (rs : List (Str × Int)) : ∀ (bs : List Bg) (w : List Bool), w.length = bs.length → okW (freeQ rs bs) w = true → wayOk rs bs w
  | [], _, _, _ => trivial
  | b :: bs, [], h, _ => by cases h
  | b :: bs, c :: w, h, k => by
    have k : (((roundQ rs b.name).isSome || c) && okW (freeQ rs bs) w) = true := k
    rw [Bool.and_eq_true, Bool.or_eq_true] at k
    exact ⟨k.1.symm, ways_ok rs bs w (by simpa using h) k.2⟩
theorem waysL_ok (rs : List (Str × Int)) (bs : List Bg) : ∀ w ∈ waysL (freeQ rs bs), w.length = bs.length ∧ wayOk rs bs w := by
  intro w hw
  have hl := waysL_len _ w hw
  have hl2 : w.length = bs.length := by
    rw [hl]
    unfold freeQ
    rw [List.length_map]
  rw [← dueL_eq] at hw
  exact ⟨hl2, ways_ok rs bs w hl2 (List.mem_filter.mp hw).2⟩
-- legs_of
theorem legs_sh (road : Rd') (w : List Bool) (hl : road.pieces.length ≤ 100000) (hw : wayOk road.rounds (brs road.pieces) w) : sh_legs_of road w = some (walkQ road.rounds road.pieces w 0).1 := by
  unfold sh_legs_of
  rw [walked_sh road w hl hw, b1_some]
-- length_of
theorem length_sh (road : Rd') (w : List Bool) (hl : road.pieces.length ≤ 100000) (hw : wayOk road.rounds (brs road.pieces) w) : sh_length_of road w = some (walkQ road.rounds road.pieces w 0).2 := by
  unfold sh_length_of
  rw [walked_sh road w hl hw, b1_some]
-- _law_cell
theorem cellB_sh (ns : List Int) (hz : ∀ z ∈ ns, Sz 1048576 z) (k : Int) (h : 0 ≤ k) : Gs (sh__law_cell ns k) fun x => Sz 1048576 x := by
  unfold sh__law_cell
  refine gs_if (fun hc => ?_) fun _ => gs_some (Sz.zero _)
  exact gs_b1 (gs_pick h (of_decide_eq_true hc)) fun x hx => gs_some (hz x hx)
-- _law_mix
theorem mixB_sh (c o p : Int) (ho : 0 ≤ o ∧ o ≤ 1000) (hp : 1000000 ≤ p ∧ p ≤ 1001000) : Gs (sh__law_mix c o p) fun x => 0 ≤ x ∧ x < 332748118 := by
  unfold sh__law_mix
  have ho2 : 0 ≤ o * o ∧ o * o ≤ 1000000 := ⟨Int.mul_nonneg ho.1 ho.1, by
    have := Int.mul_le_mul ho.2 ho.2 ho.1 (by omega)
    omega⟩
  have e1 : 31 * o * o = 31 * (o * o) := Int.mul_assoc ..
  have hm : 0 ≤ Int.fmod c p ∧ Int.fmod c p < p := by
    rw [fmod_nn (by omega)]
    exact ⟨Int.emod_nonneg _ (by omega), Int.emod_lt_of_pos _ (by omega)⟩
  refine gs_grd (by omega) ?_
  refine gs_grd (cmul_s (by omega) (by omega)) ?_
  refine gs_grd (cmul_s (by omega) (by omega)) ?_
  refine gs_grd (cmul_s (by omega) (by omega)) ?_
  refine gs_grd (by omega) ?_
  refine gs_ltE fun d hd => ?_
  rw [fmod_nn (by omega)] at hd
  have h1 := Int.emod_nonneg ((c.fmod p + 12345 + 31 * o * o + o) * 48271) (show p ≠ 0 by omega)
  have h2 := Int.emod_lt_of_pos ((c.fmod p + 12345 + 31 * o * o + o) * 48271) (show 0 < p by omega)
  rw [← hd] at h1 h2
  refine gs_grd (cmul_s (by omega) (by omega)) ?_
  refine gs_some ?_
  have h1 := Int.emod_nonneg (d * d) (show (998244353 : Int) ≠ 0 by omega)
  have h2 := Int.emod_lt_of_pos (d * d) (show (0 : Int) < 998244353 by omega)
  omega
-- _law_names
theorem names_ok (f : Nat → List Nat) (h1 : ∀ k, k < 8 → 1 ≤ (f k).length ∧ (f k).length ≤ 12 ∧ ∀ c ∈ f k, 97 ≤ c ∧ c ≤ 122) (h2 : ∀ i j, i < 8 → j < 8 → f i = f j → i = j) : NsOk ((List.range 8).map fun k => S' (f k)) := by
  refine ⟨by simp, ?_, ?_⟩
  · unfold List.Nodup
    rw [List.pairwise_map]
    refine List.Pairwise.imp_of_mem ?_ (List.pairwise_lt_range (n := 8))
    intro a b ha hb hab e
    have := h2 a b (List.mem_range.mp ha) (List.mem_range.mp hb) (S'_inj e)
    omega
  · intro x hx
    obtain ⟨k, hk, rfl⟩ := List.mem_map.mp hx
    exact ⟨f k, rfl, h1 k (List.mem_range.mp hk)⟩
theorem strRep_S (c : Nat) (n : Int) : strRep ⟨#[c]⟩ n = S' (List.replicate n.toNat c) := str_ext (by rw [strRep_one])
theorem names_sh (c : Int) : Gs (sh__law_names c) NsOk := by
  unfold sh__law_names
  refine gs_lt ?_
  refine gs_b1 (mixB_sh c 30 1000003 (by omega) (by omega)) fun d hd => ?_
  refine gs_ltE fun size hsz => ?_
  refine gs_grd (by omega) ?_
  refine gs_ltE fun at_v hat => ?_
  rw [fmod_nn (by omega)] at hat
  have ha : 0 ≤ at_v ∧ at_v < size := by
    have := Int.emod_nonneg (d / 12) (show size ≠ 0 by omega)
    have := Int.emod_lt_of_pos (d / 12) (show 0 < size by omega)
    omega
  refine gs_grd (show LET.length ≤ _ by rw [LET_len]; omega) ?_
  have hfl := Int.emod_nonneg (d / 150) (show (26 : Int) ≠ 0 by omega)
  have hfl2 := Int.emod_lt_of_pos (d / 150) (show (0 : Int) < 26 by omega)
  refine gs_eq (LET_at hfl hfl2) ?_
  generalize hf : 97 + (d / 150 % 26).toNat = f
  have hff : 97 ≤ f ∧ f ≤ 122 := by omega
  have l1 : (⟨#[f]⟩ : Str).length = 1 := rfl
  refine gs_if (fun _ => ?_) fun _ => ?_
  · refine gs_grd (by omega) ?_
    refine gs_grd (by decide) ?_
    have er : rgI 0 8 = (List.range 8).map fun i : Nat => (i : Int) := rgI_nat rfl
    rw [er, mapO_eq (g := fun e : Int => strRep ⟨#[f]⟩ ((e + 1) + d % 5)), b1_some, List.map_map]
    · refine gs_some ?_
      have : (fun e : Int => strRep ⟨#[f]⟩ ((e + 1) + d % 5)) ∘ (fun i : Nat => (i : Int)) = fun k : Nat => S' (List.replicate (k + 1 + (d % 5).toNat) f) := by
        funext k
        show strRep ⟨#[f]⟩ (((k : Int) + 1) + d % 5) = _
        rw [strRep_S]
        congr 2
        congr 1
        omega
      rw [this]
      refine names_ok _ (fun k hk => ⟨by rw [List.length_replicate]; omega, by rw [List.length_replicate]; omega, fun c hc => by rw [List.eq_of_mem_replicate hc]; exact hff⟩) fun i j _ _ e => ?_
      have := congrArg List.length e
      rw [List.length_replicate, List.length_replicate] at this
      omega
    · intro x hx
      obtain ⟨k, hk, rfl⟩ := List.mem_map.mp hx
      have := List.mem_range.mp hk
      rw [grd_pos (by rw [l1]; omega)]
  · refine gs_grd (by omega) ?_
    let nm : Nat → List Nat := fun k => List.replicate at_v.toNat f ++ ([97 + ((d / 12000 + 3 * (k : Int)) % 26).toNat] ++ List.replicate (size - 1 - at_v).toNat f)
    refine gs_rg 8 (fun k st => st = (List.range k).map fun k => S' (nm k)) rfl rfl ?_ ?_
    · rintro k st hk rfl
      refine gs_grd (cmul_s (by omega) (by omega)) ?_
      refine gs_grd (show LET.length ≤ _ by rw [LET_len]; omega) ?_
      have h1 := Int.emod_nonneg (d / 12000 + 3 * (k : Int)) (show (26 : Int) ≠ 0 by omega)
      have h2 := Int.emod_lt_of_pos (d / 12000 + 3 * (k : Int)) (show (0 : Int) < 26 by omega)
      refine gs_eq (LET_at h1 h2) ?_
      refine gs_grd (by rw [l1]; omega) ?_
      refine gs_grd (by rw [strRep_one_len]; show _ + 1 ≤ _; omega) ?_
      refine gs_grd (by rw [l1]; omega) ?_
      refine gs_grd (by rw [add_len, strRep_one_len, strRep_one_len]; show _ + 1 + _ ≤ _; omega) ?_
      refine gs_grd (by rw [List.length_map, List.length_range]; omega) ?_
      refine gs_lt (gs_some ?_)
      rw [List.range_succ, List.map_append, List.map_singleton]
      congr 2
      rw [strRep_S, strRep_S]
      show S' _ ++ S' [_] ++ S' _ = _
      rw [S'_add, S'_add, List.append_assoc]
    · rintro st rfl
      refine gs_some (names_ok nm (fun k hk => ⟨?_, ?_, ?_⟩) fun i j hi hj e => ?_)
      · show 1 ≤ (List.replicate at_v.toNat f ++ ([_] ++ List.replicate (size - 1 - at_v).toNat f)).length
        simp only [List.length_append, List.length_replicate, List.length_singleton]
        omega
      · show (List.replicate at_v.toNat f ++ ([_] ++ List.replicate (size - 1 - at_v).toNat f)).length ≤ 12
        simp only [List.length_append, List.length_replicate, List.length_singleton]
        omega
      · intro c hc
        have hc : c ∈ List.replicate at_v.toNat f ++ ([97 + ((d / 12000 + 3 * (k : Int)) % 26).toNat] ++ List.replicate (size - 1 - at_v).toNat f) := hc
        rw [List.mem_append, List.mem_append, List.mem_singleton] at hc
        rcases hc with hc | rfl | hc
        · rw [List.eq_of_mem_replicate hc]; exact hff
        · have h1 := Int.emod_nonneg (d / 12000 + 3 * (k : Int)) (show (26 : Int) ≠ 0 by omega)
          have h2 := Int.emod_lt_of_pos (d / 12000 + 3 * (k : Int)) (show (0 : Int) < 26 by omega)
          omega
        · rw [List.eq_of_mem_replicate hc]; exact hff
      · have e2 := List.append_cancel_left (show List.replicate at_v.toNat f ++ ([97 + ((d / 12000 + 3 * (i : Int)) % 26).toNat] ++ List.replicate (size - 1 - at_v).toNat f) = List.replicate at_v.toNat f ++ ([97 + ((d / 12000 + 3 * (j : Int)) % 26).toNat] ++ List.replicate (size - 1 - at_v).toNat f) from e)
        have e3 : 97 + ((d / 12000 + 3 * (i : Int)) % 26).toNat = 97 + ((d / 12000 + 3 * (j : Int)) % 26).toNat := (List.cons.inj e2).1
        omega
-- _law_long
theorem long_sh (c o least : Int) (ho : 0 ≤ o ∧ o ≤ 1000) (hl : 1 ≤ least ∧ least ≤ 200) : Gs (sh__law_long c o least) fun x => least ≤ x ∧ x ≤ 1000 := by
  unfold sh__law_long
  refine gs_b1 (mixB_sh c o 1000033 ho (by omega)) fun d hd => ?_
  refine gs_grd (by omega) ?_
  have f1 : 0 ≤ (d / 5).fmod (1001 - least) ∧ (d / 5).fmod (1001 - least) < 1001 - least := by
    rw [fmod_nn (by omega)]
    exact ⟨Int.emod_nonneg _ (by omega), Int.emod_lt_of_pos _ (by omega)⟩
  refine gs_b1 (gs_pick (Int.emod_nonneg _ (by omega)) (by simp; omega)) fun x hx => gs_some ?_
  simp only [List.mem_cons, List.not_mem_nil, or_false] at hx
  rcases hx with rfl | rfl | rfl | rfl | rfl <;> omega
-- _law_bridge
theorem lbridge_sh (c : Int) (name : Str) : Gs (sh__law_bridge c name) fun r => ∃ b : Bg, BgOk b ∧ b.name = name ∧ r = (("bridge" : Str), b.name, b.length, b.bears, b.wide, b.most) := by
  unfold sh__law_bridge
  refine gs_b1 (mixB_sh c 40 1000037 (by omega) (by omega)) fun d hd => ?_
  refine gs_b1 (Q := fun x => 1 ≤ x ∧ x ≤ 10000000) ?_ fun bears hb => ?_
  · refine (gs_pick (Int.emod_nonneg _ (by omega)) (by simp; omega)).mono fun x hx => ?_
    simp only [List.mem_cons, List.not_mem_nil, or_false] at hx
    rcases hx with rfl | rfl | rfl | rfl
    · omega
    · omega
    · omega
    · have := Int.emod_nonneg c (show (10000000 : Int) ≠ 0 by omega)
      have := Int.emod_lt_of_pos c (show (0 : Int) < 10000000 by omega)
      omega
  refine gs_b1 (Q := fun x => 1 ≤ x ∧ x ≤ 10000000) ?_ fun most hm => ?_
  · refine (gs_pick (Int.emod_nonneg _ (by omega)) (by simp; omega)).mono fun x hx => ?_
    simp only [List.mem_cons, List.not_mem_nil, or_false] at hx
    rcases hx with rfl | rfl | rfl | rfl
    · have := Int.emod_nonneg (c / 3) (show (10000000 : Int) ≠ 0 by omega)
      have := Int.emod_lt_of_pos (c / 3) (show (0 : Int) < 10000000 by omega)
      omega
    · omega
    · omega
    · omega
  refine gs_b1 (Q := fun x => 1 ≤ x ∧ x ≤ 200) ?_ fun wide hw => ?_
  · refine (gs_pick (Int.emod_nonneg _ (by omega)) (by simp; omega)).mono fun x hx => ?_
    simp only [List.mem_cons, List.not_mem_nil, or_false] at hx
    rcases hx with rfl | rfl | rfl | rfl <;> omega
  refine gs_b1 (long_sh c 41 1 (by omega) (by omega)) fun ln hln => ?_
  exact gs_some ⟨⟨name, ln, bears, wide, most⟩, ⟨hln, hb, hw, hm⟩, rfl, rfl⟩
-- _law_parts
theorem parts_sh (ns : List Int) (hz : ∀ z ∈ ns, Sz 1048576 z) : Gs (sh__law_parts ns) fun r => ∃ o0 qs, r.2.1 = (pcs o0 qs).map tellP ∧ RwOk r.1 o0 qs r.2.2.1 r.2.2.2 := by
  unfold sh__law_parts
  refine gs_b1 (cellB_sh ns hz 0 (by omega)) fun c hc => ?_
  refine gs_b1 (names_sh c) fun names hn => ?_
  refine gs_b1 (mixB_sh c 31 1000039 (by omega) (by omega)) fun d hd => ?_
  refine gs_ltE fun many hmany => ?_
  have hm : 1 ≤ many ∧ many ≤ 6 := by omega
  refine gs_b1 (long_sh c 42 200 (by omega) (by omega)) fun o0 ho0 => ?_
  refine gs_lt ?_
  refine gs_grd (by omega) ?_
  obtain ⟨n, rfl⟩ := Int.eq_ofNat_of_zero_le (show 0 ≤ many by omega)
  refine gs_rg n (fun k st => ∃ qs, qs.length = k ∧ st.1 = (pcs o0 qs).map tellP ∧ QsOk (names.take k) qs ∧ RnOk (names.take k) st.2) rfl ⟨[], rfl, rfl, ⟨rfl, by simp⟩, ⟨by simp, by simp, by simp⟩⟩ ?_ ?_
  · rintro k ⟨P, R⟩ hk ⟨qs, hq1, hq2, hq3, hq4⟩
    have hq2 : P = (pcs o0 qs).map tellP := hq2
    subst hq2
    have hq4 : RnOk (names.take k) R := hq4
    have hkn : k < names.length := by rw [hn.l]; omega
    refine gs_b1 (cellB_sh ns hz _ (by omega)) fun c2 hc2 => ?_
    refine gs_grd (cmul_s (by omega) (by omega)) ?_
    refine gs_lt ?_
    refine gs_eq (atI_nat rfl hkn) ?_
    refine gs_b1 (lbridge_sh _ _) fun r hr => ?_
    obtain ⟨b, hb1, hb2, rfl⟩ := hr
    refine gs_grd (by dsimp only; rw [List.length_map, pcs_len]; omega) ?_
    refine gs_lt ?_
    refine gs_b1 (long_sh _ 43 200 (by omega) (by omega)) fun o ho => ?_
    refine gs_grd (by dsimp only; rw [List.length_append, List.length_map, pcs_len]; simp; omega) ?_
    refine gs_lt ?_
    refine gs_b1 (mixB_sh _ 44 1000081 (by omega) (by omega)) fun d2 hd2 => ?_
    have hts := take_snoc hkn
    have hlk : (names.take k).length = k := by rw [List.length_take]; omega
    refine gs_b1 (Q := fun R' => RnOk (names.take (k + 1)) R') (gs_if (fun _ => ?_) fun _ => ?_) fun R' hR' => ?_
    · refine gs_eq (atI_nat rfl hkn) ?_
      refine gs_b1 (long_sh _ 45 1 (by omega) (by omega)) fun ro hro => ?_
      have hRl := hq4.l
      rw [hlk] at hRl
      refine gs_grd (by dsimp only; omega) ?_
      refine gs_lt (gs_some ⟨?_, ?_, ?_⟩)
      · rw [hts, List.length_append, List.length_append]
        have := hq4.l
        simp
        simp at this
        omega
      · rw [List.map_append, List.map_singleton, List.nodup_append]
        refine ⟨hq4.d, by simp, ?_⟩
        intro x hx y hy e
        rw [List.mem_singleton] at hy
        obtain ⟨r, hr, rfl⟩ := List.mem_map.mp hx
        have h1 := (hq4.n r hr).1
        rw [e, hy] at h1
        exact not_in_take hn.d hkn h1
      · intro r hr
        rw [List.mem_append, List.mem_singleton] at hr
        rw [hts, List.mem_append]
        rcases hr with hr | rfl
        · exact ⟨.inl (hq4.n r hr).1, (hq4.n r hr).2⟩
        · exact ⟨.inr (by simp), hro⟩
    · refine gs_some ⟨?_, hq4.d, fun r hr => ?_⟩
      · have := hq4.l
        rw [hts, List.length_append]
        dsimp only
        omega
      · rw [hts, List.mem_append]
        exact ⟨.inl (hq4.n r hr).1, (hq4.n r hr).2⟩
    · refine gs_some ⟨qs ++ [(b, o)], by simp [hq1], ?_, ⟨?_, ?_⟩, hR'⟩
      · rw [pcs_snoc, List.map_append]
        show (_ ++ [_]) ++ [_] = _
        rw [List.append_assoc]
        rfl
      · rw [hts, List.map_append, hq3.n]
        simp [hb2]
      · intro q hq
        rw [List.mem_append, List.mem_singleton] at hq
        rcases hq with hq | rfl
        · exact hq3.q q hq
        · exact ⟨hb1, ho⟩
  · rintro ⟨P, R⟩ ⟨qs, hq1, hq2, hq3, hq4⟩
    have hq2 : P = (pcs o0 qs).map tellP := hq2
    have hq4 : RnOk (names.take n) R := hq4
    refine gs_b1 (mixB_sh c 46 1000003 (by omega) (by omega)) fun d2 hd2 => ?_
    refine gs_b1 (Q := fun R' => RnOk (names.take n) R') (gs_if (fun _ => gs_lt (gs_some hq4.rev)) fun _ => gs_some hq4) fun R' hR' => ?_
    have hcl := cut_len ns (some 7) (some 13)
    have hcl6 : (cutL ns (some 7) (some 13)).length ≤ 6 := by
      rw [show cutL ns (some 7) (some 13) = (ns.take 13).drop 7 from cut_mid ns 7 13, List.length_drop, List.length_take]
      omega
    refine gs_grd (by simp; omega) ?_
    refine gs_forO (fun pre st => st.length ≤ pre.length ∧ ∀ s ∈ st, s.1 ∈ names.take n ∧ 0 ≤ s.2.1 ∧ s.2.1 < s.2.2 ∧ s.2.2 ≤ 10000) ⟨by simp, by simp⟩ ?_ ?_
    · rintro pre ⟨i, e⟩ st hx ⟨hl, hs⟩
      obtain ⟨h1, post, h2⟩ := enI_split hx
      have h1 : i = pre.length := h1
      have hpl : pre.length ≤ 6 := by
        have := congrArg List.length h2
        simp at this
        omega
      subst h1
      refine gs_b1 (mixB_sh e _ 1000033 (by dsimp only; omega) (by omega)) fun d3 hd3 => ?_
      refine gs_b1 (Q := fun x => 0 ≤ x ∧ x < 10000) ?_ fun bg hbg => ?_
      · refine (gs_pick (Int.emod_nonneg _ (by omega)) (by simp; omega)).mono fun x hx => ?_
        simp only [List.mem_cons, List.not_mem_nil, or_false] at hx
        rcases hx with rfl | rfl | rfl <;> omega
      refine gs_grd (by omega) ?_
      refine gs_b1 (Q := fun x => bg < x ∧ x ≤ 10000) ?_ fun en hen => ?_
      · have f1 : 0 ≤ (d3 / 40).fmod (10000 - bg) ∧ (d3 / 40).fmod (10000 - bg) < 10000 - bg := by
          rw [fmod_nn (by omega)]
          exact ⟨Int.emod_nonneg _ (by omega), Int.emod_lt_of_pos _ (by omega)⟩
        refine (gs_pick (Int.emod_nonneg _ (by omega)) (by simp; omega)).mono fun x hx => ?_
        simp only [List.mem_cons, List.not_mem_nil, or_false] at hx
        rcases hx with rfl | rfl | rfl <;> omega
      refine gs_b1 (Q := fun st => st.length ≤ (pre ++ [((pre.length : Int), e)]).length ∧ ∀ s ∈ st, s.1 ∈ names.take n ∧ 0 ≤ s.2.1 ∧ s.2.1 < s.2.2 ∧ s.2.2 ≤ 10000) (gs_if (fun _ => ?_) fun _ => ?_) fun st' hst' => gs_some hst'
      · refine gs_grd (by omega) ?_
        have f1 : 0 ≤ (d3 / 27).fmod (n : Int) ∧ (d3 / 27).fmod (n : Int) < n := by
          rw [fmod_nn (by omega)]
          exact ⟨Int.emod_nonneg _ (by omega), Int.emod_lt_of_pos _ (by omega)⟩
        obtain ⟨j, hj⟩ := Int.eq_ofNat_of_zero_le f1.1
        have hjn : j < names.length := by rw [hn.l]; omega
        refine gs_eq (atI_nat hj hjn) ?_
        refine gs_grd (by omega) ?_
        refine gs_lt (gs_some ⟨by simp; omega, ?_⟩)
        intro s hs2
        rw [List.mem_append, List.mem_singleton] at hs2
        rcases hs2 with hs2 | rfl
        · exact hs s hs2
        · refine ⟨?_, hbg.1, hen⟩
          have : (names.take n)[j]'(by rw [List.length_take]; omega) = names[j] := List.getElem_take
          rw [← this]
          exact List.getElem_mem _
      · exact gs_some ⟨by simp; omega, hs⟩
    · rintro st ⟨hl, hs⟩
      refine gs_some ⟨o0, qs, hq2, hn, by omega, ho0, by rw [hq1]; exact hq3, by rw [hq1]; exact hR', ⟨?_, by rw [hq1]; exact hs⟩⟩
      rw [enI_length] at hl
      simp at hl
      show st.length ≤ 7
      omega
-- _law_pieces
theorem pieces_sh (ps : List Pc) (hl : ps.length ≤ 100000) : sh__law_pieces (ps.map tellP) = some ps := by
  refine Gs.eq ?_
  unfold sh__law_pieces
  rw [forO_map]
  refine gs_forO (fun pre st => st = pre) rfl ?_ fun st h => gs_some h
  rintro pre p st hx rfl
  have hp := (get_split hx).2.2
  cases p with
  | inl n =>
    have e1 : ixD' (tellP (.inl n)) 0 = some (.str "open") := rfl
    have e2 : eqD (.str "open") (.str "open") = some true := by unfold eqD; simp [eqR, R.d, eqV]
    have e3 : ixD' (tellP (.inl n)) 1 = some (.int n) := rfl
    rw [e1, b1_some, e2, b1_some, if_pos rfl, e3, b1_some]
    show Gs (b1 (b1 (some n) _) _) _
    rw [b1_some, grd_pos (by omega), lt_def, b1_some]
    exact gs_some rfl
  | inr b =>
    have e1 : ixD' (tellP (.inr b)) 0 = some (.str "bridge") := rfl
    have e2 : eqD (.str "bridge") (.str "open") = some false := by unfold eqD; simp [eqR, R.d, eqV]; decide
    have e3 : ixD' (tellP (.inr b)) 1 = some (.str b.name) := rfl
    have e4 : ixD' (tellP (.inr b)) 2 = some (.int b.length) := rfl
    have e5 : ixD' (tellP (.inr b)) 3 = some (.int b.bears) := rfl
    have e6 : ixD' (tellP (.inr b)) 4 = some (.int b.wide) := rfl
    have e7 : ixD' (tellP (.inr b)) 5 = some (.int b.most) := rfl
    rw [e1, b1_some, e2, b1_some, if_neg (by decide), e3, b1_some]
    show Gs (b1 (b1 (some b.name) _) _) _
    rw [b1_some, e4, b1_some]
    show Gs (b1 (b1 (some b.length) _) _) _
    rw [b1_some, e5, b1_some]
    show Gs (b1 (b1 (some b.bears) _) _) _
    rw [b1_some, e6, b1_some]
    show Gs (b1 (b1 (some b.wide) _) _) _
    rw [b1_some, e7, b1_some]
    show Gs (b1 (b1 (some b.most) _) _) _
    rw [b1_some, grd_pos (by omega), lt_def, b1_some]
    exact gs_some rfl
-- _law_told
theorem told_sh (p : Pc) : sh__law_told p = some (tellP p) := by
  cases p with
  | inl n => rfl
  | inr b => rfl
-- _law_road_is
theorem road_is_sh (ps : List Pc) (rounds : List (Str × Int)) (shuts : List (Str × Int × Int)) (hl : ps.length ≤ 100000) (hr : rounds.length ≤ 100000) (hs : shuts.length ≤ 100000) : sh__law_road_is ⟨ps, rounds, shuts⟩ (ps.map tellP) rounds shuts = some true := by
  unfold sh__law_road_is
  rw [if_neg (by decide), grd_pos (by dsimp only; omega)]
  have e : mapO (fun e1 : Pc => b1 (sh__law_told e1) fun t1 => some t1) ps = some (ps.map tellP) := mapO_eq _ fun x _ => by rw [told_sh, b1_some]
  rw [e, b1_some]
  have s1 : sh__law_same ((eL eD) (ps.map tellP)) ((eL eD) (ps.map tellP)) = some true := sameG_ok rfl (pl_L (by rw [List.length_map]; omega) fun x hx => by
    obtain ⟨p, _, rfl⟩ := List.mem_map.mp hx
    exact pl_tellP p)
  have s2 : sh__law_same ((eL (eP2 D.str D.int)) rounds) ((eL (eP2 D.str D.int)) rounds) = some true := sameG_ok rfl (pl_L (by omega) fun x hx => rfl)
  have s3 : sh__law_same ((eL (eP3 D.str D.int D.int)) shuts) ((eL (eP3 D.str D.int D.int)) shuts) = some true := sameG_ok rfl (pl_L (by omega) fun x hx => rfl)
  rw [s1, b1_some, if_neg (by decide), s2, b1_some, if_pos rfl, s3]
  rfl
-- k12
theorem brs_pcs12 (o0 : Int) (qs : List (Bg × Int)) : brs (pcs o0 qs) = qs.map (·.1) := by
  unfold pcs
  show brs (qs.flatMap fun q => [.inr q.1, .inl q.2]) = _
  induction qs with
  | nil => rfl
  | cons q qs ih => exact congrArg (q.1 :: ·) ih
theorem walk_snoc_open (rs : List (Str × Int)) (n : Int) : ∀ (ps : List Pc) (w : List Bool) (p : Int), (brs ps).length ≤ w.length → walkQ rs (ps ++ [.inl n]) w p = ((walkQ rs ps w p).1, (walkQ rs ps w p).2 + n)
  | [], w, p, _ => by cases w <;> rfl
  | .inl m :: ps, w, p, h => walk_snoc_open rs n ps w (p + m) h
  | .inr b :: ps, [], p, h => absurd h (by show ¬ (brs ps).length + 1 ≤ 0; omega)
  | .inr b :: ps, true :: w, p, h => by
    have ih := walk_snoc_open rs n ps w (p + b.length) (by have h : (brs ps).length + 1 ≤ w.length + 1 := h; omega)
    show ((b, p) :: (walkQ rs (ps ++ [.inl n]) w (p + b.length)).1, (walkQ rs (ps ++ [.inl n]) w (p + b.length)).2) = _
    rw [ih]
    rfl
  | .inr b :: ps, false :: w, p, h => walk_snoc_open rs n ps w _ (by have h : (brs ps).length + 1 ≤ w.length + 1 := h; omega)
theorem walk_snoc_br (rs : List (Str × Int)) (c : Bg) (o : Bool) : ∀ (ps : List Pc) (w : List Bool) (p : Int), w[(brs ps).length]? = some o → walkQ rs (ps ++ [.inr c]) w p = if o = true then ((walkQ rs ps w p).1 ++ [(c, (walkQ rs ps w p).2)], (walkQ rs ps w p).2 + c.length) else ((walkQ rs ps w p).1, (walkQ rs ps w p).2 + (roundQ rs c.name).getD 0)
  | [], [], p, h => by cases h
  | [], d :: w, p, h => by
    cases h
    cases o with
    | true => cases w <;> rfl
    | false => cases w <;> rfl
  | .inl m :: ps, w, p, h => walk_snoc_br rs c o ps w (p + m) h
  | .inr b :: ps, [], p, h => by cases h
  | .inr b :: ps, true :: w, p, h => by
    have ih := walk_snoc_br rs c o ps w (p + b.length) h
    show ((b, p) :: (walkQ rs (ps ++ [.inr c]) w (p + b.length)).1, (walkQ rs (ps ++ [.inr c]) w (p + b.length)).2) = _
    rw [ih]
    cases o <;> rfl
  | .inr b :: ps, false :: w, p, h => walk_snoc_br rs c o ps w _ h
theorem flat_idx : ∀ (qs : List (Bg × Int)) (pre post : List Pc) (b : Bg), (qs.flatMap fun q => ([.inr q.1, .inl q.2] : List Pc)) = pre ++ .inr b :: post → pre.length = 2 * (brs pre).length
  | [], pre, post, b, h => by
    rw [List.flatMap_nil] at h
    cases pre <;> cases h
  | q :: qs, [], post, b, h => rfl
  | q :: qs, [y], post, b, h => by
    rw [List.flatMap_cons] at h
    cases h
  | q :: qs, y :: z :: pre, post, b, h => by
    rw [List.flatMap_cons] at h
    have h1 : y = .inr q.1 := (List.cons.inj h).1.symm
    have h2 : z = .inl q.2 := (List.cons.inj (List.cons.inj h).2).1.symm
    have h3 := (List.cons.inj (List.cons.inj h).2).2
    have ih := flat_idx qs pre post b h3
    subst h1 h2
    show pre.length + 1 + 1 = 2 * ((brs pre).length + 1)
    omega
theorem pcs_idx {o0 : Int} {qs : List (Bg × Int)} {pre post : List Pc} {b : Bg} (h : pcs o0 qs = pre ++ .inr b :: post) : pre.length = 1 + 2 * (brs pre).length := by
  unfold pcs at h
  cases pre with
  | nil => cases h
  | cons y pre =>
    have h1 : y = .inl o0 := (List.cons.inj h).1.symm
    have ih := flat_idx qs pre post b (List.cons.inj h).2
    subst h1
    show pre.length + 1 = 1 + 2 * (brs pre).length
    omega
theorem far_some {rs : List (Str × Int)} {x : Str} {l : Int} (h : roundQ rs x = some l) : atI ((rs.filter fun r => decide (r.1 = x)).map (·.2)) 0 = some l := by
  unfold roundQ at h
  induction rs with
  | nil => cases h
  | cons r rs ih =>
    rw [List.find?_cons] at h
    rw [List.filter_cons]
    by_cases c : r.1 = x
    · rw [decide_eq_true c] at h
      rw [decide_eq_true c, if_pos rfl]
      cases h
      exact atI_zero _ _
    · rw [decide_eq_false c] at h
      rw [decide_eq_false c, if_neg (by decide)]
      exact ih h
theorem eqD_st (a b : Str) : eqD (.str a) (.str b) = some (decide (a = b)) := rfl
theorem wayOk_at {rs : List (Str × Int)} : ∀ {bs : List Bg} {w : List Bool}, wayOk rs bs w → bs.length ≤ w.length ∧ ∀ (i : Nat) (b : Bg) (o : Bool), bs[i]? = some b → w[i]? = some o → o = true ∨ (roundQ rs b.name).isSome = true
  | [], w, _ => ⟨Nat.zero_le _, by simp⟩
  | b :: bs, [], h => absurd h id
  | b :: bs, c :: w, h => by
    obtain ⟨h1, h2⟩ := h
    obtain ⟨i1, i2⟩ := wayOk_at h2
    refine ⟨Nat.succ_le_succ i1, fun i d o hd ho => ?_⟩
    cases i with
    | zero => cases hd; cases ho; exact h1
    | succ i => exact i2 i d o hd ho
theorem due12_sh (o0 : Int) (qs : List (Bg × Int)) (rounds : List (Str × Int)) (w : List Bool) (hl : (pcs o0 qs).length ≤ 1000) (hr : rounds.length ≤ 1000) (hw : wayOk rounds (brs (pcs o0 qs)) w) : sh__law_due ((pcs o0 qs).map tellP) rounds w = some ((walkQ rounds (pcs o0 qs) w 0).1.map (fun l => (tellB l.1, l.2)), (walkQ rounds (pcs o0 qs) w 0).2) := by
  obtain ⟨hwl, hwo⟩ := wayOk_at hw
  refine Gs.eq ?_
  unfold sh__law_due
  refine gs_forO (fun pre st => ∃ ps post, (pre.map (·.2)) = ps.map tellP ∧ pcs o0 qs = ps ++ post ∧ st.1 = (walkQ rounds ps w 0).1.map (fun l => (tellB l.1, l.2)) ∧ st.2.sum = (walkQ rounds ps w 0).2 ∧ st.2.length = pre.length ∧ st.1.length ≤ pre.length) ⟨[], pcs o0 qs, rfl, rfl, by cases w <;> rfl, by cases w <;> rfl, rfl, Nat.le_refl _⟩ ?_ ?_
  · rintro pre ⟨i, e⟩ ⟨legs, far⟩ hx ⟨ps, post, h1, h2, h3, h4, h5, h6⟩
    dsimp only at h3 h4 h5 h6
    obtain ⟨hi, post', hp⟩ := enI_split hx
    have hi : i = (pre.length : Int) := hi
    subst hi
    have hpl := (get_split hx).2.2
    rw [enI_length, List.length_map] at hpl
    have hpsl : ps.length = pre.length := by have := congrArg List.length h1; rw [List.length_map, List.length_map] at this; omega
    obtain ⟨x, rest, hpost, hxe⟩ : ∃ x rest, post = x :: rest ∧ e = tellP x := by
      rw [h1, h2, List.map_append] at hp
      have h7 := List.append_cancel_left hp
      cases post with
      | nil => cases h7
      | cons x rest => exact ⟨x, rest, rfl, (List.cons.inj h7).1.symm⟩
    subst hpost hxe
    have hnext : pcs o0 qs = (ps ++ [x]) ++ rest := by rw [h2, List.append_assoc]; rfl
    have hmap : (pre ++ [((pre.length : Int), tellP x)]).map (·.2) = (ps ++ [x]).map tellP := by rw [List.map_append, List.map_append, h1]; rfl
    have hbrl : (brs ps).length ≤ w.length := by
      have h8 : (brs (ps ++ x :: rest)).length = (brs ps).length + (brs (x :: rest)).length := by
        have key : ∀ l k : List Pc, brs (l ++ k) = brs l ++ brs k := by
          intro l k
          induction l with
          | nil => rfl
          | cons y l ih =>
            cases y with
            | inl n => exact ih
            | inr b => exact congrArg (b :: ·) ih
        rw [key, List.length_append]
      rw [h2, h8] at hwl
      omega
    cases x with
    | inl n =>
      have e0 : ixD' (tellP (.inl n)) (-(1 : Int)) = some (D.int n) := rfl
      refine gs_eq e0 (gs_eq (x := n) rfl (gs_eq (x := D.str "open") rfl (gs_eq (x := false) ?_ (gs_eq (x := (n, legs)) (if_neg (by decide)) (gs_grd (by show far.length < _; omega) (gs_lt (gs_some ⟨ps ++ [.inl n], rest, hmap, hnext, ?_, ?_, ?_, ?_⟩)))))))
      · exact (eqD_st _ _).trans (congrArg some (decide_eq_false (by decide +kernel)))
      · dsimp only
        rw [walk_snoc_open rounds n ps w 0 hbrl]
        exact h3
      · dsimp only
        rw [walk_snoc_open rounds n ps w 0 hbrl, List.sum_append, h4]
        simp
      · dsimp only
        rw [List.length_append, List.length_append, h5]
        rfl
      · dsimp only
        rw [List.length_append]
        omega
    | inr b =>
      have hidx := pcs_idx h2
      have e0 : ixD' (tellP (.inr b)) (-(1 : Int)) = some (D.int b.most) := rfl
      have hbi : (brs (pcs o0 qs))[(brs ps).length]? = some b := by
        have key : ∀ l k : List Pc, brs (l ++ k) = brs l ++ brs k := by
          intro l k
          induction l with
          | nil => rfl
          | cons y l ih =>
            cases y with
            | inl n => exact ih
            | inr b => exact congrArg (b :: ·) ih
        rw [h2, key]
        show (brs ps ++ (b :: brs rest))[(brs ps).length]? = _
        simp
      have hbl2 := (List.getElem?_eq_some_iff.mp hbi).1
      have hwi : (brs ps).length < w.length := by omega
      obtain ⟨o, ho⟩ : ∃ o, w[(brs ps).length]? = some o := ⟨_, List.getElem?_eq_getElem hwi⟩
      have hok := hwo _ b o hbi ho
      have hat : atI w ((pre.length : Int) / 2) = some o := by
        have : (pre.length : Int) / 2 = (((brs ps).length : Nat) : Int) := by omega
        rw [this, atI_ofNat]
        exact ho
      have hsn := walk_snoc_br rounds b o ps w 0 ho
      refine gs_eq e0 (gs_eq (x := b.most) rfl (gs_eq (x := D.str "bridge") rfl (gs_eq (x := true) ?_ ?_)))
      · exact (eqD_st _ _).trans (congrArg some (decide_eq_true rfl))
      cases o with
      | true =>
        rw [if_pos rfl] at hsn
        refine gs_eq (x := (b.length, legs ++ [(tellB b, far.sum)])) ?_ (gs_grd (by show far.length < _; omega) (gs_lt (gs_some ⟨ps ++ [.inr b], rest, hmap, hnext, ?_, ?_, ?_, ?_⟩)))
        · exact Gs.eq (gs_ifT rfl (gs_eq (x := D.int b.length) rfl (gs_eq (x := b.length) rfl (gs_eq hat (gs_b1 (Q := fun u => u = (legs ++ [(tellB b, far.sum)], b.length)) (gs_ifT rfl (gs_grd (by show legs.length < _; omega) (gs_lt (gs_some rfl)))) fun u hu => gs_some (by rw [hu]))))))
        · dsimp only
          rw [hsn, List.map_append, h3, h4]
          rfl
        · dsimp only
          rw [hsn, List.sum_append, h4]
          simp
        · dsimp only
          rw [List.length_append, List.length_append, h5]
          rfl
        · dsimp only
          rw [List.length_append, List.length_append]
          simp
          omega
      | false =>
        rw [if_neg (by decide)] at hsn
        obtain ⟨l, hl2⟩ := Option.isSome_iff_exists.mp (hok.resolve_left (by decide))
        rw [hl2] at hsn
        refine gs_eq (x := (l, legs)) ?_ (gs_grd (by show far.length < _; omega) (gs_lt (gs_some ⟨ps ++ [.inr b], rest, hmap, hnext, ?_, ?_, ?_, ?_⟩)))
        · have hfm : fmapO (fun e5 : Str × Int => b1 (ixD' (tellP (.inr b)) (1 : Int)) fun t8 => b1 (eqD (D.str e5.1) t8) fun t9 => some (t9)) (fun e5 : Str × Int => some e5.2) rounds = some ((rounds.filter fun r => decide (r.1 = b.name)).map (·.2)) := by
            refine fmapO_eq (k := fun r => decide (r.1 = b.name)) (g := (·.2)) rounds (fun r _ => ?_) fun r _ _ => rfl
            rw [show ixD' (tellP (.inr b)) 1 = some (D.str b.name) from rfl, b1_some, eqD_st, b1_some]
          exact Gs.eq (gs_ifT rfl (gs_eq (x := D.int b.length) rfl (gs_eq (x := b.length) rfl (gs_eq hat (gs_b1 (Q := fun u => u = (legs, l)) (gs_ifF rfl (gs_grd (by omega) (gs_eq hfm (gs_eq (far_some hl2) (gs_some rfl))))) fun u hu => gs_some (by rw [hu]))))))
        · dsimp only
          rw [hsn]
          exact h3
        · dsimp only
          rw [hsn, List.sum_append, h4]
          simp
        · dsimp only
          rw [List.length_append, List.length_append, h5]
          rfl
        · dsimp only
          rw [List.length_append]
          omega
  · rintro ⟨legs, far⟩ ⟨ps, post, h1, h2, h3, h4, h5, h6⟩
    dsimp only at h3 h4 h5 h6
    have hfin : ps = pcs o0 qs := by
      have h7 : ((enI ((pcs o0 qs).map tellP)).map (·.2)).length = ps.length := by rw [h1, List.length_map]
      rw [List.length_map, enI_length, List.length_map] at h7
      have h8 := congrArg List.length h2
      rw [List.length_append] at h8
      have : post = [] := List.length_eq_zero_iff.mp (by omega)
      rw [h2, this, List.append_nil]
    rw [hfin] at h3 h4
    refine gs_some ?_
    dsimp only
    rw [h3, h4]
theorem walk_len (rs : List (Str × Int)) : ∀ (ps : List Pc) (w : List Bool) (p : Int), (walkQ rs ps w p).1.length ≤ ps.length
  | [], w, p => by cases w <;> exact Nat.le_refl _
  | .inl n :: ps, w, p => Nat.le_succ_of_le (walk_len rs ps w (p + n))
  | .inr b :: ps, [], p => Nat.zero_le _
  | .inr b :: ps, true :: w, p => Nat.succ_le_succ (walk_len rs ps w (p + b.length))
  | .inr b :: ps, false :: w, p => Nat.le_succ_of_le (walk_len rs ps w _)
theorem asked12_sh (o0 : Int) (qs : List (Bg × Int)) (rounds : List (Str × Int)) (shuts : List (Str × Int × Int)) (w : List Bool) (hl : (pcs o0 qs).length ≤ 1000) (hr : rounds.length ≤ 1000) (hw : wayOk rounds (brs (pcs o0 qs)) w) : sh__law_asked ⟨pcs o0 qs, rounds, shuts⟩ ((pcs o0 qs).map tellP) rounds w = some true := by
  have hlen := walk_len rounds (pcs o0 qs) w 0
  have hlg : sh_legs_of ⟨pcs o0 qs, rounds, shuts⟩ w = some (walkQ rounds (pcs o0 qs) w 0).1 := legs_sh ⟨pcs o0 qs, rounds, shuts⟩ w (by dsimp only; omega) hw
  have hln : sh_length_of ⟨pcs o0 qs, rounds, shuts⟩ w = some (walkQ rounds (pcs o0 qs) w 0).2 := length_sh ⟨pcs o0 qs, rounds, shuts⟩ w (by dsimp only; omega) hw
  obtain ⟨L, hL⟩ : ∃ L, (walkQ rounds (pcs o0 qs) w 0).1 = L := ⟨_, rfl⟩
  rw [hL] at hlen hlg
  have hdue := due12_sh o0 qs rounds w hl hr hw
  rw [hL] at hdue
  have hpl : pl 9 (eL (eP2 eD D.int) (L.map fun l => (tellB l.1, l.2))) = true := pl_L (by rw [List.length_map]; omega) fun x hx => by
    obtain ⟨l, _, rfl⟩ := List.mem_map.mp hx
    show pl 8 (D.tup [tellB l.1, D.int l.2]) = true
    rw [pl_t2, pl_int, Bool.and_true]
    show pl 7 (D.tup [D.str _, D.str _, D.int _, D.int _, D.int _, D.int _]) = true
    simp [pl_tup]
  refine Gs.eq ?_
  unfold sh__law_asked
  refine gs_eq hdue (gs_eq hlg (gs_eq (x := false) ?_ (gs_ifF rfl (gs_grd (by omega) (gs_eq (x := L.map fun l => (tellB l.1, l.2)) ?_ (gs_grd (by omega) (gs_eq (sameG_ok rfl hpl) (gs_eq (x := true) ?_ (gs_some rfl)))))))))
  · rw [if_neg (by decide), grd_pos (by omega)]
    congr 1
    rw [Bool.not_eq_false', List.all_map, List.all_eq_true]
    intro l _
    rfl
  · refine mapO_eq (g := fun l : Bg × Int => (tellB l.1, l.2)) L fun l _ => ?_
    rw [told_sh, b1_some]
    rfl
  · rw [if_pos rfl, hln, b1_some]
    rw [show sh__law_same (D.int (walkQ rounds (pcs o0 qs) w 0).2) (D.int (walkQ rounds (pcs o0 qs) w 0).2) = some true from sameG_ok rfl rfl]
    rfl
theorem k12_sh (ns : List Int) (hl : ns.length ≤ 63) (hb : ∀ z ∈ ns, Sz 1048576 z) : sh_law ns = some true := by
  refine Gs.eq ?_
  unfold sh_law
  refine gs_b1 (parts_sh ns hb) fun r hr => ?_
  obtain ⟨names, P, rounds, shuts⟩ := r
  obtain ⟨o0, qs, hP, hR⟩ := hr
  have hP : P = (pcs o0 qs).map tellP := hP
  subst hP
  have hR : RwOk names o0 qs rounds shuts := hR
  have hn := hR.n
  have hpl := pcs_len o0 qs
  have hrl := hR.r.l
  have hsl := hR.s.l
  have htl : (names.take qs.length).length ≤ 6 := by rw [List.length_take]; omega
  have hbs := brs_pcs12 o0 qs
  have hbl : (brs (pcs o0 qs)).length ≤ 6 := by rw [hbs, List.length_map]; omega
  have hways : sh_ways_of ⟨pcs o0 qs, rounds, shuts⟩ = some (waysL (freeQ rounds (brs (pcs o0 qs)))) := ways_sh ⟨pcs o0 qs, rounds, shuts⟩ (by dsimp only; omega) (by dsimp only; omega)
  have hok := waysL_ok rounds (brs (pcs o0 qs))
  have hfl : (freeQ rounds (brs (pcs o0 qs))).length ≤ 6 := by unfold freeQ; rw [List.length_map]; exact hbl
  have hsz : (waysL (freeQ rounds (brs (pcs o0 qs)))).length ≤ 64 := Nat.le_trans (waysL_size _) (Nat.le_trans (Nat.pow_le_pow_right (by omega) hfl) (by decide))
  obtain ⟨ini, hini⟩ := waysL_last (freeQ rounds (brs (pcs o0 qs)))
  have hne : waysL (freeQ rounds (brs (pcs o0 qs))) ≠ [] := by rw [hini]; simp
  refine gs_eq (pieces_sh (pcs o0 qs) (by omega)) (gs_lt (gs_eq hways ?_))
  generalize waysL (freeQ rounds (brs (pcs o0 qs))) = ws at *
  have hwl : 0 < ws.length := List.length_pos_iff.mpr hne
  have hlast : Gs (atI ws (-(1 : Int))) fun x => x ∈ ws := by rw [hini, atI_last']; exact gs_some (by simp)
  refine gs_b1 (gs_pick (by omega) (by omega)) fun a ha => gs_b1 hlast fun b hb2 => gs_lt ?_
  have hcl6 : (cutL ns (some 7) (some 16)).length ≤ 9 := by
    rw [show cutL ns (some 7) (some 16) = (ns.take 16).drop 7 from cut_mid ns 7 16, List.length_drop, List.length_take]
    omega
  refine gs_grd (by simp; omega) ?_
  refine gs_forO (fun pre st => st.length = 2 + pre.length ∧ ∀ x ∈ st, x ∈ ws) ⟨rfl, fun x hx => by simp at hx; rcases hx with rfl | rfl <;> assumption⟩ ?_ ?_
  · rintro pre ⟨i, e⟩ st hx ⟨h1, h2⟩
    obtain ⟨hi, post, hp⟩ := enI_split hx
    have hi : i = (pre.length : Int) := hi
    subst hi
    have hpl2 : pre.length ≤ 10 := by
      have := congrArg List.length hp
      simp at this
      omega
    refine gs_b1 (mixB_sh e _ 1000003 (by dsimp only; omega) (by omega)) fun d hd => gs_grd (by omega) (gs_b1 (atI_mod ws _ hne) fun x hxm => gs_grd (by omega) (gs_lt (gs_some ⟨by simp; omega, fun y hy => ?_⟩)))
    rw [List.mem_append, List.mem_singleton] at hy
    rcases hy with hy | rfl
    · exact h2 y hy
    · exact hxm
  · rintro st ⟨h1, h2⟩
    have h3 : (enI ([(ns.length : Int)] ++ cutL ns (some 7) (some 16))).length ≤ 10 := by
      rw [enI_length, List.length_append]
      simp
      omega
    refine gs_b1 (gs_pick (by omega) (by omega)) fun c hc => gs_grd (by simp; omega) ?_
    refine gs_forC (fun _ _ => True) trivial ?_ fun _ _ => ?_
    · intro pre x st2 hx _
      have hxm : x ∈ ws := by
        have := mem_split hx
        rw [List.mem_append, List.mem_singleton] at this
        rcases this with h | rfl
        · exact h2 x h
        · exact h2 x hc
      exact gs_eq (asked12_sh o0 qs rounds shuts x (by omega) (by omega) (hok x hxm).2) (gs_ifF rfl (gs_some ⟨(), rfl, trivial⟩))
    · exact gs_eq (road_is_sh (pcs o0 qs) rounds shuts (by omega) (by omega) (by omega)) (gs_some rfl)
end G
namespace G
open PySem L2 BK
set_option autoImplicit false
theorem law_true (ns : List Int) (hl : ns.length ≤ 63) (hb : ∀ z ∈ ns, Builtin.Int.intBits z ≤ 1048576) : φ_law [.rol (ns.map D.int)] = some (.va (.bl true)) := sim_law (k12_sh ns hl fun z h => bits_sz (hb z h))
end G
namespace G
open PySem PySem.Spec L2 BK
set_option autoImplicit false
set_option maxHeartbeats 0 in
theorem all_mk {l : PySem.W.OpenLaw} {w : World} {K : PySem.W.Frag} {h : Heap} {mg : Str → Option Value} {fa : Addr} {f0 : Addr} {od0 an0 : Option Addr} {sl0 : Array (Option Value)} {oc0 kV0 dc0 pm0 cd0 ct0 : Value} {f1 : Addr} {od1 an1 : Option Addr} {sl1 : Array (Option Value)} {oc1 kV1 dc1 pm1 cd1 ct1 : Value} {f2 : Addr} {od2 an2 : Option Addr} {sl2 : Array (Option Value)} {oc2 kV2 dc2 pm2 cd2 ct2 : Value} {f3 : Addr} {od3 an3 : Option Addr} {sl3 : Array (Option Value)} {oc3 kV3 dc3 pm3 cd3 ct3 : Value} {f4 : Addr} {od4 an4 : Option Addr} {sl4 : Array (Option Value)} {oc4 kV4 dc4 pm4 cd4 ct4 : Value} {f5 : Addr} {od5 an5 : Option Addr} {sl5 : Array (Option Value)} {oc5 kV5 dc5 pm5 cd5 ct5 : Value} {f6 : Addr} {od6 an6 : Option Addr} {sl6 : Array (Option Value)} {oc6 kV6 dc6 pm6 cd6 ct6 : Value} {f7 : Addr} {od7 an7 : Option Addr} {sl7 : Array (Option Value)} {oc7 kV7 dc7 pm7 cd7 ct7 : Value} {f8 : Addr} {od8 an8 : Option Addr} {sl8 : Array (Option Value)} {oc8 kV8 dc8 pm8 cd8 ct8 : Value} {f9 : Addr} {od9 an9 : Option Addr} {sl9 : Array (Option Value)} {oc9 kV9 dc9 pm9 cd9 ct9 : Value} {f10 : Addr} {od10 an10 : Option Addr} {sl10 : Array (Option Value)} {oc10 kV10 dc10 pm10 cd10 ct10 : Value} {f11 : Addr} {od11 an11 : Option Addr} {sl11 : Array (Option Value)} {oc11 kV11 dc11 pm11 cd11 ct11 : Value} {f12 : Addr} {od12 an12 : Option Addr} {sl12 : Array (Option Value)} {oc12 kV12 dc12 pm12 cd12 ct12 : Value} {f13 : Addr} {od13 an13 : Option Addr} {sl13 : Array (Option Value)} {oc13 kV13 dc13 pm13 cd13 ct13 : Value} {f14 : Addr} {od14 an14 : Option Addr} {sl14 : Array (Option Value)} {oc14 kV14 dc14 pm14 cd14 ct14 : Value} {f15 : Addr} {od15 an15 : Option Addr} {sl15 : Array (Option Value)} {oc15 kV15 dc15 pm15 cd15 ct15 : Value} {f16 : Addr} {od16 an16 : Option Addr} {sl16 : Array (Option Value)} {oc16 kV16 dc16 pm16 cd16 ct16 : Value} {f17 : Addr} {od17 an17 : Option Addr} {sl17 : Array (Option Value)} {oc17 kV17 dc17 pm17 cd17 ct17 : Value} {f18 : Addr} {od18 an18 : Option Addr} {sl18 : Array (Option Value)} {oc18 kV18 dc18 pm18 cd18 ct18 : Value} {f19 : Addr} {od19 an19 : Option Addr} {sl19 : Array (Option Value)} {oc19 kV19 dc19 pm19 cd19 ct19 : Value} {f20 : Addr} {od20 an20 : Option Addr} {sl20 : Array (Option Value)} {oc20 kV20 dc20 pm20 cd20 ct20 : Value} {C_Open : Addr} {C_Bridge : Addr} {C_Road : Addr} {fIPiece : Addr} {odIPiece anIPiece : Option Addr} {slIPiece : Array (Option Value)} {ocIPiece kVIPiece dcIPiece pmIPiece cdIPiece ctIPiece : Value} {fIBridge : Addr} {odIBridge anIBridge : Option Addr} {slIBridge : Array (Option Value)} {ocIBridge kVIBridge dcIBridge pmIBridge cdIBridge ctIBridge : Value} {fIRoad : Addr} {odIRoad anIRoad : Option Addr} {slIRoad : Array (Option Value)} {ocIRoad kVIRoad dcIRoad pmIRoad cdIRoad ctIRoad : Value} {fMPiece : Addr} {odMPiece anMPiece : Option Addr} {slMPiece : Array (Option Value)} {ocMPiece kVMPiece dcMPiece pmMPiece cdMPiece ctMPiece : Value} {fMBridge : Addr} {odMBridge anMBridge : Option Addr} {slMBridge : Array (Option Value)} {ocMBridge kVMBridge dcMBridge pmMBridge cdMBridge ctMBridge : Value} {C_Piece : Addr} (X : K.In h) (G : h.Ns mainGlobals mg) (hfa : mg "law" = some (.ref fa))
    (a0 : PySem.W.nsIn K mainGlobals "bridges_of" = some (some (.ref f0)))
    (l0 : K.lookup f0 = some ⟨oc0, od0, .func (PySem.W.fnOf "bridges_of" "bridges_of" (defArgs s_bridges_of) (defBody s_bridges_of) (defScope s_bridges_of) .none kV0 dc0 pm0 an0 cd0 ct0), sl0⟩)
    (c0 : PySem.W.codeIn K cd0 "bridges_of" = true)
    (k0 : PySem.W.keepIn K (.ref f0) = true)
    (a1 : PySem.W.nsIn K mainGlobals "round_of" = some (some (.ref f1)))
    (l1 : K.lookup f1 = some ⟨oc1, od1, .func (PySem.W.fnOf "round_of" "round_of" (defArgs s_round_of) (defBody s_round_of) (defScope s_round_of) .none kV1 dc1 pm1 an1 cd1 ct1), sl1⟩)
    (c1 : PySem.W.codeIn K cd1 "round_of" = true)
    (k1 : PySem.W.keepIn K (.ref f1) = true)
    (a2 : PySem.W.nsIn K mainGlobals "ways_of" = some (some (.ref f2)))
    (l2 : K.lookup f2 = some ⟨oc2, od2, .func (PySem.W.fnOf "ways_of" "ways_of" (defArgs s_ways_of) (defBody s_ways_of) (defScope s_ways_of) .none kV2 dc2 pm2 an2 cd2 ct2), sl2⟩)
    (c2 : PySem.W.codeIn K cd2 "ways_of" = true)
    (k2 : PySem.W.keepIn K (.ref f2) = true)
    (a3 : PySem.W.nsIn K mainGlobals "step_along" = some (some (.ref f3)))
    (l3 : K.lookup f3 = some ⟨oc3, od3, .func (PySem.W.fnOf "step_along" "step_along" (defArgs s_step_along) (defBody s_step_along) (defScope s_step_along) .none kV3 dc3 pm3 an3 cd3 ct3), sl3⟩)
    (c3 : PySem.W.codeIn K cd3 "step_along" = true)
    (k3 : PySem.W.keepIn K (.ref f3) = true)
    (a4 : PySem.W.nsIn K mainGlobals "walked" = some (some (.ref f4)))
    (l4 : K.lookup f4 = some ⟨oc4, od4, .func (PySem.W.fnOf "walked" "walked" (defArgs s_walked) (defBody s_walked) (defScope s_walked) .none kV4 dc4 pm4 an4 cd4 ct4), sl4⟩)
    (c4 : PySem.W.codeIn K cd4 "walked" = true)
    (k4 : PySem.W.keepIn K (.ref f4) = true)
    (a5 : PySem.W.nsIn K mainGlobals "legs_of" = some (some (.ref f5)))
    (l5 : K.lookup f5 = some ⟨oc5, od5, .func (PySem.W.fnOf "legs_of" "legs_of" (defArgs s_legs_of) (defBody s_legs_of) (defScope s_legs_of) .none kV5 dc5 pm5 an5 cd5 ct5), sl5⟩)
    (c5 : PySem.W.codeIn K cd5 "legs_of" = true)
    (k5 : PySem.W.keepIn K (.ref f5) = true)
    (a6 : PySem.W.nsIn K mainGlobals "length_of" = some (some (.ref f6)))
    (l6 : K.lookup f6 = some ⟨oc6, od6, .func (PySem.W.fnOf "length_of" "length_of" (defArgs s_length_of) (defBody s_length_of) (defScope s_length_of) .none kV6 dc6 pm6 an6 cd6 ct6), sl6⟩)
    (c6 : PySem.W.codeIn K cd6 "length_of" = true)
    (k6 : PySem.W.keepIn K (.ref f6) = true)
    (a7 : PySem.W.nsIn K mainGlobals "_law_cell" = some (some (.ref f7)))
    (l7 : K.lookup f7 = some ⟨oc7, od7, .func (PySem.W.fnOf "_law_cell" "_law_cell" (defArgs s__law_cell) (defBody s__law_cell) (defScope s__law_cell) .none kV7 dc7 pm7 an7 cd7 ct7), sl7⟩)
    (c7 : PySem.W.codeIn K cd7 "_law_cell" = true)
    (k7 : PySem.W.keepIn K (.ref f7) = true)
    (a8 : PySem.W.nsIn K mainGlobals "_law_mix" = some (some (.ref f8)))
    (l8 : K.lookup f8 = some ⟨oc8, od8, .func (PySem.W.fnOf "_law_mix" "_law_mix" (defArgs s__law_mix) (defBody s__law_mix) (defScope s__law_mix) .none kV8 dc8 pm8 an8 cd8 ct8), sl8⟩)
    (c8 : PySem.W.codeIn K cd8 "_law_mix" = true)
    (k8 : PySem.W.keepIn K (.ref f8) = true)
    (a9 : PySem.W.nsIn K mainGlobals "_law_names" = some (some (.ref f9)))
    (l9 : K.lookup f9 = some ⟨oc9, od9, .func (PySem.W.fnOf "_law_names" "_law_names" (defArgs s__law_names) (defBody s__law_names) (defScope s__law_names) .none kV9 dc9 pm9 an9 cd9 ct9), sl9⟩)
    (c9 : PySem.W.codeIn K cd9 "_law_names" = true)
    (k9 : PySem.W.keepIn K (.ref f9) = true)
    (a10 : PySem.W.nsIn K mainGlobals "_law_long" = some (some (.ref f10)))
    (l10 : K.lookup f10 = some ⟨oc10, od10, .func (PySem.W.fnOf "_law_long" "_law_long" (defArgs s__law_long) (defBody s__law_long) (defScope s__law_long) .none kV10 dc10 pm10 an10 cd10 ct10), sl10⟩)
    (c10 : PySem.W.codeIn K cd10 "_law_long" = true)
    (k10 : PySem.W.keepIn K (.ref f10) = true)
    (a11 : PySem.W.nsIn K mainGlobals "_law_bridge" = some (some (.ref f11)))
    (l11 : K.lookup f11 = some ⟨oc11, od11, .func (PySem.W.fnOf "_law_bridge" "_law_bridge" (defArgs s__law_bridge) (defBody s__law_bridge) (defScope s__law_bridge) .none kV11 dc11 pm11 an11 cd11 ct11), sl11⟩)
    (c11 : PySem.W.codeIn K cd11 "_law_bridge" = true)
    (k11 : PySem.W.keepIn K (.ref f11) = true)
    (a12 : PySem.W.nsIn K mainGlobals "_law_parts" = some (some (.ref f12)))
    (l12 : K.lookup f12 = some ⟨oc12, od12, .func (PySem.W.fnOf "_law_parts" "_law_parts" (defArgs s__law_parts) (defBody s__law_parts) (defScope s__law_parts) .none kV12 dc12 pm12 an12 cd12 ct12), sl12⟩)
    (c12 : PySem.W.codeIn K cd12 "_law_parts" = true)
    (k12 : PySem.W.keepIn K (.ref f12) = true)
    (a13 : PySem.W.nsIn K mainGlobals "_law_pieces" = some (some (.ref f13)))
    (l13 : K.lookup f13 = some ⟨oc13, od13, .func (PySem.W.fnOf "_law_pieces" "_law_pieces" (defArgs s__law_pieces) (defBody s__law_pieces) (defScope s__law_pieces) .none kV13 dc13 pm13 an13 cd13 ct13), sl13⟩)
    (c13 : PySem.W.codeIn K cd13 "_law_pieces" = true)
    (k13 : PySem.W.keepIn K (.ref f13) = true)
    (a14 : PySem.W.nsIn K mainGlobals "_law_alike" = some (some (.ref f14)))
    (l14 : K.lookup f14 = some ⟨oc14, od14, .func (PySem.W.fnOf "_law_alike" "_law_alike" (defArgs s__law_alike) (defBody s__law_alike) (defScope s__law_alike) .none kV14 dc14 pm14 an14 cd14 ct14), sl14⟩)
    (c14 : PySem.W.codeIn K cd14 "_law_alike" = true)
    (k14 : PySem.W.keepIn K (.ref f14) = true)
    (a15 : PySem.W.nsIn K mainGlobals "_law_same" = some (some (.ref f15)))
    (l15 : K.lookup f15 = some ⟨oc15, od15, .func (PySem.W.fnOf "_law_same" "_law_same" (defArgs s__law_same) (defBody s__law_same) (defScope s__law_same) .none kV15 dc15 pm15 an15 cd15 ct15), sl15⟩)
    (c15 : PySem.W.codeIn K cd15 "_law_same" = true)
    (k15 : PySem.W.keepIn K (.ref f15) = true)
    (a16 : PySem.W.nsIn K mainGlobals "_law_told" = some (some (.ref f16)))
    (l16 : K.lookup f16 = some ⟨oc16, od16, .func (PySem.W.fnOf "_law_told" "_law_told" (defArgs s__law_told) (defBody s__law_told) (defScope s__law_told) .none kV16 dc16 pm16 an16 cd16 ct16), sl16⟩)
    (c16 : PySem.W.codeIn K cd16 "_law_told" = true)
    (k16 : PySem.W.keepIn K (.ref f16) = true)
    (a17 : PySem.W.nsIn K mainGlobals "_law_road_is" = some (some (.ref f17)))
    (l17 : K.lookup f17 = some ⟨oc17, od17, .func (PySem.W.fnOf "_law_road_is" "_law_road_is" (defArgs s__law_road_is) (defBody s__law_road_is) (defScope s__law_road_is) .none kV17 dc17 pm17 an17 cd17 ct17), sl17⟩)
    (c17 : PySem.W.codeIn K cd17 "_law_road_is" = true)
    (k17 : PySem.W.keepIn K (.ref f17) = true)
    (a18 : PySem.W.nsIn K mainGlobals "_law_due" = some (some (.ref f18)))
    (l18 : K.lookup f18 = some ⟨oc18, od18, .func (PySem.W.fnOf "_law_due" "_law_due" (defArgs s__law_due) (defBody s__law_due) (defScope s__law_due) .none kV18 dc18 pm18 an18 cd18 ct18), sl18⟩)
    (c18 : PySem.W.codeIn K cd18 "_law_due" = true)
    (k18 : PySem.W.keepIn K (.ref f18) = true)
    (a19 : PySem.W.nsIn K mainGlobals "_law_asked" = some (some (.ref f19)))
    (l19 : K.lookup f19 = some ⟨oc19, od19, .func (PySem.W.fnOf "_law_asked" "_law_asked" (defArgs s__law_asked) (defBody s__law_asked) (defScope s__law_asked) .none kV19 dc19 pm19 an19 cd19 ct19), sl19⟩)
    (c19 : PySem.W.codeIn K cd19 "_law_asked" = true)
    (k19 : PySem.W.keepIn K (.ref f19) = true)
    (a20 : PySem.W.nsIn K mainGlobals "law" = some (some (.ref f20)))
    (l20 : K.lookup f20 = some ⟨oc20, od20, .func (PySem.W.fnOf "law" "law" (defArgs s_law) (defBody s_law) (defScope s_law) .none kV20 dc20 pm20 an20 cd20 ct20), sl20⟩)
    (c20 : PySem.W.codeIn K cd20 "law" = true)
    (k20 : PySem.W.keepIn K (.ref f20) = true)
    (z_all : PySem.W.nsIn K mainGlobals "all" = some none)
    (z_bool : PySem.W.nsIn K mainGlobals "bool" = some none)
    (z_enumerate : PySem.W.nsIn K mainGlobals "enumerate" = some none)
    (z_int : PySem.W.nsIn K mainGlobals "int" = some none)
    (z_isinstance : PySem.W.nsIn K mainGlobals "isinstance" = some none)
    (z_len : PySem.W.nsIn K mainGlobals "len" = some none)
    (z_list : PySem.W.nsIn K mainGlobals "list" = some none)
    (z_range : PySem.W.nsIn K mainGlobals "range" = some none)
    (z_str : PySem.W.nsIn K mainGlobals "str" = some none)
    (z_sum : PySem.W.nsIn K mainGlobals "sum" = some none)
    (z_tuple : PySem.W.nsIn K mainGlobals "tuple" = some none)
    (z_zip : PySem.W.nsIn K mainGlobals "zip" = some none)
    (aOpen : PySem.W.nsIn K mainGlobals "Open" = some (some (.ref C_Open)))
    (pgOpen : PySem.W.plainGet K C_Open Str.empty = true)
    (hdOpen : PySem.W.hasDictIn K C_Open = true)
    (poOpen : PySem.W.plainOver K C_Open = true)
    (saOpen : PySem.W.findIn K (.ref C_Open) "__setattr__" = some (some (.builtin "object.__setattr__")))
    (nOpen_length : PySem.W.findIn K (.ref C_Open) "length" = some none)
    (aBridge : PySem.W.nsIn K mainGlobals "Bridge" = some (some (.ref C_Bridge)))
    (pgBridge : PySem.W.plainGet K C_Bridge Str.empty = true)
    (hdBridge : PySem.W.hasDictIn K C_Bridge = true)
    (poBridge : PySem.W.plainOver K C_Bridge = true)
    (saBridge : PySem.W.findIn K (.ref C_Bridge) "__setattr__" = some (some (.builtin "object.__setattr__")))
    (nBridge_length : PySem.W.findIn K (.ref C_Bridge) "length" = some none)
    (nBridge_name : PySem.W.findIn K (.ref C_Bridge) "name" = some none)
    (nBridge_bears : PySem.W.findIn K (.ref C_Bridge) "bears" = some none)
    (nBridge_wide : PySem.W.findIn K (.ref C_Bridge) "wide" = some none)
    (nBridge_most : PySem.W.findIn K (.ref C_Bridge) "most" = some none)
    (aRoad : PySem.W.nsIn K mainGlobals "Road" = some (some (.ref C_Road)))
    (pgRoad : PySem.W.plainGet K C_Road Str.empty = true)
    (hdRoad : PySem.W.hasDictIn K C_Road = true)
    (poRoad : PySem.W.plainOver K C_Road = true)
    (saRoad : PySem.W.findIn K (.ref C_Road) "__setattr__" = some (some (.builtin "object.__setattr__")))
    (nRoad_pieces : PySem.W.findIn K (.ref C_Road) "pieces" = some none)
    (nRoad_rounds : PySem.W.findIn K (.ref C_Road) "rounds" = some none)
    (nRoad_shuts : PySem.W.findIn K (.ref C_Road) "shuts" = some none)
    (mkOpen : PySem.W.makesIn K C_Open = true)
    (kcOpen : PySem.W.keepIn K (.ref C_Open) = true)
    (ixOpen : PySem.W.findIn K (.ref C_Open) "__init__" = some (some (.ref fIPiece)))
    (mkBridge : PySem.W.makesIn K C_Bridge = true)
    (kcBridge : PySem.W.keepIn K (.ref C_Bridge) = true)
    (ixBridge : PySem.W.findIn K (.ref C_Bridge) "__init__" = some (some (.ref fIBridge)))
    (mkRoad : PySem.W.makesIn K C_Road = true)
    (kcRoad : PySem.W.keepIn K (.ref C_Road) = true)
    (ixRoad : PySem.W.findIn K (.ref C_Road) "__init__" = some (some (.ref fIRoad)))
    (imOpen : PySem.W.findIn K (.ref C_Open) "is_bridge" = some (some (.ref fMPiece)))
    (imBridge : PySem.W.findIn K (.ref C_Bridge) "is_bridge" = some (some (.ref fMBridge)))
    (iiPiece : PySem.W.isFn K (.ref fIPiece) = true)
    (lIPiece : K.lookup fIPiece = some ⟨ocIPiece, odIPiece, .func (PySem.W.fnOf "__init__" "Piece.__init__" (defArgs sI_Piece) (defBody sI_Piece) (defScope sI_Piece) .none kVIPiece dcIPiece pmIPiece anIPiece cdIPiece ctIPiece), slIPiece⟩)
    (cIPiece : PySem.W.codeIn K cdIPiece "Piece.__init__" = true)
    (kIPiece : PySem.W.keepIn K (.ref fIPiece) = true)
    (iiBridge : PySem.W.isFn K (.ref fIBridge) = true)
    (lIBridge : K.lookup fIBridge = some ⟨ocIBridge, odIBridge, .func (PySem.W.fnOf "__init__" "Bridge.__init__" (defArgs sI_Bridge) (defBody sI_Bridge) (defScope sI_Bridge) .none kVIBridge dcIBridge pmIBridge anIBridge cdIBridge ctIBridge), slIBridge⟩)
    (cIBridge : PySem.W.codeIn K cdIBridge "Bridge.__init__" = true)
    (kIBridge : PySem.W.keepIn K (.ref fIBridge) = true)
    (iiRoad : PySem.W.isFn K (.ref fIRoad) = true)
    (lIRoad : K.lookup fIRoad = some ⟨ocIRoad, odIRoad, .func (PySem.W.fnOf "__init__" "Road.__init__" (defArgs sI_Road) (defBody sI_Road) (defScope sI_Road) .none kVIRoad dcIRoad pmIRoad anIRoad cdIRoad ctIRoad), slIRoad⟩)
    (cIRoad : PySem.W.codeIn K cdIRoad "Road.__init__" = true)
    (kIRoad : PySem.W.keepIn K (.ref fIRoad) = true)
    (miPiece : PySem.W.isFn K (.ref fMPiece) = true)
    (lMPiece : K.lookup fMPiece = some ⟨ocMPiece, odMPiece, .func (PySem.W.fnOf "is_bridge" "Piece.is_bridge" (defArgs sM_Piece_is_bridge) (defBody sM_Piece_is_bridge) (defScope sM_Piece_is_bridge) .none kVMPiece dcMPiece pmMPiece anMPiece cdMPiece ctMPiece), slMPiece⟩)
    (cMPiece : PySem.W.codeIn K cdMPiece "Piece.is_bridge" = true)
    (kMPiece : PySem.W.keepIn K (.ref fMPiece) = true)
    (miBridge : PySem.W.isFn K (.ref fMBridge) = true)
    (lMBridge : K.lookup fMBridge = some ⟨ocMBridge, odMBridge, .func (PySem.W.fnOf "is_bridge" "Bridge.is_bridge" (defArgs sM_Bridge_is_bridge) (defBody sM_Bridge_is_bridge) (defScope sM_Bridge_is_bridge) .none kVMBridge dcMBridge pmMBridge anMBridge cdMBridge ctMBridge), slMBridge⟩)
    (cMBridge : PySem.W.codeIn K cdMBridge "Bridge.is_bridge" = true)
    (kMBridge : PySem.W.keepIn K (.ref fMBridge) = true)
    (aPiece : PySem.W.nsIn K mainGlobals "Piece" = some (some (.ref C_Piece)))
    (rdPiece : PySem.W.readsIn K C_Piece (.type "type") = true)
    (gaPiece : PySem.W.specialIn K (.ref C_Piece) "__getattribute__" = some (some (.builtin "type.__getattribute__")))
    (fcPiece : PySem.W.findCls K (.ref C_Piece) (.type "type") "__init__" = some (.val (.ref fIPiece)))
    (cgO : PySem.W.specialIn K (.builtin "object.__class__") "__get__" = some (some (.builtin "getset_descriptor.__get__")))
    (ctO : PySem.W.takesIn K (.builtin "object.__class__") = some true)
    (ccOpen : PySem.W.findIn K (.ref C_Open) "__class__" = some (some (.builtin "object.__class__")))
    (cmOpen : PySem.W.mroIn K C_Open (.type "object") = some true)
    (ccBridge : PySem.W.findIn K (.ref C_Bridge) "__class__" = some (some (.builtin "object.__class__")))
    (cmBridge : PySem.W.mroIn K C_Bridge (.type "object") = some true)
    (ccRoad : PySem.W.findIn K (.ref C_Road) "__class__" = some (some (.builtin "object.__class__")))
    (cmRoad : PySem.W.mroIn K C_Road (.type "object") = some true)
    (icBridge : PySem.W.isClsIn K C_Bridge = true)
    (tyBridge : PySem.W.typeIn K (.ref C_Bridge) = some (.type "type"))
    (suOpen_Bridge : PySem.W.subIn K (.ref C_Open) (.ref C_Bridge) = some false)
    (suBridge_Bridge : PySem.W.subIn K (.ref C_Bridge) (.ref C_Bridge) = some true)
    (suRoad_Bridge : PySem.W.subIn K (.ref C_Road) (.ref C_Bridge) = some false)
    (icOpen : PySem.W.isClsIn K C_Open = true)
    (tyOpen : PySem.W.typeIn K (.ref C_Open) = some (.type "type"))
    (suOpen_Open : PySem.W.subIn K (.ref C_Open) (.ref C_Open) = some true)
    (suBridge_Open : PySem.W.subIn K (.ref C_Bridge) (.ref C_Open) = some false)
    (suRoad_Open : PySem.W.subIn K (.ref C_Road) (.ref C_Open) = some false)
    (icRoad : PySem.W.isClsIn K C_Road = true)
    (tyRoad : PySem.W.typeIn K (.ref C_Road) = some (.type "type"))
    (suOpen_Road : PySem.W.subIn K (.ref C_Open) (.ref C_Road) = some false)
    (suBridge_Road : PySem.W.subIn K (.ref C_Bridge) (.ref C_Road) = some false)
    (suRoad_Road : PySem.W.subIn K (.ref C_Road) (.ref C_Road) = some true)
    : ∃ fd : FuncData, (∀ (s : Shared) (v : Value), BindsTo s fd ⟨[v], []⟩ [("_law_script", v)]) ∧ ∀ base : Heap, K.In base → base.Ns mainGlobals mg → FnOk l.prog w K mg base CX0 25 fa fd ["_law_script"] (spAll K φ_law) := by
  have e := hfa.symm.trans (PySem.W.mg_of X G a20)
  cases e
  have Z : Blt mg := ⟨PySem.W.mg_none_of X G z_all, PySem.W.mg_none_of X G z_bool, PySem.W.mg_none_of X G z_enumerate, PySem.W.mg_none_of X G z_int, PySem.W.mg_none_of X G z_isinstance, PySem.W.mg_none_of X G z_len, PySem.W.mg_none_of X G z_list, PySem.W.mg_none_of X G z_range, PySem.W.mg_none_of X G z_str, PySem.W.mg_none_of X G z_sum, PySem.W.mg_none_of X G z_tuple, PySem.W.mg_none_of X G z_zip⟩
  have F0 := fun_mk (st := s_bridges_of) l0 c0 k0
  have FA0 := F0.toA
  have b0 := F0.binds (ps := ["road"]) fun _ _ _ _ _ _ us hl => match us, hl with | [_], _ => rfl
  have F1 := fun_mk (st := s_round_of) l1 c1 k1
  have FA1 := F1.toA
  have b1 := F1.binds (ps := ["road", "name"]) fun _ _ _ _ _ _ us hl => match us, hl with | [_, _], _ => rfl
  have F2 := fun_mk (st := s_ways_of) l2 c2 k2
  have FA2 := F2.toA
  have b2 := F2.binds (ps := ["road"]) fun _ _ _ _ _ _ us hl => match us, hl with | [_], _ => rfl
  have F3 := fun_mk (st := s_step_along) l3 c3 k3
  have FA3 := F3.toA
  have b3 := F3.binds (ps := ["road", "piece", "over"]) fun _ _ _ _ _ _ us hl => match us, hl with | [_, _, _], _ => rfl
  have F4 := fun_mk (st := s_walked) l4 c4 k4
  have FA4 := F4.toA
  have b4 := F4.binds (ps := ["road", "way"]) fun _ _ _ _ _ _ us hl => match us, hl with | [_, _], _ => rfl
  have F5 := fun_mk (st := s_legs_of) l5 c5 k5
  have FA5 := F5.toA
  have b5 := F5.binds (ps := ["road", "way"]) fun _ _ _ _ _ _ us hl => match us, hl with | [_, _], _ => rfl
  have F6 := fun_mk (st := s_length_of) l6 c6 k6
  have FA6 := F6.toA
  have b6 := F6.binds (ps := ["road", "way"]) fun _ _ _ _ _ _ us hl => match us, hl with | [_, _], _ => rfl
  have F7 := fun_mk (st := s__law_cell) l7 c7 k7
  have FA7 := F7.toA
  have b7 := F7.binds (ps := ["_law_script", "_law_k"]) fun _ _ _ _ _ _ us hl => match us, hl with | [_, _], _ => rfl
  have F8 := fun_mk (st := s__law_mix) l8 c8 k8
  have FA8 := F8.toA
  have b8 := F8.binds (ps := ["_law_cell_here", "_law_one", "_law_prime"]) fun _ _ _ _ _ _ us hl => match us, hl with | [_, _, _], _ => rfl
  have F9 := fun_mk (st := s__law_names) l9 c9 k9
  have FA9 := F9.toA
  have b9 := F9.binds (ps := ["_law_cell_here"]) fun _ _ _ _ _ _ us hl => match us, hl with | [_], _ => rfl
  have F10 := fun_mk (st := s__law_long) l10 c10 k10
  have FA10 := F10.toA
  have b10 := F10.binds (ps := ["_law_cell_here", "_law_one", "_law_least"]) fun _ _ _ _ _ _ us hl => match us, hl with | [_, _, _], _ => rfl
  have F11 := fun_mk (st := s__law_bridge) l11 c11 k11
  have FA11 := F11.toA
  have b11 := F11.binds (ps := ["_law_cell_here", "_law_name"]) fun _ _ _ _ _ _ us hl => match us, hl with | [_, _], _ => rfl
  have F12 := fun_mk (st := s__law_parts) l12 c12 k12
  have FA12 := F12.toA
  have b12 := F12.binds (ps := ["_law_script"]) fun _ _ _ _ _ _ us hl => match us, hl with | [_], _ => rfl
  have F13 := fun_mk (st := s__law_pieces) l13 c13 k13
  have FA13 := F13.toA
  have b13 := F13.binds (ps := ["_law_pieces_here"]) fun _ _ _ _ _ _ us hl => match us, hl with | [_], _ => rfl
  have F14 := fun_mk (st := s__law_alike) l14 c14 k14
  have FA14 := F14.toA
  have b14 := F14.binds (ps := ["_law_found", "_law_due_here"]) fun _ _ _ _ _ _ us hl => match us, hl with | [_, _], _ => rfl
  have F15 := fun_mk (st := s__law_same) l15 c15 k15
  have FA15 := F15.toA
  have b15 := F15.binds (ps := ["_law_found", "_law_due_here"]) fun _ _ _ _ _ _ us hl => match us, hl with | [_, _], _ => rfl
  have F16 := fun_mk (st := s__law_told) l16 c16 k16
  have FA16 := F16.toA
  have b16 := F16.binds (ps := ["_law_piece"]) fun _ _ _ _ _ _ us hl => match us, hl with | [_], _ => rfl
  have F17 := fun_mk (st := s__law_road_is) l17 c17 k17
  have FA17 := F17.toA
  have b17 := F17.binds (ps := ["_law_road", "_law_pieces_here", "_law_rounds", "_law_shuts"]) fun _ _ _ _ _ _ us hl => match us, hl with | [_, _, _, _], _ => rfl
  have F18 := fun_mk (st := s__law_due) l18 c18 k18
  have FA18 := F18.toA
  have b18 := F18.binds (ps := ["_law_pieces_here", "_law_rounds", "_law_way"]) fun _ _ _ _ _ _ us hl => match us, hl with | [_, _, _], _ => rfl
  have F19 := fun_mk (st := s__law_asked) l19 c19 k19
  have FA19 := F19.toA
  have b19 := F19.binds (ps := ["_law_road", "_law_pieces_here", "_law_rounds", "_law_way"]) fun _ _ _ _ _ _ us hl => match us, hl with | [_, _, _, _], _ => rfl
  have F20 := fun_mk (st := s_law) l20 c20 k20
  have FA20 := F20.toA
  have b20 := F20.binds (ps := ["_law_script"]) fun _ _ _ _ _ _ us hl => match us, hl with | [_], _ => rfl
  refine ⟨PySem.W.fnOf "law" "law" (defArgs s_law) (defBody s_law) (defScope s_law) .none kV20 dc20 pm20 an20 cd20 ct20, fun s v => .of_eq rfl, fun base _ _ => ?_⟩
  have kl_Open : Kls K ((caOf [C_Open, C_Bridge, C_Road, 0, 0, 0]) 0) 0 := by
    refine ⟨⟨pgOpen, hdOpen, poOpen, saOpen⟩, fun f hf => ?_⟩
    simp only [fldsOf, List.mem_cons, List.not_mem_nil, or_false] at hf
    rcases hf with rfl
    · exact nOpen_length
  have kl_Bridge : Kls K ((caOf [C_Open, C_Bridge, C_Road, 0, 0, 0]) 1) 1 := by
    refine ⟨⟨pgBridge, hdBridge, poBridge, saBridge⟩, fun f hf => ?_⟩
    simp only [fldsOf, List.mem_cons, List.not_mem_nil, or_false] at hf
    rcases hf with rfl | rfl | rfl | rfl | rfl
    · exact nBridge_length
    · exact nBridge_name
    · exact nBridge_bears
    · exact nBridge_wide
    · exact nBridge_most
  have kl_Road : Kls K ((caOf [C_Open, C_Bridge, C_Road, 0, 0, 0]) 2) 2 := by
    refine ⟨⟨pgRoad, hdRoad, poRoad, saRoad⟩, fun f hf => ?_⟩
    simp only [fldsOf, List.mem_cons, List.not_mem_nil, or_false] at hf
    rcases hf with rfl | rfl | rfl
    · exact nRoad_pieces
    · exact nRoad_rounds
    · exact nRoad_shuts
  have FIPiece := fun_mk (st := sI_Piece) lIPiece cIPiece kIPiece
  have bIPiece := FIPiece.binds (ps := ["self", "length"]) fun _ _ _ _ _ _ us hl => match us, hl with | [_, _], _ => rfl
  have FIBridge := fun_mk (st := sI_Bridge) lIBridge cIBridge kIBridge
  have bIBridge := FIBridge.binds (ps := ["self", "name", "length", "bears", "wide", "most"]) fun _ _ _ _ _ _ us hl => match us, hl with | [_, _, _, _, _, _], _ => rfl
  have FIRoad := fun_mk (st := sI_Road) lIRoad cIRoad kIRoad
  have bIRoad := FIRoad.binds (ps := ["self", "pieces", "rounds", "shuts"]) fun _ _ _ _ _ _ us hl => match us, hl with | [_, _, _, _], _ => rfl
  have GI_Open := okI_Piece (P := l.prog) (w := w) (mg := mg) (base := base) (ca := caOf [C_Open, C_Bridge, C_Road, 0, 0, 0]) 0 kl_Open (by decide) FIPiece
  have W_Open : Maker l.prog w K mg base (caOf [C_Open, C_Bridge, C_Road, 0, 0, 0]) 1 0 1 "Open" ini_Open := ⟨_, _, _, ⟨mkOpen, ixOpen, iiPiece, kcOpen⟩, kl_Open, GI_Open, PySem.W.mg_of X G aOpen, bIPiece⟩
  have GI_Bridge_Piece := okI_Piece (P := l.prog) (w := w) (mg := mg) (base := base) (ca := caOf [C_Open, C_Bridge, C_Road, 0, 0, 0]) 1 kl_Bridge (by decide) FIPiece
  have GI_Bridge := okI_Bridge kl_Bridge GI_Bridge_Piece (PySem.W.mg_of X G aPiece) rdPiece gaPiece fcPiece kIPiece bIPiece FIBridge
  have W_Bridge : Maker l.prog w K mg base (caOf [C_Open, C_Bridge, C_Road, 0, 0, 0]) 2 1 5 "Bridge" ini_Bridge := ⟨_, _, _, ⟨mkBridge, ixBridge, iiBridge, kcBridge⟩, kl_Bridge, GI_Bridge, PySem.W.mg_of X G aBridge, bIBridge⟩
  have GI_Road := okI_Road (P := l.prog) (w := w) (mg := mg) (base := base) (ca := caOf [C_Open, C_Bridge, C_Road, 0, 0, 0]) Z 2 kl_Road (by decide) FIRoad
  have W_Road : Maker l.prog w K mg base (caOf [C_Open, C_Bridge, C_Road, 0, 0, 0]) 1 2 3 "Road" ini_Road := ⟨_, _, _, ⟨mkRoad, ixRoad, iiRoad, kcRoad⟩, kl_Road, GI_Road, PySem.W.mg_of X G aRoad, bIRoad⟩
  have FMPiece := fun_mk (st := sM_Piece_is_bridge) lMPiece cMPiece kMPiece
  have bMPiece := FMPiece.binds (ps := ["self"]) fun _ _ _ _ _ _ us hl => match us, hl with | [_], _ => rfl
  have FMBridge := fun_mk (st := sM_Bridge_is_bridge) lMBridge cMBridge kMBridge
  have bMBridge := FMBridge.binds (ps := ["self"]) fun _ _ _ _ _ _ us hl => match us, hl with | [_], _ => rfl
  have M_0 : MCallee l.prog w K mg base (caOf [C_Open, C_Bridge, C_Road, 0, 0, 0]) 1 0 "is_bridge" φ_Piece_is_bridge := ⟨_, _, _, okM_Piece FMPiece.toA, kl_Open.cl, ⟨imOpen, miPiece, kMPiece⟩, bMPiece⟩
  have M_1 : MCallee l.prog w K mg base (caOf [C_Open, C_Bridge, C_Road, 0, 0, 0]) 1 1 "is_bridge" φ_Bridge_is_bridge := ⟨_, _, _, okM_Bridge FMBridge.toA, kl_Bridge.cl, ⟨imBridge, miBridge, kMBridge⟩, bMBridge⟩
  have N_Bridge : mg "Bridge" = some (.ref ((caOf [C_Open, C_Bridge, C_Road, 0, 0, 0]) 1)) := PySem.W.mg_of X G aBridge
  have I_Bridge : IsiK K (caOf [C_Open, C_Bridge, C_Road, 0, 0, 0]) [0, 1, 2] 1 := by
    intro c2 hc2
    simp only [List.mem_cons, List.not_mem_nil, or_false] at hc2
    rcases hc2 with rfl | rfl | rfl
    · exact ⟨⟨ccOpen, cgO, ctO, cmOpen⟩, kit_own icBridge tyBridge suOpen_Bridge suBridge_Bridge⟩
    · exact ⟨⟨ccBridge, cgO, ctO, cmBridge⟩, kit_own icBridge tyBridge suBridge_Bridge suBridge_Bridge⟩
    · exact ⟨⟨ccRoad, cgO, ctO, cmRoad⟩, kit_own icBridge tyBridge suRoad_Bridge suBridge_Bridge⟩
  have N_Open : mg "Open" = some (.ref ((caOf [C_Open, C_Bridge, C_Road, 0, 0, 0]) 0)) := PySem.W.mg_of X G aOpen
  have I_Open : IsiK K (caOf [C_Open, C_Bridge, C_Road, 0, 0, 0]) [0, 1, 2] 0 := by
    intro c2 hc2
    simp only [List.mem_cons, List.not_mem_nil, or_false] at hc2
    rcases hc2 with rfl | rfl | rfl
    · exact ⟨⟨ccOpen, cgO, ctO, cmOpen⟩, kit_own icOpen tyOpen suOpen_Open suOpen_Open⟩
    · exact ⟨⟨ccBridge, cgO, ctO, cmBridge⟩, kit_own icOpen tyOpen suBridge_Open suOpen_Open⟩
    · exact ⟨⟨ccRoad, cgO, ctO, cmRoad⟩, kit_own icOpen tyOpen suRoad_Open suOpen_Open⟩
  have N_Road : mg "Road" = some (.ref ((caOf [C_Open, C_Bridge, C_Road, 0, 0, 0]) 2)) := PySem.W.mg_of X G aRoad
  have I_Road : IsiK K (caOf [C_Open, C_Bridge, C_Road, 0, 0, 0]) [0, 1, 2] 2 := by
    intro c2 hc2
    simp only [List.mem_cons, List.not_mem_nil, or_false] at hc2
    rcases hc2 with rfl | rfl | rfl
    · exact ⟨⟨ccOpen, cgO, ctO, cmOpen⟩, kit_own icRoad tyRoad suOpen_Road suRoad_Road⟩
    · exact ⟨⟨ccBridge, cgO, ctO, cmBridge⟩, kit_own icRoad tyRoad suBridge_Road suRoad_Road⟩
    · exact ⟨⟨ccRoad, cgO, ctO, cmRoad⟩, kit_own icRoad tyRoad suRoad_Road suRoad_Road⟩
  have G0 : FnOk l.prog w K mg base CX0 2 _ _ _ (spOf K (caOf [C_Open, C_Bridge, C_Road, 0, 0, 0]) φ_bridges_of) := ok_bridges_of Z M_0 M_1 FA0
  have C_bridges_of : Callee l.prog w K mg base (caOf [C_Open, C_Bridge, C_Road, 0, 0, 0]) 2 "bridges_of" φ_bridges_of [] := fn_callee FA0 G0 (PySem.W.mg_of X G a0) b0 .nil fun _ => .nil
  have G1 : FnOk l.prog w K mg base CX0 1 _ _ _ (spOf K (caOf [C_Open, C_Bridge, C_Road, 0, 0, 0]) φ_round_of) := ok_round_of Z FA1
  have C_round_of : Callee l.prog w K mg base (caOf [C_Open, C_Bridge, C_Road, 0, 0, 0]) 1 "round_of" φ_round_of [] := fn_callee FA1 G1 (PySem.W.mg_of X G a1) b1 .nil fun _ => .nil
  have G2 : FnOk l.prog w K mg base CX0 3 _ _ _ (spOf K (caOf [C_Open, C_Bridge, C_Road, 0, 0, 0]) φ_ways_of) := ok_ways_of Z C_bridges_of C_round_of FA2
  have C_ways_of : Callee l.prog w K mg base (caOf [C_Open, C_Bridge, C_Road, 0, 0, 0]) 3 "ways_of" φ_ways_of [] := fn_callee FA2 G2 (PySem.W.mg_of X G a2) b2 .nil fun _ => .nil
  have G3 : FnOk l.prog w K mg base CX0 2 _ _ _ (spOf K (caOf [C_Open, C_Bridge, C_Road, 0, 0, 0]) φ_step_along) := ok_step_along Z C_round_of FA3
  have C_step_along : Callee l.prog w K mg base (caOf [C_Open, C_Bridge, C_Road, 0, 0, 0]) 2 "step_along" φ_step_along [] := fn_callee FA3 G3 (PySem.W.mg_of X G a3) b3 .nil fun _ => .nil
  have G4 : FnOk l.prog w K mg base CX0 3 _ _ _ (spW K (caOf [C_Open, C_Bridge, C_Road, 0, 0, 0]) φ_walked) := ok_walked Z C_step_along M_0 M_1 FA4
  have C_walked : CalleeW l.prog w K mg base (caOf [C_Open, C_Bridge, C_Road, 0, 0, 0]) 3 "walked" φ_walked := ⟨⟨_, _, _, G4, PySem.W.mg_of X G a4, FA4.kp, b4⟩⟩
  have G5 : FnOk l.prog w K mg base CX0 4 _ _ _ (spOf K (caOf [C_Open, C_Bridge, C_Road, 0, 0, 0]) φ_legs_of) := ok_legs_of Z C_walked FA5
  have C_legs_of : Callee l.prog w K mg base (caOf [C_Open, C_Bridge, C_Road, 0, 0, 0]) 4 "legs_of" φ_legs_of [] := fn_callee FA5 G5 (PySem.W.mg_of X G a5) b5 .nil fun _ => .nil
  have G6 : FnOk l.prog w K mg base CX0 4 _ _ _ (spOf K (caOf [C_Open, C_Bridge, C_Road, 0, 0, 0]) φ_length_of) := ok_length_of Z C_walked FA6
  have C_length_of : Callee l.prog w K mg base (caOf [C_Open, C_Bridge, C_Road, 0, 0, 0]) 4 "length_of" φ_length_of [] := fn_callee FA6 G6 (PySem.W.mg_of X G a6) b6 .nil fun _ => .nil
  have G7 : FnOk l.prog w K mg base CX0 1 _ _ _ (spOf K (caOf [C_Open, C_Bridge, C_Road, 0, 0, 0]) φ__law_cell) := ok__law_cell Z FA7
  have C__law_cell : Callee l.prog w K mg base (caOf [C_Open, C_Bridge, C_Road, 0, 0, 0]) 1 "_law_cell" φ__law_cell [] := fn_callee FA7 G7 (PySem.W.mg_of X G a7) b7 .nil fun _ => .nil
  have G8 : FnOk l.prog w K mg base CX0 1 _ _ _ (spOf K (caOf [C_Open, C_Bridge, C_Road, 0, 0, 0]) φ__law_mix) := ok__law_mix Z FA8
  have C__law_mix : Callee l.prog w K mg base (caOf [C_Open, C_Bridge, C_Road, 0, 0, 0]) 1 "_law_mix" φ__law_mix [] := fn_callee FA8 G8 (PySem.W.mg_of X G a8) b8 .nil fun _ => .nil
  have G9 : FnOk l.prog w K mg base CX0 2 _ _ _ (spOf K (caOf [C_Open, C_Bridge, C_Road, 0, 0, 0]) φ__law_names) := ok__law_names Z C__law_mix FA9
  have C__law_names : Callee l.prog w K mg base (caOf [C_Open, C_Bridge, C_Road, 0, 0, 0]) 2 "_law_names" φ__law_names [] := fn_callee FA9 G9 (PySem.W.mg_of X G a9) b9 .nil fun _ => .nil
  have G10 : FnOk l.prog w K mg base CX0 2 _ _ _ (spOf K (caOf [C_Open, C_Bridge, C_Road, 0, 0, 0]) φ__law_long) := ok__law_long Z C__law_mix FA10
  have C__law_long : Callee l.prog w K mg base (caOf [C_Open, C_Bridge, C_Road, 0, 0, 0]) 2 "_law_long" φ__law_long [] := fn_callee FA10 G10 (PySem.W.mg_of X G a10) b10 .nil fun _ => .nil
  have G11 : FnOk l.prog w K mg base CX0 3 _ _ _ (spOf K (caOf [C_Open, C_Bridge, C_Road, 0, 0, 0]) φ__law_bridge) := ok__law_bridge Z C__law_mix C__law_long FA11
  have C__law_bridge : Callee l.prog w K mg base (caOf [C_Open, C_Bridge, C_Road, 0, 0, 0]) 3 "_law_bridge" φ__law_bridge [] := fn_callee FA11 G11 (PySem.W.mg_of X G a11) b11 .nil fun _ => .nil
  have G12 : FnOk l.prog w K mg base CX0 4 _ _ _ (spOf K (caOf [C_Open, C_Bridge, C_Road, 0, 0, 0]) φ__law_parts) := ok__law_parts Z C__law_cell C__law_names C__law_mix C__law_long C__law_bridge FA12
  have C__law_parts : Callee l.prog w K mg base (caOf [C_Open, C_Bridge, C_Road, 0, 0, 0]) 4 "_law_parts" φ__law_parts [] := fn_callee FA12 G12 (PySem.W.mg_of X G a12) b12 .nil fun _ => .nil
  have G13 : FnOk l.prog w K mg base CX0 4 _ _ _ (spOf K (caOf [C_Open, C_Bridge, C_Road, 0, 0, 0]) φ__law_pieces) := ok__law_pieces Z W_Bridge W_Open FA13
  have C__law_pieces : Callee l.prog w K mg base (caOf [C_Open, C_Bridge, C_Road, 0, 0, 0]) 4 "_law_pieces" φ__law_pieces [] := fn_callee FA13 G13 (PySem.W.mg_of X G a13) b13 .nil fun _ => .nil
  have G14 : FnOk l.prog w K mg base CX0 22 _ _ _ (spOf K (caOf [C_Open, C_Bridge, C_Road, 0, 0, 0]) φ__law_alike) := okr__law_alike Z  FA14 (PySem.W.mg_of X G a14) b14 FA15 (PySem.W.mg_of X G a15) b15 10
  have C__law_alike : Callee l.prog w K mg base (caOf [C_Open, C_Bridge, C_Road, 0, 0, 0]) 22 "_law_alike" φ__law_alike [] := fn_callee FA14 G14 (PySem.W.mg_of X G a14) b14 .nil fun _ => .nil
  have G15 : FnOk l.prog w K mg base CX0 23 _ _ _ (spOf K (caOf [C_Open, C_Bridge, C_Road, 0, 0, 0]) φ__law_same) := okp__law_same (lv := 22) (by decide) Z  C__law_alike FA15
  have C__law_same : Callee l.prog w K mg base (caOf [C_Open, C_Bridge, C_Road, 0, 0, 0]) 23 "_law_same" φ__law_same [] := fn_callee FA15 G15 (PySem.W.mg_of X G a15) b15 .nil fun _ => .nil
  have G16 : FnOk l.prog w K mg base CX0 1 _ _ _ (spOf K (caOf [C_Open, C_Bridge, C_Road, 0, 0, 0]) φ__law_told) := ok__law_told Z N_Bridge I_Bridge N_Open I_Open FA16
  have C__law_told : Callee l.prog w K mg base (caOf [C_Open, C_Bridge, C_Road, 0, 0, 0]) 1 "_law_told" φ__law_told [] := fn_callee FA16 G16 (PySem.W.mg_of X G a16) b16 .nil fun _ => .nil
  have G17 : FnOk l.prog w K mg base CX0 24 _ _ _ (spOf K (caOf [C_Open, C_Bridge, C_Road, 0, 0, 0]) φ__law_road_is) := ok__law_road_is Z C__law_same C__law_told N_Road I_Road FA17
  have C__law_road_is : Callee l.prog w K mg base (caOf [C_Open, C_Bridge, C_Road, 0, 0, 0]) 24 "_law_road_is" φ__law_road_is [] := fn_callee FA17 G17 (PySem.W.mg_of X G a17) b17 .nil fun _ => .nil
  have G18 : FnOk l.prog w K mg base CX0 1 _ _ _ (spOf K (caOf [C_Open, C_Bridge, C_Road, 0, 0, 0]) φ__law_due) := ok__law_due Z FA18
  have C__law_due : Callee l.prog w K mg base (caOf [C_Open, C_Bridge, C_Road, 0, 0, 0]) 1 "_law_due" φ__law_due [] := fn_callee FA18 G18 (PySem.W.mg_of X G a18) b18 .nil fun _ => .nil
  have G19 : FnOk l.prog w K mg base CX0 24 _ _ _ (spOf K (caOf [C_Open, C_Bridge, C_Road, 0, 0, 0]) φ__law_asked) := ok__law_asked Z C__law_due C_legs_of C__law_told C__law_same C_length_of FA19
  have C__law_asked : Callee l.prog w K mg base (caOf [C_Open, C_Bridge, C_Road, 0, 0, 0]) 24 "_law_asked" φ__law_asked [] := fn_callee FA19 G19 (PySem.W.mg_of X G a19) b19 .nil fun _ => .nil
  have G20 : FnOk l.prog w K mg base CX0 25 _ _ _ (spOf K (caOf [C_Open, C_Bridge, C_Road, 0, 0, 0]) φ_law) := ok_law Z C__law_parts C__law_pieces C_ways_of C__law_mix C__law_asked C__law_road_is W_Road FA20
  exact fn_all G20
theorem law_ok (K : PySem.W.Frag) (H : Hp) (a : Addr) (ns : List Int) (hl : ns.length ≤ 63) (hb : ∀ z ∈ ns, Builtin.Int.intBits z ≤ 1048576) (hS : SqL K H a (ns.map V.int)) : spAll K φ_law [.ref a] H (fun v _ => v = .bl true) fun _ _ _ => False :=
  fun ca h20 h22 => ⟨[.rol (ns.map D.int)], noT H, .va (.bl true), noT_same _, noT_nt _, tabsC0 h20 h22, .cons (.rol (noT_sq hS) .ints) .nil, law_true ns hl hb, fun v H' F' _ r => by cases r; rfl⟩
end G
open PySem PySem.W PyProof.Rows
set_option maxRecDepth 100000 in
set_option maxHeartbeats 0 in
theorem PySem.Challenge.cw_ballastway_k12_along_a_way_holds : PySem.Challenge.rw_ballastway_k12_along_a_way.Holds := by
  w_on; o_law; k_head; (case hw => w_witness2)
  k_fill
  refine L2.walk_ofB (l := PySem.Challenge.rw_ballastway_k12_along_a_way) (n := 63) (k := 25) (x := "_law_script") (CX := fun _ => L2.CX0) (sp := fun w => BK.spAll _ G.φ_law) rfl (by decide) rfl ⟨rfl, by decide, by decide⟩ (fun w h Y => PySem.W.kIn_of Y) ?F (fun w H a ns hl hb ho hS => G.law_ok _ H a ns hl hb hS) (fun _ _ _ _ _ h => h)
  case F =>
    intro w mg fa h KX Gh hmg
    refine' G.all_mk KX Gh hmg ?a0 ?l0 ?c0 ?k0 ?a1 ?l1 ?c1 ?k1 ?a2 ?l2 ?c2 ?k2 ?a3 ?l3 ?c3 ?k3 ?a4 ?l4 ?c4 ?k4 ?a5 ?l5 ?c5 ?k5 ?a6 ?l6 ?c6 ?k6 ?a7 ?l7 ?c7 ?k7 ?a8 ?l8 ?c8 ?k8 ?a9 ?l9 ?c9 ?k9 ?a10 ?l10 ?c10 ?k10 ?a11 ?l11 ?c11 ?k11 ?a12 ?l12 ?c12 ?k12 ?a13 ?l13 ?c13 ?k13 ?a14 ?l14 ?c14 ?k14 ?a15 ?l15 ?c15 ?k15 ?a16 ?l16 ?c16 ?k16 ?a17 ?l17 ?c17 ?k17 ?a18 ?l18 ?c18 ?k18 ?a19 ?l19 ?c19 ?k19 ?a20 ?l20 ?c20 ?k20 ?z_all ?z_bool ?z_enumerate ?z_int ?z_isinstance ?z_len ?z_list ?z_range ?z_str ?z_sum ?z_tuple ?z_zip ?aOpen ?pgOpen ?hdOpen ?poOpen ?saOpen ?nOpen_length ?aBridge ?pgBridge ?hdBridge ?poBridge ?saBridge ?nBridge_length ?nBridge_name ?nBridge_bears ?nBridge_wide ?nBridge_most ?aRoad ?pgRoad ?hdRoad ?poRoad ?saRoad ?nRoad_pieces ?nRoad_rounds ?nRoad_shuts ?mkOpen ?kcOpen ?ixOpen ?mkBridge ?kcBridge ?ixBridge ?mkRoad ?kcRoad ?ixRoad ?imOpen ?imBridge ?iiPiece ?lIPiece ?cIPiece ?kIPiece ?iiBridge ?lIBridge ?cIBridge ?kIBridge ?iiRoad ?lIRoad ?cIRoad ?kIRoad ?miPiece ?lMPiece ?cMPiece ?kMPiece ?miBridge ?lMBridge ?cMBridge ?kMBridge ?aPiece ?rdPiece ?gaPiece ?fcPiece ?cgO ?ctO ?ccOpen ?cmOpen ?ccBridge ?cmBridge ?ccRoad ?cmRoad ?icBridge ?tyBridge ?suOpen_Bridge ?suBridge_Bridge ?suRoad_Bridge ?icOpen ?tyOpen ?suOpen_Open ?suBridge_Open ?suRoad_Open ?icRoad ?tyRoad ?suOpen_Road ?suBridge_Road ?suRoad_Road
    (case a0 => k_is)
    (case l0 => k_is)
    (case c0 => k_is)
    (case k0 => k_is)
    (case a1 => k_is)
    (case l1 => k_is)
    (case c1 => k_is)
    (case k1 => k_is)
    (case a2 => k_is)
    (case l2 => k_is)
    (case c2 => k_is)
    (case k2 => k_is)
    (case a3 => k_is)
    (case l3 => k_is)
    (case c3 => k_is)
    (case k3 => k_is)
    (case a4 => k_is)
    (case l4 => k_is)
    (case c4 => k_is)
    (case k4 => k_is)
    (case a5 => k_is)
    (case l5 => k_is)
    (case c5 => k_is)
    (case k5 => k_is)
    (case a6 => k_is)
    (case l6 => k_is)
    (case c6 => k_is)
    (case k6 => k_is)
    (case a7 => k_is)
    (case l7 => k_is)
    (case c7 => k_is)
    (case k7 => k_is)
    (case a8 => k_is)
    (case l8 => k_is)
    (case c8 => k_is)
    (case k8 => k_is)
    (case a9 => k_is)
    (case l9 => k_is)
    (case c9 => k_is)
    (case k9 => k_is)
    (case a10 => k_is)
    (case l10 => k_is)
    (case c10 => k_is)
    (case k10 => k_is)
    (case a11 => k_is)
    (case l11 => k_is)
    (case c11 => k_is)
    (case k11 => k_is)
    (case a12 => k_is)
    (case l12 => k_is)
    (case c12 => k_is)
    (case k12 => k_is)
    (case a13 => k_is)
    (case l13 => k_is)
    (case c13 => k_is)
    (case k13 => k_is)
    (case a14 => k_is)
    (case l14 => k_is)
    (case c14 => k_is)
    (case k14 => k_is)
    (case a15 => k_is)
    (case l15 => k_is)
    (case c15 => k_is)
    (case k15 => k_is)
    (case a16 => k_is)
    (case l16 => k_is)
    (case c16 => k_is)
    (case k16 => k_is)
    (case a17 => k_is)
    (case l17 => k_is)
    (case c17 => k_is)
    (case k17 => k_is)
    (case a18 => k_is)
    (case l18 => k_is)
    (case c18 => k_is)
    (case k18 => k_is)
    (case a19 => k_is)
    (case l19 => k_is)
    (case c19 => k_is)
    (case k19 => k_is)
    (case a20 => k_is)
    (case l20 => k_is)
    (case c20 => k_is)
    (case k20 => k_is)
    (case z_all => k_is)
    (case z_bool => k_is)
    (case z_enumerate => k_is)
    (case z_int => k_is)
    (case z_isinstance => k_is)
    (case z_len => k_is)
    (case z_list => k_is)
    (case z_range => k_is)
    (case z_str => k_is)
    (case z_sum => k_is)
    (case z_tuple => k_is)
    (case z_zip => k_is)
    (case aOpen => k_is)
    (case pgOpen => k_is)
    (case hdOpen => k_is)
    (case poOpen => k_is)
    (case saOpen => k_is)
    (case nOpen_length => k_is)
    (case aBridge => k_is)
    (case pgBridge => k_is)
    (case hdBridge => k_is)
    (case poBridge => k_is)
    (case saBridge => k_is)
    (case nBridge_length => k_is)
    (case nBridge_name => k_is)
    (case nBridge_bears => k_is)
    (case nBridge_wide => k_is)
    (case nBridge_most => k_is)
    (case aRoad => k_is)
    (case pgRoad => k_is)
    (case hdRoad => k_is)
    (case poRoad => k_is)
    (case saRoad => k_is)
    (case nRoad_pieces => k_is)
    (case nRoad_rounds => k_is)
    (case nRoad_shuts => k_is)
    (case mkOpen => k_is)
    (case kcOpen => k_is)
    (case ixOpen => k_is)
    (case mkBridge => k_is)
    (case kcBridge => k_is)
    (case ixBridge => k_is)
    (case mkRoad => k_is)
    (case kcRoad => k_is)
    (case ixRoad => k_is)
    (case imOpen => k_is)
    (case imBridge => k_is)
    (case iiPiece => k_is)
    (case lIPiece => k_is)
    (case cIPiece => k_is)
    (case kIPiece => k_is)
    (case iiBridge => k_is)
    (case lIBridge => k_is)
    (case cIBridge => k_is)
    (case kIBridge => k_is)
    (case iiRoad => k_is)
    (case lIRoad => k_is)
    (case cIRoad => k_is)
    (case kIRoad => k_is)
    (case miPiece => k_is)
    (case lMPiece => k_is)
    (case cMPiece => k_is)
    (case kMPiece => k_is)
    (case miBridge => k_is)
    (case lMBridge => k_is)
    (case cMBridge => k_is)
    (case kMBridge => k_is)
    (case aPiece => k_is)
    (case rdPiece => k_is)
    (case gaPiece => k_is)
    (case fcPiece => k_is)
    (case cgO => k_is)
    (case ctO => k_is)
    (case ccOpen => k_is)
    (case cmOpen => k_is)
    (case ccBridge => k_is)
    (case cmBridge => k_is)
    (case ccRoad => k_is)
    (case cmRoad => k_is)
    (case icBridge => k_is)
    (case tyBridge => k_is)
    (case suOpen_Bridge => k_is)
    (case suBridge_Bridge => k_is)
    (case suRoad_Bridge => k_is)
    (case icOpen => k_is)
    (case tyOpen => k_is)
    (case suOpen_Open => k_is)
    (case suBridge_Open => k_is)
    (case suRoad_Open => k_is)
    (case icRoad => k_is)
    (case tyRoad => k_is)
    (case suOpen_Road => k_is)
    (case suBridge_Road => k_is)
    (case suRoad_Road => k_is)
