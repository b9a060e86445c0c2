import PyProof.Rows.All
import Wide.All
import OpenK.AllK
import Wide.FinOn
import HandS.ForMost
import HandS.EndBits
import HandS.IsInst
import HandS.TupAny
import HandS.Style
import HandS.Lambda
import HandS.EndTab
import HandS.HeadHook4
import HandS.HeadWalk
import HandS.Head2
import HandS.Exc
import HandS.Defaults
import HandS.Zip
import HandS.RaiseMore
import HandS.More
import KE.SortUse
import HandS.Codes
import PyProof.Rows.StrFirst
import KE.IntTextText
import HandS.Conv
import HandS.Rev
import PyProof.ListRange
import HandS.Deep
import HandS.ExcInit
import HandS.ExcOwn
import HandS.ExcIs
import HandS.ExcField
import HandS.ExcBuiltin
import HandS.ExcValue
import PySem.Challenge.RW_ballastway_k02_refusals_stand_apart
set_option Elab.async false
set_option linter.all false
set_option maxRecDepth 100000
namespace BK
open PySem PySem.Spec L2
set_option autoImplicit false
def fcB (o : Option PySem.W.CFound) (f : Addr) : Bool := match o with
  | some (.val (.ref a)) => decide (a = f)
  | _ => false
theorem fcB_ok {o : Option PySem.W.CFound} {f : Addr} (h : fcB o f = true) : o = some (.val (.ref f)) := by
  unfold fcB at h
  split at h
  · rw [of_decide_eq_true h]
  · cases h
end BK
namespace He
open PySem PySem.Spec L2
set_option autoImplicit false
/-- what the names reach, and the interpreter's own statics -/
def asY (g : Addr → Option Obj) (n : Nat) : List Addr := asD g n ++ [PySem.cStatics]
def obsY (n : Nat) (fa : List Fa) (fn : List DefD) (tf : List Defn) (ex : PySem.W.Frag → Bool) (g : Addr → Option Obj) : AlX := (obsT fa fn [] (frT g (asY g n)), ex (frT g (asY g n)) && tabsB g tf (frT g (asY g n)))
theorem saysY_of {fa : List Fa} {fn : List DefD} {tf : List Defn} {ex : PySem.W.Frag → Bool} {w : World} {h : Heap} {as : List Addr} (e : ((obsT fa fn [] (frT h.get? as), ex (frT h.get? as) && tabsB h.get? tf (frT h.get? as)) : AlX) = valX fn [] w) : SaysX fa fn [] tf ex w h (frT h.get? as) := by
  have e1 : obsT fa fn [] (frT h.get? as) = valT fn [] w := congrArg (fun z : AlX => z.1) e
  have e2 : (ex (frT h.get? as) && tabsB h.get? tf (frT h.get? as)) = true := congrArg (fun z : AlX => z.2) e
  obtain ⟨h1, h2⟩ := ba e2
  have key : ∀ p ∈ tf, PySem.W.codeHdIn (frT h.get? as) (cT (frT h.get? as) p).1 (cT (frT h.get? as) p).2 = true ∧ ∃ o, h.get? (cT (frT h.get? as) p).2 = some o ∧ emptyTab o = true := fun p hp => by
    obtain ⟨h3, h4⟩ := ba (List.all_eq_true.mp h2 p hp)
    refine ⟨h3, ?_⟩
    cases q : h.get? (cT (frT h.get? as) p).2 with
    | none =>
      rw [q] at h4
      cases h4
    | some o =>
      rw [q] at h4
      exact ⟨o, rfl, h4⟩
  exact ⟨e1, h1, fun p hp => (key p hp).1, fun p hp => by
    obtain ⟨_, o, q, z⟩ := key p hp
    exact frT_none q z, fun p hp => by
    obtain ⟨_, o, q, z⟩ := key p hp
    rw [q, emptyTab_eq z]⟩
def hookY (n : Nat) (fa : List Fa) (fn : List DefD) (tf : List Defn) (ex : PySem.W.Frag → Bool) : PySem.W.Hook where
  α := AlX
  obs := fun s => obsY n fa fn tf ex s.heap.get?
  val := fun w => valX fn [] w
  says := fun w h => ∃ K : PySem.W.Frag, K.In h ∧ SaysX fa fn [] tf ex w h K
  of := fun _ _ e => ⟨_, frT_in, saysY_of e⟩
  keeps := fun _ _ _ ⟨K, hK, c⟩ k => ⟨K, PySem.W.Frag.In.keeps hK k, ⟨c.t, c.more, c.hd, c.out, fun p hp => k _ _ (c.empty p hp)⟩⟩
theorem obsY_eq {n : Nat} {fa : List Fa} {fn : List DefD} {tf : List Defn} {ex : PySem.W.Frag → Bool} {g : Addr → Option Obj} {s : Shared} (h : ∀ a, g a = s.heap.get? a) : obsY n fa fn tf ex g = (hookY n fa fn tf ex).obs s := by
  have e : g = s.heap.get? := funext h
  rw [e] <;> rfl
end He
namespace BK
open PySem PySem.Spec L2
set_option autoImplicit false
def caOf (l : List Addr) (c : Nat) : Addr := l.getD c 0
def xsub (c t : Nat) : Bool := c == t || (t == 6 || (t == 9 && (decide (10 ≤ c) && decide (c ≤ 15))))
def oexcB (K : PySem.W.Frag) (C : Addr) : Bool := match K.lookup C with
  | some ⟨.type "type", _, .cls cd, sl⟩ => (match cd.mro, sl.toList with
    | .ref C' :: bm, [_, _, _, _, some (.builtin n), _] => C' == C && n == "ValueError.__new__" && !cd.hasDel && cd.hasDict && PySem.HandSPX.refsVE bm
    | _, _ => false)
  | _ => false
def oexB (K : PySem.W.Frag) (C : Addr) : Bool := oexcB K C && (He.eqO (PySem.W.findIn K (.ref C) "__setattr__") (some (some (.builtin "object.__setattr__"))) && (decide (PySem.W.subIn K (.ref C) (.type "BaseException") = some true) && (decide (PySem.W.typeIn K (.ref C) = some (.type "type")) && PySem.W.keepIn K (.ref C))))
def exccB (K : PySem.W.Frag) (D : Addr) : Bool := He.eqO (PySem.W.findIn K (.ref D) "__getattribute__") (some (some (.builtin "BaseException.__getattribute__"))) && (He.eqO (PySem.W.findIn K (.ref D) "__getattr__") (some none) && (decide (PySem.W.subIn K (.ref D) (.type "BaseException") = some true) && (PySem.W.hasDictIn K D && (He.eqO (PySem.W.findIn K (.ref D) "__class__") (some (some (.builtin "object.__class__"))) &&
  (He.eqO (PySem.W.specialIn K (.builtin "object.__class__") "__get__") (some (some (.builtin "getset_descriptor.__get__"))) && (decide (PySem.W.takesIn K (.builtin "object.__class__") = some true) && decide (PySem.W.mroIn K D (.type "object") = some true)))))))
def allC (cs : List Nat) (p : Nat → Bool) : Bool := cs.all p
def raB (K : PySem.W.Frag) (C fI : Addr) : Bool := oexB K C && (He.eqO (PySem.W.findIn K (.ref C) "__init__") (some (some (.ref fI))) && decide (PySem.W.typeIn K (.ref fI) = some (.type "function")))
def ra0B (K : PySem.W.Frag) (C : Addr) : Bool := PySem.W.excIn K C [Value.type "ValueError", Value.type "Exception", Value.type "BaseException", Value.type "object"] "ValueError.__new__" && (PySem.W.keepIn K (.ref C) && (decide (PySem.W.subIn K (.ref C) (.type "BaseException") = some true) && decide (PySem.W.typeIn K (.ref C) = some (.type "type"))))
def fcvB (o : Option PySem.W.CFound) : Bool := match o with
  | some (.val (.builtin s)) => decide (s = "ValueError.__init__")
  | _ => false
end BK
namespace G
open PySem PySem.Spec L2 BK
set_option autoImplicit false
def topS (i : Nat) : Stmt := PySem.Challenge.pw_ballastway_k02_refusals_stand_apart.main.body.getD i (.Pass ⟨0, 0, 0, 0⟩)
abbrev sI_TextError : Stmt := inClass (topS 4) 0
abbrev sI_Blocked : Stmt := inClass (topS 2) 0
abbrev s__law_cell_at : Stmt := topS 12
abbrev s__law_whole : Stmt := topS 13
abbrev s__law_kinds : Stmt := topS 14
abbrev s__law_rows_told : Stmt := topS 15
abbrev s__law_good : Stmt := topS 16
abbrev s_law : Stmt := topS 17
def faL : List He.Fa := [.glo "_law_cell_at", .glo "_law_whole", .glo "_law_kinds", .glo "_law_rows_told", .glo "_law_good", .glo "law", .free "ValueError", .free "bool", .free "enumerate", .free "int", .free "isinstance", .free "len", .free "range", .glo "BadRow", .glo "Blocked", .glo "NoBridge", .glo "NoLoad", .glo "NoWay", .glo "TextError", .glo "TooLong", .glo "TooNear", .glo "Twice", .glo "WayError"]
def fnL : List He.DefD := [⟨("_law_cell_at", none), "_law_cell_at", "_law_cell_at", defArgs s__law_cell_at, defBody s__law_cell_at, defScope s__law_cell_at, [], []⟩,
  ⟨("_law_whole", none), "_law_whole", "_law_whole", defArgs s__law_whole, defBody s__law_whole, defScope s__law_whole, [], []⟩,
  ⟨("_law_kinds", none), "_law_kinds", "_law_kinds", defArgs s__law_kinds, defBody s__law_kinds, defScope s__law_kinds, [], []⟩,
  ⟨("_law_rows_told", none), "_law_rows_told", "_law_rows_told", defArgs s__law_rows_told, defBody s__law_rows_told, defScope s__law_rows_told, [], []⟩,
  ⟨("_law_good", none), "_law_good", "_law_good", defArgs s__law_good, defBody s__law_good, defScope s__law_good, [], []⟩,
  ⟨("law", none), "law", "law", defArgs s_law, defBody s_law, defScope s_law, [], []⟩,
  ⟨("TextError", some "__init__"), "__init__", "TextError.__init__", defArgs sI_TextError, defBody sI_TextError, defScope sI_TextError, [], []⟩,
  ⟨("Blocked", some "__init__"), "__init__", "Blocked.__init__", defArgs sI_Blocked, defBody sI_Blocked, defScope sI_Blocked, [], []⟩]
def caL (K : PySem.W.Frag) : Nat → Addr := caOf [0, 0, 0, 0, 0, 0, He.ga K "WayError", He.ga K "Blocked", He.ga K "NoWay", He.ga K "TextError", He.ga K "BadRow", He.ga K "Twice", He.ga K "NoBridge", He.ga K "NoLoad", He.ga K "TooNear", He.ga K "TooLong", 0, 0, 0, 0, 0, 0, 0, 0]
def exB (K : PySem.W.Frag) : Bool := (allC [7, 8, 9, 10, 11, 12, 13, 14, 15] fun c => exccB K (caL K c)) && ((allC [7, 8, 9, 10, 11, 12, 13, 14, 15] fun c => xfB K (caL K c) && He.eqO (PySem.W.findIn K (.ref (caL K c)) "bridge") (some none)) && ((allC [7, 8, 9, 10, 11, 12, 13, 14, 15] fun c => xfB K (caL K c) && He.eqO (PySem.W.findIn K (.ref (caL K c)) "row") (some none)) && ((allC [7, 8, 9, 10, 11, 12, 13, 14, 15] fun c => xfB K (caL K c) && He.eqO (PySem.W.findIn K (.ref (caL K c)) "wheel") (some none)) && ((allC [7, 8, 9, 10, 11, 12, 13, 14, 15] fun c => decide (PySem.W.kitOne K (.ref (caL K c)) (.ref (caL K 10)) = some (xsub c 10))) && ((allC [7, 8, 9, 10, 11, 12, 13, 14, 15] fun c => decide (PySem.W.kitOne K (.ref (caL K c)) (.ref (caL K 7)) = some (xsub c 7))) && ((allC [7, 8, 9, 10, 11, 12, 13, 14, 15] fun c => decide (PySem.W.kitOne K (.ref (caL K c)) (.ref (caL K 12)) = some (xsub c 12))) && ((allC [7, 8, 9, 10, 11, 12, 13, 14, 15] fun c => decide (PySem.W.kitOne K (.ref (caL K c)) (.ref (caL K 13)) = some (xsub c 13))) && ((allC [7, 8, 9, 10, 11, 12, 13, 14, 15] fun c => decide (PySem.W.kitOne K (.ref (caL K c)) (.ref (caL K 8)) = some (xsub c 8))) && ((allC [7, 8, 9, 10, 11, 12, 13, 14, 15] fun c => decide (PySem.W.kitOne K (.ref (caL K c)) (.ref (caL K 9)) = some (xsub c 9))) && ((allC [7, 8, 9, 10, 11, 12, 13, 14, 15] fun c => decide (PySem.W.kitOne K (.ref (caL K c)) (.ref (caL K 15)) = some (xsub c 15))) && ((allC [7, 8, 9, 10, 11, 12, 13, 14, 15] fun c => decide (PySem.W.kitOne K (.ref (caL K c)) (.ref (caL K 14)) = some (xsub c 14))) && ((allC [7, 8, 9, 10, 11, 12, 13, 14, 15] fun c => decide (PySem.W.kitOne K (.ref (caL K c)) (.ref (caL K 11)) = some (xsub c 11))) && ((allC [7, 8, 9, 10, 11, 12, 13, 14, 15] fun c => decide (PySem.W.kitOne K (.ref (caL K c)) (.type "ValueError") = some true)) && ((allC [7, 8, 9, 10, 11, 12, 13, 14, 15] fun c => decide (PySem.W.kitOne K (.ref (caL K c)) (.ref (caL K 6)) = some (xsub c 6))) && (raB K (caL K 10) (He.fAd K ("TextError", some "__init__")) && (He.eqO (PySem.W.findIn K (.ref (caL K 10)) "row") (some none) && (raB K (caL K 7) (He.fAd K ("Blocked", some "__init__")) && (He.eqO (PySem.W.findIn K (.ref (caL K 7)) "bridge") (some none) && (He.eqO (PySem.W.findIn K (.ref (caL K 7)) "wheel") (some none) && (raB K (caL K 12) (He.fAd K ("TextError", some "__init__")) && (He.eqO (PySem.W.findIn K (.ref (caL K 12)) "row") (some none) && (raB K (caL K 13) (He.fAd K ("TextError", some "__init__")) && (He.eqO (PySem.W.findIn K (.ref (caL K 13)) "row") (some none) && (raB K (caL K 9) (He.fAd K ("TextError", some "__init__")) && (He.eqO (PySem.W.findIn K (.ref (caL K 9)) "row") (some none) && (raB K (caL K 15) (He.fAd K ("TextError", some "__init__")) && (He.eqO (PySem.W.findIn K (.ref (caL K 15)) "row") (some none) && (raB K (caL K 14) (He.fAd K ("TextError", some "__init__")) && (He.eqO (PySem.W.findIn K (.ref (caL K 14)) "row") (some none) && (raB K (caL K 11) (He.fAd K ("TextError", some "__init__")) && (He.eqO (PySem.W.findIn K (.ref (caL K 11)) "row") (some none) && (ra0B K (caL K 8) && (PySem.W.readsIn K (He.ga K "WayError") (.type "type") && (He.eqO (PySem.W.specialIn K (.ref (He.ga K "WayError")) "__getattribute__") (some (some (.builtin "type.__getattribute__"))) && (fcvB (PySem.W.findCls K (.ref (He.ga K "WayError")) (.type "type") "__init__"))))))))))))))))))))))))))))))))))))
abbrev RwT : PySem.W.OpenRow := PySem.W.OpenLaw.row PySem.Challenge.rw_ballastway_k02_refusals_stand_apart
abbrev hkT : PySem.W.Hook := He.hookY 6 faL fnL [] exB
def obT (s : PySem.W.SharedT) : He.AlX := He.obsY 6 faL fnL [] exB (HandSHeadRun.getT s)
theorem ob_eqT (s : PySem.W.SharedT) : obT s = hkT.obs s.abs := He.obsY_eq (HandSHeadRun.getT_eq s)
def loose0 : List Str := ["WayError", "Blocked", "NoWay", "TextError", "BadRow", "Twice", "NoBridge", "NoLoad", "TooNear", "TooLong", "_law_cell_at", "_law_whole", "_law_kinds", "_law_rows_told", "_law_good"]
abbrev looseL : List Str := loose0
set_option maxHeartbeats 0 in
theorem runT (w : World) : HandSHeadRun.RunEq RwT (PySem.W.view RwT.prog [17]) hkT obT 6000 looseL w := by
  intro os
  kernel_rfl
end G
namespace BK
open PySem PySem.Spec L2
set_option autoImplicit false
/-! ### data, slots, results -/
inductive D where
  | non | bl (b : Bool) | int (i : Int) | str (x : Str)
  /-- rol: a list that is read alone (the script) -/
  | lst (xs : List D) | tup (xs : List D) | ins (c : Nat) (fs : List D) | rol (xs : List D)
  /-- dic: a dict with texts as keys that is read alone -/
  | dic (ks : List Str) (vs : List D)
  /-- exc: an exception of the c-th class that is held, its fields -/
  | exc (c : Nat) (fs : List D)
inductive R where
  | va (d : D) | tm (ds : List D) | bw (j : Nat) (ds : List D)
/-- own trees: fz: frozen data; lists and instances of the body's own -/
inductive T where
  | fz (d : D) | lst (ts : List T) | ins (c : Nat) (ts : List T)
mutual
def T.d : T → D
  | .fz d => d
  | .lst ts => .lst (T.ds ts)
  | .ins c ts => .ins c (T.ds ts)
def T.ds : List T → List D
  | [] => []
  | t :: ts => t.d :: T.ds ts
end
/-- ot: an own tree -/
inductive Slot where
  | un | va (d : D) | ow (ds : List D) | ot (t : T)
abbrev Gm := List Slot
/-- an exception: its class, its fields -/
structure Exc where
  c : Nat
  fs : List (Int ⊕ Str)
def aD : Int ⊕ Str → D
  | .inl i => .int i
  | .inr s => .str s
inductive Out where
  | nx (g : Gm) | rt (r : R) | bk (g : Gm) | ct (g : Gm) | ex (x : Exc)
def R.d : R → D
  | .va d => d
  | .tm ds => .lst ds
  | .bw _ ds => .lst ds
def R.isBw : R → Bool
  | .bw _ _ => true
  | _ => false
/-- the fields of an instance of the c-th class, in the order in which they are stored -/
def fldsOf : Nat → List Str
  | 0 => ["length"]
  | 1 => ["length", "name", "bears", "wide", "most"]
  | 2 => ["pieces", "rounds", "shuts"]
  | 3 => ["name", "speed", "wheels"]
  | 4 => ["cart", "way", "start", "crossings", "ended"]
  | 5 => ["road", "loads", "sends"]
  | _ => []
/-- what is known of the class at C: its instances store the fields -/
structure Kls (K : PySem.W.Frag) (C : Addr) (c : Nat) : Prop where
  cl : Cls K C
  na : ∀ f ∈ fldsOf c, NoAttr K C f
/-- the fields of an exception of the c-th class, the last stored one first -/
def xflds (c : Nat) : List Str := if c = 7 then ["wheel", "bridge"] else if 9 ≤ c ∧ c ≤ 15 then ["row"] else []
/-- at a: an exception of the class at C, its dict at d -/
def exh (a C : Addr) (d : Option Addr) : HO := .ext fun h => ∃ (o : Obj) (vs : Array Value), h.get? a = some o ∧ Zc (.ref C) d o ∧ o.data = .fields vs
/-! ### data in a heap -/
mutual
inductive Den (K : PySem.W.Frag) (ca : Nat → Addr) (F : Hp) : V → D → Prop
  | non : Den K ca F .non .non
  | bl (b : Bool) : Den K ca F (.bl b) (.bl b)
  | int (i : Int) : Den K ca F (.int i) (.int i)
  | str (x : Str) : Den K ca F (.str x) (.str x)
  | lst {a : Addr} {xs : List V} {ds : List D} : F a = some (.lst xs) → Dens K ca F xs ds → Den K ca F (.ref a) (.lst ds)
  | tup {a : Addr} {xs : List V} {ds : List D} : SqT K F a xs → Dens K ca F xs ds → Den K ca F (.ref a) (.tup ds)
  | ins {a dx : Addr} {fs : List (Str × V)} {c : Nat} {ds : List D} : Kls K (ca c) c → F a = some (.ins (ca c) dx fs) → fs.map (·.1) = fldsOf c → Dens K ca F (fs.map (·.2)) ds → Den K ca F (.ref a) (.ins c ds)
  | rol {a : Addr} {xs : List V} {ds : List D} : SqL K F a xs → Dens K ca F xs ds → Den K ca F (.ref a) (.rol ds)
  | dic {a : Addr} {kvs : List (Key × V)} {ks : List Str} {ds : List D} : F a = some (.dK kvs) → kvs.map (·.1) = ks.map Sum.inr → Dens K ca F (kvs.map (·.2)) ds → Den K ca F (.ref a) (.dic ks ds)
  | exc {a : Addr} {d : Option Addr} {fs : List (Str × V)} {c : Nat} {ds : List D} : F a = some (exh a (ca c) d) → (d = none ∧ fs = [] ∨ ∃ dd, d = some dd ∧ F dd = some (.xd fs)) → fs.map (·.1) = xflds c → Dens K ca F (fs.map (·.2)) ds → Den K ca F (.ref a) (.exc c ds)
inductive Dens (K : PySem.W.Frag) (ca : Nat → Addr) (F : Hp) : List V → List D → Prop
  | nil : Dens K ca F [] []
  | cons {v : V} {vs : List V} {d : D} {ds : List D} : Den K ca F v d → Dens K ca F vs ds → Dens K ca F (v :: vs) (d :: ds)
end
theorem Same.rd {H H' : Hp} {a : Addr} {o : HO} (e : Same H H') (h : Rd H a o) : Rd H' a o := by
  rcases h with h | ⟨u, h⟩
  · exact .inl (e _ _ h)
  · exact .inr ⟨u, e _ _ h⟩
theorem Same.seqT {K : PySem.W.Frag} {H H' : Hp} {a : Addr} {xs : List V} (e : Same H H') (h : SqT K H a xs) : SqT K H' a xs := by
  rcases h with (h | ⟨o, h⟩) | h
  · exact .inl (.inl (e _ _ h))
  · exact .inl (.inr ⟨o, e _ _ h⟩)
  · exact .inr h
section
variable {K : PySem.W.Frag} {ca : Nat → Addr} {F F' : Hp}
mutual
theorem Den.mono (s : Same F F') : ∀ {v : V} {d : D}, Den K ca F v d → Den K ca F' v d
  | _, _, .non => .non
  | _, _, .bl b => .bl b
  | _, _, .int i => .int i
  | _, _, .str x => .str x
  | _, _, .lst h hs => .lst (s _ _ h) (Dens.mono s hs)
  | _, _, .tup h hs => .tup (Same.seqT s h) (Dens.mono s hs)
  | _, _, .ins k h e hs => .ins k (s _ _ h) e (Dens.mono s hs)
  | _, _, .rol h hs => .rol (s.seq h) (Dens.mono s hs)
  | _, _, .dic h e hs => .dic (s _ _ h) e (Dens.mono s hs)
  | _, _, .exc h g e hs => .exc (s _ _ h) (g.imp (fun z => z) fun ⟨dd, e1, e2⟩ => ⟨dd, e1, s _ _ e2⟩) e (Dens.mono s hs)
theorem Dens.mono (s : Same F F') : ∀ {vs : List V} {ds : List D}, Dens K ca F vs ds → Dens K ca F' vs ds
  | _, _, .nil => .nil
  | _, _, .cons h hs => .cons (Den.mono s h) (Dens.mono s hs)
end
theorem Dens.length : ∀ {vs : List V} {ds : List D}, Dens K ca F vs ds → vs.length = ds.length
  | _, _, .nil => rfl
  | _, _, .cons _ hs => congrArg (· + 1) (Dens.length hs)
theorem Dens.get : ∀ {vs : List V} {ds : List D}, Dens K ca F vs ds → ∀ {i : Nat} {v : V} {d : D}, vs[i]? = some v → ds[i]? = some d → Den K ca F v d
  | _, _, .cons h _, 0, v, d, e1, e2 => by
    have e1 := Option.some.inj e1
    have e2 := Option.some.inj e2
    subst e1; subst e2
    exact h
  | _, _, .cons _ hs, i + 1, v, d, e1, e2 => Dens.get hs (i := i) (by simpa using e1) (by simpa using e2)
theorem Dens.getV {vs : List V} {ds : List D} (h : Dens K ca F vs ds) {i : Nat} {d : D} (e : ds[i]? = some d) : ∃ v, vs[i]? = some v ∧ Den K ca F v d := by
  have hl : i < vs.length := by rw [h.length]; exact (List.getElem?_eq_some_iff.mp e).1
  exact ⟨vs[i], List.getElem?_eq_getElem hl, h.get (List.getElem?_eq_getElem hl) e⟩
theorem Dens.getD {vs : List V} {ds : List D} (h : Dens K ca F vs ds) {i : Nat} {v : V} (e : vs[i]? = some v) : ∃ d, ds[i]? = some d ∧ Den K ca F v d := by
  have hl : i < ds.length := by rw [← h.length]; exact (List.getElem?_eq_some_iff.mp e).1
  exact ⟨ds[i], List.getElem?_eq_getElem hl, h.get e (List.getElem?_eq_getElem hl)⟩
theorem Dens.append : ∀ {vs ws : List V} {ds es : List D}, Dens K ca F vs ds → Dens K ca F ws es → Dens K ca F (vs ++ ws) (ds ++ es)
  | _, _, _, _, .nil, s => s
  | _, _, _, _, .cons r t, s => .cons r (Dens.append t s)
theorem Dens.one {v : V} {d : D} (h : Den K ca F v d) : Dens K ca F [v] [d] := .cons h .nil
theorem Dens.take : ∀ {vs : List V} {ds : List D} (n : Nat), Dens K ca F vs ds → Dens K ca F (vs.take n) (ds.take n)
  | _, _, 0, _ => .nil
  | _, _, _ + 1, .nil => .nil
  | _, _, n + 1, .cons r t => .cons r (Dens.take n t)
theorem Dens.drop : ∀ {vs : List V} {ds : List D} (n : Nat), Dens K ca F vs ds → Dens K ca F (vs.drop n) (ds.drop n)
  | _, _, 0, r => r
  | _, _, _ + 1, .nil => .nil
  | _, _, n + 1, .cons _ t => Dens.drop n t
theorem Dens.dropLast {vs : List V} {ds : List D} (h : Dens K ca F vs ds) : Dens K ca F vs.dropLast ds.dropLast := by
  rw [List.dropLast_eq_take, List.dropLast_eq_take, h.length]
  exact h.take _
theorem Dens.eraseIdx : ∀ {vs : List V} {ds : List D} (i : Nat), Dens K ca F vs ds → Dens K ca F (vs.eraseIdx i) (ds.eraseIdx i)
  | _, _, _, .nil => .nil
  | _, _, 0, .cons _ t => t
  | _, _, n + 1, .cons r t => .cons r (Dens.eraseIdx n t)
theorem Dens.set : ∀ {vs : List V} {ds : List D} {v : V} {d : D} (i : Nat), Den K ca F v d → Dens K ca F vs ds → Dens K ca F (vs.set i v) (ds.set i d)
  | _, _, _, _, _, _, .nil => .nil
  | _, _, _, _, 0, h, .cons _ t => .cons h t
  | _, _, _, _, n + 1, h, .cons r t => .cons r (Dens.set n h t)
theorem Dens.reverse {vs : List V} {ds : List D} (h : Dens K ca F vs ds) : Dens K ca F vs.reverse ds.reverse := by
  induction vs generalizing ds with
  | nil => cases h; exact .nil
  | cons v vs ih =>
    cases h with
    | cons h hs =>
      rw [List.reverse_cons, List.reverse_cons]
      exact (ih hs).append (.one h)
theorem Dens.ints : ∀ {ns : List Int}, Dens K ca F (ns.map V.int) (ns.map D.int)
  | [] => .nil
  | n :: ns => .cons (.int n) Dens.ints
theorem Dens.ints_of : ∀ {vs : List V} {ns : List Int}, Dens K ca F vs (ns.map D.int) → vs = ns.map V.int
  | _, [], h => by cases h; rfl
  | _, n :: ns, h => by
    cases h with
    | cons h hs =>
      cases h
      rw [Dens.ints_of hs]
      rfl
theorem Dens.bls_of : ∀ {vs : List V} {ns : List Bool}, Dens K ca F vs (ns.map D.bl) → vs = ns.map V.bl
  | _, [], h => by cases h; rfl
  | _, n :: ns, h => by
    cases h with
    | cons h hs =>
      cases h
      rw [Dens.bls_of hs]
      rfl
theorem Dens.strs_of : ∀ {vs : List V} {ns : List Str}, Dens K ca F vs (ns.map D.str) → vs = ns.map V.str
  | _, [], h => by cases h; rfl
  | _, n :: ns, h => by
    cases h with
    | cons h hs =>
      cases h
      rw [Dens.strs_of hs]
      rfl
end
/-! ### heaps that grow -/
/-- no table is frozen -/
def NT (F : Hp) : Prop := ∀ b ps, F b ≠ some (.tbl ps)
/-- tables that the law's defs need: flags and addresses in ca -/
structure TabsC (ca : Nat → Addr) (H : Hp) : Prop where
  a : ca 20 = 1 → LamX.TabS H (ca 21) "in_order.<locals>.<lambda>"
  b : ca 22 = 1 → LamX.TabS H (ca 23) "log_of.<locals>.<lambda>"
/-- a heap but for its tables -/
def noT (H : Hp) : Hp := fun b => match H b with
  | some (.tbl _) => none
  | o => o
theorem noT_same (H : Hp) : Same (noT H) H := fun b o e => by
  unfold noT at e
  split at e
  · cases e
  · exact e
theorem noT_nt (H : Hp) : NT (noT H) := fun b ps e => by
  unfold noT at e
  split at e
  · cases e
  · rename_i h; exact h ps e
theorem noT_get {H : Hp} {b : Addr} {o : HO} (h : H b = some o) (n : ∀ ps, o ≠ .tbl ps) : noT H b = some o := by
  unfold noT
  rw [h]
  split
  · rename_i z; exact absurd (Option.some.inj z) (n _)
  · rfl
theorem noT_none {H : Hp} {b : Addr} (h : H b = none) : noT H b = none := by
  unfold noT
  rw [h]
theorem ne_noT {H : Hp} {a b : Addr} {o : HO} (e : H b = some o) (n : ∀ ps, o ≠ .tbl ps) (h : noT H a = none) : b ≠ a := fun z => by
  subst z
  rw [noT_get e n] at h; cases h
/-- all that was tracked stays but for tables of code objects; these keep their names -/
structure SameN (ca : Nat → Addr) (H H' : Hp) : Prop where
  st : ∀ b o, H b = some o → (∀ ps, o ≠ .tbl ps) → H' b = some o
  tb : TabsC ca H → TabsC ca H'
theorem SameN.of {ca : Nat → Addr} {H H' : Hp} (s : Same H H') : SameN ca H H' := ⟨fun b o h _ => s b o h, fun t => ⟨fun h => (t.a h).ext s, fun h => (t.b h).ext s⟩⟩
theorem SameN.refl {ca : Nat → Addr} (H : Hp) : SameN ca H H := .of (Same.refl H)
theorem SameN.trans {ca : Nat → Addr} {H H1 H2 : Hp} (a : SameN ca H H1) (b : SameN ca H1 H2) : SameN ca H H2 :=
  ⟨fun c o h n => b.st c o (a.st c o h n) n, fun t => b.tb (a.tb t)⟩
theorem SameN.free {ca : Nat → Addr} {H H' : Hp} (s : SameN ca H H') {p : Addr} (h : noT H' p = none) : noT H p = none := by
  cases q : noT H p with
  | none => rfl
  | some o =>
    have h1 := noT_same H _ _ q
    have h2 : ∀ ps, o ≠ .tbl ps := fun ps z => noT_nt H p ps (by rw [q, z])
    rw [noT_get (s.st p o h1 h2) h2] at h
    cases h
theorem TabsC.mono {ca : Nat → Addr} {H H' : Hp} (t : TabsC ca H) (s : SameN ca H H') : TabsC ca H' := s.tb t
theorem SameN.l {ca : Nat → Addr} {H H' : Hp} (s : SameN ca H H') {a : Addr} {xs : List V} (h : H a = some (.lst xs)) : H' a = some (.lst xs) := s.st a _ h fun ps z => by cases z
theorem SameN.i {ca : Nat → Addr} {H H' : Hp} (s : SameN ca H H') {a C dx : Addr} {fs : List (Str × V)} (h : H a = some (.ins C dx fs)) : H' a = some (.ins C dx fs) := s.st a _ h fun ps z => by cases z
/-- an object that is neither a table nor a code object is written -/
structure Pl (H : Hp) (a : Addr) : Prop where
  t : ∀ ps, H a ≠ some (.tbl ps)
  c : ∀ q, H a ≠ some (LamX.CodeO a q)
theorem Pl.none {H : Hp} {a : Addr} (h : H a = none) : Pl H a := ⟨fun ps z => by (rw [h] at z; cases z), fun q z => by (rw [h] at z; cases z)⟩
theorem codeO_lst {a : Addr} {q : Str} {xs : List V} : LamX.CodeO a q ≠ .lst xs := fun z => by unfold LamX.CodeO at z; cases z
theorem codeO_ins {a C dx : Addr} {q : Str} {xs : List (Str × V)} : LamX.CodeO a q ≠ .ins C dx xs := fun z => by unfold LamX.CodeO at z; cases z
theorem Pl.lst {H : Hp} {a : Addr} {xs : List V} (h : H a = some (.lst xs)) : Pl H a := ⟨fun ps z => by (rw [h] at z; cases z), fun q z => codeO_lst (Option.some.inj (h.symm.trans z)).symm⟩
theorem Pl.ins {H : Hp} {a C dx : Addr} {xs : List (Str × V)} (h : H a = some (.ins C dx xs)) : Pl H a := ⟨fun ps z => by (rw [h] at z; cases z), fun q z => codeO_ins (Option.some.inj (h.symm.trans z)).symm⟩
theorem tabS_upd {H : Hp} {a : Addr} {o : HO} (h : Pl H a) {P : Addr} {q : Str} (t : LamX.TabS H P q) : LamX.TabS (upd H a o) P q := by
  obtain ⟨ps, h1, h2, h3⟩ := t
  refine ⟨ps, by rw [upd_ne (fun z => h.t ps (by rw [← z]; exact h1))]; exact h1, h2, fun pos cv hc => ?_⟩
  obtain ⟨c, e1, e2⟩ := h3 pos cv hc
  refine ⟨c, e1, ?_⟩
  by_cases z : c = a
  · subst z; exact absurd e2 (h.c q)
  · rw [upd_ne z]; exact e2
theorem SameN.updO {ca : Nat → Addr} {H0 H : Hp} (s : SameN ca H0 H) {a : Addr} {o : HO} (h0 : noT H0 a = .none) (h : Pl H a) : SameN ca H0 (upd H a o) :=
  ⟨fun b u e n => by rw [upd_ne (ne_noT e n h0)]; exact s.st b u e n, fun t => ⟨fun k => tabS_upd h ((s.tb t).a k), fun k => tabS_upd h ((s.tb t).b k)⟩⟩
/-- all that was tracked stays; what is frozen grows by what is new alone -/
structure Ext (ca : Nat → Addr) (H F H' F' : Hp) : Prop where
  hh : SameN ca H H'
  ff : Same F F'
  fh : Same F' H'
  nw : ∀ a, F' a ≠ none → F a ≠ none ∨ noT H a = none
  nt : NT F → NT F'
theorem Ext.refl {ca : Nat → Addr} {H F : Hp} (s : Same F H) : Ext ca H F H F := ⟨SameN.refl _, Same.refl _, s, fun _ h => .inl h, fun n => n⟩
theorem Ext.trans {ca : Nat → Addr} {H F H1 F1 H2 F2 : Hp} (a : Ext ca H F H1 F1) (b : Ext ca H1 F1 H2 F2) : Ext ca H F H2 F2 :=
  ⟨a.hh.trans b.hh, a.ff.trans b.ff, b.fh, fun x h => by
    rcases b.nw x h with h | h
    · exact a.nw x h
    · exact .inr (a.hh.free h), fun n => b.nt (a.nt n)⟩
theorem Ext.keepN {ca : Nat → Addr} {H F H' F' : Hp} (x : Ext ca H F H' F') {a : Addr} {o : HO} (h : H a = some o) (f : F a = none) (hn : ∀ ps, o ≠ .tbl ps := by exact fun _ z => nomatch z) : F' a = none := by
  cases q : F' a with
  | none => rfl
  | some u =>
    rcases x.nw a (by rw [q]; exact fun z => nomatch z) with z | z
    · exact absurd f z
    · rw [noT_get h hn] at z; cases z
theorem same_upd {H : Hp} {p : Addr} {o : HO} (h : H p = none) : Same H (upd H p o) := fun b x e => by
  rw [upd_ne (ne_of_none e h)]
  exact e
theorem Same.updB {F H : Hp} {p : Addr} {o : HO} (s : Same F H) : Same (upd F p o) (upd H p o) := fun b x e => by
  by_cases hb : b = p
  · subst hb
    rw [upd_same] at e ⊢
    exact e
  · rw [upd_ne hb] at e ⊢
    exact s b x e
theorem NT.upd {F : Hp} (n : NT F) {p : Addr} {o : HO} (h : ∀ ps, o ≠ .tbl ps) : NT (upd F p o) := fun b ps z => by
  by_cases e : b = p
  · subst e; rw [upd_same] at z; exact h ps (Option.some.inj z)
  · rw [upd_ne e] at z; exact n b ps z
/-- a new object, frozen -/
theorem Ext.new {ca : Nat → Addr} {H F : Hp} (s : Same F H) {p : Addr} (o : HO) (h : H p = none) (hn : ∀ ps, o ≠ .tbl ps := by exact fun _ z => nomatch z) : Ext ca H F (upd H p o) (upd F p o) :=
  ⟨.of (same_upd h), same_upd (s.free h), Same.updB s, fun a q => by
    by_cases e : a = p
    · subst e; exact .inr (noT_none h)
    · rw [upd_ne e] at q; exact .inl q, fun n => n.upd hn⟩
/-- a new object, not frozen -/
theorem Ext.newO {ca : Nat → Addr} {H F : Hp} (s : Same F H) {p : Addr} (o : HO) (h : H p = none) : Ext ca H F (upd H p o) F :=
  ⟨.of (same_upd h), Same.refl _, s.trans (same_upd h), fun a q => .inl q, fun n => n⟩
/-- something new is frozen -/
theorem Ext.frz {ca : Nat → Addr} {H F H1 F1 : Hp} (x : Ext ca H F H1 F1) {p : Addr} {o : HO} (h : noT H p = none) (h1 : H1 p = some o) (f : F1 p = none) (hn : ∀ ps, o ≠ .tbl ps := by exact fun _ z => nomatch z) : Ext ca H F H1 (upd F1 p o) :=
  ⟨x.hh, x.ff.trans (same_upd f), fun b u e => by
    by_cases q : b = p
    · subst q; rw [upd_same] at e; rw [h1, e]
    · rw [upd_ne q] at e; exact x.fh b u e, fun a q => by
    by_cases e : a = p
    · subst e; exact .inr h
    · rw [upd_ne e] at q; exact x.nw a q, fun n => (x.nt n).upd hn⟩
/-! ### a result and its value -/
/-- B: which own list of the body's (its slot, its address); H: the heap at the expression's beginning -/
abbrev BT := Nat → Addr → List D → Prop
def RV (K : PySem.W.Frag) (ca : Nat → Addr) (B : BT) (H F' H' : Hp) (v : V) : R → Prop
  | .va d => Den K ca F' v d
  | .tm ds => ∃ a vs, v = .ref a ∧ noT H a = none ∧ F' a = none ∧ H' a = some (.lst vs) ∧ Dens K ca F' vs ds
  | .bw j ds => ∃ a vs, v = .ref a ∧ B j a ds ∧ F' a = none ∧ H' a = some (.lst vs) ∧ Dens K ca F' vs ds
theorem RV.mono {K : PySem.W.Frag} {ca : Nat → Addr} {B : BT} {H F1 H1 F2 H2 : Hp} {v : V} {r : R} (x : Ext ca H1 F1 H2 F2) (h : RV K ca B H F1 H1 v r) : RV K ca B H F2 H2 v r := by
  cases r with
  | va d => exact Den.mono x.ff h
  | tm ds =>
    obtain ⟨a, vs, rfl, h1, h2, h3, h4⟩ := h
    exact ⟨a, vs, rfl, h1, x.keepN h3 h2, x.hh.l h3, h4.mono x.ff⟩
  | bw j ds =>
    obtain ⟨a, vs, rfl, h1, h2, h3, h4⟩ := h
    exact ⟨a, vs, rfl, h1, x.keepN h3 h2, x.hh.l h3, h4.mono x.ff⟩
/-- the expression began sooner -/
theorem RV.back {K : PySem.W.Frag} {ca : Nat → Addr} {B : BT} {Ha H F1 H1 : Hp} {v : V} {r : R} (s : SameN ca Ha H) (h : RV K ca B H F1 H1 v r) : RV K ca B Ha F1 H1 v r := by
  cases r with
  | va d => exact h
  | tm ds =>
    obtain ⟨a, vs, rfl, h1, h2⟩ := h
    exact ⟨a, vs, rfl, s.free h1, h2⟩
  | bw j ds => exact h
/-- a list is read -/
theorem RV.lst {K : PySem.W.Frag} {ca : Nat → Addr} {B : BT} {H F' H' : Hp} {v : V} {r : R} {ds : List D} (s : Same F' H') (h : RV K ca B H F' H' v r) (e : r.d = .lst ds) : ∃ a vs, v = .ref a ∧ Rd H' a (.lst vs) ∧ Dens K ca F' vs ds := by
  cases r with
  | va d =>
    obtain rfl : d = .lst ds := e
    cases h with
    | lst h hs => exact ⟨_, _, rfl, .inl (s _ _ h), hs⟩
  | tm es =>
    obtain rfl : es = ds := by injection e
    obtain ⟨a, vs, rfl, _, _, h3, h4⟩ := h
    exact ⟨a, vs, rfl, .inl h3, h4⟩
  | bw j es =>
    obtain rfl : es = ds := by injection e
    obtain ⟨a, vs, rfl, _, _, h3, h4⟩ := h
    exact ⟨a, vs, rfl, .inl h3, h4⟩
/-- .. as it is tracked -/
theorem RV.lstH {K : PySem.W.Frag} {ca : Nat → Addr} {B : BT} {H F' H' : Hp} {v : V} {r : R} {ds : List D} (s : Same F' H') (h : RV K ca B H F' H' v r) (e : r.d = .lst ds) : ∃ a vs, v = .ref a ∧ H' a = some (.lst vs) ∧ Dens K ca F' vs ds := by
  cases r with
  | va d =>
    obtain rfl : d = .lst ds := e
    cases h with
    | lst h hs => exact ⟨_, _, rfl, s _ _ h, hs⟩
  | tm es =>
    obtain rfl : es = ds := by injection e
    obtain ⟨a, vs, rfl, _, _, h3, h4⟩ := h
    exact ⟨a, vs, rfl, h3, h4⟩
  | bw j es =>
    obtain rfl : es = ds := by injection e
    obtain ⟨a, vs, rfl, _, _, h3, h4⟩ := h
    exact ⟨a, vs, rfl, h3, h4⟩
/-- what is no list is a value -/
def D.isLst : D → Bool
  | .lst _ => true
  | _ => false
theorem RV.den {K : PySem.W.Frag} {ca : Nat → Addr} {B : BT} {H F' H' : Hp} {v : V} {r : R} {d : D} (h : RV K ca B H F' H' v r) (e : r.d = d) (n : d.isLst = false) : Den K ca F' v d := by
  cases r with
  | va d' => exact e ▸ h
  | tm es => subst e; cases n
  | bw j es => subst e; cases n
/-- a result that is no borrowed list becomes a value -/
theorem RV.froze {K : PySem.W.Frag} {ca : Nat → Addr} {B : BT} {H F H1 F1 : Hp} {v : V} {r : R} (x : Ext ca H F H1 F1) (h : RV K ca B H F1 H1 v r) (n : r.isBw = false) : ∃ F2, Ext ca H F H1 F2 ∧ Same F1 F2 ∧ Den K ca F2 v r.d := by
  cases r with
  | va d => exact ⟨F1, x, Same.refl _, h⟩
  | tm ds =>
    obtain ⟨a, vs, rfl, h1, h2, h3, h4⟩ := h
    exact ⟨_, x.frz h1 h3 h2, same_upd h2, .lst upd_same (h4.mono (same_upd h2))⟩
  | bw j ds => cases n
/-! ### own trees -/
mutual
/-- v reads as t: the frozen leaves in F, the own objects at the addresses told in H -/
inductive OT (K : PySem.W.Frag) (ca : Nat → Addr) (F H : Hp) : V → T → List Addr → Prop
  | fz {v : V} {d : D} : Den K ca F v d → OT K ca F H v (.fz d) []
  | lst {a : Addr} {xs : List V} {ts : List T} {as : List Addr} : H a = some (.lst xs) → OTs K ca F H xs ts as → OT K ca F H (.ref a) (.lst ts) (a :: as)
  | ins {a dx : Addr} {fs : List (Str × V)} {c : Nat} {ts : List T} {as : List Addr} : Kls K (ca c) c → H a = some (.ins (ca c) dx fs) → fs.map (·.1) = fldsOf c → OTs K ca F H (fs.map (·.2)) ts as → OT K ca F H (.ref a) (.ins c ts) (a :: as)
inductive OTs (K : PySem.W.Frag) (ca : Nat → Addr) (F H : Hp) : List V → List T → List Addr → Prop
  | nil : OTs K ca F H [] [] []
  | cons {v : V} {vs : List V} {t : T} {ts : List T} {as bs : List Addr} : OT K ca F H v t as → OTs K ca F H vs ts bs → OTs K ca F H (v :: vs) (t :: ts) (as ++ bs)
end
section
variable {K : PySem.W.Frag} {ca : Nat → Addr} {F F' H H' : Hp}
mutual
theorem OT.mono (sf : Same F F') : ∀ {v : V} {t : T} {as : List Addr}, OT K ca F H v t as → (∀ b ∈ as, H' b = H b) → OT K ca F' H' v t as
  | _, _, _, .fz h, _ => .fz (Den.mono sf h)
  | _, _, _, .lst h hs, e => .lst ((e _ List.mem_cons_self).trans h) (OTs.mono sf hs fun b m => e b (List.mem_cons_of_mem _ m))
  | _, _, _, .ins k h n hs, e => .ins k ((e _ List.mem_cons_self).trans h) n (OTs.mono sf hs fun b m => e b (List.mem_cons_of_mem _ m))
theorem OTs.mono (sf : Same F F') : ∀ {vs : List V} {ts : List T} {as : List Addr}, OTs K ca F H vs ts as → (∀ b ∈ as, H' b = H b) → OTs K ca F' H' vs ts as
  | _, _, _, .nil, _ => .nil
  | _, _, _, .cons h hs, e => .cons (OT.mono sf h fun b m => e b (List.mem_append_left _ m)) (OTs.mono sf hs fun b m => e b (List.mem_append_right _ m))
end
mutual
theorem OT.at : ∀ {v : V} {t : T} {as : List Addr}, OT K ca F H v t as → ∀ b ∈ as, ∃ o, H b = some o ∧ ∀ ps, o ≠ .tbl ps
  | _, _, _, .fz _, b, m => by cases m
  | _, _, _, .lst h hs, b, m => by
    rcases List.mem_cons.mp m with e | m
    · subst e; exact ⟨_, h, fun _ z => nomatch z⟩
    · exact OTs.at hs b m
  | _, _, _, .ins k h n hs, b, m => by
    rcases List.mem_cons.mp m with e | m
    · subst e; exact ⟨_, h, fun _ z => nomatch z⟩
    · exact OTs.at hs b m
theorem OTs.at : ∀ {vs : List V} {ts : List T} {as : List Addr}, OTs K ca F H vs ts as → ∀ b ∈ as, ∃ o, H b = some o ∧ ∀ ps, o ≠ .tbl ps
  | _, _, _, .nil, b, m => by cases m
  | _, _, _, .cons h hs, b, m => by
    rcases List.mem_append.mp m with m | m
    · exact OT.at h b m
    · exact OTs.at hs b m
end
mutual
/-- a tree as data, where its objects are frozen -/
theorem OT.den (sf : Same F F') : ∀ {v : V} {t : T} {as : List Addr}, OT K ca F H v t as → (∀ b ∈ as, F' b = H b) → Den K ca F' v t.d
  | _, _, _, .fz h, _ => Den.mono sf h
  | _, _, _, .lst h hs, e => .lst ((e _ List.mem_cons_self).trans h) (OTs.den sf hs fun b m => e b (List.mem_cons_of_mem _ m))
  | _, _, _, .ins k h n hs, e => .ins k ((e _ List.mem_cons_self).trans h) n (OTs.den sf hs fun b m => e b (List.mem_cons_of_mem _ m))
theorem OTs.den (sf : Same F F') : ∀ {vs : List V} {ts : List T} {as : List Addr}, OTs K ca F H vs ts as → (∀ b ∈ as, F' b = H b) → Dens K ca F' vs (T.ds ts)
  | _, _, _, .nil, _ => .nil
  | _, _, _, .cons h hs, e => .cons (OT.den sf h fun b m => e b (List.mem_append_left _ m)) (OTs.den sf hs fun b m => e b (List.mem_append_right _ m))
end
theorem OTs.length : ∀ {vs : List V} {ts : List T} {as : List Addr}, OTs K ca F H vs ts as → vs.length = ts.length
  | _, _, _, .nil => rfl
  | _, _, _, .cons _ hs => by rw [List.length_cons, List.length_cons, hs.length]
theorem OTs.fzs : ∀ {vs : List V} {ds : List D}, Dens K ca F vs ds → OTs K ca F H vs (ds.map .fz) []
  | _, _, .nil => .nil
  | _, _, .cons h hs => .cons (as := []) (.fz h) (OTs.fzs hs)
theorem OTs.append : ∀ {vs ws : List V} {ts us : List T} {as bs : List Addr}, OTs K ca F H vs ts as → OTs K ca F H ws us bs → OTs K ca F H (vs ++ ws) (ts ++ us) (as ++ bs)
  | _, _, _, _, _, _, .nil, h => h
  | _, _, _, _, _, _, .cons h hs, h2 => by
    rw [List.append_assoc]
    exact .cons h (OTs.append hs h2)
theorem T.ds_fz : ∀ ds : List D, T.ds (ds.map .fz) = ds
  | [] => rfl
  | d :: ds => by
    show T.d (.fz d) :: T.ds (ds.map .fz) = _
    rw [T.ds_fz ds]; rfl
theorem T.ds_map : ∀ ts : List T, T.ds ts = ts.map T.d
  | [] => rfl
  | t :: ts => by
    show t.d :: T.ds ts = _
    rw [T.ds_map ts]; rfl
end
end BK
namespace BK
open PySem PySem.Spec L2
set_option autoImplicit false
/-! ### the state of a body -/
/-- the own trees of a body, apart from one another and from its own lists -/
structure OwnA (K : PySem.W.Frag) (ca : Nat → Addr) (H0 F : Hp) (σ : L2.St) (H : Hp) (Γ : Gm) (A : Nat → List Addr) : Prop where
  a : ∀ (i : Nat) (t : T), Γ[i]? = some (Slot.ot t) → (∃ v : V, σ[i]? = some (some v) ∧ OT K ca F H v t (A i)) ∧ (A i).Nodup ∧ ∀ b ∈ A i, noT H0 b = none ∧ F b = none
  b : ∀ (i j : Nat) (t u : T), i ≠ j → Γ[i]? = some (Slot.ot t) → Γ[j]? = some (Slot.ot u) → ∀ b ∈ A i, b ∉ A j
  c : ∀ (i j : Nat) (t : T) (ds : List D) (a : Addr), Γ[i]? = some (Slot.ot t) → Γ[j]? = some (Slot.ow ds) → σ[j]? = some (some (V.ref a)) → a ∉ A i
def Own (K : PySem.W.Frag) (ca : Nat → Addr) (H0 F : Hp) (σ : L2.St) (H : Hp) (Γ : Gm) : Prop := ∃ A : Nat → List Addr, OwnA K ca H0 F σ H Γ A
theorem Own.nil {K : PySem.W.Frag} {ca : Nat → Addr} {H0 F : Hp} {σ : L2.St} {H : Hp} {Γ : Gm} (h : ∀ (i : Nat) (t : T), Γ[i]? ≠ some (Slot.ot t)) : Own K ca H0 F σ H Γ :=
  ⟨fun _ => [], fun i t e => absurd e (h i t), fun i j t u _ e => absurd e (h i t), fun i j t ds a e => absurd e (h i t)⟩
theorem OwnA.keep {K : PySem.W.Frag} {ca : Nat → Addr} {H0 F F' : Hp} {σ σ' : L2.St} {H H' : Hp} {Γ Γ' : Gm} {A : Nat → List Addr} (o : OwnA K ca H0 F σ H Γ A) (h1 : ∀ (i : Nat) (t : T), Γ'[i]? = some (Slot.ot t) → Γ[i]? = some (Slot.ot t) ∧ σ'[i]? = σ[i]?)
    (h2 : ∀ (j : Nat) (ds : List D) (a : Addr), Γ'[j]? = some (Slot.ow ds) → σ'[j]? = some (some (V.ref a)) → (∃ (k : Nat) (es : List D), Γ[k]? = some (Slot.ow es) ∧ σ[k]? = some (some (V.ref a))) ∨ noT H a = none) (sf : Same F F')
    (hk : ∀ (b : Addr) (u : HO), H b = some u → (∀ ps, u ≠ .tbl ps) → F b = none → (∀ (j : Nat) (ds : List D), Γ[j]? = some (Slot.ow ds) → σ[j]? ≠ some (some (V.ref b))) → H' b = some u ∧ F' b = none) : OwnA K ca H0 F' σ' H' Γ' A := by
  obtain ⟨o1, o2, o3⟩ := o
  have key : ∀ (i : Nat) (t : T), Γ'[i]? = some (Slot.ot t) → ∀ b ∈ A i, ∃ u, H b = some u ∧ H' b = some u ∧ F' b = none ∧ ∀ ps, u ≠ .tbl ps := by
    intro i t e b hb
    obtain ⟨e1, _⟩ := h1 i t e
    obtain ⟨⟨v, _, ht⟩, _, hf⟩ := o1 i t e1
    obtain ⟨u, hu, hn⟩ := ht.at b hb
    obtain ⟨k1, k2⟩ := hk b u hu hn (hf b hb).2 fun j ds g s => o3 i j t ds b e1 g s hb
    exact ⟨u, hu, k1, k2, hn⟩
  refine ⟨fun i t e => ?_, fun i j t u n e e' => o2 i j t u n (h1 i t e).1 (h1 j u e').1, fun i j t ds a e g s => ?_⟩
  · obtain ⟨e1, e2⟩ := h1 i t e
    obtain ⟨⟨v, hv, ht⟩, hd, hf⟩ := o1 i t e1
    refine ⟨⟨v, by rw [e2]; exact hv, ht.mono sf fun b hb => ?_⟩, hd, fun b hb => ⟨(hf b hb).1, ?_⟩⟩
    · obtain ⟨u, k1, k2, _⟩ := key i t e b hb
      rw [k1, k2]
    · obtain ⟨u, k1, k2, k3, _⟩ := key i t e b hb
      exact k3
  · obtain ⟨e1, _⟩ := h1 i t e
    rcases h2 j ds a g s with ⟨k, es, g', s'⟩ | z
    · exact o3 i k t es a e1 g' s'
    · intro hb
      obtain ⟨u, k1, _, _, hn⟩ := key i t e a hb
      rw [noT_get k1 hn] at z
      cases z
theorem OwnA.mono {K : PySem.W.Frag} {ca : Nat → Addr} {H0 F F' : Hp} {σ : L2.St} {H H' : Hp} {Γ : Gm} {A : Nat → List Addr} (o : OwnA K ca H0 F σ H Γ A) (x : Ext ca H F H' F') : OwnA K ca H0 F' σ H' Γ A :=
  o.keep (fun i t e => ⟨e, rfl⟩) (fun j ds a g s => .inl ⟨j, ds, g, s⟩) x.ff fun b u e n f _ => ⟨x.hh.st b u e n, x.keepN e f n⟩
theorem Own.keep {K : PySem.W.Frag} {ca : Nat → Addr} {H0 F F' : Hp} {σ σ' : L2.St} {H H' : Hp} {Γ Γ' : Gm} (o : Own K ca H0 F σ H Γ) (h1 : ∀ (i : Nat) (t : T), Γ'[i]? = some (Slot.ot t) → Γ[i]? = some (Slot.ot t) ∧ σ'[i]? = σ[i]?)
    (h2 : ∀ (j : Nat) (ds : List D) (a : Addr), Γ'[j]? = some (Slot.ow ds) → σ'[j]? = some (some (V.ref a)) → (∃ (k : Nat) (es : List D), Γ[k]? = some (Slot.ow es) ∧ σ[k]? = some (some (V.ref a))) ∨ noT H a = none) (sf : Same F F')
    (hk : ∀ (b : Addr) (u : HO), H b = some u → (∀ ps, u ≠ .tbl ps) → F b = none → (∀ (j : Nat) (ds : List D), Γ[j]? = some (Slot.ow ds) → σ[j]? ≠ some (some (V.ref b))) → H' b = some u ∧ F' b = none) : Own K ca H0 F' σ' H' Γ' := by
  obtain ⟨A, o⟩ := o
  exact ⟨A, o.keep h1 h2 sf hk⟩
structure SR (K : PySem.W.Frag) (ca : Nat → Addr) (H0 F0 : Hp) (σ : L2.St) (H F : Hp) (Γ : Gm) : Prop where
  ext : Ext ca H0 F0 H F
  nt0 : NT F0
  tc0 : TabsC ca H0
  len : σ.length = Γ.length
  va : ∀ (i : Nat) (d : D), Γ[i]? = some (.va d) → ∃ v, σ[i]? = some (some v) ∧ Den K ca F v d
  ow : ∀ (i : Nat) (ds : List D), Γ[i]? = some (.ow ds) → ∃ a vs, σ[i]? = some (some (.ref a)) ∧ noT H0 a = none ∧ F a = none ∧ H a = some (.lst vs) ∧ Dens K ca F vs ds
  ap : ∀ (i j : Nat) (ds es : List D) (a : Addr), i ≠ j → Γ[i]? = some (.ow ds) → Γ[j]? = some (.ow es) → σ[i]? = some (some (.ref a)) → σ[j]? = some (some (.ref a)) → False
  own : Own K ca H0 F σ H Γ
section
variable {K : PySem.W.Frag} {ca : Nat → Addr} {H0 F0 H F H' F' : Hp} {σ : L2.St} {Γ : Gm}
theorem SR.mono (S : SR K ca H0 F0 σ H F Γ) (x : Ext ca H F H' F') : SR K ca H0 F0 σ H' F' Γ :=
  ⟨S.ext.trans x, S.nt0, S.tc0, S.len, fun i d h => let ⟨v, h1, h2⟩ := S.va i d h; ⟨v, h1, h2.mono x.ff⟩,
    fun i ds h => let ⟨a, vs, h1, h2, h3, h4, h5⟩ := S.ow i ds h; ⟨a, vs, h1, h2, x.keepN h4 h3, x.hh.l h4, h5.mono x.ff⟩, S.ap,
    S.own.keep (fun i t e => ⟨e, rfl⟩) (fun j ds a g s => .inl ⟨j, ds, g, s⟩) x.ff fun b u e n f _ => ⟨x.hh.st b u e n, x.keepN e f n⟩⟩
theorem get_set {α : Type} {l : List α} {i j : Nat} {x y : α} (h : (l.set i x)[j]? = some y) : (i = j ∧ y = x ∧ i < l.length) ∨ (i ≠ j ∧ l[j]? = some y) := by
  by_cases e : i = j
  · subst e
    rw [List.getElem?_set] at h
    simp only [if_true] at h
    split at h
    · exact .inl ⟨rfl, (Option.some.inj h).symm, by assumption⟩
    · cases h
  · rw [List.getElem?_set_ne e] at h
    exact .inr ⟨e, h⟩
theorem Own.set_ (o : Own K ca H0 F σ H Γ) {i : Nat} {s : Slot} {v : Option V} (h1 : ∀ t, s ≠ .ot t) (h2 : ∀ ds, s ≠ .ow ds) : Own K ca H0 F (σ.set i v) H (Γ.set i s) :=
  o.keep (fun j t e => by
    rcases get_set e with ⟨_, e1, _⟩ | ⟨n, e⟩
    · exact absurd e1.symm (h1 t)
    · exact ⟨e, List.getElem?_set_ne n⟩) (fun j ds a g s' => by
    rcases get_set g with ⟨_, e1, _⟩ | ⟨n, g⟩
    · exact absurd e1.symm (h2 ds)
    · rw [List.getElem?_set_ne n] at s'
      exact .inl ⟨j, ds, g, s'⟩) (Same.refl _) fun b u e n f _ => ⟨e, f⟩
theorem SR.lt (S : SR K ca H0 F0 σ H F Γ) {i : Nat} (h : i < Γ.length) : i < σ.length := by rw [S.len]; exact h
/-- a value is stored -/
theorem SR.setVa (S : SR K ca H0 F0 σ H F Γ) {i : Nat} {v : V} {d : D} (h : Den K ca F v d) : SR K ca H0 F0 (σ.set i (some v)) H F (Γ.set i (.va d)) := by
  refine ⟨S.ext, S.nt0, S.tc0, by rw [List.length_set, List.length_set]; exact S.len, fun j e hj => ?_, fun j ds hj => ?_, fun j k ds es a n hj hk sj sk => ?_, S.own.set_ (fun t z => nomatch z) (fun ds z => nomatch z)⟩
  · rcases get_set hj with ⟨rfl, e1, hl⟩ | ⟨n, hj⟩
    · injection e1 with e1; subst e1
      exact ⟨v, List.getElem?_set_self (S.lt hl), h⟩
    · rw [List.getElem?_set_ne n]; exact S.va j e hj
  · rcases get_set hj with ⟨rfl, e1, hl⟩ | ⟨n, hj⟩
    · cases e1
    · rw [List.getElem?_set_ne n]; exact S.ow j ds hj
  · rcases get_set hj with ⟨rfl, e1, hl⟩ | ⟨n1, hj⟩
    · cases e1
    · rcases get_set hk with ⟨rfl, e1, hl⟩ | ⟨n2, hk⟩
      · cases e1
      · rw [List.getElem?_set_ne n1] at sj
        rw [List.getElem?_set_ne n2] at sk
        exact S.ap j k ds es a n hj hk sj sk
/-- a slot is forgotten -/
theorem SR.setUn (S : SR K ca H0 F0 σ H F Γ) {i : Nat} (v : Option V) : SR K ca H0 F0 (σ.set i v) H F (Γ.set i .un) := by
  refine ⟨S.ext, S.nt0, S.tc0, by rw [List.length_set, List.length_set]; exact S.len, fun j e hj => ?_, fun j ds hj => ?_, fun j k ds es a n hj hk sj sk => ?_, S.own.set_ (fun t z => nomatch z) (fun ds z => nomatch z)⟩
  · rcases get_set hj with ⟨rfl, e1, hl⟩ | ⟨n, hj⟩
    · cases e1
    · rw [List.getElem?_set_ne n]; exact S.va j e hj
  · rcases get_set hj with ⟨rfl, e1, hl⟩ | ⟨n, hj⟩
    · cases e1
    · rw [List.getElem?_set_ne n]; exact S.ow j ds hj
  · rcases get_set hj with ⟨rfl, e1, hl⟩ | ⟨n1, hj⟩
    · cases e1
    · rcases get_set hk with ⟨rfl, e1, hl⟩ | ⟨n2, hk⟩
      · cases e1
      · rw [List.getElem?_set_ne n1] at sj
        rw [List.getElem?_set_ne n2] at sk
        exact S.ap j k ds es a n hj hk sj sk
/-- a new list is stored -/
theorem SR.setTm (S : SR K ca H0 F0 σ H F Γ) (x : Ext ca H F H' F') {i : Nat} {v : V} {ds : List D} {B : BT} (h : RV K ca B H F' H' v (.tm ds)) : SR K ca H0 F0 (σ.set i (some v)) H' F' (Γ.set i (.ow ds)) := by
  have S' := S.mono x
  obtain ⟨a, vs, rfl, h1, h2, h3, h4⟩ := h
  refine ⟨S'.ext, S.nt0, S.tc0, by rw [List.length_set, List.length_set]; exact S.len, fun j e hj => ?_, fun j es hj => ?_, fun j k es fs b n hj hk sj sk => ?_, S.own.keep (fun j t e => by
    rcases get_set e with ⟨_, e1, _⟩ | ⟨n, e⟩
    · cases e1
    · exact ⟨e, List.getElem?_set_ne n⟩) (fun j es b g s' => by
    rcases get_set g with ⟨e0, e1, hl⟩ | ⟨n, g⟩
    · subst e0
      rw [List.getElem?_set_self (S.lt hl)] at s'
      cases s'
      exact .inr h1
    · rw [List.getElem?_set_ne n] at s'
      exact .inl ⟨j, es, g, s'⟩) x.ff fun b u e n f _ => ⟨x.hh.st b u e n, x.keepN e f n⟩⟩
  · rcases get_set hj with ⟨rfl, e1, hl⟩ | ⟨n, hj⟩
    · cases e1
    · rw [List.getElem?_set_ne n]; exact S'.va j e hj
  · rcases get_set hj with ⟨rfl, e1, hl⟩ | ⟨n, hj⟩
    · injection e1 with e1; subst e1
      exact ⟨a, vs, List.getElem?_set_self (S.lt hl), S.ext.hh.free h1, h2, h3, h4⟩
    · rw [List.getElem?_set_ne n]; exact S'.ow j es hj
  · have key : ∀ {j : Nat} {es : List D}, Γ[j]? = some (.ow es) → σ[j]? = some (some (.ref a)) → False := fun {j es} g s => by
      obtain ⟨c, ws, s', _, _, g4, _⟩ := S.ow j es g
      rw [s] at s'
      cases s'
      exact ne_noT g4 (fun _ z => nomatch z) h1 rfl
    rcases get_set hj with ⟨rfl, e1, hl⟩ | ⟨n1, hj⟩
    · rw [List.getElem?_set_self (S.lt hl)] at sj
      cases sj
      rcases get_set hk with ⟨rfl, e1, hl⟩ | ⟨n2, hk⟩
      · exact n rfl
      · rw [List.getElem?_set_ne n2] at sk
        exact key hk sk
    · rcases get_set hk with ⟨rfl, e1, hl⟩ | ⟨n2, hk⟩
      · rw [List.getElem?_set_self (S.lt hl)] at sk
        cases sk
        rw [List.getElem?_set_ne n1] at sj
        exact key hj sj
      · rw [List.getElem?_set_ne n1] at sj
        rw [List.getElem?_set_ne n2] at sk
        exact S.ap j k es fs b n hj hk sj sk
/-- an own list is frozen -/
theorem SR.frzE (S : SR K ca H0 F0 σ H F Γ) {i : Nat} {ds : List D} (h : Γ[i]? = some (.ow ds)) {a : Addr} {vs : List V} (s : σ[i]? = some (some (.ref a))) (h1 : noT H0 a = none) (h2 : F a = none) (h3 : H a = some (.lst vs)) (h4 : Dens K ca F vs ds) : SR K ca H0 F0 σ H (upd F a (.lst vs)) (Γ.set i (.va (.lst ds))) := by
  have sm : Same F (upd F a (.lst vs)) := same_upd h2
  refine ⟨S.ext.frz h1 h3 h2, S.nt0, S.tc0, by rw [List.length_set]; exact S.len, fun j e hj => ?_, fun j es hj => ?_, fun j k es fs b n hj hk sj sk => ?_, S.own.keep (fun j t e => by
    rcases get_set e with ⟨_, e1, _⟩ | ⟨n, e⟩
    · cases e1
    · exact ⟨e, rfl⟩) (fun j es b g s' => by
    rcases get_set g with ⟨_, e1, _⟩ | ⟨n, g⟩
    · cases e1
    · exact .inl ⟨j, es, g, s'⟩) sm fun b u e n f k => ⟨e, by rw [upd_ne fun z => k i ds h (by rw [s, z])]; exact f⟩⟩
  · rcases get_set hj with ⟨rfl, e1, hl⟩ | ⟨n, hj⟩
    · injection e1 with e1; subst e1
      exact ⟨_, s, .lst upd_same (h4.mono sm)⟩
    · obtain ⟨v, g1, g2⟩ := S.va j e hj
      exact ⟨v, g1, g2.mono sm⟩
  · rcases get_set hj with ⟨rfl, e1, hl⟩ | ⟨n, hj⟩
    · cases e1
    · obtain ⟨b, ws, g1, g2, g3, g4, g5⟩ := S.ow j es hj
      have hb : b ≠ a := fun e => by subst e; exact S.ap i j ds es b n h hj s g1
      exact ⟨b, ws, g1, g2, by rw [upd_ne hb]; exact g3, g4, g5.mono sm⟩
  · rcases get_set hj with ⟨rfl, e1, hl⟩ | ⟨n1, hj⟩
    · cases e1
    · rcases get_set hk with ⟨rfl, e1, hl⟩ | ⟨n2, hk⟩
      · cases e1
      · exact S.ap j k es fs b n hj hk sj sk
theorem SR.frz (S : SR K ca H0 F0 σ H F Γ) {i : Nat} {ds : List D} (h : Γ[i]? = some (.ow ds)) : ∃ F', Same F F' ∧ SR K ca H0 F0 σ H F' (Γ.set i (.va (.lst ds))) := by
  obtain ⟨a, vs, s, h1, h2, h3, h4⟩ := S.ow i ds h
  exact ⟨_, same_upd h2, S.frzE h s h1 h2 h3 h4⟩
/-- an own list is changed -/
theorem SR.upd (S : SR K ca H0 F0 σ H F Γ) {i : Nat} {ds es : List D} {a : Addr} {ws : List V} (h : Γ[i]? = some (.ow ds)) (s : σ[i]? = some (some (.ref a))) (hw : Dens K ca F ws es) :
    SR K ca H0 F0 σ (upd H a (.lst ws)) F (Γ.set i (.ow es)) := by
  obtain ⟨a', vs, s', h1, h2, h3, h4⟩ := S.ow i ds h
  rw [s] at s'
  cases s'
  refine ⟨⟨S.ext.hh.updO h1 (Pl.lst h3), S.ext.ff, fun b o e => ?_, S.ext.nw, S.ext.nt⟩, S.nt0, S.tc0, by rw [List.length_set]; exact S.len, fun j e hj => ?_, fun j fs hj => ?_, fun j k fs gs b n hj hk sj sk => ?_, S.own.keep (fun j t e => by
    rcases get_set e with ⟨_, e1, _⟩ | ⟨n, e⟩
    · cases e1
    · exact ⟨e, rfl⟩) (fun j fs b g s' => by
    rcases get_set g with ⟨e0, e1, _⟩ | ⟨n, g⟩
    · subst e0; exact .inl ⟨i, ds, h, s'⟩
    · exact .inl ⟨j, fs, g, s'⟩) (Same.refl _) fun b u e n f k => ⟨by rw [upd_ne fun z => k i ds h (by rw [s, z])]; exact e, f⟩⟩
  · rw [upd_ne (ne_of_none e h2)]; exact S.ext.fh b o e
  · rcases get_set hj with ⟨rfl, e1, hl⟩ | ⟨n, hj⟩
    · cases e1
    · exact S.va j e hj
  · rcases get_set hj with ⟨rfl, e1, hl⟩ | ⟨n, hj⟩
    · injection e1 with e1; subst e1
      exact ⟨a, ws, s, h1, h2, upd_same, hw⟩
    · obtain ⟨b, us, g1, g2, g3, g4, g5⟩ := S.ow j fs hj
      have hb : b ≠ a := fun e => by subst e; exact S.ap i j ds fs b n h hj s g1
      exact ⟨b, us, g1, g2, g3, by rw [upd_ne hb]; exact g4, g5⟩
  · rcases get_set hj with ⟨rfl, e1, hl⟩ | ⟨n1, hj⟩
    · rcases get_set hk with ⟨rfl, e2, hl2⟩ | ⟨n2, hk⟩
      · exact n rfl
      · exact S.ap i k ds gs b n h hk sj sk
    · rcases get_set hk with ⟨rfl, e1, hl⟩ | ⟨n2, hk⟩
      · exact S.ap j i fs ds b n hj h sj sk
      · exact S.ap j k fs gs b n hj hk sj sk
end
/-! ### the judgements over data -/
/-- the own lists of a body at the slots -/
def BB (σ : L2.St) (Γ : Gm) : BT := fun j a ds => σ[j]? = some (some (.ref a)) ∧ Γ[j]? = some (.ow ds)
abbrev RVs (K : PySem.W.Frag) (ca : Nat → Addr) (B : BT) (H F' H' : Hp) : List V → List R → Prop := Paired (RV K ca B H F' H')
theorem RVs.mono {K : PySem.W.Frag} {ca : Nat → Addr} {B : BT} {H F1 H1 F2 H2 : Hp} (x : Ext ca H1 F1 H2 F2) : ∀ {vs : List V} {rs : List R}, RVs K ca B H F1 H1 vs rs → RVs K ca B H F2 H2 vs rs
  | _, _, .nil => .nil
  | _, _, .cons h hs => .cons (h.mono x) (RVs.mono x hs)
theorem RVs.back {K : PySem.W.Frag} {ca : Nat → Addr} {B : BT} {Ha H F1 H1 : Hp} (s : SameN ca Ha H) : ∀ {vs : List V} {rs : List R}, RVs K ca B H F1 H1 vs rs → RVs K ca B Ha F1 H1 vs rs
  | _, _, .nil => .nil
  | _, _, .cons h hs => .cons (h.back s) (RVs.back s hs)
def tEV (K : PySem.W.Frag) (ca : Nat → Addr) (m : Gm → Option R) : TE := fun σ H Q => ∃ H0 F0 F Γ r, SR K ca H0 F0 σ H F Γ ∧ m Γ = some r ∧ ∀ v H' F', Ext ca H F H' F' → RV K ca (BB σ Γ) H F' H' v r → Q v H'
def tTV (K : PySem.W.Frag) (ca : Nat → Addr) (m : Gm → Option Bool) : TT := fun σ H Q => ∃ H0 F0 F Γ b, SR K ca H0 F0 σ H F Γ ∧ m Γ = some b ∧ ∀ H' F', Ext ca H F H' F' → Q b H'
def tAV (K : PySem.W.Frag) (ca : Nat → Addr) (m : Gm → Option (List R)) : TA := fun σ H Q => ∃ H0 F0 F Γ rs, SR K ca H0 F0 σ H F Γ ∧ m Γ = some rs ∧ ∀ vs H' F', Ext ca H F H' F' → RVs K ca (BB σ Γ) H F' H' vs rs → Q vs H'
/-- slots outside T stay -/
def Kp (T : List Nat) (σ σ' : L2.St) : Prop := ∀ j, j ∉ T → σ'[j]? = σ[j]?
def KpG (T : List Nat) (g : Gm) : Out → Prop
  | .nx g' => ∀ j, j ∉ T → g'[j]? = g[j]?
  | .rt _ => True
  | .bk g' => ∀ j, j ∉ T → g'[j]? = g[j]?
  | .ct g' => ∀ j, j ∉ T → g'[j]? = g[j]?
  | .ex _ => True
def PostO (K : PySem.W.Frag) (ca : Nat → Addr) (D : Ends) (H0 F0 Fs : Hp) (σ : L2.St) (T : List Nat) : Out → Prop
  | .nx g => ∀ σ' H' F', SR K ca H0 F0 σ' H' F' g → Same Fs F' → Kp T σ σ' → D.nx σ' H'
  | .rt r => ∀ v H' F', Ext ca H0 F0 H' F' → RV K ca (fun _ _ _ => False) H0 F' H' v r → D.rt v H'
  | .bk g => ∀ σ' H' F', SR K ca H0 F0 σ' H' F' g → Same Fs F' → Kp T σ σ' → D.bk σ' H'
  | .ct g => ∀ σ' H' F', SR K ca H0 F0 σ' H' F' g → Same Fs F' → Kp T σ σ' → D.ct σ' H'
  | .ex _ => False
def tSV (K : PySem.W.Frag) (ca : Nat → Addr) (m : Gm → Option Out) (T : List Nat) : TS := fun D σ H => ∃ H0 F0 F Γ o, SR K ca H0 F0 σ H F Γ ∧ m Γ = some o ∧ PostO K ca D H0 F0 F σ T o
abbrev EV (X : Cx) (ca : Nat → Addr) (e : Expr) (m : Gm → Option R) : Prop := PE X e (tEV X.K ca m)
abbrev TV (X : Cx) (ca : Nat → Addr) (e : Expr) (m : Gm → Option Bool) : Prop := PT X e (tTV X.K ca m)
abbrev WV (X : Cx) (ca : Nat → Addr) (e : Expr) (m : Gm → Option Bool) : Prop := PW X e (tTV X.K ca m)
abbrev AV (X : Cx) (ca : Nat → Addr) (es : List Expr) (m : Gm → Option (List R)) : Prop := PA X es (tAV X.K ca m)
structure SV (X : Cx) (ca : Nat → Addr) (st : Stmt) (m : Gm → Option Out) (T : List Nat) : Prop where
  ps : PS X st (tSV X.K ca m T)
  kp : ∀ g o, m g = some o → KpG T g o
structure SVs (X : Cx) (ca : Nat → Addr) (st : List Stmt) (m : Gm → Option Out) (T : List Nat) : Prop where
  ps : PSs X st (tSV X.K ca m T)
  kp : ∀ g o, m g = some o → KpG T g o
section
variable {X : Cx}
theorem pe_imp {e : Expr} {t t' : TE} (h : PE X e t) (i : ∀ σ H Q, t' σ H Q → t σ H Q) : PE X e t' := ⟨fun pins s σ H Q I q => h.run pins s σ H Q I (i σ H Q q)⟩
theorem pt_imp {e : Expr} {t t' : TT} (h : PT X e t) (i : ∀ σ H Q, t' σ H Q → t σ H Q) : PT X e t' := ⟨fun pins s σ H Q I q => h.run pins s σ H Q I (i σ H Q q)⟩
theorem pw_imp {e : Expr} {t t' : TT} (h : PW X e t) (i : ∀ σ H Q, t' σ H Q → t σ H Q) : PW X e t' := ⟨fun wh pins s σ H Q I q => h.run wh pins s σ H Q I (i σ H Q q)⟩
theorem pa_imp {es : List Expr} {t t' : TA} (h : PA X es t) (i : ∀ σ H Q, t' σ H Q → t σ H Q) : PA X es t' := ⟨fun pos pins s σ H Q I q => h.run pos pins s σ H Q I (i σ H Q q)⟩
theorem ps_imp {st : Stmt} {t t' : TS} (h : PS X st t) (i : ∀ D σ H, t' D σ H → t D σ H) : PS X st t' := ⟨fun pins s σ H D I q => h.run pins s σ H D I (i D σ H q)⟩
theorem pss_imp {st : List Stmt} {t t' : TS} (h : PSs X st t) (i : ∀ D σ H, t' D σ H → t D σ H) : PSs X st t' := ⟨fun pins s σ H D I q => h.run pins s σ H D I (i D σ H q)⟩
end
/-! ### expressions -/
def eV (i : Nat) : Gm → Option R := fun g => match g[i]? with
  | some (.va d) => some (.va d)
  | some (.ow ds) => some (.bw i ds)
  | _ => none
def eC (d : D) : Gm → Option R := fun _ => some (.va d)
def e1 (f : R → Option R) (a : Gm → Option R) : Gm → Option R := fun g => (a g).bind f
def e2 (f : R → R → Option R) (a b : Gm → Option R) : Gm → Option R := fun g => (a g).bind fun x => (b g).bind fun y => f x y
def aN : Gm → Option (List R) := fun _ => some []
def R.fz : R → R
  | .tm ds => .va (.lst ds)
  | r => r
/-- arguments: a temporary list is frozen at once -/
def aC (a : Gm → Option R) (b : Gm → Option (List R)) : Gm → Option (List R) := fun g => (a g).bind fun x => (b g).bind fun y => some (x.fz :: y)
def eA (f : List R → Option R) (a : Gm → Option (List R)) : Gm → Option R := fun g => (a g).bind f
section
variable {X : Cx} {ca : Nat → Addr}
theorem ev_var {i : Nat} {x : Str} {pos : Pos} (h : PE X (.Name x pos) (tVar i)) : EV X ca (.Name x pos) (eV i) := by
  refine pe_imp h fun σ H Q ⟨H0, F0, F, Γ, r, S, e, q⟩ => ?_
  unfold eV at e
  split at e
  · rename_i d g
    cases e
    obtain ⟨v, s, h1⟩ := S.va i d g
    exact ⟨v, s, q v H F (.refl S.ext.fh) h1⟩
  · rename_i ds g
    cases e
    obtain ⟨a, vs, s, h1, h2, h3, h4⟩ := S.ow i ds g
    exact ⟨_, s, q _ H F (.refl S.ext.fh) ⟨a, vs, rfl, ⟨s, g⟩, h2, h3, h4⟩⟩
  · cases e
theorem ev_c {e : Expr} {v : V} {d : D} (h : PE X e (tC v)) (hd : ∀ F, Den X.K ca F v d) : EV X ca e (eC d) := by
  refine pe_imp h fun σ H Q ⟨H0, F0, F, Γ, r, S, e, q⟩ => ?_
  cases e
  exact q v H F (.refl S.ext.fh) (hd F)
/-- an operator by values -/
def OpD (K : PySem.W.Frag) (ca : Nat → Addr) (r : R2) (f : R → R → Option R) : Prop :=
  ∀ {B : BT} {Hs F H : Hp} {v w : V} {x y z : R} {Q : VK}, Same F H → RV K ca B Hs F H v x → RV K ca B Hs F H w y → f x y = some z → (∀ u H' F', Ext ca H F H' F' → RV K ca B H F' H' u z → Q u H') → r v w H Q
def UnD (K : PySem.W.Frag) (ca : Nat → Addr) (r : V → Hp → VK → Prop) (f : R → Option R) : Prop :=
  ∀ {B : BT} {Hs F H : Hp} {v : V} {x z : R} {Q : VK}, Same F H → RV K ca B Hs F H v x → f x = some z → (∀ u H' F', Ext ca H F H' F' → RV K ca B H F' H' u z → Q u H') → r v H Q
def CallD (K : PySem.W.Frag) (ca : Nat → Addr) (r : List V → Hp → VK → Prop) (f : List R → Option R) : Prop :=
  ∀ {B : BT} {Hs F H : Hp} {vs : List V} {xs : List R} {z : R} {Q : VK}, Same F H → RVs K ca B Hs F H vs xs → f xs = some z → (∀ u H' F', Ext ca H F H' F' → RV K ca B H F' H' u z → Q u H') → r vs H Q
theorem t_op {r : R2} {f : R → R → Option R} {m n : Gm → Option R} (o : OpD X.K ca r f) : ∀ σ H Q, tEV X.K ca (e2 f m n) σ H Q → tOp r (tEV X.K ca m) (tEV X.K ca n) σ H Q := by
  rintro σ H Q ⟨H0, F0, F, Γ, z, S, e, q⟩
  unfold e2 at e
  obtain ⟨x, ex, e⟩ := Option.bind_eq_some_iff.mp e
  obtain ⟨y, ey, e⟩ := Option.bind_eq_some_iff.mp e
  refine ⟨H0, F0, F, Γ, x, S, ex, fun v H1 F1 x1 r1 => ⟨H0, F0, F1, Γ, y, S.mono x1, ey, fun w H2 F2 x2 r2 => ?_⟩⟩
  exact o x2.fh (r1.mono x2) (r2.back x1.hh) e fun u H3 F3 x3 r3 => q u H3 F3 ((x1.trans x2).trans x3) (r3.back (x1.hh.trans x2.hh))
theorem t_un {r : V → Hp → VK → Prop} {f : R → Option R} {m : Gm → Option R} (o : UnD X.K ca r f) : ∀ σ H Q, tEV X.K ca (e1 f m) σ H Q → tUn r (tEV X.K ca m) σ H Q := by
  rintro σ H Q ⟨H0, F0, F, Γ, z, S, e, q⟩
  unfold e1 at e
  obtain ⟨x, ex, e⟩ := Option.bind_eq_some_iff.mp e
  refine ⟨H0, F0, F, Γ, x, S, ex, fun v H1 F1 x1 r1 => ?_⟩
  exact o x1.fh r1 e fun u H3 F3 x3 r3 => q u H3 F3 (x1.trans x3) (r3.back x1.hh)
theorem t_call {r : List V → Hp → VK → Prop} {f : List R → Option R} {m : Gm → Option (List R)} (o : CallD X.K ca r f) : ∀ σ H Q, tEV X.K ca (eA f m) σ H Q → tCB r (tAV X.K ca m) σ H Q := by
  rintro σ H Q ⟨H0, F0, F, Γ, z, S, e, q⟩
  unfold eA at e
  obtain ⟨x, ex, e⟩ := Option.bind_eq_some_iff.mp e
  refine ⟨H0, F0, F, Γ, x, S, ex, fun v H1 F1 x1 r1 => ?_⟩
  exact o x1.fh r1 e fun u H3 F3 x3 r3 => q u H3 F3 (x1.trans x3) (r3.back x1.hh)
variable {a b e : Expr} {es : List Expr} {m n : Gm → Option R} {ms : Gm → Option (List R)} {pos p : Pos}
theorem ev_op {op : Operator} {r : R2} {f : R → R → Option R} (ho : OpR X (binaryOp op) r) (o : OpD X.K ca r f) (ha : EV X ca a m) (hb : EV X ca b n) : EV X ca (.BinOp a op b pos) (e2 f m n) := pe_imp (pe_op ho ha hb) (t_op o)
theorem ev_un {op : UnaryOp} {r : V → Hp → VK → Prop} {f : R → Option R} (ho : UnR X (unaryOp op) r) (o : UnD X.K ca r f) (ha : EV X ca a m) : EV X ca (.UnaryOp op a pos) (e1 f m) := pe_imp (pe_un ho ha) (t_un o)
theorem ev_cmp {op : CmpOp} {r : R2} {f : R → R → Option R} (ho : OpR X (compareOp op) r) (o : OpD X.K ca r f) (ha : EV X ca a m) (hb : EV X ca b n) (hm : behindInMarks op b = false) : EV X ca (.Compare a [op] [b] pos) (e2 f m n) := pe_imp (pe_cmpR ho ha hb hm) (t_op o)
theorem ev_ix {r : R2} {f : R → R → Option R} (hr : IxR X r) (o : OpD X.K ca r f) (ha : EV X ca a m) (hb : EV X ca b n) (hs : PlainIx b) : EV X ca (.Subscript a b pos) (e2 f m n) := pe_imp (pe_ix hr ha hb hs) (t_op o)
theorem av_nil : AV X ca [] aN := by
  refine pa_imp pa_nil ?_
  rintro σ H Q ⟨H0, F0, F, Γ, z, S, e, q⟩
  cases e
  exact q [] H F (.refl S.ext.fh) .nil
theorem RV.fz {K : PySem.W.Frag} {B : BT} {H F H1 F1 : Hp} {v : V} {r : R} (x : Ext ca H F H1 F1) (h : RV K ca B H F1 H1 v r) : ∃ F2, Ext ca H F H1 F2 ∧ RV K ca B H F2 H1 v r.fz := by
  cases r with
  | va d => exact ⟨F1, x, h⟩
  | tm ds =>
    obtain ⟨F2, x2, _, h2⟩ := RV.froze x h rfl
    exact ⟨F2, x2, h2⟩
  | bw j ds => exact ⟨F1, x, h⟩
theorem av_cons (ha : EV X ca e m) (hr : AV X ca es ms) (hs : starEach (e :: es) X.env = (false, eval e X.env) :: starEach es X.env := by rfl) : AV X ca (e :: es) (aC m ms) := by
  refine pa_imp (pa_cons ha hr hs) ?_
  rintro σ H Q ⟨H0, F0, F, Γ, z, S, e, q⟩
  unfold aC at e
  obtain ⟨x, ex, e⟩ := Option.bind_eq_some_iff.mp e
  obtain ⟨y, ey, e⟩ := Option.bind_eq_some_iff.mp e
  cases e
  refine ⟨H0, F0, F, Γ, x, S, ex, fun v H1 F1 x1 r1 => ?_⟩
  obtain ⟨F1', x1', r1'⟩ := RV.fz x1 r1
  exact ⟨H0, F0, F1', Γ, y, S.mono x1', ey, fun w H2 F2 x2 r2 => q _ _ F2 (x1'.trans x2) (.cons (r1'.mono x2) (r2.back x1'.hh))⟩
end
end BK
namespace BK
open PySem PySem.Spec L2
set_option autoImplicit false
/-! ### tests -/
def bC (f : R → R → Option R) (a b : Gm → Option R) : Gm → Option Bool := fun g => (e2 f a b g).bind fun r => match r with
  | .va (.bl k) => some k
  | _ => none
def bE (a : Gm → Option R) : Gm → Option Bool := fun g => (a g).bind fun r => match r with
  | .va (.bl k) => some k
  | _ => none
def bNot (a : Gm → Option Bool) : Gm → Option Bool := fun g => (a g).map (!·)
def bAnd (a b : Gm → Option Bool) : Gm → Option Bool := fun g => (a g).bind fun k => if k = true then b g else some false
def bOr (a b : Gm → Option Bool) : Gm → Option Bool := fun g => (a g).bind fun k => if k = true then some true else b g
/-- .. as values -/
def eB (a : Gm → Option Bool) : Gm → Option R := fun g => (a g).map fun k => .va (.bl k)
def eAnd (a b : Gm → Option R) : Gm → Option R := fun g => (bE a g).bind fun k => if k = true then b g else some (.va (.bl false))
def eOr (a b : Gm → Option R) : Gm → Option R := fun g => (bE a g).bind fun k => if k = true then some (.va (.bl true)) else b g
section
variable {X : Cx} {ca : Nat → Addr} {a b e : Expr} {rest : List Expr} {m n : Gm → Option R} {k l : Gm → Option Bool} {pos : Pos}
theorem bE_some {g : Gm} {c : Bool} : bE m g = some c ↔ m g = some (.va (.bl c)) := by
  unfold bE
  cases q : m g with
  | none => simp
  | some r =>
    simp only [Option.bind_some]
    split
    · simp
    · rename_i h
      constructor
      · intro z; cases z
      · intro z; cases z; exact absurd rfl (h _)
theorem t_test {σ : L2.St} {H : Hp} {Q : Bool → Hp → Prop} (h : tTV X.K ca (bE m) σ H Q) : tEV X.K ca m σ H (fun x H1 => ∃ c, x = .bl c ∧ Q c H1) := by
  obtain ⟨H0, F0, F, Γ, c, S, e, q⟩ := h
  refine ⟨H0, F0, F, Γ, _, S, bE_some.mp e, fun v H' F' x r => ?_⟩
  cases r
  exact ⟨c, rfl, q H' F' x⟩
/-- a value that is a bool, as a test -/
theorem tv_val (h : EV X ca e m) (he : ∀ whole, isTrue e X.env whole = (do let v ← whole; standAt e.pos; holding [v] (truthy v)) := by intro _; rfl) : TV X ca e (bE m) := pt_imp (pt_val h he) fun σ H Q q => t_test q
theorem tv_cmp {op : CmpOp} {r : R2} {f : R → R → Option R} (ho : OpR X (compareOp op) r) (o : OpD X.K ca r f) (ha : EV X ca a m) (hb : EV X ca b n) (hm : behindInMarks op b = false) : TV X ca (.Compare a [op] [b] pos) (bE (e2 f m n)) :=
  pt_imp (pt_cmpR ho ha hb hm) fun σ H Q q => t_op o _ _ _ (t_test q)
theorem tv_not (h : TV X ca a k) : TV X ca (.UnaryOp .Not a pos) (bNot k) := by
  refine pt_imp (pt_not h) ?_
  rintro σ H Q ⟨H0, F0, F, Γ, c, S, e, q⟩
  unfold bNot at e
  cases z : k Γ with
  | none => rw [z] at e; cases e
  | some d =>
    rw [z] at e
    cases e
    exact ⟨H0, F0, F, Γ, d, S, z, q⟩
theorem wv_one (h : TV X ca a k) : WV X ca (.BoolOp .And [a] pos) k := pw_and1 h
theorem wv_one' (h : TV X ca a k) : WV X ca (.BoolOp .Or [a] pos) k := pw_or1 h
theorem wv_and (ha : TV X ca a k) (hb : WV X ca (.BoolOp .And (b :: rest) pos) l) : WV X ca (.BoolOp .And (a :: b :: rest) pos) (bAnd k l) := by
  refine pw_imp (pw_and ha hb) ?_
  rintro σ H Q ⟨H0, F0, F, Γ, c, S, e, q⟩
  unfold bAnd at e
  obtain ⟨d, ed, e⟩ := Option.bind_eq_some_iff.mp e
  refine ⟨H0, F0, F, Γ, d, S, ed, fun H1 F1 x1 => ?_⟩
  cases d with
  | true => exact iteT ⟨H0, F0, F1, Γ, c, S.mono x1, by simpa using e, fun H2 F2 x2 => q H2 F2 (x1.trans x2)⟩
  | false =>
    obtain rfl : false = c := by simpa using e
    exact iteF (q H1 F1 x1)
theorem wv_or (ha : TV X ca a k) (hb : WV X ca (.BoolOp .Or (b :: rest) pos) l) : WV X ca (.BoolOp .Or (a :: b :: rest) pos) (bOr k l) := by
  refine pw_imp (pw_or ha hb) ?_
  rintro σ H Q ⟨H0, F0, F, Γ, c, S, e, q⟩
  unfold bOr at e
  obtain ⟨d, ed, e⟩ := Option.bind_eq_some_iff.mp e
  refine ⟨H0, F0, F, Γ, d, S, ed, fun H1 F1 x1 => ?_⟩
  cases d with
  | false => exact iteF ⟨H0, F0, F1, Γ, c, S.mono x1, by simpa using e, fun H2 F2 x2 => q H2 F2 (x1.trans x2)⟩
  | true =>
    obtain rfl : true = c := by simpa using e
    exact iteT (q H1 F1 x1)
theorem tv_w (h : WV X ca e k) : TV X ca e k := h.pt
/-- and, or, not as values -/
theorem ev_one {op} (h : EV X ca a m) : EV X ca (.BoolOp op [a] pos) m := pe_one h
theorem ev_and (ha : EV X ca a m) (hb : EV X ca (.BoolOp .And (b :: rest) pos) n) : EV X ca (.BoolOp .And (a :: b :: rest) pos) (eAnd m n) := by
  refine pe_imp (pe_and ha hb) ?_
  rintro σ H Q ⟨H0, F0, F, Γ, z, S, e, q⟩
  unfold eAnd at e
  obtain ⟨d, ed, e⟩ := Option.bind_eq_some_iff.mp e
  refine ⟨H0, F0, F, Γ, _, S, bE_some.mp ed, fun v H1 F1 x1 r1 => ?_⟩
  cases r1
  refine ⟨d, rfl, ?_⟩
  cases d with
  | true => exact iteT ⟨H0, F0, F1, Γ, z, S.mono x1, by simpa using e, fun w H2 F2 x2 r2 => q w H2 F2 (x1.trans x2) (r2.back x1.hh)⟩
  | false =>
    obtain rfl : R.va (.bl false) = z := by simpa using e
    exact iteF (q _ H1 F1 x1 (.bl false))
theorem ev_or (ha : EV X ca a m) (hb : EV X ca (.BoolOp .Or (b :: rest) pos) n) : EV X ca (.BoolOp .Or (a :: b :: rest) pos) (eOr m n) := by
  refine pe_imp (pe_or ha hb) ?_
  rintro σ H Q ⟨H0, F0, F, Γ, z, S, e, q⟩
  unfold eOr at e
  obtain ⟨d, ed, e⟩ := Option.bind_eq_some_iff.mp e
  refine ⟨H0, F0, F, Γ, _, S, bE_some.mp ed, fun v H1 F1 x1 r1 => ?_⟩
  cases r1
  refine ⟨d, rfl, ?_⟩
  cases d with
  | false => exact iteF ⟨H0, F0, F1, Γ, z, S.mono x1, by simpa using e, fun w H2 F2 x2 r2 => q w H2 F2 (x1.trans x2) (r2.back x1.hh)⟩
  | true =>
    obtain rfl : R.va (.bl true) = z := by simpa using e
    exact iteT (q _ H1 F1 x1 (.bl true))
/-- not x as a value -/
def eNot (a : Gm → Option R) : Gm → Option R := fun g => (bE a g).map fun k => .va (.bl (!k))
theorem ev_not (ha : EV X ca a m) : EV X ca (.UnaryOp .Not a pos) (eNot m) := by
  refine pe_imp (pe_not ha) ?_
  rintro σ H Q ⟨H0, F0, F, Γ, z, S, e, q⟩
  unfold eNot at e
  cases ed : bE m Γ with
  | none => rw [ed] at e; cases e
  | some d =>
    rw [ed] at e
    cases e
    refine ⟨H0, F0, F, Γ, _, S, bE_some.mp ed, fun v H1 F1 x1 r1 => ?_⟩
    cases r1
    exact ⟨d, rfl, q _ H1 F1 x1 (.bl _)⟩
end
/-! ### statements -/
def sNil : Gm → Option Out := fun g => some (.nx g)
def sCons (m n : Gm → Option Out) : Gm → Option Out := fun g => (m g).bind fun o => match o with
  | .nx g' => n g'
  | .rt r => some (.rt r)
  | .bk g' => some (.bk g')
  | .ct g' => some (.ct g')
  | .ex x => some (.ex x)
def retR : R → R
  | .bw _ ds => .tm ds
  | r => r
def sRet (m : Gm → Option R) : Gm → Option Out := fun g => (m g).map fun r => .rt (retR r)
def sRetN : Gm → Option Out := fun _ => some (.rt (.va .non))
def setR (g : Gm) (i : Nat) : R → Option Gm
  | .va d => some (g.set i (.va d))
  | .tm ds => some (g.set i (.ow ds))
  | .bw _ _ => none
def sSet (i : Nat) (m : Gm → Option R) : Gm → Option Out := fun g => (m g).bind fun r => (setR g i r).map .nx
def sIf (c : Gm → Option Bool) (t u : Gm → Option Out) : Gm → Option Out := fun g => (c g).bind fun k => if k = true then t g else u g
def sExp (m : Gm → Option R) : Gm → Option Out := fun g => (m g).map fun _ => .nx g
def sBk : Gm → Option Out := fun g => some (.bk g)
def sCt : Gm → Option Out := fun g => some (.ct g)
def sNv : Gm → Option Out := fun _ => none
/-- a while of at most so many turns -/
def sWh (c : Gm → Option Bool) (b : Gm → Option Out) : Nat → Gm → Option Out
  | 0, _ => none
  | n + 1, g => (c g).bind fun k => if k = true then (b g).bind fun o => match o with
      | .nx g' => sWh c b n g'
      | .ct g' => sWh c b n g'
      | .bk g' => some (.nx g')
      | .rt r => some (.rt r)
      | .ex x => some (.ex x)
    else some (.nx g)
section
variable {X : Cx} {ca : Nat → Addr} {st : Stmt} {rest : List Stmt} {m n : Gm → Option Out} {me : Gm → Option R} {e : Expr} {T T' : List Nat} {pos : Pos}
theorem Kp.refl {T : List Nat} {σ : L2.St} : Kp T σ σ := fun _ _ => rfl
theorem Kp.trans {T T' U : List Nat} {σ σ' σ'' : L2.St} (a : Kp T σ σ') (b : Kp T' σ' σ'') (h1 : ∀ j ∈ T, j ∈ U) (h2 : ∀ j ∈ T', j ∈ U) : Kp U σ σ'' := fun j hj => by
  rw [b j fun z => hj (h2 j z), a j fun z => hj (h1 j z)]
theorem Kp.mono {T U : List Nat} {σ σ' : L2.St} (a : Kp T σ σ') (h1 : ∀ j ∈ T, j ∈ U) : Kp U σ σ' := fun j hj => a j fun z => hj (h1 j z)
theorem KpG.mono {T U : List Nat} {g : Gm} {o : Out} (h1 : ∀ j ∈ T, j ∈ U) (a : KpG T g o) : KpG U g o := by
  cases o with
  | nx g' => exact fun j hj => a j fun z => hj (h1 j z)
  | rt r => trivial
  | bk g' => exact fun j hj => a j fun z => hj (h1 j z)
  | ct g' => exact fun j hj => a j fun z => hj (h1 j z)
  | ex x => trivial
theorem KpG.after {T T' U : List Nat} {g g' : Gm} {o : Out} (a : KpG T g (.nx g')) (b : KpG T' g' o) (h1 : ∀ j ∈ T, j ∈ U) (h2 : ∀ j ∈ T', j ∈ U) : KpG U g o := by
  have a : ∀ j, j ∉ T → g'[j]? = g[j]? := a
  cases o with
  | nx g2 => exact fun j hj => ((b : ∀ j, j ∉ T' → g2[j]? = g'[j]?) j fun z => hj (h2 j z)).trans (a j fun z => hj (h1 j z))
  | rt r => trivial
  | bk g2 => exact fun j hj => ((b : ∀ j, j ∉ T' → g2[j]? = g'[j]?) j fun z => hj (h2 j z)).trans (a j fun z => hj (h1 j z))
  | ct g2 => exact fun j hj => ((b : ∀ j, j ∉ T' → g2[j]? = g'[j]?) j fun z => hj (h2 j z)).trans (a j fun z => hj (h1 j z))
  | ex x => trivial
theorem PostO.mono {K : PySem.W.Frag} {D : Ends} {H0 F0 Fs F1 : Hp} {σ σ1 : L2.St} {T T' U : List Nat} {o : Out} (s : Same Fs F1) (k : Kp T σ σ1) (h1 : ∀ j ∈ T, j ∈ U) (h2 : ∀ j ∈ T', j ∈ U) (p : PostO K ca D H0 F0 Fs σ U o) : PostO K ca D H0 F0 F1 σ1 T' o := by
  cases o with
  | nx g => exact fun σ2 H2 F2 S2 s2 k2 => p σ2 H2 F2 S2 (s.trans s2) (k.trans k2 h1 h2)
  | rt r => exact p
  | bk g => exact fun σ2 H2 F2 S2 s2 k2 => p σ2 H2 F2 S2 (s.trans s2) (k.trans k2 h1 h2)
  | ct g => exact fun σ2 H2 F2 S2 s2 k2 => p σ2 H2 F2 S2 (s.trans s2) (k.trans k2 h1 h2)
  | ex x => exact p
theorem svs_nil : SVs X ca [] sNil [] := by
  refine ⟨pss_imp pss_nil ?_, fun g o e => ?_⟩
  · rintro D σ H ⟨H0, F0, F, Γ, o, S, e, p⟩
    cases e
    exact p σ H F S (Same.refl _) .refl
  · cases e
    exact fun j _ => rfl
theorem svs_cons (h1 : SV X ca st m T) (h2 : SVs X ca rest n T') : SVs X ca (st :: rest) (sCons m n) (T ++ T') := by
  have i1 : ∀ j ∈ T, j ∈ T ++ T' := fun j h => List.mem_append_left _ h
  have i2 : ∀ j ∈ T', j ∈ T ++ T' := fun j h => List.mem_append_right _ h
  refine ⟨pss_imp (pss_cons h1.ps h2.ps) ?_, fun g o e => ?_⟩
  · rintro D σ H ⟨H0, F0, F, Γ, o, S, e, p⟩
    unfold sCons at e
    obtain ⟨o1, e1, e⟩ := Option.bind_eq_some_iff.mp e
    refine ⟨H0, F0, F, Γ, o1, S, e1, ?_⟩
    cases o1 with
    | nx g1 =>
      intro σ1 H1 F1 S1 s1 k1
      exact ⟨H0, F0, F1, g1, o, S1, e, PostO.mono s1 k1 i1 i2 p⟩
    | rt r => cases e; exact p
    | bk g2 => cases e; exact fun σ2 H2 F2 S2 s2 k2 => p σ2 H2 F2 S2 s2 (k2.mono i1)
    | ct g2 => cases e; exact fun σ2 H2 F2 S2 s2 k2 => p σ2 H2 F2 S2 s2 (k2.mono i1)
    | ex x => cases e; exact p
  · unfold sCons at e
    obtain ⟨o1, e1, e⟩ := Option.bind_eq_some_iff.mp e
    have k1 := h1.kp g o1 e1
    cases o1 with
    | nx g1 => exact k1.after (h2.kp g1 o e) i1 i2
    | rt r => cases e; trivial
    | bk g1 => cases e; exact k1.mono i1
    | ct g1 => cases e; exact k1.mono i1
    | ex x => cases e; trivial
theorem ret_rv {K : PySem.W.Frag} {H0 F0 F H F' H' : Hp} {σ : L2.St} {Γ : Gm} {v : V} {r : R} (S : SR K ca H0 F0 σ H F Γ) (x : Ext ca H F H' F') (h : RV K ca (BB σ Γ) H F' H' v r) : RV K ca (fun _ _ _ => False) H0 F' H' v (retR r) := by
  cases r with
  | va d => exact h
  | tm ds =>
    obtain ⟨a, vs, rfl, h1, h2⟩ := h
    exact ⟨a, vs, rfl, S.ext.hh.free h1, h2⟩
  | bw j ds =>
    obtain ⟨a, vs, rfl, ⟨s, g⟩, h2, h3, h4⟩ := h
    obtain ⟨b, ws, s', g1, _⟩ := S.ow j ds g
    rw [s] at s'
    cases s'
    exact ⟨a, vs, rfl, g1, h2, h3, h4⟩
theorem sv_ret (he : EV X ca e me) : SV X ca (.Return (some e) pos) (sRet me) [] := by
  refine ⟨ps_imp (ps_ret he) ?_, fun g o e => ?_⟩
  · rintro D σ H ⟨H0, F0, F, Γ, o, S, e, p⟩
    unfold sRet at e
    cases z : me Γ with
    | none => rw [z] at e; cases e
    | some r =>
      rw [z] at e
      cases e
      exact ⟨H0, F0, F, Γ, r, S, z, fun v H' F' x h => p v H' F' (S.ext.trans x) (ret_rv S x h)⟩
  · unfold sRet at e
    cases z : me g with
    | none => rw [z] at e; cases e
    | some r => rw [z] at e; cases e; trivial
theorem sv_retN : SV X ca (.Return none pos) sRetN [] := by
  refine ⟨ps_imp ps_retN ?_, fun g o e => ?_⟩
  · rintro D σ H ⟨H0, F0, F, Γ, o, S, e, p⟩
    cases e
    exact p .non H F S.ext .non
  · cases e; trivial
theorem kpg_set {i : Nat} {g : Gm} {s : Slot} : KpG [i] g (.nx (g.set i s)) := fun j hj => by
  rw [List.getElem?_set_ne]
  intro z
  exact hj (by simp [z])
theorem kp_set {i : Nat} {σ : L2.St} {v : Option V} : Kp [i] σ (σ.set i v) := fun j hj => by
  rw [List.getElem?_set_ne]
  intro z
  exact hj (by simp [z])
theorem setR_kp {i : Nat} {g g' : Gm} {r : R} (h : setR g i r = some g') : KpG [i] g (.nx g') := by
  cases r with
  | va d => cases h; exact kpg_set
  | tm ds => cases h; exact kpg_set
  | bw j ds => cases h
theorem SR.setR {K : PySem.W.Frag} {H0 F0 F H F' H' : Hp} {σ : L2.St} {Γ Γ' : Gm} {v : V} {r : R} {i : Nat} {B : BT} (S : SR K ca H0 F0 σ H F Γ) (x : Ext ca H F H' F') (h : RV K ca B H F' H' v r) (e : setR Γ i r = some Γ') : SR K ca H0 F0 (σ.set i (some v)) H' F' Γ' := by
  cases r with
  | va d => cases e; exact (S.mono x).setVa h
  | tm ds => cases e; exact S.setTm x h
  | bw j ds => cases e
theorem sv_set {i : Nat} {x : Str} {pos' : Pos} (hN : X.N.Nodup) (hi : X.N[i]? = some x) (hx : Loc X.env.scope x) (he : EV X ca e me) (hs : swapsWith e (some (.Name x pos')) pos.line X.env = pure false := by rfl) (hf : X.fn x = true ∨ X.env.scope.names.lookup x = some .local := by first | exact .inl rfl | exact .inr rfl | assumption) :
    SV X ca (.Assign [.Name x pos'] e pos) (sSet i me) [i] := by
  refine ⟨ps_imp (ps_set hN hi hx he hs hf) ?_, fun g o e => ?_⟩
  · rintro D σ H ⟨H0, F0, F, Γ, o, S, e, p⟩
    unfold sSet at e
    obtain ⟨r, er, e⟩ := Option.bind_eq_some_iff.mp e
    cases z : setR Γ i r with
    | none => rw [z] at e; cases e
    | some g' =>
      rw [z] at e
      cases e
      exact ⟨H0, F0, F, Γ, r, S, er, fun v H' F' x h => p _ H' F' (S.setR x h z) x.ff kp_set⟩
  · unfold sSet at e
    obtain ⟨r, er, e⟩ := Option.bind_eq_some_iff.mp e
    cases z : setR g i r with
    | none => rw [z] at e; cases e
    | some g' => rw [z] at e; cases e; exact setR_kp z
theorem sv_if {c : Expr} {a b : List Stmt} {mc : Gm → Option Bool} (hc : TV X ca c mc) (ha : SVs X ca a m T) (hb : SVs X ca b n T') : SV X ca (.If c a b pos) (sIf mc m n) (T ++ T') := by
  have i1 : ∀ j ∈ T, j ∈ T ++ T' := fun j h => List.mem_append_left _ h
  have i2 : ∀ j ∈ T', j ∈ T ++ T' := fun j h => List.mem_append_right _ h
  refine ⟨ps_imp (ps_if hc ha.ps hb.ps) ?_, fun g o e => ?_⟩
  · rintro D σ H ⟨H0, F0, F, Γ, o, S, e, p⟩
    unfold sIf at e
    obtain ⟨k, ek, e⟩ := Option.bind_eq_some_iff.mp e
    refine ⟨H0, F0, F, Γ, k, S, ek, fun H1 F1 x1 => ?_⟩
    cases k with
    | true => exact iteT ⟨H0, F0, F1, Γ, o, S.mono x1, by simpa using e, PostO.mono (T := []) x1.ff .refl (fun _ z => nomatch z) i1 p⟩
    | false => exact iteF ⟨H0, F0, F1, Γ, o, S.mono x1, by simpa using e, PostO.mono (T := []) x1.ff .refl (fun _ z => nomatch z) i2 p⟩
  · unfold sIf at e
    obtain ⟨k, ek, e⟩ := Option.bind_eq_some_iff.mp e
    split at e
    · exact (ha.kp g o e).mono i1
    · exact (hb.kp g o e).mono i2
theorem sv_expr (he : EV X ca e me) (hs : swapsWith e none pos.line X.env = pure false := by rfl) : SV X ca (.Expr e pos) (sExp me) [] := by
  refine ⟨ps_imp (ps_expr he hs) ?_, fun g o e => ?_⟩
  · rintro D σ H ⟨H0, F0, F, Γ, o, S, e, p⟩
    unfold sExp at e
    cases z : me Γ with
    | none => rw [z] at e; cases e
    | some r =>
      rw [z] at e
      cases e
      exact ⟨H0, F0, F, Γ, r, S, z, fun v H' F' x h => p σ H' F' (S.mono x) x.ff .refl⟩
  · unfold sExp at e
    cases z : me g with
    | none => rw [z] at e; cases e
    | some r => rw [z] at e; cases e; exact fun j _ => rfl
theorem sv_pass : SV X ca (.Pass pos) sNil [] := by
  refine ⟨ps_imp ps_pass ?_, fun g o e => ?_⟩
  · rintro D σ H ⟨H0, F0, F, Γ, o, S, e, p⟩
    cases e
    exact p σ H F S (Same.refl _) .refl
  · cases e
    exact fun j _ => rfl
theorem sv_break : SV X ca (.Break pos) sBk [] := by
  refine ⟨ps_imp ps_break ?_, fun g o e => ?_⟩
  · rintro D σ H ⟨H0, F0, F, Γ, o, S, e, p⟩
    cases e
    exact p σ H F S (Same.refl _) .refl
  · cases e
    exact fun j _ => rfl
theorem sv_continue : SV X ca (.Continue pos) sCt [] := by
  refine ⟨ps_imp ps_continue ?_, fun g o e => ?_⟩
  · rintro D σ H ⟨H0, F0, F, Γ, o, S, e, p⟩
    cases e
    exact p σ H F S (Same.refl _) .refl
  · cases e
    exact fun j _ => rfl
/-- what is never come to -/
theorem sv_never : SV X ca st sNv [] := by
  refine ⟨ps_imp ps_never ?_, fun g o e => ?_⟩
  · rintro D σ H ⟨H0, F0, F, Γ, o, S, e, p⟩
    cases e
  · cases e
theorem sv_while {c : Expr} {body : List Stmt} {mc : Gm → Option Bool} {N : Nat} (hp : PassesOwn (model X.prog X.w) X.A X.env X.xe) (hc : TV X ca c mc) (hb : SVs X ca body m T) : SV X ca (.While c body [] pos) (sWh mc m N) T := by
  have kp : ∀ n g o, sWh mc m n g = some o → KpG T g o := by
    intro n
    induction n with
    | zero => intro g o e; cases e
    | succ n ih =>
      intro g o e
      unfold sWh at e
      obtain ⟨k, ek, e⟩ := Option.bind_eq_some_iff.mp e
      split at e
      · obtain ⟨o1, e1, e⟩ := Option.bind_eq_some_iff.mp e
        have k1 := hb.kp g o1 e1
        cases o1 with
        | nx g1 => exact KpG.after k1 (ih g1 o e) (fun _ z => z) fun _ z => z
        | ct g1 => exact KpG.after (show KpG T g (.nx g1) from k1) (ih g1 o e) (fun _ z => z) fun _ z => z
        | bk g1 => cases e; exact k1
        | rt r => cases e; trivial
        | ex x => cases e; trivial
      · cases e; exact fun j _ => rfl
  refine ⟨ps_imp (ps_while hp hc hb.ps) ?_, kp N⟩
  rintro D σ H ⟨H0, F0, F, Γ, o, S, e, p⟩
  refine ⟨fun n σ1 H1 => ∃ F1 g, SR X.K ca H0 F0 σ1 H1 F1 g ∧ sWh mc m n g = some o ∧ PostO X.K ca D H0 F0 F1 σ1 T o, ⟨N, F, Γ, S, e, p⟩, ?_⟩
  rintro n σ1 H1 ⟨F1, g, S1, e1, p1⟩
  cases n with
  | zero => cases e1
  | succ n =>
    unfold sWh at e1
    obtain ⟨k, ek, e1⟩ := Option.bind_eq_some_iff.mp e1
    refine ⟨H0, F0, F1, g, k, S1, ek, fun H2 F2 x2 => ?_⟩
    cases k with
    | true =>
      refine iteT ?_
      rw [if_pos rfl] at e1
      obtain ⟨o1, eo, e1⟩ := Option.bind_eq_some_iff.mp e1
      refine ⟨fun σ' H' => ∃ F' g', SR X.K ca H0 F0 σ' H' F' g' ∧ sWh mc m n g' = some o ∧ PostO X.K ca D H0 F0 F' σ' T o, fun σ' H' h => ⟨n, Nat.lt_succ_self n, h⟩, H0, F0, F2, g, o1, S1.mono x2, eo, ?_⟩
      cases o1 with
      | nx g1 => exact fun σ3 H3 F3 S3 s3 k3 => ⟨F3, g1, S3, e1, PostO.mono (x2.ff.trans s3) k3 (fun _ z => z) (fun _ z => z) p1⟩
      | ct g1 => exact fun σ3 H3 F3 S3 s3 k3 => ⟨F3, g1, S3, e1, PostO.mono (x2.ff.trans s3) k3 (fun _ z => z) (fun _ z => z) p1⟩
      | bk g1 => cases e1; exact fun σ3 H3 F3 S3 s3 k3 => p1 σ3 H3 F3 S3 (x2.ff.trans s3) k3
      | rt r => cases e1; exact p1
      | ex x => cases e1; exact p1
    | false =>
      refine iteF ?_
      rw [if_neg Bool.false_ne_true] at e1
      cases e1
      exact p1 σ1 H2 F2 (S1.mono x2) x2.ff .refl
end
end BK
namespace BK
open PySem PySem.Spec L2
set_option autoImplicit false
/-! ### targets, what is walked, for -/
def gN (i : Nat) : D → Gm → Option Gm := fun d g => some (g.set i (.va d))
def gE : List D → Gm → Option Gm := fun ds g => match ds with
  | [] => some g
  | _ => none
def gC (f : D → Gm → Option Gm) (r : List D → Gm → Option Gm) : List D → Gm → Option Gm := fun ds g => match ds with
  | d :: ds => (f d g).bind (r ds)
  | _ => none
def gT (f : List D → Gm → Option Gm) : D → Gm → Option Gm := fun d g => match d with
  | .tup ds => f ds g
  | _ => none
def tGV (K : PySem.W.Frag) (ca : Nat → Addr) (f : D → Gm → Option Gm) (T : List Nat) : TG := fun v σ H Q => ∃ H0 F0 F Γ d Γ', SR K ca H0 F0 σ H F Γ ∧ Den K ca F v d ∧ f d Γ = some Γ' ∧ ∀ σ', SR K ca H0 F0 σ' H F Γ' → Kp T σ σ' → Q σ' H
def tGVs (K : PySem.W.Frag) (ca : Nat → Addr) (f : List D → Gm → Option Gm) (T : List Nat) : TGs := fun vs σ H Q => ∃ H0 F0 F Γ ds Γ', SR K ca H0 F0 σ H F Γ ∧ Dens K ca F vs ds ∧ f ds Γ = some Γ' ∧ ∀ σ', SR K ca H0 F0 σ' H F Γ' → Kp T σ σ' → Q σ' H
structure GV (X : Cx) (ca : Nat → Addr) (e : Expr) (f : D → Gm → Option Gm) (T : List Nat) : Prop where
  pg : PG X e (tGV X.K ca f T)
  kp : ∀ d g g', f d g = some g' → KpG T g (.nx g')
  ln : ∀ d g g', f d g = some g' → g'.length = g.length
structure GVs (X : Cx) (ca : Nat → Addr) (es : List Expr) (f : List D → Gm → Option Gm) (T : List Nat) : Prop where
  pg : PGs X es (tGVs X.K ca f T)
  kp : ∀ d g g', f d g = some g' → KpG T g (.nx g')
  ln : ∀ d g g', f d g = some g' → g'.length = g.length
section
variable {X : Cx}
theorem pg_imp {e : Expr} {t t' : TG} (h : PG X e t) (i : ∀ v σ H Q, t' v σ H Q → t v σ H Q) : PG X e t' := ⟨fun pins s σ H v u Q I r q => h.run pins s σ H v u Q I r (i v σ H Q q)⟩
theorem pgs_imp {es : List Expr} {t t' : TGs} (h : PGs X es t) (i : ∀ v σ H Q, t' v σ H Q → t v σ H Q) : PGs X es t' := ⟨fun pins s σ H v u Q I r q => h.run pins s σ H v u Q I r (i v σ H Q q)⟩
theorem pi_imp {tg e : Expr} {t t' : TI} (h : PI X tg e t) (i : ∀ σ H R, t' σ H R → t σ H R) : PI X tg e t' := ⟨fun pins s σ H R I q => h.run pins s σ H R I (i σ H R q)⟩
variable {ca : Nat → Addr} {pos : Pos}
theorem gv_name {i : Nat} {x : Str} (hN : X.N.Nodup) (hi : X.N[i]? = some x) (hx : Loc X.env.scope x) (hf : X.fn x = true ∨ X.env.scope.names.lookup x = some .local := by first | exact .inl rfl | exact .inr rfl | assumption) : GV X ca (.Name x pos) (gN i) [i] := by
  refine ⟨pg_imp (pg_name hN hi hx hf) ?_, fun d g g' e => ?_, fun d g g' e => by cases e; exact List.length_set⟩
  · rintro v σ H Q ⟨H0, F0, F, Γ, d, Γ', S, h, e, q⟩
    cases e
    exact q _ (S.setVa h) kp_set
  · cases e
    exact kpg_set
theorem gvs_nil : GVs X ca [] gE [] := by
  refine ⟨pgs_imp pgs_nil ?_, fun d g g' e => ?_, fun d g g' e => ?_⟩
  rotate_left 2
  · cases d with
    | nil => cases e; rfl
    | cons d ds => cases e
  · rintro vs σ H Q ⟨H0, F0, F, Γ, ds, Γ', S, h, e, q⟩
    cases ds with
    | nil => cases h; cases e; exact ⟨rfl, q σ S .refl⟩
    | cons d ds => cases e
  · cases d with
    | nil => cases e; exact fun j _ => rfl
    | cons d ds => cases e
theorem gvs_cons {e : Expr} {es : List Expr} {f : D → Gm → Option Gm} {r : List D → Gm → Option Gm} {T T' : List Nat} (h1 : GV X ca e f T) (h2 : GVs X ca es r T')
    (hs : (assignEach (e :: es) X.env).map (·.2) = assign e X.env :: (assignEach es X.env).map (·.2) := by rfl) : GVs X ca (e :: es) (gC f r) (T ++ T') := by
  have i1 : ∀ j ∈ T, j ∈ T ++ T' := fun j h => List.mem_append_left _ h
  have i2 : ∀ j ∈ T', j ∈ T ++ T' := fun j h => List.mem_append_right _ h
  refine ⟨pgs_imp (pgs_cons h1.pg h2.pg hs) ?_, fun d g g' e => ?_, fun d g g' e => ?_⟩
  rotate_left 2
  · cases d with
    | nil => cases e
    | cons d ds =>
      have e : (f d g).bind (r ds) = some g' := e
      obtain ⟨g1, e1, e2⟩ := Option.bind_eq_some_iff.mp e
      rw [h2.ln _ _ _ e2, h1.ln _ _ _ e1]
  · rintro vs σ H Q ⟨H0, F0, F, Γ, ds, Γ', S, h, e, q⟩
    cases ds with
    | nil => cases e
    | cons d ds =>
      cases h with
      | cons h hs =>
        have e : (f d Γ).bind (r ds) = some Γ' := e
        obtain ⟨g1, e1, e2⟩ := Option.bind_eq_some_iff.mp e
        exact ⟨_, _, rfl, H0, F0, F, Γ, d, g1, S, h, e1, fun σ1 S1 k1 => ⟨H0, F0, F, g1, ds, Γ', S1, hs, e2, fun σ2 S2 k2 => q σ2 S2 (k1.trans k2 i1 i2)⟩⟩
  · cases d with
    | nil => cases e
    | cons d ds =>
      have e : (f d g).bind (r ds) = some g' := e
      obtain ⟨g1, e1, e2⟩ := Option.bind_eq_some_iff.mp e
      exact KpG.after (h1.kp _ _ _ e1) (h2.kp _ _ _ e2) i1 i2
theorem gv_tup {es : List Expr} {k : Nat} {f : List D → Gm → Option Gm} {T : List Nat} (hc : X.calm = true) (h : GVs X ca es f T) (hl : ∀ ds g g', f ds g = some g' → ds.length = (assignEach es X.env).length)
    (hst : (assignEach es X.env).findIdx? (·.1) = none := by rfl) : GV X ca (.Tuple es k pos) (gT f) T := by
  refine ⟨pg_imp (pg_tup (n := (assignEach es X.env).length) hc h.pg rfl hst) ?_, fun d g g' e => ?_, fun d g g' e => ?_⟩
  rotate_left 2
  · unfold gT at e
    split at e
    · exact h.ln _ _ _ e
    · cases e
  · rintro v σ H Q ⟨H0, F0, F, Γ, d, Γ', S, h, e, q⟩
    unfold gT at e
    split at e
    · cases h with
      | tup h hs =>
        refine ⟨_, _, rfl, Same.seqT S.ext.fh h, ?_, H0, F0, F, Γ, _, Γ', S, hs, e, q⟩
        rw [hs.length]
        exact hl _ _ _ e
    · cases e
  · unfold gT at e
    split at e
    · exact h.kp _ _ _ e
    · cases e
/-- target = value, the target a tuple of names -/
def sAsg (m : Gm → Option R) (f : D → Gm → Option Gm) : Gm → Option Out := fun g => (m g).bind fun r => match r with
  | .va d => (f d g).map .nx
  | _ => none
theorem sv_asg {tg e : Expr} {m : Gm → Option R} {f : D → Gm → Option Gm} {T : List Nat} (he : EV X ca e m) (hg : GV X ca tg f T) (hs : swapsWithSole [tg] e pos.line X.env = pure false := by rfl) (hw : swappedStores [tg] e X.env = pure none := by rfl)
    (h1 : (assignEach [tg] X.env).map (·.2) = [assign tg X.env] := by rfl) : SV X ca (.Assign [tg] e pos) (sAsg m f) T := by
  refine ⟨ps_imp (ps_asg he hg.pg hs hw h1) ?_, fun g o e => ?_⟩
  · rintro D σ H ⟨H0, F0, F, Γ, o, S, e, p⟩
    unfold sAsg at e
    obtain ⟨r, er, e⟩ := Option.bind_eq_some_iff.mp e
    cases r with
    | va d =>
      obtain ⟨g', z, e⟩ := Option.map_eq_some_iff.mp (show (f d Γ).map Out.nx = some o from e)
      subst e
      exact ⟨H0, F0, F, Γ, _, S, er, fun v H' F' x h => ⟨H0, F0, F', Γ, d, g', S.mono x, h, z, fun σ' S' k' => p σ' H' F' S' x.ff k'⟩⟩
    | tm ds => cases e
    | bw j ds => cases e
  · unfold sAsg at e
    obtain ⟨r, er, e⟩ := Option.bind_eq_some_iff.mp e
    cases r with
    | va d =>
      obtain ⟨g', z, e⟩ := Option.map_eq_some_iff.mp (show (f d g).map Out.nx = some o from e)
      subst e
      exact hg.kp _ _ _ z
    | tm ds => cases e
    | bw j ds => cases e
/-- a, b = x, y with plain names: both are values -/
def sPar (i j : Nat) (a b : Gm → Option R) : Gm → Option Out := fun g => (a g).bind fun x => (b g).bind fun y => match x.fz, y.fz with
  | .va d, .va e => some (.nx ((g.set i (.va d)).set j (.va e)))
  | _, _ => none
theorem sv_par {i j : Nat} {x y : Str} {a b : Expr} {ma mb : Gm → Option R} {px py pt : Pos} {kt k2 pt2} (hc : X.calm = true) (hN : X.N.Nodup) (hi : X.N[i]? = some x) (hj : X.N[j]? = some y) (hij : i ≠ j)
    (hx : X.env.scope.names.lookup x = some .local) (hy : X.env.scope.names.lookup y = some .local) (ha : AV X ca [a, b] (aC ma (aC mb aN)))
    (hw : swappedStores [.Tuple [.Name x px, .Name y py] kt pt] (.Tuple [a, b] k2 pt2) X.env = pure (some [x, y]))
    (hs : swapsWithSole [.Tuple [.Name x px, .Name y py] kt pt] (.Tuple [a, b] k2 pt2) pos.line X.env = pure false := by rfl) :
    SV X ca (.Assign [.Tuple [.Name x px, .Name y py] kt pt] (.Tuple [a, b] k2 pt2) pos) (sPar i j ma mb) [i, j] := by
  refine ⟨ps_imp (ps_par hc hN hi hj hij hx hy ha hw hs) ?_, fun g o e => ?_⟩
  · rintro D σ H ⟨H0, F0, F, Γ, o, S, e, p⟩
    unfold sPar at e
    obtain ⟨u, eu, e⟩ := Option.bind_eq_some_iff.mp e
    obtain ⟨w, ew, e⟩ := Option.bind_eq_some_iff.mp e
    refine ⟨H0, F0, F, Γ, [u.fz, w.fz], S, by simp [aC, aN, eu, ew], fun vs H' F' x h => ?_⟩
    cases h with
    | cons h1 h =>
      cases h with
      | cons h2 h =>
        cases h
        refine ⟨_, _, rfl, ?_⟩
        split at e
        · rename_i q1 q2
          rw [q1] at h1
          rw [q2] at h2
          cases e
          exact p _ H' F' (((S.mono x).setVa h1).setVa h2) x.ff (Kp.trans kp_set kp_set (by simp) (by simp))
        · cases e
  · unfold sPar at e
    obtain ⟨u, eu, e⟩ := Option.bind_eq_some_iff.mp e
    obtain ⟨w, ew, e⟩ := Option.bind_eq_some_iff.mp e
    split at e
    · cases e
      exact KpG.after (g' := g.set i _) kpg_set kpg_set (by simp) (by simp)
    · cases e
/-- name op= e (op by values) -/
def sAug (i : Nat) (f : R → R → Option R) (m : Gm → Option R) : Gm → Option Out := fun g => (eV i g).bind fun x => (m g).bind fun y => (f x y).bind fun r => (setR g i r).map .nx
theorem sv_aug {i : Nat} {x : Str} {e : Expr} {m : Gm → Option R} {op : Operator} {ti : TIp} {f : R → R → Option R} {pos' : Pos} (hN : X.N.Nodup) (hi : X.N[i]? = some x) (hx : Loc X.env.scope x) (he : EV X ca e m) (ho : PIp X op ti) (o : OpD X.K ca ti f)
    (hf : X.fn x = true ∨ X.env.scope.names.lookup x = some .local := by first | exact .inl rfl | exact .inr rfl | assumption) : SV X ca (.AugAssign (.Name x pos') op e pos) (sAug i f m) [i] := by
  refine ⟨ps_imp (ps_aug hN hi hx he ho hf) ?_, fun g o e => ?_⟩
  · rintro D σ H ⟨H0, F0, F, Γ, oo, S, e, p⟩
    unfold sAug at e
    obtain ⟨u, eu, e⟩ := Option.bind_eq_some_iff.mp e
    obtain ⟨w, ew, e⟩ := Option.bind_eq_some_iff.mp e
    obtain ⟨r, er, e⟩ := Option.bind_eq_some_iff.mp e
    cases z : setR Γ i r with
    | none => rw [z] at e; cases e
    | some g' =>
      rw [z] at e
      cases e
      unfold eV at eu
      have key : ∃ v, σ[i]? = some (some v) ∧ RV X.K ca (BB σ Γ) H F H v u := by
        split at eu
        · rename_i d g
          cases eu
          obtain ⟨v, s, h1⟩ := S.va i d g
          exact ⟨v, s, h1⟩
        · rename_i ds g
          cases eu
          obtain ⟨a, vs, s, h1, h2, h3, h4⟩ := S.ow i ds g
          exact ⟨_, s, a, vs, rfl, ⟨s, g⟩, h2, h3, h4⟩
        · cases eu
      obtain ⟨v, s, hv⟩ := key
      refine ⟨v, s, H0, F0, F, Γ, w, S, ew, fun y H' F' x h => ?_⟩
      exact o x.fh (hv.mono x) h er fun u2 H2 F2 x2 r2 => p _ H2 F2 (S.setR (x.trans x2) (r2.back x.hh) z) (x.ff.trans x2.ff) kp_set
  · unfold sAug at e
    obtain ⟨u, eu, e⟩ := Option.bind_eq_some_iff.mp e
    obtain ⟨w, ew, e⟩ := Option.bind_eq_some_iff.mp e
    obtain ⟨r, er, e⟩ := Option.bind_eq_some_iff.mp e
    cases z : setR g i r with
    | none => rw [z] at e; cases e
    | some g' => rw [z] at e; cases e; exact setR_kp z
/-! ### what a for walks -/
/-- J yields the data ds, one a turn, as long as the frozen part F1 stands and the own lists in PL stand as they are -/
structure JOk (K : PySem.W.Frag) (ca : Nat → Addr) (F1 : Hp) (J : It) (PL : List (Nat × Addr × List D)) (ds : List D) : Prop where
  go : ∀ (i : Nat) (d : D) (H F : Hp), ds[i]? = some d → Same F1 F → Same F H → (∀ p ∈ PL, ∃ vs, H p.2.1 = some (.lst vs) ∧ Dens K ca F vs p.2.2) → J.go i H ∧ ∀ x H', J.yld i H x H' → ∃ F', Ext ca H F H' F' ∧ Den K ca F' x d
  stop : ∀ (H F : Hp), Same F1 F → Same F H → (∀ p ∈ PL, ∃ vs, H p.2.1 = some (.lst vs) ∧ Dens K ca F vs p.2.2) → J.stop ds.length H
def tIV (K : PySem.W.Frag) (ca : Nat → Addr) (mi : Gm → Option (List Nat × List D)) : TI := fun σ H R => ∃ H0 F0 F Γ p, SR K ca H0 F0 σ H F Γ ∧ mi Γ = some p ∧
  ∀ J H' F' PL, Ext ca H F H' F' → JOk K ca F' J PL p.2 → (∀ q ∈ PL, q.1 ∈ p.1 ∧ BB σ Γ q.1 q.2.1 q.2.2) → R J H'
abbrev IV (X : Cx) (ca : Nat → Addr) (tg e : Expr) (mi : Gm → Option (List Nat × List D)) : Prop := PI X tg e (tIV X.K ca mi)
def forL (f : D → Gm → Option Gm) (b : Gm → Option Out) : List D → Gm → Option Out
  | [], g => some (.nx g)
  | d :: ds, g => (f d g).bind fun g1 => (b g1).bind fun o => match o with
    | .nx g2 => forL f b ds g2
    | .ct g2 => forL f b ds g2
    | .bk g2 => some (.nx g2)
    | .rt r => some (.rt r)
    | .ex x => some (.ex x)
def sFor (mi : Gm → Option (List Nat × List D)) (f : D → Gm → Option Gm) (b : Gm → Option Out) (T : List Nat) : Gm → Option Out := fun g => (mi g).bind fun p => if p.1.all (fun j => !T.contains j) = true then forL f b p.2 g else none
theorem forL_kp {f : D → Gm → Option Gm} {b : Gm → Option Out} {T T' : List Nat} (hf : ∀ d g g', f d g = some g' → KpG T g (.nx g')) (hb : ∀ g o, b g = some o → KpG T' g o) : ∀ (ds : List D) (g : Gm) (o : Out), forL f b ds g = some o → KpG (T ++ T') g o
  | [], g, o, e => by
    cases e
    exact fun j _ => rfl
  | d :: ds, g, o, e => by
    have i1 : ∀ j ∈ T, j ∈ T ++ T' := fun j h => List.mem_append_left _ h
    have i2 : ∀ j ∈ T', j ∈ T ++ T' := fun j h => List.mem_append_right _ h
    unfold forL at e
    obtain ⟨g1, e1, e⟩ := Option.bind_eq_some_iff.mp e
    obtain ⟨o1, e2, e⟩ := Option.bind_eq_some_iff.mp e
    have k := KpG.after (hf _ _ _ e1) (hb _ _ e2) i1 i2
    cases o1 with
    | nx g2 => exact KpG.after k (forL_kp hf hb ds g2 o e) (fun _ z => z) fun _ z => z
    | ct g2 => exact KpG.after (show KpG (T ++ T') g (.nx g2) from k) (forL_kp hf hb ds g2 o e) (fun _ z => z) fun _ z => z
    | bk g2 => cases e; exact k
    | rt r => cases e; trivial
    | ex x => cases e; trivial
theorem sv_for {tg iter : Expr} {body : List Stmt} {mi : Gm → Option (List Nat × List D)} {f : D → Gm → Option Gm} {b : Gm → Option Out} {T T' U : List Nat} (hp : PassesOwn (model X.prog X.w) X.A X.env X.xe) (hc : X.calm = true) (hi : IV X ca tg iter mi) (hg : GV X ca tg f T) (hb : SVs X ca body b T')
    (hU : U = T ++ T') (hs : ∀ x, foldedSetIterable iter X.env x = pure x := by intro _; rfl) : SV X ca (.For tg iter body [] pos) (sFor mi f b U) U := by
  subst hU
  have i1 : ∀ j ∈ T, j ∈ T ++ T' := fun j h => List.mem_append_left _ h
  have i2 : ∀ j ∈ T', j ∈ T ++ T' := fun j h => List.mem_append_right _ h
  refine ⟨ps_imp (ps_for hp hc hi hg.pg hb.ps hs) ?_, fun g o e => ?_⟩
  · rintro D σ H ⟨H0, F0, F, Γ, o, S, e, p⟩
    unfold sFor at e
    obtain ⟨⟨ps, ds⟩, em, e⟩ := Option.bind_eq_some_iff.mp e
    by_cases hall : (ps.all fun j => !(T ++ T').contains j) = true
    · rw [if_pos hall] at e
      refine ⟨H0, F0, F, Γ, (ps, ds), S, em, fun J H1 F1 PL x1 jo hPL => ?_⟩
      have hj : ∀ q ∈ PL, q.1 ∉ T ++ T' := fun q hq hm => by
        have := List.all_eq_true.mp hall q.1 (hPL q hq).1
        simp at this
        rcases List.mem_append.mp hm with z | z
        · exact this.1 z
        · exact this.2 z
      refine ⟨fun i m σ' H' => ∃ F' g, m = ds.length - i ∧ SR X.K ca H0 F0 σ' H' F' g ∧ Same F1 F' ∧ forL f b (ds.drop i) g = some o ∧ PostO X.K ca D H0 F0 F' σ' (T ++ T') o ∧ i ≤ ds.length ∧ (∀ q ∈ PL, BB σ' g q.1 q.2.1 q.2.2),
        ⟨_, F1, Γ, rfl, S.mono x1, Same.refl _, e, PostO.mono (T := []) x1.ff .refl (fun _ z => nomatch z) (fun _ z => z) p, Nat.zero_le _, fun q hq => (hPL q hq).2⟩, ?_⟩
      rintro i m σ2 H2 ⟨F2, g, rfl, S2, s2, e2, p2, hi2, hb2⟩
      have hpin : ∀ q ∈ PL, ∃ vs, H2 q.2.1 = some (.lst vs) ∧ Dens X.K ca F2 vs q.2.2 := fun q hq => by
        obtain ⟨z1, z2⟩ := hb2 q hq
        obtain ⟨a, vs, y1, _, _, y4, y5⟩ := S2.ow _ _ z2
        rw [z1] at y1
        cases y1
        exact ⟨vs, y4, y5⟩
      by_cases hlt : i < ds.length
      · have hd : ds[i]? = some ds[i] := List.getElem?_eq_getElem hlt
        have ed : ds.drop i = ds[i] :: ds.drop (i + 1) := List.drop_eq_getElem_cons hlt
        rw [ed] at e2
        unfold forL at e2
        obtain ⟨g1, eg, e2⟩ := Option.bind_eq_some_iff.mp e2
        obtain ⟨o1, eo, e2⟩ := Option.bind_eq_some_iff.mp e2
        obtain ⟨jgo, jy⟩ := jo.go i _ H2 F2 hd s2 S2.ext.fh hpin
        refine .inr ⟨jgo, fun σ' H' => ∃ F' g, SR X.K ca H0 F0 σ' H' F' g ∧ Same F1 F' ∧ forL f b (ds.drop (i + 1)) g = some o ∧ PostO X.K ca D H0 F0 F' σ' (T ++ T') o ∧ (∀ q ∈ PL, BB σ' g q.1 q.2.1 q.2.2), fun σ' H' ⟨F', g', w1, w2, w3, w4, w5⟩ => ⟨ds.length - (i + 1), by omega, F', g', rfl, w1, w2, w3, w4, hlt, w5⟩, fun x H3 y => ?_⟩
        obtain ⟨F3, x3, d3⟩ := jy x H3 y
        refine ⟨H0, F0, F3, g, _, g1, S2.mono x3, d3, eg, fun σ4 S4 k4 => ⟨H0, F0, F3, g1, o1, S4, eo, ?_⟩⟩
        have kg1 : KpG (T ++ T') g (.nx g1) := (hg.kp _ _ _ eg).mono i1
        have kg := hb.kp _ _ eo
        have step : ∀ (g5 : Gm) (σ5 : L2.St) (H5 F5 : Hp), KpG T' g1 (.nx g5) → SR X.K ca H0 F0 σ5 H5 F5 g5 → Same F3 F5 → Kp T' σ4 σ5 → forL f b (ds.drop (i + 1)) g5 = some o →
            ∃ F' g, SR X.K ca H0 F0 σ5 H5 F' g ∧ Same F1 F' ∧ forL f b (ds.drop (i + 1)) g = some o ∧ PostO X.K ca D H0 F0 F' σ5 (T ++ T') o ∧ (∀ q ∈ PL, BB σ5 g q.1 q.2.1 q.2.2) := fun g5 σ5 H5 F5 kg S5 s5 k5 e5 => by
          have kk : Kp (T ++ T') σ2 σ5 := k4.trans k5 i1 i2
          have kkg : KpG (T ++ T') g (.nx g5) := KpG.after kg1 kg (fun _ z => z) i2
          have sf : Same F2 F5 := x3.ff.trans s5
          refine ⟨F5, g5, S5, s2.trans sf, e5, PostO.mono sf kk (fun _ z => z) (fun _ z => z) p2, fun q hq => ⟨?_, ?_⟩⟩
          · rw [kk _ (hj q hq)]; exact (hb2 q hq).1
          · rw [(kkg : ∀ j, j ∉ T ++ T' → g5[j]? = g[j]?) _ (hj q hq)]; exact (hb2 q hq).2
        cases o1 with
        | nx g5 => exact fun σ5 H5 F5 S5 s5 k5 => step g5 σ5 H5 F5 kg S5 s5 k5 e2
        | ct g5 => exact fun σ5 H5 F5 S5 s5 k5 => step g5 σ5 H5 F5 kg S5 s5 k5 e2
        | bk g5 => cases e2; exact fun σ5 H5 F5 S5 s5 k5 => p2 σ5 H5 F5 S5 (x3.ff.trans s5) (k4.trans k5 i1 i2)
        | rt r => cases e2; exact p2
        | ex x => cases e2; exact p2
      · have ei : i = ds.length := by omega
        subst ei
        rw [List.drop_length] at e2
        cases e2
        exact .inl ⟨jo.stop H2 F2 s2 S2.ext.fh hpin, p2 σ2 H2 F2 S2 (Same.refl _) .refl⟩
    · rw [if_neg hall] at e
      cases e
  · unfold sFor at e
    obtain ⟨⟨ps, ds⟩, em, e⟩ := Option.bind_eq_some_iff.mp e
    split at e
    · exact forL_kp hg.kp hb.kp ds g o e
    · cases e
end
end BK
namespace BK
open PySem PySem.Spec L2
set_option autoImplicit false
/-! ### operators on data -/
def LIM : Nat := 16777216
theorem lim_eq : sizeLine = LIM := sizeLine_eq
/-- equal data, to a depth -/
def eqL (f : D → D → Bool) : List D → List D → Bool
  | [], [] => true
  | x :: xs, y :: ys => f x y && eqL f xs ys
  | _, _ => false
def eqn : Nat → D → D → Bool
  | _, .non, .non => true
  | _, .bl a, .bl b => a == b
  | _, .bl a, .int j => (if a then 1 else 0) == j
  | _, .int i, .bl b => i == (if b then 1 else 0)
  | _, .int i, .int j => i == j
  | _, .str x, .str y => x == y
  | n + 1, .lst xs, .lst ys => eqL (eqn n) xs ys
  | n + 1, .tup xs, .tup ys => eqL (eqn n) xs ys
  | _, _, _ => false
/-- data that == reads, to a depth -/
def okn : Nat → D → Bool
  | _, .non => true
  | _, .bl _ => true
  | _, .int _ => true
  | _, .str x => PyData.strOk x
  | n + 1, .lst xs => xs.all (okn n)
  | n + 1, .tup xs => xs.all (okn n)
  | _, _ => false
mutual
def toPy : D → PyData
  | .non => .none
  | .bl b => .bool b
  | .int i => .int i
  | .str x => .str x
  | .lst xs => .list (toPys xs)
  | .tup xs => .tuple (toPys xs)
  | .ins _ _ => .dict []
  | .rol _ => .dict []
  | .dic _ _ => .dict []
  | .exc _ _ => .dict []
def toPys : List D → List PyData
  | [] => []
  | x :: xs => toPy x :: toPys xs
end
theorem okn_lay : ∀ (n : Nat) (d : D), okn n d = true → (toPy d).canLay0 = true ∧ (toPy d).depth ≤ n := by
  intro n
  induction n with
  | zero =>
    intro d h
    cases d <;> simp_all [okn, toPy, PyData.canLay0, PyData.depth]
  | succ n ih =>
    have all : ∀ xs : List D, xs.all (okn n) = true → PyData.canLayAll0 (toPys xs) = true ∧ PyData.depthAll (toPys xs) ≤ n := by
      intro xs
      induction xs with
      | nil => intro _; simp [toPys, PyData.canLayAll0, PyData.depthAll]
      | cons x xs ihx =>
        intro h
        rw [List.all_cons, Bool.and_eq_true] at h
        obtain ⟨h1, h2⟩ := ih x h.1
        obtain ⟨h3, h4⟩ := ihx h.2
        simp only [toPys, PyData.canLayAll0, PyData.depthAll]
        refine ⟨by rw [h1, h3]; rfl, by omega⟩
    intro d h
    cases d with
    | lst xs =>
      obtain ⟨h1, h2⟩ := all xs h
      simp only [toPy, PyData.canLay0, PyData.depth]
      exact ⟨h1, by omega⟩
    | tup xs =>
      obtain ⟨h1, h2⟩ := all xs h
      simp only [toPy, PyData.canLay0, PyData.depth]
      exact ⟨h1, by omega⟩
    | _ => simp_all [okn, toPy, PyData.canLay0, PyData.depth]
theorem okn_shaped {n : Nat} {d : D} (h : okn n d = true) (hn : n ≤ 64) : SeqAt.shaped (toPy d) = true := by
  obtain ⟨h1, h2⟩ := okn_lay n d h
  unfold SeqAt.shaped
  rw [h1, decide_eq_true (by omega)]
  rfl
theorem eqn_py : ∀ (n : Nat) (d e : D), okn n d = true → okn n e = true → PyData.eqv (toPy d) (toPy e) = eqn n d e := by
  intro n
  induction n with
  | zero =>
    intro d e h1 h2
    cases d <;> cases e <;> simp_all [okn, eqn, toPy, PyData.eqv]
  | succ n ih =>
    have all : ∀ xs ys : List D, xs.all (okn n) = true → ys.all (okn n) = true → PyData.eqvAll (toPys xs) (toPys ys) = eqL (eqn n) xs ys := by
      intro xs
      induction xs with
      | nil =>
        intro ys _ _
        cases ys <;> simp [toPys, eqL, PyData.eqvAll]
      | cons x xs ihx =>
        intro ys h1 h2
        cases ys with
        | nil => simp [toPys, eqL, PyData.eqvAll]
        | cons y ys =>
          rw [List.all_cons, Bool.and_eq_true] at h1 h2
          simp only [toPys, eqL, PyData.eqvAll]
          rw [ih x y h1.1 h2.1, ihx ys h1.2 h2.2]
    intro d e h1 h2
    cases d <;> cases e <;> first
      | (simp only [toPy, PyData.eqv, eqn]; exact all _ _ h1 h2)
      | simp_all [okn, eqn, toPy, PyData.eqv]
section
variable {K : PySem.W.Frag} {ca : Nat → Addr} {F H : Hp}
theorem rd_l {a : Addr} {xs : List V} (h : Rd H a (.lst xs)) : SqL K H a xs := .inl h
mutual
theorem Den.dp (s : Same F H) : ∀ (d : D) {v : V}, (toPy d).canLay0 = true → Den K ca F v d → Dp K H v (toPy d)
  | .non, _, _, h => by cases h; exact .non
  | .bl b, _, _, h => by cases h; exact .bl b
  | .int i, _, _, h => by cases h; exact .int i
  | .str x, _, _, h => by cases h; exact .str x
  | .lst xs, _, e, h => by
    cases h with
    | lst h hs => exact .lst (rd_l (.inl (s _ _ h))) (Dens.dp s xs (by simpa [toPy, PyData.canLay0] using e) hs)
  | .tup xs, _, e, h => by
    cases h with
    | tup h hs => exact .tup (Same.seqT s h) (Dens.dp s xs (by simpa [toPy, PyData.canLay0] using e) hs)
  | .ins c fs, _, e, h => by simp [toPy, PyData.canLay0] at e
  | .rol fs, _, e, h => by simp [toPy, PyData.canLay0] at e
  | .dic ks fs, _, e, h => by simp [toPy, PyData.canLay0] at e
  | .exc c fs, _, e, h => by simp [toPy, PyData.canLay0] at e
theorem Dens.dp (s : Same F H) : ∀ (ds : List D) {vs : List V}, PyData.canLayAll0 (toPys ds) = true → Dens K ca F vs ds → DpAll K H vs (toPys ds)
  | [], _, _, h => by cases h; exact .nil
  | d :: ds, _, e, h => by
    cases h with
    | cons h hs =>
      have e' : (toPy d).canLay0 = true ∧ PyData.canLayAll0 (toPys ds) = true := by simpa [toPys, PyData.canLayAll0] using e
      exact .cons (Den.dp s d e'.1 h) (Dens.dp s ds e'.2 hs)
end
theorem RV.dp {B : BT} {Hs : Hp} {v : V} {r : R} (s : Same F H) (h : RV K ca B Hs F H v r) {n : Nat} (o : okn n r.d = true) : Dp K H v (toPy r.d) := by
  have e := (okn_lay n _ o).1
  cases q : r.d with
  | lst ds =>
    rw [q] at e
    obtain ⟨a, vs, rfl, h1, h2⟩ := RV.lst s h q
    exact .lst (rd_l h1) (Dens.dp s ds (by simpa [toPy, PyData.canLay0] using e) h2)
  | _ => rw [q] at e; exact Den.dp s _ e (RV.den h q rfl)
end
/-! ### numbers -/
def CMulB (i j : Int) : Prop := i.natAbs.log2 + j.natAbs.log2 < 134000000
instance (i j : Int) : Decidable (CMulB i j) := by unfold CMulB; infer_instance
theorem CMulB.ok {i j : Int} (h : CMulB i j) : IntMulOk i j := by
  have b : ∀ x : Int, Builtin.Int.intBits x ≤ x.natAbs.log2 + 1 := fun x => by
    unfold Builtin.Int.intBits
    split <;> omega
  have h1 := b i
  have h2 := b j
  have h3 : i.natAbs.log2 + j.natAbs.log2 < 134000000 := h
  have e : bitsLine = 134217728 := by decide
  unfold IntMulOk
  intro z
  rw [Bool.and_eq_true] at z
  have z2 := z.2
  unfold Builtin.Int.intTooBig at z2
  have z3 := of_decide_eq_true z2
  rw [e] at z3
  omega
def CDivB (i j : Int) : Prop := j ≠ 0 ∧ j.natAbs.log2 < 9000
instance (i j : Int) : Decidable (CDivB i j) := by unfold CDivB; infer_instance
instance (i j : Int) : Decidable (CPow i j) := by unfold CPow; infer_instance
section
variable {X : Cx}
theorem op_mulB : OpR X (binaryOp .Mult) (rI CMulB fun i j => .int (i * j)) := opI fun _ _ _ _ _ _ _ hc q => PyProof.Rows.mul_int q hc.ok
theorem op_fdivB : OpR X (binaryOp .FloorDiv) (rI CDivB fun i j => .int (i.fdiv j)) := opI fun _ _ _ _ _ _ _ hc q => PyProof.Rows.floordiv_int hc.1 q (.inl (PyProof.noPylong_of_log2 hc.2))
/-- list + list, what is read -/
def rCatR : R2 := fun x y H Q => ∃ l b xs zs, x = .ref l ∧ y = .ref b ∧ Rd H l (.lst xs) ∧ Rd H b (.lst zs) ∧ xs.length + zs.length ≤ sizeLine ∧ ∀ p, H p = none → Q (.ref p) (upd H p (.lst (xs ++ zs)))
theorem op_catR : OpR X (binaryOp .Add) rCatR := by
  intro pins s σ H x y v u Q I rx ry h
  obtain ⟨l, b, xs, zs, rfl, rfl, hH, hB, hz, q⟩ := h
  cases rx
  cases ry
  obtain ⟨z, its, n, r, e⟩ := hH.ok I.hok
  obtain ⟨z2, its2, n2, r2, e2⟩ := hB.ok I.hok
  have hl := r.length
  have hl2 := r2.length
  refine PySem.P.add_list e e2 ?_ (by rw [List.size_toArray, List.size_toArray]; omega)
  have ea : its.toArray ++ its2.toArray = (its ++ its2).toArray := by simp
  rw [ea]
  exact ⟨.ref _, _, I.lnew (t' := s.toks) (r.append r2) (by rw [List.length_append]; omega), rfl, q _ I.fresh⟩
end
/-- a result of an operation on numbers -/
def oI (C : Int → Int → Prop) [∀ i j, Decidable (C i j)] (h : Int → Int → D) : R → R → Option R
  | .va (.int i), .va (.int j) => if C i j then some (.va (h i j)) else none
  | _, _ => none
section
variable {K : PySem.W.Frag} {ca : Nat → Addr}
theorem od_I {C : Int → Int → Prop} [∀ i j, Decidable (C i j)] {h : Int → Int → D} {g : Int → Int → V} (hg : ∀ F i j, Den K ca F (g i j) (h i j)) : OpD K ca (rI C g) (oI C h) := by
  intro B H0 F H v w x y z Q s rx ry e q
  unfold oI at e
  split at e
  · split at e
    · rename_i i j hc
      cases e
      cases rx
      cases ry
      exact ⟨i, j, rfl, rfl, hc, q _ H F (.refl s) (hg F i j)⟩
    · cases e
  · cases e
theorem od_I0 {h : Int → Int → D} {g : Int → Int → V} (hg : ∀ F i j, Den K ca F (g i j) (h i j)) : OpD K ca (rI0 g) (oI (fun _ _ => True) h) := by
  intro B H0 F H v w x y z Q s rx ry e q
  unfold oI at e
  split at e
  · rename_i i j
    rw [if_pos trivial] at e
    cases e
    cases rx
    cases ry
    exact ⟨i, j, rfl, rfl, q _ H F (.refl s) (hg F i j)⟩
  · cases e
def uI (h : Int → D) : R → Option R
  | .va (.int i) => some (.va (h i))
  | _ => none
theorem ud_I {h : Int → D} {g : Int → V} (hg : ∀ F i, Den K ca F (g i) (h i)) : UnD K ca (rU g) (uI h) := by
  intro B H0 F H v x z Q s rx e q
  unfold uI at e
  split at e
  · rename_i i
    cases e
    cases rx
    exact ⟨i, rfl, q _ H F (.refl s) (hg F i)⟩
  · cases e
end
/-- + -/
def oAdd : R → R → Option R := fun a b => match a.d, b.d with
  | .int i, .int j => some (.va (.int (i + j)))
  | .str x, .str y => if x.length + y.length ≤ LIM then some (.va (.str (x ++ y))) else none
  | .lst xs, .lst ys => if xs.length + ys.length ≤ LIM then some (.tm (xs ++ ys)) else none
  | .tup xs, .tup ys => if xs.length + ys.length ≤ LIM then some (.va (.tup (xs ++ ys))) else none
  | _, _ => none
def rAddA (K : PySem.W.Frag) : R2 := fun x y H Q => rI0 (fun i j => .int (i + j)) x y H Q ∨ (∃ i j, x = .str i ∧ y = .str j ∧ i.length + j.length ≤ sizeLine ∧ Q (.str (i ++ j)) H) ∨ rCatR x y H Q ∨ rCatA K x y H Q
theorem op_addA {X : Cx} : OpR X (binaryOp .Add) (rAddA X.K) := op_add.or (op_add_str.or (op_catR.or op_catA))
theorem od_add {K : PySem.W.Frag} {ca : Nat → Addr} : OpD K ca (rAddA K) oAdd := by
  intro B H0 F H v w x y z Q s rx ry e q
  unfold oAdd at e
  split at e
  · rename_i i j h1 h2
    cases e
    cases RV.den rx h1 rfl
    cases RV.den ry h2 rfl
    exact .inl ⟨i, j, rfl, rfl, q _ H F (.refl s) (.int _)⟩
  · rename_i i j h1 h2
    split at e
    · rename_i hl
      cases e
      cases RV.den rx h1 rfl
      cases RV.den ry h2 rfl
      exact .inr (.inl ⟨i, j, rfl, rfl, by rw [lim_eq]; exact hl, q _ H F (.refl s) (.str _)⟩)
    · cases e
  · rename_i xs ys h1 h2
    split at e
    · rename_i hl
      cases e
      obtain ⟨a, vs, rfl, r1, d1⟩ := RV.lst s rx h1
      obtain ⟨b, ws, rfl, r2, d2⟩ := RV.lst s ry h2
      refine .inr (.inr (.inl ⟨a, b, vs, ws, rfl, rfl, r1, r2, by rw [lim_eq, d1.length, d2.length]; exact hl, fun p hp => ?_⟩))
      exact q _ _ F (.newO s _ hp) ⟨p, _, rfl, noT_none hp, s.free hp, upd_same, d1.append d2⟩
    · cases e
  · rename_i xs ys h1 h2
    split at e
    · rename_i hl
      cases e
      cases RV.den rx h1 rfl with
      | tup t1 d1 =>
        cases RV.den ry h2 rfl with
        | tup t2 d2 =>
          refine .inr (.inr (.inr ⟨_, _, _, _, rfl, rfl, Same.seqT s t1, Same.seqT s t2, by rw [lim_eq, d1.length, d2.length]; exact hl, fun z => ?_, fun z1 z2 => ?_, fun _ _ p hp => ?_⟩))
          · subst z
            cases d1
            exact q _ H F (.refl s) (.tup t2 d2)
          · subst z2
            cases d2
            exact q _ H F (.refl s) (by rw [List.append_nil]; exact .tup t1 d1)
          · exact q _ _ _ (.new s (.tup _) hp) (.tup (SqT.of upd_same) ((d1.append d2).mono (same_upd (s.free hp))))
    · cases e
  · cases e
/-- * -/
def strRep (x : Str) (n : Int) : Str := ⟨((List.replicate n.toNat x.cps.toList).flatten).toArray⟩
theorem foldl_repA (x : Array Nat) : ∀ (k : Nat) (acc : List Nat), (List.replicate k x).foldl (· ++ ·) acc.toArray = (acc ++ (List.replicate k x.toList).flatten).toArray
  | 0, acc => by simp
  | k + 1, acc => by
    rw [List.replicate_succ, List.foldl_cons]
    have e : acc.toArray ++ x = (acc ++ x.toList).toArray := by simp
    rw [e, foldl_repA x k]
    simp [List.replicate_succ]
theorem strRep_len (x : Str) (n : Int) : (strRep x n).length = x.length * n.toNat := by
  show ((List.replicate n.toNat x.cps.toList).flatten).toArray.size = x.cps.size * n.toNat
  rw [List.size_toArray, PyProof.Rows.lm_len_rep_flat, Array.length_toList, Nat.mul_comm]
def rMulS : R2 := fun x y H Q => ∃ z n, x = .str z ∧ y = .int n ∧ -(2 ^ 63) ≤ n ∧ n < 2 ^ 63 ∧ z.length * n.toNat ≤ sizeLine ∧ Q (.str (strRep z n)) H
theorem op_mulS {X : Cx} : OpR X (binaryOp .Mult) rMulS := by
  intro pins s σ H x y v u Q I rx ry h
  obtain ⟨z, n, rfl, rfl, h1, h2, hz, q⟩ := h
  obtain ⟨t, rfl⟩ := rx
  obtain ⟨t', rfl⟩ := ry
  have hs : sizeLine = 16777216 := sizeLine_eq
  refine PySem.P.mul_str (by rw [decide_eq_false (by omega), decide_eq_false (by omega)]; rfl) (fun a b => ?_) (fun a b => ?_) ?_
  · rw [Bool.or_eq_false_iff] at b
    have n1 : 1 ≤ n := by omega
    intro c
    have hz' : (z.length : Int) * n ≤ 16777216 := by
      have : ((z.length * n.toNat : Nat) : Int) ≤ 16777216 := by omega
      rw [Int.natCast_mul, Int.toNat_of_nonneg (by omega)] at this
      exact this
    have c2 : (z.length : Int) * n > 2 ^ 63 - 1 := Int.lt_of_lt_of_le (Int.lt_mul_of_ediv_lt (by omega) c) (Int.le_refl _)
    omega
  · show decide (z.length * n.toNat > sizeLine) = false
    exact decide_eq_false (by omega)
  · by_cases a : n < 1
    · rw [if_pos a]
      have e : strRep z n = Str.empty := by
        unfold strRep
        rw [show n.toNat = 0 by omega]
        rfl
      refine ⟨by decide, ?_⟩
      exact ⟨.str _, H, I.tok _, ⟨_, rfl⟩, by rw [← e]; exact q⟩
    · rw [if_neg a]
      by_cases b : (n == 1 || z.length == 0) = true
      · rw [if_pos b]
        have e : strRep z n = z := by
          rw [Bool.or_eq_true, beq_iff_eq, beq_iff_eq] at b
          unfold strRep
          rcases b with b | b
          · subst b
            simp
          · have : z.cps = #[] := Array.eq_empty_of_size_eq_zero b
            obtain ⟨c⟩ := z
            simp only at this
            subst this
            simp
        exact ⟨.str _, H, I, ⟨_, rfl⟩, by rw [← e]; exact q⟩
      · rw [if_neg b]
        have e : (⟨(List.replicate n.toNat z.cps).foldl (· ++ ·) #[]⟩ : Str) = strRep z n := by
          have := foldl_repA z.cps n.toNat []
          unfold strRep
          rw [show (#[] : Array Nat) = ([] : List Nat).toArray from rfl, this, List.nil_append]
        rw [e]
        refine ⟨?_, ?_⟩
        · rw [strRep_len]; exact hz
        · exact ⟨.str _, H, I.tok _, ⟨_, rfl⟩, q⟩
def oMul : R → R → Option R := fun a b => match a.d, b.d with
  | .int i, .int j => if CMulB i j then some (.va (.int (i * j))) else none
  | .str x, .int n => if -(2 ^ 63) ≤ n ∧ n < 2 ^ 63 ∧ x.length * n.toNat ≤ LIM then some (.va (.str (strRep x n))) else none
  | .lst xs, .int n => if -(2 ^ 63) ≤ n ∧ n < 2 ^ 63 ∧ xs.length * n.toNat ≤ LIM then some (.tm (List.replicate n.toNat xs).flatten) else none
  | _, _ => none
def rRepR : R2 := fun x y H Q => ∃ l k xs, x = .ref l ∧ y = .int k ∧ H l = some (.lst xs) ∧ -(2 ^ 63) ≤ k ∧ k < 2 ^ 63 ∧ xs.length * k.toNat ≤ sizeLine ∧
  ∀ p, H p = none → Q (.ref p) (upd H p (.lst (List.replicate k.toNat xs).flatten))
def rMulA : R2 := fun x y H Q => rI CMulB (fun i j => .int (i * j)) x y H Q ∨ rMulS x y H Q ∨ rRep x y H Q
theorem op_mulA {X : Cx} : OpR X (binaryOp .Mult) rMulA := op_mulB.or (op_mulS.or op_rep)
theorem Dens.rep {K : PySem.W.Frag} {ca : Nat → Addr} {F : Hp} {vs : List V} {ds : List D} (h : Dens K ca F vs ds) : ∀ k : Nat, Dens K ca F (List.replicate k vs).flatten (List.replicate k ds).flatten
  | 0 => .nil
  | k + 1 => by
    rw [List.replicate_succ, List.replicate_succ, List.flatten_cons, List.flatten_cons]
    exact h.append (h.rep k)
/-- a list that a temporary or an own one is: it can be written -/
def R.wr : R → Bool
  | .va _ => false
  | _ => true
theorem RV.wrt {K : PySem.W.Frag} {ca : Nat → Addr} {B : BT} {H F' H' : Hp} {v : V} {r : R} {ds : List D} (h : RV K ca B H F' H' v r) (e : r.d = .lst ds) (w : r.wr = true) : ∃ a vs, v = .ref a ∧ H' a = some (.lst vs) ∧ Dens K ca F' vs ds := by
  cases r with
  | va d => cases w
  | tm es =>
    obtain rfl : es = ds := by injection e
    obtain ⟨a, vs, rfl, _, _, h3, h4⟩ := h
    exact ⟨a, vs, rfl, h3, h4⟩
  | bw j es =>
    obtain rfl : es = ds := by injection e
    obtain ⟨a, vs, rfl, _, _, h3, h4⟩ := h
    exact ⟨a, vs, rfl, h3, h4⟩
/-- * of a written list -/
def oMulA : R → R → Option R := fun a b => match a.d with
  | .lst _ => if a.wr = true then oMul a b else none
  | _ => oMul a b
theorem od_mul {K : PySem.W.Frag} {ca : Nat → Addr} : OpD K ca rMulA oMulA := by
  intro B H0 F H v w x y z Q s rx ry e q
  have e' : oMul x y = some z ∧ (∀ xs, x.d = .lst xs → x.wr = true) := by
    unfold oMulA at e
    split at e
    · split at e
      · exact ⟨e, fun _ _ => by assumption⟩
      · cases e
    · rename_i h
      exact ⟨e, fun xs z => absurd z (h xs)⟩
  obtain ⟨e, hw⟩ := e'
  unfold oMul at e
  split at e
  · rename_i i j h1 h2
    split at e
    · rename_i hc
      cases e
      cases RV.den rx h1 rfl
      cases RV.den ry h2 rfl
      exact .inl ⟨i, j, rfl, rfl, hc, q _ H F (.refl s) (.int _)⟩
    · cases e
  · rename_i i j h1 h2
    split at e
    · rename_i hc
      cases e
      cases RV.den rx h1 rfl
      cases RV.den ry h2 rfl
      exact .inr (.inl ⟨i, j, rfl, rfl, hc.1, hc.2.1, by rw [lim_eq]; exact hc.2.2, q _ H F (.refl s) (.str _)⟩)
    · cases e
  · rename_i xs j h1 h2
    split at e
    · rename_i hc
      cases e
      obtain ⟨a, vs, rfl, r1, d1⟩ := RV.wrt rx h1 (hw _ h1)
      cases RV.den ry h2 rfl
      refine .inr (.inr ⟨a, j, vs, rfl, rfl, r1, hc.1, hc.2.1, by rw [lim_eq, d1.length]; exact hc.2.2, fun p hp => ?_⟩)
      exact q _ _ F (.newO s _ hp) ⟨p, _, rfl, noT_none hp, s.free hp, upd_same, d1.rep _⟩
    · cases e
  · cases e
/-! ### comparisons -/
def oCmp (p : Int → Int → Bool) : R → R → Option R := oI (fun _ _ => True) fun i j => .bl (p i j)
section
variable {K : PySem.W.Frag} {ca : Nat → Addr}
theorem od_cmp {p : Int → Int → Bool} : OpD K ca (rI0 fun i j => .bl (p i j)) (oCmp p) := od_I0 fun _ _ _ => .bl _
def oLt := oCmp fun i j => decide (i < j)
def oLe := oCmp fun i j => decide (i ≤ j)
def oGt := oCmp fun i j => decide (j < i)
def oGe := oCmp fun i j => decide (j ≤ i)
def eqR (a b : R) : Option Bool := match a.d, b.d with
  | .str x, .str y => some (decide (x = y))
  | d, e => if (okn 8 d && okn 8 e) = true then some (eqn 8 d e) else none
def oEq : R → R → Option R := fun a b => (eqR a b).map fun k => .va (.bl k)
def oNe : R → R → Option R := fun a b => (eqR a b).map fun k => .va (.bl (!k))
def rEqA (K : PySem.W.Frag) : R2 := fun x y H Q => rEq x y H Q ∨ rEqD K x y H Q
def rNeA (K : PySem.W.Frag) : R2 := fun x y H Q => rNe x y H Q ∨ rNeD K x y H Q
theorem op_eqA {X : Cx} (hu : X.A.units + 64 < cLine) : OpR X (compareOp .Eq) (rEqA X.K) := op_eq.or (op_eqD hu)
theorem op_neA {X : Cx} (hu : X.A.units + 64 < cLine) : OpR X (compareOp .NotEq) (rNeA X.K) := op_ne.or (op_neD hu)
theorem eqR_cases {B : BT} {Hs F H : Hp} {v w : V} {x y : R} {k : Bool} (s : Same F H) (rx : RV K ca B Hs F H v x) (ry : RV K ca B Hs F H w y) (e : eqR x y = some k) :
    (scal v w = true ∧ k = decide (v = w)) ∨ ∃ d f, Dp K H v d ∧ Dp K H w f ∧ SeqAt.shaped d = true ∧ SeqAt.shaped f = true ∧ k = PyData.eqv d f := by
  unfold eqR at e
  split at e
  · rename_i a b h1 h2
    cases e
    cases RV.den rx h1 rfl
    cases RV.den ry h2 rfl
    refine .inl ⟨rfl, ?_⟩
    by_cases h : a = b
    · subst h; simp
    · rw [decide_eq_false h, decide_eq_false (fun z => h (V.str.inj z))]
  · split at e
    · rename_i h
      cases e
      rw [Bool.and_eq_true] at h
      exact .inr ⟨_, _, RV.dp s rx h.1, RV.dp s ry h.2, okn_shaped h.1 (by decide), okn_shaped h.2 (by decide), (eqn_py 8 _ _ h.1 h.2).symm⟩
    · cases e
theorem od_eq : OpD K ca (rEqA K) oEq := by
  intro B H0 F H v w x y z Q s rx ry e q
  unfold oEq at e
  obtain ⟨k, ek, rfl⟩ := Option.map_eq_some_iff.mp e
  rcases eqR_cases s rx ry ek with ⟨h1, h2⟩ | ⟨d, f, h1, h2, h3, h4, h5⟩
  · exact .inl ⟨h1, by rw [← h2]; exact q _ H F (.refl s) (.bl _)⟩
  · exact .inr ⟨d, f, h1, h2, h3, h4, by rw [← h5]; exact q _ H F (.refl s) (.bl _)⟩
theorem od_ne : OpD K ca (rNeA K) oNe := by
  intro B H0 F H v w x y z Q s rx ry e q
  unfold oNe at e
  obtain ⟨k, ek, rfl⟩ := Option.map_eq_some_iff.mp e
  rcases eqR_cases s rx ry ek with ⟨h1, h2⟩ | ⟨d, f, h1, h2, h3, h4, h5⟩
  · exact .inl ⟨h1, by rw [← h2]; exact q _ H F (.refl s) (.bl _)⟩
  · exact .inr ⟨d, f, h1, h2, h3, h4, by rw [← h5]; exact q _ H F (.refl s) (.bl _)⟩
/-- is None -/
def D.isNon : D → Bool
  | .non => true
  | _ => false
theorem RV.non_iff {B : BT} {Hs F H : Hp} {v : V} {x : R} (rx : RV K ca B Hs F H v x) : decide (v = .non) = x.d.isNon := by
  cases x with
  | va d => cases rx <;> rfl
  | tm ds => obtain ⟨a, vs, rfl, _⟩ := rx; rfl
  | bw j ds => obtain ⟨a, vs, rfl, _⟩ := rx; rfl
def D.isBl (k : Bool) : D → Bool
  | .bl b => b == k
  | _ => false
theorem RV.bl_iff {B : BT} {Hs F H : Hp} {v : V} {x : R} {k : Bool} (rx : RV K ca B Hs F H v x) : decide (v = .bl k) = x.d.isBl k := by
  cases x with
  | va d => cases rx <;> first
    | rfl
    | (rename_i b; cases b <;> cases k <;> rfl)
  | tm ds => obtain ⟨a, vs, rfl, _⟩ := rx; rfl
  | bw j ds => obtain ⟨a, vs, rfl, _⟩ := rx; rfl
/-- is None, is True, is False -/
def rIsP : R2 := fun x y H Q => (y = .non ∨ ∃ b, y = .bl b) ∧ Q (.bl (decide (x = y))) H
theorem op_isP {X : Cx} : OpR X (compareOp .Is) rIsP := by
  rintro pins s σ H x y v u Q I rx ry ⟨hy, q⟩
  rcases hy with rfl | ⟨b, rfl⟩
  · exact op_isN pins s σ H x _ v u Q I rx ry ⟨rfl, q⟩
  · have eu : u = Value.bool b := ry
    subst eu
    cases x with
    | non =>
      have ev : v = Value.none := rx
      subst ev
      exact wpAny_is_plain rfl (fin_bl I q rfl)
    | bl c =>
      have ev : v = Value.bool c := rx
      subst ev
      exact wpAny_is_plain rfl (fin_bl I q (by cases c <;> cases b <;> rfl))
    | int i =>
      obtain ⟨t, rfl⟩ := rx
      exact wpAny_is_plain rfl (fin_bl I q rfl)
    | str z =>
      obtain ⟨t, rfl⟩ := rx
      exact wpAny_is_plain rfl (fin_bl I q rfl)
    | byt z =>
      obtain ⟨t, rfl⟩ := rx
      exact wpAny_is_plain rfl (fin_bl I q rfl)
    | flt z =>
      obtain ⟨t, rfl⟩ := rx
      exact wpAny_is_plain rfl (fin_bl I q rfl)
    | ref a =>
      have ev : v = Value.ref a := rx
      subst ev
      exact wpAny_is_plain rfl (fin_bl I q rfl)
    | ty n =>
      have ev : v = Value.type n := rx
      subst ev
      exact wpAny_is_plain rfl (fin_bl I q rfl)
def oIs : R → R → Option R := fun a b => match b with
  | .va .non => some (.va (.bl a.d.isNon))
  | .va (.bl k) => some (.va (.bl (a.d.isBl k)))
  | _ => none
def oIsN : R → R → Option R := fun a b => match b with
  | .va .non => some (.va (.bl (!a.d.isNon)))
  | _ => none
theorem od_is : OpD K ca rIsP oIs := by
  intro B H0 F H v w x y z Q s rx ry e q
  unfold oIs at e
  split at e
  · cases e
    cases ry
    exact ⟨.inl rfl, by rw [RV.non_iff rx]; exact q _ H F (.refl s) (.bl _)⟩
  · cases e
    cases ry
    exact ⟨.inr ⟨_, rfl⟩, by rw [RV.bl_iff rx]; exact q _ H F (.refl s) (.bl _)⟩
  · cases e
theorem od_isn : OpD K ca (fun x y H Q => y = .non ∧ Q (.bl (!decide (x = .non))) H) oIsN := by
  intro B H0 F H v w x y z Q s rx ry e q
  unfold oIsN at e
  split at e
  · cases e
    cases ry
    exact ⟨rfl, by rw [RV.non_iff rx]; exact q _ H F (.refl s) (.bl _)⟩
  · cases e
/-- in: flat items of a list or tuple; one sign in a text -/
def inR (a b : R) : Option Bool := match a.d, b.d with
  | .str ⟨c⟩, .str z => match c.toList with
    | [c] => some (decide (c ∈ z.cps.toList))
    | _ => none
  | d, .lst ds => if (okn 0 d && ds.all (okn 0)) = true then some (ds.any fun e => eqn 0 e d) else none
  | d, .tup ds => if (okn 0 d && ds.all (okn 0)) = true then some (ds.any fun e => eqn 0 e d) else none
  | _, _ => none
def oIn : R → R → Option R := fun a b => (inR a b).map fun k => .va (.bl k)
def oNin : R → R → Option R := fun a b => (inR a b).map fun k => .va (.bl (!k))
def rInA (K : PySem.W.Frag) : R2 := fun x y H Q => rIn K false x y H Q ∨ ∃ (c : Nat) (z : Str), x = .str ⟨#[c]⟩ ∧ y = .str z ∧ Q (.bl (decide (c ∈ z.cps.toList))) H
def rNinA (K : PySem.W.Frag) : R2 := fun x y H Q => rIn K true x y H Q ∨ ∃ (c : Nat) (z : Str), x = .str ⟨#[c]⟩ ∧ y = .str z ∧ Q (.bl (!decide (c ∈ z.cps.toList))) H
theorem op_inA {X : Cx} : OpR X (compareOp .In) (rInA X.K) := op_in_seq.or op_in_sign
theorem op_ninA {X : Cx} : OpR X (compareOp .NotIn) (rNinA X.K) := op_notIn_seq.or op_notIn_sign
theorem flat_of {F : Hp} {v : V} {d : D} (h : Den K ca F v d) (o : okn 0 d = true) : flatV v = true := by
  cases h <;> first | rfl | (simp [okn] at o)
theorem flats_of {F : Hp} : ∀ {vs : List V} {ds : List D}, Dens K ca F vs ds → ds.all (okn 0) = true → vs.all flatV = true
  | _, _, .nil, _ => rfl
  | _, _, .cons h hs, o => by
    rw [List.all_cons, Bool.and_eq_true] at o ⊢
    exact ⟨flat_of h o.1, flats_of hs o.2⟩
theorem eqV_of {F : Hp} {v w : V} {d e : D} (h : Den K ca F v d) (o : okn 0 d = true) (h' : Den K ca F w e) (o' : okn 0 e = true) : eqV v w = eqn 0 d e := by
  cases h <;> cases h' <;> first | rfl | (simp [okn] at o) | (simp [okn] at o')
theorem inV_of {F : Hp} {v : V} {d : D} (h : Den K ca F v d) (o : okn 0 d = true) : ∀ {vs : List V} {ds : List D}, Dens K ca F vs ds → ds.all (okn 0) = true → inV v vs = ds.any fun e => eqn 0 e d
  | _, _, .nil, _ => rfl
  | _, _, .cons g gs, o2 => by
    rw [List.all_cons, Bool.and_eq_true] at o2
    have ih := inV_of h o gs o2.2
    unfold inV at ih ⊢
    rw [List.any_cons, List.any_cons, ih, eqV_of g o2.1 h o]
theorem okn0_nolst {d : D} (o : okn 0 d = true) : d.isLst = false := by
  cases d <;> first | rfl | (simp [okn] at o)
theorem inR_cases {B : BT} {Hs F H : Hp} {v w : V} {x y : R} {k : Bool} (s : Same F H) (rx : RV K ca B Hs F H v x) (ry : RV K ca B Hs F H w y) (e : inR x y = some k) :
    (∃ p xs, w = .ref p ∧ (SqL K H p xs ∨ SqT K H p xs) ∧ flatV v = true ∧ xs.all flatV = true ∧ k = inV v xs) ∨ ∃ (c : Nat) (z : Str), v = .str ⟨#[c]⟩ ∧ w = .str z ∧ k = decide (c ∈ z.cps.toList) := by
  unfold inR at e
  split at e
  · rename_i c z h1 h2
    split at e
    · rename_i c' hc
      cases e
      cases RV.den rx h1 rfl
      cases RV.den ry h2 rfl
      have : c = #[c'] := by
        apply Array.ext'
        rw [hc]
      subst this
      exact .inr ⟨c', z, rfl, rfl, rfl⟩
    · cases e
  · rename_i ds h2 _
    split at e
    · rename_i h
      cases e
      rw [Bool.and_eq_true] at h
      obtain ⟨a, vs, rfl, r2, d2⟩ := RV.lst s ry (by assumption)
      have dx := RV.den rx rfl (okn0_nolst h.1)
      exact .inl ⟨a, vs, rfl, .inl (rd_l r2), flat_of dx h.1, flats_of d2 h.2, (inV_of dx h.1 d2 h.2).symm⟩
    · cases e
  · rename_i ds h2 _
    split at e
    · rename_i h
      cases e
      rw [Bool.and_eq_true] at h
      have dx := RV.den rx rfl (okn0_nolst h.1)
      cases RV.den ry (by assumption) rfl with
      | tup t1 d1 => exact .inl ⟨_, _, rfl, .inr (Same.seqT s t1), flat_of dx h.1, flats_of d1 h.2, (inV_of dx h.1 d1 h.2).symm⟩
    · cases e
  · cases e
theorem od_in : OpD K ca (rInA K) oIn := by
  intro B H0 F H v w x y z Q s rx ry e q
  unfold oIn at e
  obtain ⟨k, ek, rfl⟩ := Option.map_eq_some_iff.mp e
  rcases inR_cases s rx ry ek with ⟨p, xs, h1, h2, h3, h4, h5⟩ | ⟨c, z, h1, h2, h3⟩
  · exact .inl ⟨p, xs, h1, h2, h3, h4, by rw [if_neg Bool.false_ne_true, ← h5]; exact q _ H F (.refl s) (.bl _)⟩
  · exact .inr ⟨c, z, h1, h2, by rw [← h3]; exact q _ H F (.refl s) (.bl _)⟩
theorem od_nin : OpD K ca (rNinA K) oNin := by
  intro B H0 F H v w x y z Q s rx ry e q
  unfold oNin at e
  obtain ⟨k, ek, rfl⟩ := Option.map_eq_some_iff.mp e
  rcases inR_cases s rx ry ek with ⟨p, xs, h1, h2, h3, h4, h5⟩ | ⟨c, z, h1, h2, h3⟩
  · exact .inl ⟨p, xs, h1, h2, h3, h4, by rw [if_pos rfl, ← h5]; exact q _ H F (.refl s) (.bl _)⟩
  · exact .inr ⟨c, z, h1, h2, by rw [← h3]; exact q _ H F (.refl s) (.bl _)⟩
end
end BK
namespace BK
open PySem PySem.Spec L2
set_option autoImplicit false
/-! ### items, slices, displays -/
def oIx : R → R → Option R := fun a b => match a.d, b.d with
  | .lst xs, .int i => (atI xs i).map .va
  | .tup xs, .int i => (atI xs i).map .va
  | .rol xs, .int i => (atI xs i).map .va
  | .str z, .int i => if z.length ≤ LIM then (atI z.cps.toList i).map fun c => .va (.str ⟨#[c]⟩) else none
  | _, _ => none
section
variable {K : PySem.W.Frag} {ca : Nat → Addr}
theorem atI_den {F : Hp} {vs : List V} {ds : List D} (h : Dens K ca F vs ds) {i : Int} {d : D} (e : atI ds i = some d) : ∃ v, atI vs i = some v ∧ Den K ca F v d := by
  unfold atI at e ⊢
  rw [h.length]
  obtain ⟨j, e1, e2⟩ := Option.bind_eq_some_iff.mp e
  obtain ⟨v, e3, e4⟩ := h.getV e2
  exact ⟨v, by rw [e1]; exact e3, e4⟩
theorem od_ix : OpD K ca (rIx K) oIx := by
  intro B H0 F H v w x y z Q s rx ry e q
  unfold oIx at e
  split at e
  · rename_i xs i h1 h2
    obtain ⟨d, ed, rfl⟩ := Option.map_eq_some_iff.mp e
    obtain ⟨a, vs, rfl, r1, d1⟩ := RV.lst s rx h1
    cases RV.den ry h2 rfl
    obtain ⟨u, e1, e2⟩ := atI_den d1 ed
    exact .inl ⟨a, vs, i, u, rfl, rfl, rd_l r1, e1, q _ H F (.refl s) e2⟩
  · rename_i xs i h1 h2
    obtain ⟨d, ed, rfl⟩ := Option.map_eq_some_iff.mp e
    cases RV.den rx h1 rfl with
    | tup t1 d1 =>
      cases RV.den ry h2 rfl
      obtain ⟨u, e1, e2⟩ := atI_den d1 ed
      exact .inr (.inl ⟨_, _, i, u, rfl, rfl, Same.seqT s t1, e1, q _ H F (.refl s) e2⟩)
  · rename_i xs i h1 h2
    obtain ⟨d, ed, rfl⟩ := Option.map_eq_some_iff.mp e
    cases RV.den rx h1 rfl with
    | rol t1 d1 =>
      cases RV.den ry h2 rfl
      obtain ⟨u, e1, e2⟩ := atI_den d1 ed
      exact .inl ⟨_, _, i, u, rfl, rfl, s.seq t1, e1, q _ H F (.refl s) e2⟩
  · rename_i zz i h1 h2
    split at e
    · rename_i hl
      obtain ⟨c, ed, rfl⟩ := Option.map_eq_some_iff.mp e
      cases RV.den rx h1 rfl
      cases RV.den ry h2 rfl
      exact .inr (.inr ⟨zz, i, c, rfl, rfl, by rw [lim_eq]; exact hl, ed, q _ H F (.refl s) (.str _)⟩)
    · cases e
  · cases e
/-- the items of xs[lo:hi] -/
def cutL {α : Type} (xs : List α) (lo hi : Option Int) : List α := (xs.drop (HT.sIx xs.length 0 lo)).take (HT.sIx xs.length xs.length hi - HT.sIx xs.length 0 lo)
theorem Dens.cut {F : Hp} {vs : List V} {ds : List D} (h : Dens K ca F vs ds) (lo hi : Option Int) : Dens K ca F (cutV vs lo hi) (cutL ds lo hi) := by
  unfold cutV cutL
  rw [h.length]
  exact (h.drop _).take _
def tOV (K : PySem.W.Frag) (ca : Nat → Addr) (m : Gm → Option (Option Int)) : TO := fun σ H Q => ∃ H0 F0 F Γ o, SR K ca H0 F0 σ H F Γ ∧ m Γ = some o ∧ ∀ H' F', Ext ca H F H' F' → Q o H'
def pN : Gm → Option (Option Int) := fun _ => some none
def pS (m : Gm → Option R) : Gm → Option (Option Int) := fun g => (m g).bind fun r => match r with
  | .va (.int i) => some (some i)
  | _ => none
def oSl (a : R) (lo hi : Option Int) : Option R := match a.d with
  | .lst xs => some (.tm (cutL xs lo hi))
  | .tup xs => some (.va (.tup (cutL xs lo hi)))
  | .rol xs => some (.tm (cutL xs lo hi))
  | .str z => if z.length ≤ LIM then some (.va (.str (cutS z lo hi))) else none
  | _ => none
def eSl (m : Gm → Option R) (l h : Gm → Option (Option Int)) : Gm → Option R := fun g => (m g).bind fun a => (l g).bind fun lo => (h g).bind fun hi => oSl a lo hi
def rSlAll (K : PySem.W.Frag) : V → Option Int → Option Int → Hp → VK → Prop := fun x lo hi H Q => rSlL K x lo hi H Q ∨ rSlA K x lo hi H Q ∨ rSlS x lo hi H Q
end
section
variable {X : Cx} {ca : Nat → Addr} {a b e : Expr} {es : List Expr} {m n : Gm → Option R} {ms : Gm → Option (List R)} {pos p : Pos}
abbrev OV (X : Cx) (ca : Nat → Addr) (e : Option Expr) (m : Gm → Option (Option Int)) : Prop := PO X e (tOV X.K ca m)
theorem po_imp {e : Option Expr} {t t' : TO} (h : PO X e t) (i : ∀ σ H Q, t' σ H Q → t σ H Q) : PO X e t' := ⟨fun pins s σ H Q I q => h.run pins s σ H Q I (i σ H Q q)⟩
theorem ov_none : OV X ca none pN := by
  refine po_imp po_none ?_
  rintro σ H Q ⟨H0, F0, F, Γ, o, S, e, q⟩
  cases e
  exact q H F (.refl S.ext.fh)
theorem ov_some (h : EV X ca e m) : OV X ca (some e) (pS m) := by
  refine po_imp (po_some h) ?_
  rintro σ H Q ⟨H0, F0, F, Γ, o, S, e, q⟩
  unfold pS at e
  obtain ⟨r, er, e⟩ := Option.bind_eq_some_iff.mp e
  split at e
  · cases e
    refine ⟨H0, F0, F, Γ, _, S, er, fun v H' F' x h => ?_⟩
    cases h
    exact ⟨_, rfl, q H' F' x⟩
  · cases e
theorem sl_all : SlR X (rSlAll X.K) := sl_list.or (sl_tupA.or sl_str)
theorem ev_slice {l h : Option Expr} {ml mh : Gm → Option (Option Int)} {p2 : Pos} (he : EV X ca e m) (hl : OV X ca l ml) (hh : OV X ca h mh) : EV X ca (.Subscript e (.Slice l h none p2) pos) (eSl m ml mh) := by
  refine pe_imp (pe_slice sl_all he hl hh) ?_
  rintro σ H Q ⟨H0, F0, F, Γ, z, S, e, q⟩
  unfold eSl at e
  obtain ⟨r, er, e⟩ := Option.bind_eq_some_iff.mp e
  obtain ⟨lo, el, e⟩ := Option.bind_eq_some_iff.mp e
  obtain ⟨hi, eh, e⟩ := Option.bind_eq_some_iff.mp e
  refine ⟨H0, F0, F, Γ, r, S, er, fun v H1 F1 x1 r1 => ⟨H0, F0, F1, Γ, lo, S.mono x1, el, fun H2 F2 x2 => ⟨H0, F0, F2, Γ, hi, (S.mono x1).mono x2, eh, fun H3 F3 x3 => ?_⟩⟩⟩
  have x13 := x2.trans x3
  have x03 := x1.trans x13
  have s3 := x3.fh
  have r3 := r1.mono x13
  unfold oSl at e
  split at e
  · rename_i xs h1
    cases e
    obtain ⟨a, vs, rfl, g1, d1⟩ := RV.lst s3 r3 h1
    refine .inl ⟨a, vs, rfl, rd_l g1, fun p hp => ?_⟩
    exact q _ _ F3 (x03.trans (.newO s3 _ hp)) ⟨p, _, rfl, x03.hh.free (noT_none hp), s3.free hp, upd_same, d1.cut lo hi⟩
  · rename_i xs h1
    cases e
    cases RV.den r3 h1 rfl with
    | tup t1 d1 =>
      refine .inr (.inl ⟨_, _, rfl, Same.seqT s3 t1, fun w => ?_, fun _ p hp => ?_⟩)
      · refine q _ H3 F3 x03 ?_
        have : cutL xs lo hi = xs := by
          unfold cutL
          rw [d1.length] at w
          rw [w.1, w.2]
          simp
        rw [this]
        exact .tup t1 d1
      · exact q _ _ _ (x03.trans (.new s3 (.tup _) hp)) (.tup (SqT.of upd_same) ((d1.cut lo hi).mono (same_upd (s3.free hp))))
  · rename_i xs h1
    cases e
    cases RV.den r3 h1 rfl with
    | rol t1 d1 =>
      refine .inl ⟨_, _, rfl, s3.seq t1, fun p hp => ?_⟩
      exact q _ _ F3 (x03.trans (.newO s3 _ hp)) ⟨p, _, rfl, x03.hh.free (noT_none hp), s3.free hp, upd_same, d1.cut lo hi⟩
  · rename_i zz h1
    split at e
    · rename_i hl
      cases e
      cases RV.den r3 h1 rfl
      exact .inr (.inr ⟨zz, rfl, by rw [lim_eq]; exact hl, q _ H3 F3 x03 (.str _)⟩)
    · cases e
  · cases e
theorem RVs.den {K : PySem.W.Frag} {B : BT} {Hs F H : Hp} : ∀ {vs : List V} {rs : List R}, RVs K ca B Hs F H vs rs → (rs.all fun r => !r.wr) = true → Dens K ca F vs (rs.map R.d)
  | _, _, .nil, _ => .nil
  | _, _, .cons (b := r) h hs, o => by
    rw [List.all_cons, Bool.and_eq_true] at o
    cases r with
    | va d => exact .cons h (RVs.den hs o.2)
    | tm ds => exact absurd o.1 (by simp [R.wr])
    | bw j ds => exact absurd o.1 (by simp [R.wr])
theorem RVs.length {K : PySem.W.Frag} {B : BT} {Hs F H : Hp} {vs : List V} {rs : List R} (h : RVs K ca B Hs F H vs rs) : vs.length = rs.length := Paired.length h
/-- displays -/
def oTup (rs : List R) : Option R := if (rs.all (fun r => !r.wr) && decide (rs.length ≤ LIM)) = true then some (.va (.tup (rs.map R.d))) else none
def oLst (rs : List R) : Option R := if (rs.all (fun r => !r.wr) && decide (rs.length ≤ LIM)) = true then some (.tm (rs.map R.d)) else none
theorem ev_tup {x1 : Nat} (h : AV X ca es ms) : EV X ca (.Tuple es x1 pos) (eA oTup ms) := by
  refine pe_imp (pe_tup h) ?_
  rintro σ H Q ⟨H0, F0, F, Γ, z, S, e, q⟩
  unfold eA at e
  obtain ⟨rs, er, e⟩ := Option.bind_eq_some_iff.mp e
  refine ⟨H0, F0, F, Γ, rs, S, er, fun vs H1 F1 x1 r1 => ?_⟩
  unfold oTup at e
  split at e
  · rename_i h
    cases e
    rw [Bool.and_eq_true, decide_eq_true_eq] at h
    refine ⟨by rw [lim_eq, RVs.length r1]; exact h.2, fun p hp => ?_⟩
    exact q _ _ _ (x1.trans (.new x1.fh (.tup _) hp)) (.tup (SqT.of upd_same) ((RVs.den r1 h.1).mono (same_upd (x1.fh.free hp))))
  · cases e
theorem ev_lst (h : AV X ca es ms) : EV X ca (.List es pos) (eA oLst ms) := by
  refine pe_imp (pe_lst h) ?_
  rintro σ H Q ⟨H0, F0, F, Γ, z, S, e, q⟩
  unfold eA at e
  obtain ⟨rs, er, e⟩ := Option.bind_eq_some_iff.mp e
  refine ⟨H0, F0, F, Γ, rs, S, er, fun vs H1 F1 x1 r1 => ?_⟩
  unfold oLst at e
  split at e
  · rename_i h
    cases e
    rw [Bool.and_eq_true, decide_eq_true_eq] at h
    refine ⟨by rw [lim_eq, RVs.length r1]; exact h.2, fun p hp => ?_⟩
    exact q _ _ F1 (x1.trans (.newO x1.fh _ hp)) ⟨p, _, rfl, x1.hh.free (noT_none hp), x1.fh.free hp, upd_same, RVs.den r1 h.1⟩
  · cases e
/-- own lists grow: x.append(e) -/
def sApp (i : Nat) (m : Gm → Option R) : Gm → Option Out := fun g => match g[i]? with
  | some (.ow ds) => (m g).bind fun r => if (!r.isBw && decide (ds.length < LIM)) = true then some (.nx (g.set i (.ow (ds ++ [r.d])))) else none
  | _ => none
theorem sv_app {i : Nat} {x : Str} {pos p1 p2 p3 : Pos} (hx : PE X (.Name x p1) (tVar i)) (he : EV X ca e m) (hs1 : starEach [e] X.env = (false, eval e X.env) :: starEach [] X.env := by rfl)
    (h : PE X (.Call (.Attribute (.Name x p1) "append" p2) [e] [] p3) (tBM X.K "list" rAppend (tVar i) (tCons (tEV X.K ca m) tNil)))
    (hs : swapsWith (.Call (.Attribute (.Name x p1) "append" p2) [e] [] p3) none pos.line X.env = pure false := by rfl) : SV X ca (.Expr (.Call (.Attribute (.Name x p1) "append" p2) [e] [] p3) pos) (sApp i m) [i] := by
  refine ⟨ps_imp (ps_expr h hs) ?_, fun g o e => ?_⟩
  · rintro D σ H ⟨H0, F0, F, Γ, o, S, e, p⟩
    unfold sApp at e
    split at e
    · rename_i ds hg
      obtain ⟨r, er, e⟩ := Option.bind_eq_some_iff.mp e
      split at e
      · rename_i hc
        cases e
        rw [Bool.and_eq_true, decide_eq_true_eq] at hc
        obtain ⟨a, vs, s, h1, h2, h3, h4⟩ := S.ow i ds hg
        refine ⟨_, s, .inl ⟨rfl, vs, SqL.of h3⟩, H0, F0, F, Γ, r, S, er, fun v H1 F1 x1 r1 => ?_⟩
        obtain ⟨F2, x2, s2, d2⟩ := RV.froze x1 r1 (by simpa using hc.1)
        refine ⟨a, vs, v, rfl, rfl, x2.hh.l h3, by rw [lim_eq, h4.length]; exact hc.2, ?_⟩
        have S2 := S.mono x2
        exact p σ _ F2 (S2.upd hg s ((h4.mono x2.ff).append (.one d2))) x2.ff .refl
      · cases e
    · cases e
  · unfold sApp at e
    split at e
    · obtain ⟨r, er, e⟩ := Option.bind_eq_some_iff.mp e
      split at e
      · cases e
        exact kpg_set
      · cases e
    · cases e
/-- an own list is frozen, at no cost: ahead of a statement -/
def sFz (i : Nat) (m : Gm → Option Out) : Gm → Option Out := fun g => match g[i]? with
  | some (.ow ds) => m (g.set i (.va (.lst ds)))
  | _ => m g
theorem sv_fz {i : Nat} {st : Stmt} {m : Gm → Option Out} {T : List Nat} (h : SV X ca st m T) : SV X ca st (sFz i m) (i :: T) := by
  have i2 : ∀ j ∈ T, j ∈ i :: T := fun j h => List.mem_cons_of_mem _ h
  refine ⟨ps_imp h.ps ?_, fun g o e => ?_⟩
  · rintro D σ H ⟨H0, F0, F, Γ, o, S, e, p⟩
    unfold sFz at e
    split at e
    · rename_i ds hg
      obtain ⟨F', sf, S'⟩ := S.frz hg
      exact ⟨H0, F0, F', _, o, S', e, PostO.mono (T := []) sf .refl (fun _ z => nomatch z) i2 p⟩
    · exact ⟨H0, F0, F, Γ, o, S, e, PostO.mono (T := []) (Same.refl _) .refl (fun _ z => nomatch z) i2 p⟩
  · unfold sFz at e
    split at e
    · exact KpG.after (g' := g.set i _) (T := [i]) kpg_set (h.kp _ _ e) (by simp) i2
    · exact (h.kp _ _ e).mono i2
end
end BK
namespace BK
open PySem PySem.Spec L2
open PyProof.Rows (envOfC)
set_option autoImplicit false
/-! ### calls of the text's own defs -/
abbrev NB : BT := fun _ _ _ => False
abbrev Phi := List D → Option R
def spOf (K : PySem.W.Frag) (ca : Nat → Addr) (φ : Phi) : Sp := fun vs H Q _ => ∃ ds F r, Same F H ∧ NT F ∧ TabsC ca H ∧ Dens K ca F vs ds ∧ φ ds = some r ∧ ∀ v H' F', Ext ca H F H' F' → RV K ca NB H F' H' v r → Q v H'
/-- a def as its callers see it: its value is φ's; dds: the defaults that fill up -/
structure Callee (P : Program) (w : World) (K : PySem.W.Frag) (mg : Str → Option Value) (base : Heap) (ca : Nat → Addr) (k : Nat) (x : Str) (φ : Phi) (dds : List D) : Prop where
  ex : ∃ (f : Addr) (fd : FuncData) (ps : List Str) (dvs : List V) (ds : List Value), FnOk P w K mg base CX0 k f fd ps (spOf K ca φ) ∧ mg x = some (.ref f) ∧ PySem.W.keepIn K (.ref f) = true ∧ Binds K fd ps ds ∧ Vals dvs ds ∧ ∀ F, Dens K ca F dvs dds
theorem Callee.mono {P : Program} {w : World} {K : PySem.W.Frag} {mg : Str → Option Value} {base : Heap} {ca : Nat → Addr} {j k : Nat} {x : Str} {φ : Phi} {dds : List D} (C : Callee P w K mg base ca j x φ dds) (h : j ≤ k) : Callee P w K mg base ca k x φ dds := by
  obtain ⟨f, fd, ps, dvs, ds, F, r⟩ := C.ex
  exact ⟨f, fd, ps, dvs, ds, F.mono h, r⟩
/-- no list within -/
def lfn : Nat → D → Bool
  | _, .non => true
  | _, .bl _ => true
  | _, .int _ => true
  | _, .str _ => true
  | n + 1, .tup xs => xs.all (lfn n)
  | n + 1, .ins _ xs => xs.all (lfn n)
  | _, _ => false
def R.lf : R → Bool
  | .va d => lfn 8 d
  | .tm ds => ds.all (lfn 8)
  | .bw _ _ => false
theorem lf_den {K : PySem.W.Frag} {ca : Nat → Addr} {F F' : Hp} (h : ∀ b o, F b = some o → (∀ xs, o ≠ .lst xs) → F' b = some o) : ∀ (n : Nat) {d : D} {v : V}, lfn n d = true → Den K ca F v d → Den K ca F' v d := by
  have all : ∀ (g : D → Bool), (∀ {d : D} {v : V}, g d = true → Den K ca F v d → Den K ca F' v d) → ∀ {ds : List D} {vs : List V}, ds.all g = true → Dens K ca F vs ds → Dens K ca F' vs ds := by
    intro g hg ds vs e hd
    induction ds generalizing vs with
    | nil => cases hd; exact .nil
    | cons d ds ih =>
      cases hd with
      | cons h1 h2 =>
        rw [List.all_cons, Bool.and_eq_true] at e
        exact .cons (hg e.1 h1) (ih e.2 h2)
  have tup : ∀ {a : Addr} {xs : List V}, SqT K F a xs → SqT K F' a xs := by
    rintro a xs ((z | ⟨o, z⟩) | z)
    · exact .inl (.inl (h _ _ z (by intro ys; intro q; cases q)))
    · exact .inl (.inr ⟨o, h _ _ z (by intro ys; intro q; cases q)⟩)
    · exact .inr z
  intro n
  induction n with
  | zero =>
    intro d v e hd
    cases hd <;> first
      | (simp [lfn] at e; done)
      | constructor
  | succ n ih =>
    intro d v e hd
    cases hd with
    | lst _ _ => simp [lfn] at e
    | rol _ _ => simp [lfn] at e
    | dic _ _ _ => simp [lfn] at e
    | exc _ _ _ _ => simp [lfn] at e
    | tup t hs => exact .tup (tup t) (all (lfn n) ih e hs)
    | ins k t e2 hs => exact .ins k (h _ _ t (by intro ys; intro q; cases q)) e2 (all (lfn n) ih e hs)
    | non => exact .non
    | bl b => exact .bl b
    | int i => exact .int i
    | str x => exact .str x
theorem lf_dens {K : PySem.W.Frag} {ca : Nat → Addr} {F F' : Hp} (h : ∀ b o, F b = some o → (∀ xs, o ≠ .lst xs) → F' b = some o) : ∀ {ds : List D} {vs : List V}, ds.all (lfn 8) = true → Dens K ca F vs ds → Dens K ca F' vs ds
  | [], _, _, hd => by cases hd; exact .nil
  | d :: ds, _, e, hd => by
    cases hd with
    | cons h1 h2 =>
      rw [List.all_cons, Bool.and_eq_true] at e
      exact .cons (lf_den h 8 e.1 h1) (lf_dens h e.2 h2)
/-- of what kind the first item of a list is -/
def hk : List D → Nat
  | [] => 0
  | .str _ :: _ => 1
  | _ => 2
theorem hk_uniq {K : PySem.W.Frag} {ca : Nat → Addr} {F F' : Hp} {vs : List V} {ds es : List D} (h : Dens K ca F vs ds) (h' : Dens K ca F' vs es) : hk ds = hk es := by
  cases h with
  | nil => cases h'; rfl
  | cons a _ =>
    cases h' with
    | cons b _ => cases a <;> cases b <;> rfl
/-- no list of such a kind within -/
def lfk : Nat → List Nat → D → Bool
  | _, _, .non => true
  | _, _, .bl _ => true
  | _, _, .int _ => true
  | _, _, .str _ => true
  | n + 1, ks, .tup xs => xs.all (lfk n ks)
  | n + 1, ks, .ins _ xs => xs.all (lfk n ks)
  | n + 1, ks, .lst xs => !ks.contains (hk xs) && xs.all (lfk n ks)
  | _, _, _ => false
def R.lfk (ks : List Nat) : R → Bool
  | .va d => BK.lfk 8 ks d
  | .tm ds => ds.all (BK.lfk 8 ks)
  | .bw _ _ => false
def lentK : List R → List Nat
  | [] => []
  | .bw _ ds :: rs => hk ds :: lentK rs
  | _ :: rs => lentK rs
theorem lentK_mem {j : Nat} {ds : List D} : ∀ {rs : List R}, R.bw j ds ∈ rs → hk ds ∈ lentK rs
  | r :: rs, h => by
    rcases List.mem_cons.mp h with e | h
    · subst e; exact List.mem_cons_self
    · have := lentK_mem h
      cases r <;> first | exact this | exact List.mem_cons_of_mem _ this
theorem lfk_den {K : PySem.W.Frag} {ca : Nat → Addr} {F F' : Hp} {ks : List Nat} (h : ∀ b o, F b = some o → (∀ xs, o ≠ .lst xs) → F' b = some o) (hl : ∀ b xs ds, F b = some (.lst xs) → Dens K ca F xs ds → ks.contains (hk ds) = false → F' b = some (.lst xs)) : ∀ (n : Nat) {d : D} {v : V}, lfk n ks d = true → Den K ca F v d → Den K ca F' v d := by
  have all : ∀ (g : D → Bool), (∀ {d : D} {v : V}, g d = true → Den K ca F v d → Den K ca F' v d) → ∀ {ds : List D} {vs : List V}, ds.all g = true → Dens K ca F vs ds → Dens K ca F' vs ds := by
    intro g hg ds vs e hd
    induction ds generalizing vs with
    | nil => cases hd; exact .nil
    | cons d ds ih =>
      cases hd with
      | cons h1 h2 =>
        rw [List.all_cons, Bool.and_eq_true] at e
        exact .cons (hg e.1 h1) (ih e.2 h2)
  have tup : ∀ {a : Addr} {xs : List V}, SqT K F a xs → SqT K F' a xs := by
    rintro a xs ((z | ⟨o, z⟩) | z)
    · exact .inl (.inl (h _ _ z (by intro ys; intro q; cases q)))
    · exact .inl (.inr ⟨o, h _ _ z (by intro ys; intro q; cases q)⟩)
    · exact .inr z
  intro n
  induction n with
  | zero =>
    intro d v e hd
    cases hd <;> first
      | (simp [lfk] at e; done)
      | constructor
  | succ n ih =>
    intro d v e hd
    cases hd with
    | lst t hs =>
      unfold lfk at e
      rw [Bool.and_eq_true, Bool.not_eq_true'] at e
      exact .lst (hl _ _ _ t hs e.1) (all (lfk n ks) ih e.2 hs)
    | rol _ _ => simp [lfk] at e
    | dic _ _ _ => simp [lfk] at e
    | exc _ _ _ _ => simp [lfk] at e
    | tup t hs => exact .tup (tup t) (all (lfk n ks) ih e hs)
    | ins k t e2 hs => exact .ins k (h _ _ t (by intro ys; intro q; cases q)) e2 (all (lfk n ks) ih e hs)
    | non => exact .non
    | bl b => exact .bl b
    | int i => exact .int i
    | str x => exact .str x
theorem dens_by {K : PySem.W.Frag} {ca : Nat → Addr} {F F' : Hp} {g : D → Bool} (hg : ∀ {d : D} {v : V}, g d = true → Den K ca F v d → Den K ca F' v d) : ∀ {ds : List D} {vs : List V}, ds.all g = true → Dens K ca F vs ds → Dens K ca F' vs ds
  | [], _, _, hd => by cases hd; exact .nil
  | d :: ds, _, e, hd => by
    cases hd with
    | cons h1 h2 =>
      rw [List.all_cons, Bool.and_eq_true] at e
      exact .cons (hg e.1 h1) (dens_by hg e.2 h2)
def R.isTm : R → Bool
  | .tm _ => true
  | _ => false
/-- the call by values: where an own list is lent the answer has no list within, or none of the kind of a lent one -/
def callR (φ : Phi) (dds : List D) (rs : List R) : Option R := if (rs.any R.isTm) = true then none else (φ (rs.map R.d ++ dds)).bind fun r => if (!rs.any R.isBw || r.lf || r.lfk (lentK rs)) = true then some r else none
section
variable {X : Cx} {ca : Nat → Addr}
theorem call_core {H0 F0 H F : Hp} {σ : L2.St} {Γ : Gm} {vs dvs : List V} {rs : List R} {dds : List D} {φ : Phi} {z : R} {Hs : Hp} {Q : VK} {E : XK} (S : SR X.K ca H0 F0 σ H F Γ) (hr : RVs X.K ca (BB σ Γ) Hs F H vs rs) (hd : Dens X.K ca F dvs dds) (e : callR φ dds rs = some z)
    (q : ∀ v H' F', Ext ca H F H' F' → RV X.K ca (BB σ Γ) H F' H' v z → Q v H') : spOf X.K ca φ (vs ++ dvs) H Q E := by
  classical
  unfold callR at e
  split at e
  · cases e
  rename_i htm
  obtain ⟨r, er, e⟩ := Option.bind_eq_some_iff.mp e
  by_cases hlf : (!rs.any R.isBw || r.lf || r.lfk (lentK rs)) = true
  rotate_left
  · rw [if_neg hlf] at e
    cases e
  rw [if_pos hlf] at e
  cases e
  have s := S.ext.fh
  -- what is lent
  let Bp : Addr → Prop := fun b => ∃ j ds vs, BB σ Γ j b ds ∧ F b = none ∧ H b = some (.lst vs) ∧ Dens X.K ca F vs ds ∧ R.bw j ds ∈ rs
  let F3 : Hp := fun b => if Bp b then H b else F b
  have s13 : Same F F3 := fun b o h => by
    show (if Bp b then H b else F b) = some o
    by_cases hb : Bp b
    · obtain ⟨_, _, _, _, h2, _⟩ := hb
      rw [h2] at h; cases h
    · rw [if_neg hb]; exact h
  have s3 : Same F3 H := fun b o h => by
    have h : (if Bp b then H b else F b) = some o := h
    by_cases hb : Bp b
    · rw [if_pos hb] at h; exact h
    · rw [if_neg hb] at h; exact s b o h
  have dens : ∀ {us : List V} {ts : List R}, RVs X.K ca (BB σ Γ) Hs F H us ts → (∀ t ∈ ts, t.isTm = false) → (∀ t ∈ ts, t.isBw = true → t ∈ rs) → Dens X.K ca F3 us (ts.map R.d) := by
    intro us ts h
    induction h with
    | nil => intro _ _; exact .nil
    | cons h hs ih =>
      rename_i v t us ts
      intro g1 g2
      refine .cons ?_ (ih (fun t ht => g1 t (List.mem_cons_of_mem _ ht)) fun t ht => g2 t (List.mem_cons_of_mem _ ht))
      cases t with
      | va d => exact Den.mono s13 h
      | tm ds => exact absurd (g1 _ List.mem_cons_self) (by simp [R.isTm])
      | bw j ds =>
        obtain ⟨a, ws, rfl, hb, h2, h3, h4⟩ := h
        have hB : Bp a := ⟨j, ds, ws, hb, h2, h3, h4, g2 _ List.mem_cons_self rfl⟩
        refine .lst ?_ (h4.mono s13)
        show (if Bp a then H a else F a) = some (.lst ws)
        rw [if_pos hB]; exact h3
  have htm' : ∀ t ∈ rs, t.isTm = false := fun t ht => by
    cases q : t.isTm with
    | false => rfl
    | true => exact absurd (List.any_eq_true.mpr ⟨t, ht, q⟩) htm
  have nF : NT F := S.ext.nt S.nt0
  have n3 : NT F3 := fun b ps h => by
    have h : (if Bp b then H b else F b) = some (.tbl ps) := h
    by_cases hb : Bp b
    · rw [if_pos hb] at h
      obtain ⟨_, _, _, _, _, h3, _⟩ := hb
      rw [h3] at h; cases h
    · rw [if_neg hb] at h; exact nF b ps h
  refine ⟨rs.map R.d ++ dds, F3, z, s3, n3, S.tc0.mono S.ext.hh, (dens hr htm' fun t ht hb => ht).append (hd.mono s13), er, fun v H' F4 x4 r4 => ?_⟩
  let F5 : Hp := fun b => if Bp b then none else F4 b
  have s15 : Same F F5 := fun b o h => by
    show (if Bp b then none else F4 b) = some o
    by_cases hb : Bp b
    · obtain ⟨_, _, _, _, h2, _⟩ := hb
      rw [h2] at h; cases h
    · rw [if_neg hb]; exact x4.ff _ _ (s13 b o h)
  have s54 : Same F5 F4 := fun b o h => by
    have h : (if Bp b then none else F4 b) = some o := h
    by_cases hb : Bp b
    · rw [if_pos hb] at h; cases h
    · rw [if_neg hb] at h; exact h
  have x5 : Ext ca H F H' F5 := ⟨x4.hh, s15, s54.trans x4.fh, fun b h => by
    have h : (if Bp b then none else F4 b) ≠ none := h
    by_cases hb : Bp b
    · rw [if_pos hb] at h; exact absurd rfl h
    · rw [if_neg hb] at h
      rcases x4.nw b h with z | z
      · have z : (if Bp b then H b else F b) ≠ none := z
        rw [if_neg hb] at z
        exact .inl z
      · exact .inr z, fun _ b ps h => by
    have h : (if Bp b then none else F4 b) = some (.tbl ps) := h
    by_cases hb : Bp b
    · rw [if_pos hb] at h; cases h
    · rw [if_neg hb] at h; exact x4.nt n3 b ps h⟩
  by_cases hbw : rs.any R.isBw = true
  · have lf : z.lf = true ∨ z.lfk (lentK rs) = true := by
      rw [hbw] at hlf
      simpa using hlf
    have res : ∀ b o, F4 b = some o → (∀ xs, o ≠ .lst xs) → F5 b = some o := fun b o h hn => by
      show (if Bp b then none else F4 b) = some o
      by_cases hb : Bp b
      · exfalso
        obtain ⟨_, _, ws, _, h2, h3, _⟩ := id hb
        have h4 : F3 b = some (.lst ws) := by
          show (if Bp b then H b else F b) = _
          rw [if_pos hb]; exact h3
        have h5 := x4.ff _ _ h4
        rw [h] at h5
        cases h5
        exact hn ws rfl
      · rw [if_neg hb]; exact h
    have resl : ∀ b xs ds, F4 b = some (.lst xs) → Dens X.K ca F4 xs ds → (lentK rs).contains (hk ds) = false → F5 b = some (.lst xs) := fun b xs ds h hd hn => by
      show (if Bp b then none else F4 b) = some (.lst xs)
      by_cases hb : Bp b
      · exfalso
        obtain ⟨j, es, ws, _, h2, h3, h4, h5⟩ := id hb
        have h6 : F3 b = some (.lst ws) := by
          show (if Bp b then H b else F b) = _
          rw [if_pos hb]; exact h3
        have h7 := x4.ff _ _ h6
        rw [h] at h7
        cases h7
        have h8 := lentK_mem h5
        rw [← hk_uniq hd h4, ← List.contains_iff_mem, hn] at h8
        cases h8
      · rw [if_neg hb]; exact h
    have den : ∀ {d : D} {v : V}, (lfn 8 d = true ∨ BK.lfk 8 (lentK rs) d = true) → Den X.K ca F4 v d → Den X.K ca F5 v d := fun h hd => by
      rcases h with h | h
      · exact lf_den res 8 h hd
      · exact lfk_den res resl 8 h hd
    refine q v H' F5 x5 ?_
    cases z with
    | va d => exact den lf r4
    | tm ds =>
      obtain ⟨a, ws, rfl, h1, h2, h3, h4⟩ := r4
      refine ⟨a, ws, rfl, h1, ?_, h3, ?_⟩
      · show (if Bp a then none else F4 a) = none
        split
        · rfl
        · exact h2
      · rcases lf with lf | lf
        · exact dens_by (fun e => den (.inl e)) lf h4
        · exact dens_by (fun e => den (.inr e)) lf h4
    | bw j ds => rcases lf with lf | lf <;> cases lf
  · have e5 : F5 = F4 := funext fun b => by
      show (if Bp b then none else F4 b) = F4 b
      rw [if_neg fun ⟨_, _, _, _, _, _, _, z⟩ => hbw (List.any_eq_true.mpr ⟨_, z, rfl⟩)]
    rw [e5] at x5
    refine q v H' F4 x5 ?_
    cases z with
    | va d => exact r4
    | tm ds => exact r4
    | bw j ds =>
      obtain ⟨_, _, _, h, _⟩ := r4
      exact h.elim
variable {k j : Nat} {x : Str} {φ : Phi} {dds : List D} {p pos : Pos} {e : Expr} {es : List Expr} {ms : Gm → Option (List R)}
theorem t_fn {dvs : List V} {E : XK} (hd : ∀ F, Dens X.K ca F dvs dds) {σ : L2.St} {H : Hp} {Q : VK} (h : tEV X.K ca (eA (callR φ dds) ms) σ H Q) : tCall (spOf X.K ca φ) dvs E (tAV X.K ca ms) σ H Q := by
  obtain ⟨H0, F0, F, Γ, z, S, e, q⟩ := h
  unfold eA at e
  obtain ⟨rs, er, e⟩ := Option.bind_eq_some_iff.mp e
  refine ⟨H0, F0, F, Γ, rs, S, er, fun vs H1 F1 x1 r1 => ?_⟩
  exact call_core (S.mono x1) r1 (hd F1) e fun v H2 F2 x2 r2 => q v H2 F2 (x1.trans x2) (r2.back x1.hh)
theorem ev_fn (C : Callee X.prog X.w X.K X.mg X.base ca j x φ dds) (hr : Room j X.A) (hg : Gl X x) (ha : AV X ca (e :: es) ms) (hdb : (x == ("__debug__" : Str)) = false := by decide)
    (he : starEach (e :: es) X.env = (false, eval e X.env) :: starEach es X.env := by rfl) (hpl : (backTo pos (starEach es X.env)).any (·.1) = false := by rfl) : EV X ca (.Call (.Name x p) (e :: es) [] pos) (eA (callR φ dds) ms) := by
  obtain ⟨f, fd, ps, dvs, ds, G, hm, hk, hb, hv, hd⟩ := C.ex
  exact pe_imp (pe_call G hr hg hm hk hb hv pass0 ha hdb he hpl) fun σ H Q h => t_fn hd h
theorem ev_fn0 (C : Callee X.prog X.w X.K X.mg X.base ca j x φ dds) (hr : Room j X.A) (hg : Gl X x) (hdb : (x == ("__debug__" : Str)) = false := by decide) : EV X ca (.Call (.Name x p) [] [] pos) (eA (callR φ dds) aN) := by
  obtain ⟨f, fd, ps, dvs, ds, G, hm, hk, hb, hv, hd⟩ := C.ex
  refine pe_imp (pe_call0 G hr hg hm hk hb hv pass0 hdb) fun σ H Q h => ?_
  obtain ⟨H0, F0, F, Γ, z, S, e, q⟩ := h
  exact call_core (E := E0) (Hs := H) S (rs := []) .nil (hd F) e q
end
/-! ### a def by its body -/
/-- the def as a function of data -/
def phi (m : Gm → Option Out) (N n : Nat) : Phi := fun ds => if ds.length = n then match m (ds.map Slot.va ++ List.replicate (N - n) Slot.un) with
  | some (.rt r) => some (retR r)
  | some (.nx _) => some (.va .non)
  | _ => none
  else none
theorem start_get {N : List Str} {vs : List V} {i : Nat} {v : V} (h : vs[i]? = some v) : (L2.start N vs)[i]? = some (some v) := by
  unfold L2.start
  have hi : i < vs.length := (List.getElem?_eq_some_iff.mp h).1
  rw [List.getElem?_append_left (by simpa using hi), List.getElem?_map, h]
  rfl
theorem sr_start {K : PySem.W.Frag} {ca : Nat → Addr} {H F : Hp} {N : List Str} {vs : List V} {ds : List D} (s : Same F H) (nt : NT F) (tc : TabsC ca H) (h : Dens K ca F vs ds) : SR K ca H F (L2.start N vs) H F (ds.map Slot.va ++ List.replicate (N.length - ds.length) Slot.un) := by
  have key : ∀ (i : Nat) (x : Slot), (ds.map Slot.va ++ List.replicate (N.length - ds.length) Slot.un)[i]? = some x → x = .un ∨ ∃ d, x = .va d ∧ ds[i]? = some d := by
    intro i x e
    by_cases hi : i < ds.length
    · rw [List.getElem?_append_left (by simpa using hi), List.getElem?_map] at e
      cases q : ds[i]? with
      | none => rw [q] at e; cases e
      | some d => rw [q] at e; cases e; exact .inr ⟨d, rfl, rfl⟩
    · rw [List.getElem?_append_right (by simpa using hi), List.getElem?_replicate] at e
      split at e
      · cases e; exact .inl rfl
      · cases e
  refine ⟨.refl s, nt, tc, ?_, fun i d e => ?_, fun i es e => ?_, fun i j es fs a n e1 e2 => ?_, Own.nil fun i u e => ?_⟩
  · unfold L2.start
    rw [List.length_append, List.length_append, List.length_map, List.length_map, List.length_replicate, List.length_replicate, h.length]
  · rcases key i _ e with z | ⟨d', z, g⟩
    · cases z
    · cases z
      obtain ⟨v, h1, h2⟩ := h.getV g
      exact ⟨v, start_get h1, h2⟩
  · rcases key i _ e with z | ⟨d', z, g⟩ <;> cases z
  · rcases key i _ e1 with z | ⟨d', z, g⟩ <;> cases z
  · rcases key i _ e with z | ⟨d', z, g⟩ <;> cases z
section
variable {P : Program} {w : World} {K : PySem.W.Frag} {mg : Str → Option Value} {base : Heap} {ca : Nat → Addr}
/-- a def as it stands, its defaults of any kind -/
structure FunA (K : PySem.W.Frag) (x qual : Str) (st : Stmt) (f : Addr) (fd : FuncData) : Prop where
  ex : ∃ (oc : Value) (od : Option Addr) (dV kV doc pm : Value) (an : Option Addr) (cdv ct : Value) (osl : Array (Option Value)),
    fd = PySem.W.fnOf x qual (defArgs st) (defBody st) (defScope st) dV kV doc pm an cdv ct ∧ K.lookup f = some ⟨oc, od, .func fd, osl⟩ ∧ PySem.W.codeIn K cdv qual = true
  kp : PySem.W.keepIn K (.ref f) = true
theorem _root_.L2.Fun.toA {x qual : Str} {st : Stmt} {f : Addr} {fd : FuncData} (F : Fun K x qual st f fd) : FunA K x qual st f fd := by
  obtain ⟨oc, od, kV, doc, pm, an, cdv, ct, osl, e, lk, hcd⟩ := F.ex
  exact ⟨⟨oc, od, _, kV, doc, pm, an, cdv, ct, osl, e, lk, hcd⟩, F.kp⟩
theorem funA_mk {x qual : Str} {st : Stmt} {f : Addr} {oc : Value} {od an : Option Addr} {osl : Array (Option Value)} {dV kV doc pm cdv ct : Value} (l : K.lookup f = some ⟨oc, od, .func (PySem.W.fnOf x qual (defArgs st) (defBody st) (defScope st) dV kV doc pm an cdv ct), osl⟩)
    (c : PySem.W.codeIn K cdv qual = true) (k : PySem.W.keepIn K (.ref f) = true) : FunA K x qual st f (PySem.W.fnOf x qual (defArgs st) (defBody st) (defScope st) dV kV doc pm an cdv ct) := ⟨⟨oc, od, dV, kV, doc, pm, an, cdv, ct, osl, rfl, l, c⟩, k⟩
theorem FunA.ok {x qual : Str} {st : Stmt} {f : Addr} {fd : FuncData} {N ps : List Str} {k : Nat} {sp : Sp} (F : FunA K x qual st f fd) (S : FnScope N ps (defScope st)) (len : ∀ vs H Q E, sp vs H Q E → vs.length = ps.length)
    (hbody : ∀ (cdv : Value), fd.code = cdv → ∀ (A : Around) (outer : List Env) (s : Shared) (H : Hp) (vs : List V) (Q : VK) (E : XK), Room k (A.deeper (envOfC qual (defScope st) s.heap.objs.size f cdv)) → sp vs H Q E →
      ∃ t, PSs (cxOf CX0 P w K mg base N qual (defScope st) f cdv A outer s H E).nox (defBody st) t ∧ t { nx := fun _ H' => Q .non H', rt := Q } (L2.start N vs) H) : FnOk P w K mg base CX0 (k + 1) f fd ps sp := by
  obtain ⟨oc, od, dV, kV, doc, pm, an, cdv, ct, osl, rfl, lk, hcd⟩ := F.ex
  refine fn_of lk hcd S len fun A outer s H vs Q E hr hsp => ?_
  obtain ⟨t, h, q⟩ := hbody cdv rfl A outer s H vs Q E hr hsp
  exact ⟨t, h.nox, q⟩
theorem fn_okC {x qual : Str} {st : Stmt} {f : Addr} {fd : FuncData} {N ps : List Str} {k n nN : Nat} {m : Gm → Option Out} {T : List Nat} {φ : Phi} (F : FunA K x qual st f fd) (S : FnScope N ps (defScope st)) (hn : ps.length = n) (hN : N.length = nN) (hφ : φ = phi m nN n)
    (hbody : ∀ (cdv : Value), fd.code = cdv → ∀ (A : Around) (outer : List Env) (s : Shared) (H : Hp) (E : XK), Room k (A.deeper (envOfC qual (defScope st) s.heap.objs.size f cdv)) →
      SVs (cxOf CX0 P w K mg base N qual (defScope st) f cdv A outer s H E).nox ca (defBody st) m T) : FnOk P w K mg base CX0 (k + 1) f fd ps (spOf K ca φ) := by
  subst hφ
  subst hn
  subst hN
  refine F.ok S (fun vs H Q E ⟨ds, F0, r, s, _, _, h, e, _⟩ => ?_) (fun cdv hcd A outer s H vs Q E hr ⟨ds, F0, r, sm, nt, tc, h, e, q⟩ => ?_)
  · unfold phi at e
    split at e
    · rw [h.length]; assumption
    · cases e
  · have hb := hbody cdv hcd A outer s H E hr
    refine ⟨_, hb.ps, ?_⟩
    unfold phi at e
    split at e
    · rename_i hl
      have S0 : SR K ca H F0 (L2.start N vs) H F0 (ds.map Slot.va ++ List.replicate (N.length - ps.length) Slot.un) := by
        rw [← hl]
        exact sr_start sm nt tc h
      split at e
      · rename_i r' em
        cases e
        refine ⟨H, F0, F0, _, _, S0, em, fun v H' F' x rv => q v H' F' x ?_⟩
        cases r' with
        | va d => exact rv
        | tm ds => exact rv
        | bw j ds =>
          obtain ⟨_, _, _, z, _⟩ := rv
          exact z.elim
      · rename_i g em
        cases e
        exact ⟨H, F0, F0, _, _, S0, em, fun σ' H' F' S' _ _ => q _ H' F' S'.ext .non⟩
      · cases e
    · cases e
theorem fn_ok {x qual : Str} {st : Stmt} {f : Addr} {fd : FuncData} {N ps : List Str} {k n nN : Nat} {m : Gm → Option Out} {T : List Nat} {φ : Phi} (F : FunA K x qual st f fd) (S : FnScope N ps (defScope st)) (hn : ps.length = n) (hN : N.length = nN) (hφ : φ = phi m nN n)
    (hbody : ∀ (cdv : Value) (A : Around) (outer : List Env) (s : Shared) (H : Hp) (E : XK), Room k (A.deeper (envOfC qual (defScope st) s.heap.objs.size f cdv)) →
      SVs (cxOf CX0 P w K mg base N qual (defScope st) f cdv A outer s H E).nox ca (defBody st) m T) : FnOk P w K mg base CX0 (k + 1) f fd ps (spOf K ca φ) :=
  fn_okC F S hn hN hφ fun cdv _ => hbody cdv
theorem fun_dflt {x qual : Str} {st : Stmt} {f T : Addr} {oc : Value} {od an : Option Addr} {osl : Array (Option Value)} {kV doc pm cdv ct : Value} {o : Obj} {n : Nat} (l : K.lookup f = some ⟨oc, od, .func (PySem.W.fnOf x qual (defArgs st) (defBody st) (defScope st) (.ref T) kV doc pm an cdv ct), osl⟩)
    (c : PySem.W.codeIn K cdv qual = true) (k : PySem.W.keepIn K (.ref f) = true) (t : K.lookup T = some o) (to : o.data = .seq #[.none] n) : FunD K x qual (defArgs st) (defBody st) (defScope st) [.non] [] f (PySem.W.fnOf x qual (defArgs st) (defBody st) (defScope st) (.ref T) kV doc pm an cdv ct) :=
  ⟨⟨oc, od, _, kV, doc, pm, an, cdv, ct, osl, rfl, l, c, .inr ⟨by simp, T, o, [.none], n, rfl, t, to, .cons rfl .nil⟩, .inl rfl⟩, k⟩
theorem fn_callee {x qual : Str} {st : Stmt} {f : Addr} {fd : FuncData} {ps : List Str} {k : Nat} {φ : Phi} {ds : List Value} {dvs : List V} {dds : List D} (F : FunA K x qual st f fd) (G : FnOk P w K mg base CX0 k f fd ps (spOf K ca φ)) (hm : mg x = some (.ref f)) (hb : Binds K fd ps ds) (hv : Vals dvs ds) (hd : ∀ F, Dens K ca F dvs dds) :
    Callee P w K mg base ca k x φ dds := ⟨f, fd, ps, dvs, ds, G, hm, F.kp, hb, hv, hd⟩
end
end BK
namespace BK
open PySem PySem.Spec L2
open PyProof.Rows (envOfC)
set_option autoImplicit false
/-! ### what is walked -/
def listR : R → Option (List Nat × List D)
  | .bw j ds => some ([j], ds)
  | .tm ds => some ([], ds)
  | .va (.lst ds) => some ([], ds)
  | .va (.rol ds) => some ([], ds)
  | _ => none
def signs (z : Str) : List D := z.cps.toList.map fun c => .str ⟨#[c]⟩
def seqR : R → Option (List Nat × List D)
  | .va (.tup ds) => some ([], ds)
  | .va (.str z) => some ([], signs z)
  | r => listR r
def iSeq (m : Gm → Option R) : Gm → Option (List Nat × List D) := fun g => (m g).bind seqR
section
variable {X : Cx} {ca : Nat → Addr}
theorem pi_or {tg e : Expr} {t t' : TI} (h : PI X tg e t) (h' : PI X tg e t') : PI X tg e (fun σ H R => t σ H R ∨ t' σ H R) := ⟨fun pins s σ H R I q => by
  rcases q with q | q
  · exact h.run pins s σ H R I q
  · exact h'.run pins s σ H R I q⟩
/-- a list walked: what J needs -/
structure LOk (K : PySem.W.Frag) (ca : Nat → Addr) (F1 : Hp) (a : Addr) (PL : List (Nat × Addr × List D)) (ds : List D) : Prop where
  rd : ∀ (H F : Hp), Same F1 F → Same F H → (∀ p ∈ PL, ∃ vs, H p.2.1 = some (.lst vs) ∧ Dens K ca F vs p.2.2) → ∃ vs, SqL K H a vs ∧ Dens K ca F vs ds
theorem LOk.mono {K : PySem.W.Frag} {F1 F2 : Hp} {a : Addr} {PL PL' : List (Nat × Addr × List D)} {ds : List D} (h : LOk K ca F1 a PL ds) (s : Same F1 F2) (i : ∀ p ∈ PL, p ∈ PL') : LOk K ca F2 a PL' ds :=
  ⟨fun H F s1 s2 q => h.rd H F (s.trans s1) s2 fun p hp => q p (i p hp)⟩
/-- a list result is ready to be walked -/
theorem RV.walk {K : PySem.W.Frag} {σ : L2.St} {Γ : Gm} {H F H1 F1 : Hp} {v : V} {r : R} {ps : List Nat} {ds : List D} (x : Ext ca H F H1 F1) (h : RV K ca (BB σ Γ) H F1 H1 v r) (e : listR r = some (ps, ds)) :
    ∃ a F2 PL, v = .ref a ∧ Ext ca H F H1 F2 ∧ Same F1 F2 ∧ LOk K ca F2 a PL ds ∧ ∀ q ∈ PL, q.1 ∈ ps ∧ BB σ Γ q.1 q.2.1 q.2.2 := by
  cases r with
  | bw j es =>
    cases e
    obtain ⟨a, vs, rfl, hb, h2, h3, h4⟩ := h
    refine ⟨a, F1, [(j, a, ds)], rfl, x, Same.refl _, ⟨fun H' F' s1 s2 q => ?_⟩, fun q hq => ?_⟩
    · obtain ⟨ws, g1, g2⟩ := q _ (List.mem_singleton.mpr rfl)
      exact ⟨ws, SqL.of g1, g2⟩
    · rw [List.mem_singleton] at hq
      subst hq
      exact ⟨by simp, hb⟩
  | tm es =>
    cases e
    obtain ⟨a, vs, rfl, h1, h2, h3, h4⟩ := h
    exact ⟨a, upd F1 a (.lst vs), [], rfl, x.frz h1 h3 h2, same_upd h2, ⟨fun H' F' s1 s2 _ => ⟨vs, SqL.of (s2 _ _ (s1 _ _ upd_same)), h4.mono ((same_upd h2).trans s1)⟩⟩, fun q hq => by cases hq⟩
  | va d =>
    cases d <;> first
      | (cases e; done)
      | (cases e
         cases h with
         | lst h hs => exact ⟨_, F1, [], rfl, x, Same.refl _, ⟨fun H' F' s1 s2 _ => ⟨_, rd_l (.inl ((s1.trans s2) _ _ h)), hs.mono s1⟩⟩, fun q hq => by cases hq⟩)
      | (cases e
         cases h with
         | rol h hs => exact ⟨_, F1, [], rfl, x, Same.refl _, ⟨fun H' F' s1 s2 _ => ⟨_, (s1.trans s2).seq h, hs.mono s1⟩⟩, fun q hq => by cases hq⟩)
/-- .. of an argument (no temporary) -/
def listA : R → Option (List Nat × List D)
  | .bw j ds => some ([j], ds)
  | .va (.lst ds) => some ([], ds)
  | .va (.rol ds) => some ([], ds)
  | _ => none
theorem RV.walkA {K : PySem.W.Frag} {σ : L2.St} {Γ : Gm} {Hs H1 F1 : Hp} {v : V} {r : R} {ps : List Nat} {ds : List D} (h : RV K ca (BB σ Γ) Hs F1 H1 v r) (e : listA r = some (ps, ds)) :
    ∃ a PL, v = .ref a ∧ LOk K ca F1 a PL ds ∧ ∀ q ∈ PL, q.1 ∈ ps ∧ BB σ Γ q.1 q.2.1 q.2.2 := by
  cases r with
  | bw j es =>
    cases e
    obtain ⟨a, vs, rfl, hb, h2, h3, h4⟩ := h
    refine ⟨a, [(j, a, ds)], rfl, ⟨fun H' F' s1 s2 q => ?_⟩, fun q hq => ?_⟩
    · obtain ⟨ws, g1, g2⟩ := q _ (List.mem_singleton.mpr rfl)
      exact ⟨ws, SqL.of g1, g2⟩
    · rw [List.mem_singleton] at hq
      subst hq
      exact ⟨by simp, hb⟩
  | tm es => cases e
  | va d =>
    cases d <;> first
      | (cases e; done)
      | (cases e
         cases h with
         | lst h hs => exact ⟨_, [], rfl, ⟨fun H' F' s1 s2 _ => ⟨_, rd_l (.inl ((s1.trans s2) _ _ h)), hs.mono s1⟩⟩, fun q hq => by cases hq⟩)
      | (cases e
         cases h with
         | rol h hs => exact ⟨_, [], rfl, ⟨fun H' F' s1 s2 _ => ⟨_, (s1.trans s2).seq h, hs.mono s1⟩⟩, fun q hq => by cases hq⟩)
theorem jok_list {K : PySem.W.Frag} {F1 : Hp} {a : Addr} {PL : List (Nat × Addr × List D)} {ds : List D} (h : LOk K ca F1 a PL ds) : JOk K ca F1 (Itl K a) PL ds := by
  refine ⟨fun i d H F e s1 s2 q => ?_, fun H F s1 s2 q => ?_⟩
  · obtain ⟨vs, g1, g2⟩ := h.rd H F s1 s2 q
    obtain ⟨v, e1, e2⟩ := g2.getV e
    refine ⟨⟨vs, v, g1, e1⟩, ?_⟩
    rintro x H' ⟨rfl, y⟩
    have := y vs g1
    rw [e1] at this
    cases this
    exact ⟨F, .refl s2, e2⟩
  · obtain ⟨vs, g1, g2⟩ := h.rd H F s1 s2 q
    exact ⟨vs, g1, by rw [g2.length]; exact Nat.le_refl _⟩
variable {tg e : Expr} {es : List Expr} {m : Gm → Option R} {ms : Gm → Option (List R)} {p pos : Pos}
theorem iv_seq (he : EV X ca e m) : IV X ca tg e (iSeq m) := by
  refine pi_imp (pi_or (pi_list he) (pi_or (pi_tup he) (pi_str he))) ?_
  rintro σ H R' ⟨H0, F0, F, Γ, ⟨ps, ds⟩, S, e, q⟩
  unfold iSeq at e
  obtain ⟨r, er, e⟩ := Option.bind_eq_some_iff.mp e
  have lst : listR r = some (ps, ds) → iList X.K (tEV X.K ca m) σ H R' := fun e => by
    refine ⟨H0, F0, F, Γ, r, S, er, fun v H1 F1 x1 r1 => ?_⟩
    obtain ⟨a, F2, PL, rfl, x2, s2, lo, hb⟩ := RV.walk x1 r1 e
    refine ⟨a, rfl, ?_, q _ H1 F2 PL x2 (jok_list lo) hb⟩
    have hpin : ∀ p ∈ PL, ∃ vs, H1 p.2.1 = some (.lst vs) ∧ Dens X.K ca F2 vs p.2.2 := fun p hp => by
      obtain ⟨z1, z2⟩ := (hb p hp).2
      obtain ⟨a, vs, y1, _, _, y4, y5⟩ := (S.mono x2).ow _ _ z2
      rw [z1] at y1
      cases y1
      exact ⟨vs, y4, y5⟩
    obtain ⟨vs, g1, _⟩ := lo.rd H1 F2 (Same.refl _) x2.fh hpin
    exact ⟨vs, g1⟩
  unfold seqR at e
  split at e
  · rename_i es
    cases e
    refine .inr (.inl ⟨H0, F0, F, Γ, _, S, er, fun v H1 F1 x1 r1 => ?_⟩)
    cases r1 with
    | @tup a xs _ t hs =>
      refine ⟨_, rfl, ⟨_, Same.seqT x1.fh t⟩, q _ H1 F1 [] x1 ⟨fun i d H2 F2 e s1 s2 _ => ?_, fun H2 F2 s1 s2 _ => ?_⟩ fun q hq => by cases hq⟩
      · obtain ⟨v, e1, e2⟩ := hs.getV e
        have t2 := Same.seqT (s1.trans s2) t
        refine ⟨⟨_, v, t2, e1⟩, ?_⟩
        rintro x H' ⟨rfl, y⟩
        have := y _ t2
        rw [e1] at this
        cases this
        exact ⟨F2, .refl s2, e2.mono s1⟩
      · exact ⟨_, Same.seqT (s1.trans s2) t, by rw [hs.length]; exact Nat.le_refl _⟩
  · rename_i z
    cases e
    refine .inr (.inr ⟨H0, F0, F, Γ, _, S, er, fun v H1 F1 x1 r1 => ?_⟩)
    cases r1
    refine ⟨z, rfl, q _ H1 F1 [] x1 ⟨fun i d H2 F2 e s1 s2 _ => ?_, fun H2 F2 s1 s2 _ => ?_⟩ fun q hq => by cases hq⟩
    · have hi : i < (signs z).length := (List.getElem?_eq_some_iff.mp e).1
      have hz : (signs z).length = z.cps.size := by simp [signs]
      refine ⟨by show i < z.cps.size; omega, ?_⟩
      rintro x H' ⟨rfl, c, hc, rfl⟩
      refine ⟨F2, .refl s2, ?_⟩
      have hs : (signs z)[i]? = some (.str ⟨#[c]⟩) := by
        unfold signs
        rw [List.getElem?_map, Array.getElem?_toList, hc]
        rfl
      have e : (signs z)[i]? = some d := e
      rw [hs] at e
      cases e
      exact .str _
    · show z.cps.size ≤ (signs z).length
      simp [signs]
  · exact .inl (lst e)
/-! ranges -/
def rangeL (lo : Int) : Nat → List D
  | 0 => []
  | n + 1 => .int lo :: rangeL (lo + 1) n
theorem rangeL_length (n : Nat) : ∀ lo, (rangeL lo n).length = n := by
  induction n with
  | zero => intro _; rfl
  | succ n ih => intro lo; show (rangeL (lo + 1) n).length + 1 = n + 1; rw [ih]
theorem rangeL_get (n : Nat) : ∀ (lo : Int) (i : Nat), i < n → (rangeL lo n)[i]? = some (.int (lo + i)) := by
  induction n with
  | zero => intro _ i h; omega
  | succ n ih =>
    intro lo i h
    cases i with
    | zero => show some (D.int lo) = _; simp
    | succ i =>
      show (rangeL (lo + 1) n)[i]? = _
      rw [ih (lo + 1) i (by omega)]
      congr 2
      omega
def rg1R (rs : List R) : Option (List Nat × List D) := match rs with
  | [.va (.int j)] => if -(2 ^ 62) ≤ j ∧ j < 2 ^ 62 then some ([], rangeL 0 j.toNat) else none
  | _ => none
def rg2R (rs : List R) : Option (List Nat × List D) := match rs with
  | [.va (.int i), .va (.int j)] => if -(2 ^ 62) ≤ i ∧ i < 2 ^ 62 ∧ -(2 ^ 62) ≤ j ∧ j < 2 ^ 62 then some ([], rangeL i (j - i).toNat) else none
  | _ => none
def iA (f : List R → Option (List Nat × List D)) (ms : Gm → Option (List R)) : Gm → Option (List Nat × List D) := fun g => (ms g).bind f
theorem jok_rng {K : PySem.W.Frag} {F1 : Hp} {PL : List (Nat × Addr × List D)} (lo : Int) (n : Nat) : JOk K ca F1 (Itr lo n) PL (rangeL lo n) := by
  refine ⟨fun i d H F e s1 s2 q => ?_, fun H F s1 s2 q => ?_⟩
  · have hi : i < n := by
      have := (List.getElem?_eq_some_iff.mp e).1
      rw [rangeL_length] at this
      exact this
    rw [rangeL_get n lo i hi] at e
    cases e
    refine ⟨hi, ?_⟩
    rintro x H' ⟨rfl, rfl⟩
    exact ⟨F, .refl s2, .int _⟩
  · show n ≤ (rangeL lo n).length
    rw [rangeL_length]
    exact Nat.le_refl _
theorem iv_rg1 {a : Expr} (hg : Gl X "range") (hm : X.mg "range" = none) (ha : AV X ca [a] ms) (hs : starEach [a] X.env = [(false, eval a X.env)] := by rfl) : IV X ca tg (.Call (.Name "range" p) [a] [] pos) (iA rg1R ms) := by
  refine pi_imp (pi_range1 hg hm ha hs) ?_
  rintro σ H R' ⟨H0, F0, F, Γ, ⟨ps, ds⟩, S, e, q⟩
  unfold iA at e
  obtain ⟨rs, er, e⟩ := Option.bind_eq_some_iff.mp e
  refine ⟨H0, F0, F, Γ, rs, S, er, fun vs H1 F1 x1 r1 => ?_⟩
  unfold rg1R at e
  split at e
  · split at e
    · rename_i h
      cases e
      cases r1 with
      | cons h1 hs =>
        cases hs
        cases h1
        exact ⟨_, rfl, h.1, h.2, q _ H1 F1 [] x1 (jok_rng 0 _) fun q hq => by cases hq⟩
    · cases e
  · cases e
theorem iv_rg2 {a b : Expr} (hg : Gl X "range") (hm : X.mg "range" = none) (ha : AV X ca [a, b] ms) (hs : starEach [a, b] X.env = [(false, eval a X.env), (false, eval b X.env)] := by rfl) (hs2 : starEach [b] X.env = [(false, eval b X.env)] := by rfl) : IV X ca tg (.Call (.Name "range" p) [a, b] [] pos) (iA rg2R ms) := by
  refine pi_imp (pi_range2 hg hm ha hs hs2) ?_
  rintro σ H R' ⟨H0, F0, F, Γ, ⟨ps, ds⟩, S, e, q⟩
  unfold iA at e
  obtain ⟨rs, er, e⟩ := Option.bind_eq_some_iff.mp e
  refine ⟨H0, F0, F, Γ, rs, S, er, fun vs H1 F1 x1 r1 => ?_⟩
  unfold rg2R at e
  split at e
  · split at e
    · rename_i h
      cases e
      cases r1 with
      | cons h1 hs =>
        cases hs with
        | cons h2 hs =>
          cases hs
          cases h1
          cases h2
          exact ⟨_, _, rfl, h, q _ H1 F1 [] x1 (jok_rng _ _) fun q hq => by cases hq⟩
    · cases e
  · cases e
/-! enumerate, zip, reversed -/
def enumL : Nat → List D → List D
  | _, [] => []
  | n, d :: ds => .tup [.int (n : Int), d] :: enumL (n + 1) ds
theorem enumL_get : ∀ (ds : List D) (n i : Nat), (enumL n ds)[i]? = (ds[i]?).map fun d => .tup [.int ((n + i : Nat) : Int), d]
  | [], n, i => by simp [enumL]
  | d :: ds, n, 0 => by simp [enumL]
  | d :: ds, n, i + 1 => by
    show (enumL (n + 1) ds)[i]? = (ds[i]?).map _
    rw [enumL_get ds (n + 1) i, show n + 1 + i = n + (i + 1) by omega]
theorem enumL_length : ∀ (ds : List D) (n : Nat), (enumL n ds).length = ds.length
  | [], _ => rfl
  | d :: ds, n => congrArg (· + 1) (enumL_length ds (n + 1))
def zipL : List D → List D → List D
  | a :: as, b :: bs => .tup [a, b] :: zipL as bs
  | _, _ => []
theorem zipL_get : ∀ (as bs : List D) (i : Nat) (d : D), (zipL as bs)[i]? = some d → ∃ a b, as[i]? = some a ∧ bs[i]? = some b ∧ d = .tup [a, b]
  | [], _, i, d, h => by simp [zipL] at h
  | a :: as, [], i, d, h => by simp [zipL] at h
  | a :: as, b :: bs, 0, d, h => by
    cases h
    exact ⟨a, b, rfl, rfl, rfl⟩
  | a :: as, b :: bs, i + 1, d, h => zipL_get as bs i d h
theorem zipL_length : ∀ (as bs : List D), (zipL as bs).length = min as.length bs.length
  | [], _ => by simp [zipL]
  | a :: as, [] => by simp [zipL]
  | a :: as, b :: bs => by
    show (zipL as bs).length + 1 = _
    rw [zipL_length as bs, List.length_cons, List.length_cons]
    omega
def enR (rs : List R) : Option (List Nat × List D) := match rs with
  | [r] => (listA r).map fun p => (p.1, enumL 0 p.2)
  | _ => none
def zpR (rs : List R) : Option (List Nat × List D) := match rs with
  | [.va (.tup xs), .va (.tup ys)] => some ([], zipL xs ys)
  | [r, s] => (listA r).bind fun p => (listA s).map fun q => (p.1 ++ q.1, zipL p.2 q.2)
  | _ => none
def rvR (rs : List R) : Option (List Nat × List D) := match rs with
  | [r] => (listA r).map fun p => (p.1, p.2.reverse)
  | _ => none
theorem pair_den {K : PySem.W.Frag} {H F : Hp} {a : Addr} {v w : V} {d e : D} (s : Same F H) (n : H a = none) (h1 : Den K ca F v d) (h2 : Den K ca F w e) : ∃ F', Ext ca H F (upd H a (.tup [v, w])) F' ∧ Den K ca F' (.ref a) (.tup [d, e]) :=
  ⟨_, .new s _ n, .tup (SqT.of upd_same) (.cons (h1.mono (same_upd (s.free n))) (.cons (h2.mono (same_upd (s.free n))) .nil))⟩
theorem pins_ok {K : PySem.W.Frag} {H0 F0 H F : Hp} {σ : L2.St} {Γ : Gm} {PL : List (Nat × Addr × List D)} {ps : List Nat} (S : SR K ca H0 F0 σ H F Γ) (hb : ∀ q ∈ PL, q.1 ∈ ps ∧ BB σ Γ q.1 q.2.1 q.2.2) : ∀ p ∈ PL, ∃ vs, H p.2.1 = some (.lst vs) ∧ Dens K ca F vs p.2.2 := fun p hp => by
  obtain ⟨z1, z2⟩ := (hb p hp).2
  obtain ⟨a, vs, y1, _, _, y4, y5⟩ := S.ow _ _ z2
  rw [z1] at y1
  cases y1
  exact ⟨vs, y4, y5⟩
theorem iv_enum {elts : List Expr} {kk : Nat} {tpos : Pos} (hg : Gl X "enumerate") (hm : X.mg "enumerate" = none) (ha : AV X ca [e] ms) (hs : starEach [e] X.env = [(false, eval e X.env)] := by rfl) : IV X ca (.Tuple elts kk tpos) (.Call (.Name "enumerate" p) [e] [] pos) (iA enR ms) := by
  refine pi_imp (pi_enum hg hm ha hs) ?_
  rintro σ H R' ⟨H0, F0, F, Γ, ⟨ps, ds⟩, S, e, q⟩
  unfold iA at e
  obtain ⟨rs, er, e⟩ := Option.bind_eq_some_iff.mp e
  refine ⟨H0, F0, F, Γ, rs, S, er, fun vs H1 F1 x1 r1 => ?_⟩
  unfold enR at e
  split at e
  · rename_i r
    obtain ⟨⟨ps1, ds1⟩, el, e⟩ := Option.map_eq_some_iff.mp e
    cases e
    cases r1 with
    | cons h1 hs =>
      cases hs
      obtain ⟨a, PL, rfl, lo, hb⟩ := RV.walkA h1 el
      obtain ⟨ws, g1, _⟩ := lo.rd H1 F1 (Same.refl _) x1.fh (pins_ok (S.mono x1) hb)
      refine ⟨a, ws, rfl, g1, q _ H1 F1 PL x1 ⟨fun i d H3 F3 e s1 s3 qp => ?_, fun H3 F3 s1 s3 qp => ?_⟩ hb⟩
      · obtain ⟨us, k1, k2⟩ := lo.rd H3 F3 s1 s3 qp
        have e : (enumL 0 ds1)[i]? = some d := e
        rw [enumL_get] at e
        obtain ⟨d', ed, rfl⟩ := Option.map_eq_some_iff.mp e
        obtain ⟨v, e1, e2⟩ := k2.getV ed
        refine ⟨⟨us, v, k1, e1⟩, ?_⟩
        rintro x H' ⟨T, y, rfl, hT, rfl, hy⟩
        have := hy us k1
        rw [e1] at this
        cases this
        rw [Nat.zero_add]
        exact pair_den s3 hT (.int _) e2
      · obtain ⟨us, k1, k2⟩ := lo.rd H3 F3 s1 s3 qp
        refine ⟨us, k1, ?_⟩
        rw [k2.length]
        show ds1.length ≤ (enumL 0 ds1).length
        rw [enumL_length]
        exact Nat.le_refl _
  · cases e
theorem iv_zip {e2 : Expr} {elts : List Expr} {kk : Nat} {tpos : Pos} (hg : Gl X "zip") (hm : X.mg "zip" = none) (ha : AV X ca [e, e2] ms)
    (hs : starEach [e, e2] X.env = (false, eval e X.env) :: starEach [e2] X.env := by rfl) (hpl : (backTo pos (starEach [e2] X.env)).any (·.1) = false := by rfl) : IV X ca (.Tuple elts kk tpos) (.Call (.Name "zip" p) [e, e2] [] pos) (iA zpR ms) := by
  refine pi_imp (RZ.pi_zipA hg hm ha hs hpl) ?_
  rintro σ H R' ⟨H0, F0, F, Γ, ⟨ps, ds⟩, S, e, q⟩
  unfold iA at e
  obtain ⟨rs, er, e⟩ := Option.bind_eq_some_iff.mp e
  refine ⟨H0, F0, F, Γ, rs, S, er, fun vs H1 F1 x1 r1 => ?_⟩
  unfold zpR at e
  split at e
  · rename_i ds1 ds2
    cases e
    cases r1 with
    | cons h1 hs =>
      cases hs with
      | cons h2 hs =>
        cases hs
        cases h1 with
        | tup t1 d1 =>
          cases h2 with
          | tup t2 d2 =>
            refine ⟨_, _, _, _, rfl, .inr ⟨Same.seqT x1.fh t1, Same.seqT x1.fh t2, q _ H1 F1 [] x1 ⟨fun i d H3 F3 e s1 s3 qp => ?_, fun H3 F3 s1 s3 qp => ?_⟩ (fun q hq => by cases hq)⟩⟩
            · have k1 := Same.seqT s3 (Same.seqT s1 t1)
              have k1' := Same.seqT s3 (Same.seqT s1 t2)
              obtain ⟨da, db, ea, eb, rfl⟩ := zipL_get ds1 ds2 i d e
              obtain ⟨v, e1, e2⟩ := (d1.mono s1).getV ea
              obtain ⟨v', e1', e2'⟩ := (d2.mono s1).getV eb
              refine ⟨⟨_, _, v, v', k1, k1', e1, e1'⟩, ?_⟩
              rintro x H' ⟨T, y, y', rfl, hT, rfl, hy, hy'⟩
              have q1 := hy _ k1
              have q2 := hy' _ k1'
              rw [e1] at q1
              rw [e1'] at q2
              cases q1
              cases q2
              exact pair_den s3 hT e2 e2'
            · refine ⟨_, _, Same.seqT s3 (Same.seqT s1 t1), Same.seqT s3 (Same.seqT s1 t2), ?_⟩
              rw [d1.length, d2.length]
              show ds1.length ≤ (zipL ds1 ds2).length ∨ ds2.length ≤ (zipL ds1 ds2).length
              rw [zipL_length]
              omega
  · rename_i r s
    obtain ⟨⟨ps1, ds1⟩, el, e⟩ := Option.bind_eq_some_iff.mp e
    obtain ⟨⟨ps2, ds2⟩, el2, e⟩ := Option.map_eq_some_iff.mp e
    cases e
    cases r1 with
    | cons h1 hs =>
      cases hs with
      | cons h2 hs =>
        cases hs
        obtain ⟨a, PL, rfl, lo, hb⟩ := RV.walkA h1 el
        obtain ⟨b, PL', rfl, lo', hb'⟩ := RV.walkA h2 el2
        have hbb : ∀ q ∈ PL ++ PL', q.1 ∈ ps1 ++ ps2 ∧ BB σ Γ q.1 q.2.1 q.2.2 := fun q hq => by
          rcases List.mem_append.mp hq with z | z
          · exact ⟨List.mem_append_left _ (hb q z).1, (hb q z).2⟩
          · exact ⟨List.mem_append_right _ (hb' q z).1, (hb' q z).2⟩
        have lo := lo.mono (PL' := PL ++ PL') (Same.refl _) fun p hp => List.mem_append_left _ hp
        have lo' := lo'.mono (PL' := PL ++ PL') (Same.refl _) fun p hp => List.mem_append_right _ hp
        have pk := pins_ok (S.mono x1) hbb
        obtain ⟨ws, g1, _⟩ := lo.rd H1 F1 (Same.refl _) x1.fh pk
        obtain ⟨ws', g1', _⟩ := lo'.rd H1 F1 (Same.refl _) x1.fh pk
        refine ⟨a, b, ws, ws', rfl, .inl ⟨g1, g1', q _ H1 F1 _ x1 ⟨fun i d H3 F3 e s1 s3 qp => ?_, fun H3 F3 s1 s3 qp => ?_⟩ hbb⟩⟩
        · obtain ⟨us, k1, k2⟩ := lo.rd H3 F3 s1 s3 qp
          obtain ⟨us', k1', k2'⟩ := lo'.rd H3 F3 s1 s3 qp
          obtain ⟨da, db, ea, eb, rfl⟩ := zipL_get ds1 ds2 i d e
          obtain ⟨v, e1, e2⟩ := k2.getV ea
          obtain ⟨v', e1', e2'⟩ := k2'.getV eb
          refine ⟨⟨us, us', v, v', k1, k1', e1, e1'⟩, ?_⟩
          rintro x H' ⟨T, y, y', rfl, hT, rfl, hy, hy'⟩
          have q1 := hy us k1
          have q2 := hy' us' k1'
          rw [e1] at q1
          rw [e1'] at q2
          cases q1
          cases q2
          exact pair_den s3 hT e2 e2'
        · obtain ⟨us, k1, k2⟩ := lo.rd H3 F3 s1 s3 qp
          obtain ⟨us', k1', k2'⟩ := lo'.rd H3 F3 s1 s3 qp
          refine ⟨us, us', k1, k1', ?_⟩
          rw [k2.length, k2'.length]
          show ds1.length ≤ (zipL ds1 ds2).length ∨ ds2.length ≤ (zipL ds1 ds2).length
          rw [zipL_length]
          omega
  · cases e
theorem iv_rev (hg : Gl X "reversed") (hm : X.mg "reversed" = none) (ha : AV X ca [e] ms) (hs : starEach [e] X.env = [(false, eval e X.env)] := by rfl) : IV X ca tg (.Call (.Name "reversed" p) [e] [] pos) (iA rvR ms) := by
  refine pi_imp (pi_reversed hg hm ha hs) ?_
  rintro σ H R' ⟨H0, F0, F, Γ, ⟨ps, ds⟩, S, e, q⟩
  unfold iA at e
  obtain ⟨rs, er, e⟩ := Option.bind_eq_some_iff.mp e
  refine ⟨H0, F0, F, Γ, rs, S, er, fun vs H1 F1 x1 r1 => ?_⟩
  unfold rvR at e
  split at e
  · rename_i r
    obtain ⟨⟨ps1, ds1⟩, el, e⟩ := Option.map_eq_some_iff.mp e
    cases e
    cases r1 with
    | cons h1 hs =>
      cases hs
      obtain ⟨a, PL, rfl, lo, hb⟩ := RV.walkA h1 el
      obtain ⟨ws, g1, g2⟩ := lo.rd H1 F1 (Same.refl _) x1.fh (pins_ok (S.mono x1) hb)
      have hl := g2.length
      refine ⟨a, ws, rfl, g1, q _ H1 F1 PL x1 ⟨fun i d H3 F3 e s1 s3 qp => ?_, fun H3 F3 s1 s3 qp => ?_⟩ hb⟩
      · obtain ⟨us, k1, k2⟩ := lo.rd H3 F3 s1 s3 qp
        have e : ds1.reverse[i]? = some d := e
        have hi : i < ds1.length := by simpa using (List.getElem?_eq_some_iff.mp e).1
        rw [List.getElem?_reverse hi] at e
        obtain ⟨v, e1, e2⟩ := k2.getV e
        rw [← hl] at e1
        refine ⟨⟨by omega, us, v, k1, e1⟩, ?_⟩
        rintro x H' ⟨rfl, hy⟩
        have := hy us k1
        rw [e1] at this
        cases this
        exact ⟨F3, .refl s3, e2⟩
      · show ws.length ≤ ds1.reverse.length
        rw [List.length_reverse, hl]
        exact Nat.le_refl _
  · cases e
end
/-! ### comprehensions -/
def wipeG (g : Gm) : List Nat → Gm
  | [] => g
  | v :: vs => (wipeG g vs).set v .un
def compL (f : D → Gm → Option Gm) (c : Gm → Option Bool) (el : Gm → Option R) (g : Gm) : List D → Option (List D)
  | [] => some []
  | d :: ds => (f d g).bind fun g1 => (c g1).bind fun k => if k = true then (el g1).bind fun r => if r.isBw = true then none else (compL f c el g ds).map (r.d :: ·) else compL f c el g ds
def bY : Gm → Option Bool := fun _ => some true
def eLc (mi : Gm → Option (List Nat × List D)) (f : D → Gm → Option Gm) (c : Gm → Option Bool) (el : Gm → Option R) (own : List Nat) : Gm → Option R := fun g => (mi g).bind fun p => if p.2.length ≤ LIM then (compL f c el (wipeG g own) p.2).map .tm else none
theorem compL_len {f : D → Gm → Option Gm} {c : Gm → Option Bool} {el : Gm → Option R} {g : Gm} : ∀ {ds es : List D}, compL f c el g ds = some es → es.length ≤ ds.length
  | [], es, h => by cases h; exact Nat.le_refl _
  | d :: ds, es, h => by
    unfold compL at h
    obtain ⟨g1, _, h⟩ := Option.bind_eq_some_iff.mp h
    obtain ⟨k, _, h⟩ := Option.bind_eq_some_iff.mp h
    split at h
    · obtain ⟨r, _, h⟩ := Option.bind_eq_some_iff.mp h
      split at h
      · cases h
      · obtain ⟨fs, e, rfl⟩ := Option.map_eq_some_iff.mp h
        have := compL_len e
        simp only [List.length_cons]
        omega
    · have := compL_len h
      simp only [List.length_cons]
      omega
theorem SR.wipe {K : PySem.W.Frag} {ca : Nat → Addr} {H0 F0 H F : Hp} {σ : L2.St} {Γ : Gm} (S : SR K ca H0 F0 σ H F Γ) : ∀ vs : List Nat, SR K ca H0 F0 (L2.wipe σ vs) H F (wipeG Γ vs)
  | [] => S
  | v :: vs => (SR.wipe S vs).setUn none
theorem wipe_kp {σ σ' : L2.St} : ∀ {vs : List Nat}, σ.length = σ'.length → (∀ j, j ∉ vs → σ'[j]? = σ[j]?) → L2.wipe σ' vs = L2.wipe σ vs := by
  intro vs hl h
  have key : ∀ (vs : List Nat) (τ : L2.St) (j : Nat), (L2.wipe τ vs)[j]? = if j ∈ vs then (if j < τ.length then some none else none) else τ[j]? := by
    intro vs
    induction vs with
    | nil => intro τ j; simp [L2.wipe]
    | cons v vs ih =>
      intro τ j
      unfold L2.wipe
      rw [List.getElem?_set, ih τ j, wipe_length]
      by_cases e : v = j
      · subst e
        simp
      · simp [e, List.mem_cons, Ne.symm e]
  apply List.ext_getElem?
  intro j
  rw [key, key]
  by_cases hj : j ∈ vs
  · rw [if_pos hj, if_pos hj, hl]
  · rw [if_neg hj, if_neg hj]
    exact h j hj
section
variable {X : Cx} {ca : Nat → Addr}
def tTs (K : PySem.W.Frag) (ca : Nat → Addr) (c : Gm → Option Bool) : TT := tTV K ca c
theorem pts_imp {ifs : List Expr} {t t' : TT} (h : PTs X ifs t) (i : ∀ σ H Q, t' σ H Q → t σ H Q) : PTs X ifs t' := ⟨fun pins s σ H Q I q => h.run pins s σ H Q I (i σ H Q q)⟩
abbrev CV (X : Cx) (ca : Nat → Addr) (ifs : List Expr) (c : Gm → Option Bool) : Prop := PTs X ifs (tTV X.K ca c)
theorem cv_nil : CV X ca [] bY := by
  refine pts_imp pts_nil ?_
  rintro σ H Q ⟨H0, F0, F, Γ, b, S, e, q⟩
  cases e
  exact q H F (.refl S.ext.fh)
theorem cv_one {c : Expr} {k : Gm → Option Bool} (h : TV X ca c k) : CV X ca [c] k := pts_one h
theorem wipe_get {σ : L2.St} : ∀ {vs : List Nat} {j : Nat}, j ∉ vs → (L2.wipe σ vs)[j]? = σ[j]?
  | [], j, h => rfl
  | v :: vs, j, h => by
    unfold L2.wipe
    rw [List.getElem?_set_ne fun e => h (by simp [e]), wipe_get fun e => h (List.mem_cons_of_mem _ e)]
theorem wipeG_length (g : Gm) : ∀ vs : List Nat, (wipeG g vs).length = g.length
  | [] => rfl
  | v :: vs => by unfold wipeG; rw [List.length_set, wipeG_length g vs]
theorem t_lc {K : PySem.W.Frag} {mi : Gm → Option (List Nat × List D)} {f : D → Gm → Option Gm} {c : Gm → Option Bool} {el : Gm → Option R} {own T : List Nat} (hT : ∀ j ∈ T, j ∈ own) (hln : ∀ d g g', f d g = some g' → g'.length = g.length) : ∀ σ H Q, tEV K ca (eLc mi f c el own) σ H Q → tLc (tIV K ca mi) (tGV K ca f T) (tTV K ca c) (tEV K ca el) own σ H Q := by
  rintro σ H Q ⟨H0, F0, F, Γ, z, S, e, q⟩
  unfold eLc at e
  obtain ⟨⟨ps, ds⟩, em, e⟩ := Option.bind_eq_some_iff.mp e
  by_cases hlen : ds.length ≤ LIM
  rotate_left
  · rw [if_neg hlen] at e; cases e
  rw [if_pos hlen] at e
  obtain ⟨es, ee, rfl⟩ := Option.map_eq_some_iff.mp e
  refine ⟨H0, F0, F, Γ, (ps, ds), S, em, fun J H1 F1 PL x1 jo hPL A hA => ?_⟩
  have S1 := S.mono x1
  -- the comprehension's list stands at A, not frozen
  refine ⟨fun i m H' => ∃ F' acc out, m = ds.length - i ∧ i ≤ ds.length ∧ Ext ca H1 F1 H' F' ∧ F' A = none ∧ H' A = some (.lst acc) ∧ Dens K ca F' acc out ∧ out.length ≤ i ∧ (compL f c el (wipeG Γ own) (ds.drop i)).map (out ++ ·) = some es,
    ⟨_, F1, [], [], rfl, Nat.zero_le _, .newO x1.fh _ hA, x1.fh.free hA, upd_same, .nil, Nat.zero_le _, by
      show (compL f c el (wipeG Γ own) ds).map _ = _
      rw [show compL f c el (wipeG Γ own) ds = some es from ee]; rfl⟩, ?_⟩
  rintro i m H2 ⟨F2, acc, out, rfl, hi, x2, fA, hA2, hd, ho, he⟩
  have S2 := S1.mono x2
  have pk := pins_ok S2 hPL
  by_cases hlt : i < ds.length
  · have hd' : ds[i]? = some ds[i] := List.getElem?_eq_getElem hlt
    have ed : ds.drop i = ds[i] :: ds.drop (i + 1) := List.drop_eq_getElem_cons hlt
    obtain ⟨fs, e1, rfl⟩ := Option.map_eq_some_iff.mp he
    rw [ed] at e1
    unfold compL at e1
    obtain ⟨g1, eg, e1⟩ := Option.bind_eq_some_iff.mp e1
    obtain ⟨k, ek, e1⟩ := Option.bind_eq_some_iff.mp e1
    obtain ⟨jgo, jy⟩ := jo.go i _ H2 F2 hd' x2.ff x2.fh pk
    refine .inr ⟨jgo, fun H' => ∃ F' acc out', Ext ca H1 F1 H' F' ∧ F' A = none ∧ H' A = some (.lst acc) ∧ Dens K ca F' acc out' ∧ out'.length ≤ i + 1 ∧ (compL f c el (wipeG Γ own) (ds.drop (i + 1))).map (out' ++ ·) = some (out ++ fs), fun H' ⟨F', acc', out', w1, w2, w3, w4, w5, w6⟩ => ⟨ds.length - (i + 1), by omega, F', acc', out', rfl, hlt, w1, w2, w3, w4, w5, w6⟩, fun x H3 y => ?_⟩
    obtain ⟨F3, x3, d3⟩ := jy x H3 y
    have S3 := (S2.mono x3).wipe own
    refine ⟨H0, F0, F3, _, _, g1, S3, d3, eg, fun σ4 S4 k4 => ⟨?_, ?_⟩⟩
    · refine wipe_kp ?_ fun j hj => ?_
      · rw [S4.len, hln _ _ _ eg, wipeG_length, S.len]
      · rw [k4 j fun z => hj (hT j z), wipe_get hj]
    · have x23 := x2.trans x3
      have fA3 : F3 A = none := x3.keepN hA2 fA
      refine ⟨H0, F0, F3, g1, k, S4, ek, fun H5 F5 x5 => ?_⟩
      have x25 := x23.trans x5
      have x35 := x3.trans x5
      have hA5 : H5 A = some (.lst acc) := x35.hh.l hA2
      have fA5 : F5 A = none := x35.keepN hA2 fA
      have hd5 := hd.mono x35.ff
      cases k with
      | true =>
        refine iteT ?_
        rw [if_pos rfl] at e1
        obtain ⟨r, er, e1⟩ := Option.bind_eq_some_iff.mp e1
        by_cases hb : r.isBw = true
        · rw [if_pos hb] at e1; cases e1
        rw [if_neg hb] at e1
        obtain ⟨rest, erest, rfl⟩ := Option.map_eq_some_iff.mp e1
        refine ⟨H0, F0, F5, g1, r, S4.mono x5, er, fun v H6 F6 x6 r6 => ?_⟩
        have hA6 : H6 A = some (.lst acc) := x6.hh.l hA5
        obtain ⟨F7, x7, s7, d7⟩ := RV.froze x6 r6 (by simpa using hb)
        have fA7 : F7 A = none := x7.keepN hA5 fA5
        have x27 := x25.trans x7
        refine ⟨acc, hA6, ?_, F7, acc ++ [v], out ++ [r.d], ?_, fA7, upd_same, (hd5.mono x7.ff).append (.one d7), ?_, ?_⟩
        · rw [lim_eq, hd.length]
          omega
        · refine ⟨x27.hh.updO (noT_none hA) (Pl.lst hA6), x27.ff, fun b o h => ?_, x27.nw, x27.nt⟩
          · rw [upd_ne (ne_of_none h fA7)]; exact x27.fh b o h
        · rw [List.length_append]
          simp only [List.length_cons, List.length_nil]
          omega
        · rw [erest]
          simp
      | false =>
        refine iteF ?_
        rw [if_neg Bool.false_ne_true] at e1
        refine ⟨F5, acc, out, x25, fA5, hA5, hd5, by omega, ?_⟩
        rw [e1]
        rfl
  · have ei : i = ds.length := by omega
    subst ei
    rw [List.drop_length] at he
    have he : some (out ++ []) = some es := he
    rw [List.append_nil] at he
    cases he
    refine .inl ⟨jo.stop H2 F2 x2.ff x2.fh pk, ?_⟩
    exact q _ H2 F2 (x1.trans x2) ⟨A, acc, rfl, x1.hh.free (noT_none hA), fA, hA2, hd⟩
theorem gN_ln {i : Nat} : ∀ d g g', gN i d g = some g' → g'.length = g.length := fun d g g' e => by cases e; exact List.length_set
theorem gE_ln : ∀ d g g', gE d g = some g' → g'.length = g.length := fun d g g' e => by
  cases d with
  | nil => cases e; rfl
  | cons d ds => cases e
theorem gC_ln {f : D → Gm → Option Gm} {r : List D → Gm → Option Gm} (h1 : ∀ d g g', f d g = some g' → g'.length = g.length) (h2 : ∀ d g g', r d g = some g' → g'.length = g.length) : ∀ d g g', gC f r d g = some g' → g'.length = g.length := fun d g g' e => by
  cases d with
  | nil => cases e
  | cons d ds =>
    have e : (f d g).bind (r ds) = some g' := e
    obtain ⟨g1, e1, e2⟩ := Option.bind_eq_some_iff.mp e
    rw [h2 _ _ _ e2, h1 _ _ _ e1]
theorem gT_ln {r : List D → Gm → Option Gm} (h : ∀ d g g', r d g = some g' → g'.length = g.length) : ∀ d g g', gT r d g = some g' → g'.length = g.length := fun d g g' e => by
  unfold gT at e
  split at e
  · exact h _ _ _ e
  · cases e
theorem ev_lc {elt tg iter : Expr} {ifs : List Expr} {scope : Scope} {own : List (Str × Nat)} {pos : Pos} {mi : Gm → Option (List Nat × List D)} {f : D → Gm → Option Gm} {c : Gm → Option Bool} {el : Gm → Option R} {T ow : List Nat} (hc : X.calm = true) (hN : X.N.Nodup) (hi : IV X ca tg iter mi) (ok : BlkOk X.N X.env.scope scope own) (how : ow = own.map (·.2))
    (hg : ∀ (s : Shared) (H : Hp) (C : Addr) (cl : List (Str × Addr)) (fp : List Addr), GV (X.blk s H scope (compEnvC scope cl C X.env) fp) ca tg f T) (ht : ∀ (s : Shared) (H : Hp) (C : Addr) (cl : List (Str × Addr)) (fp : List Addr), CV (X.blk s H scope (compEnvC scope cl C X.env) fp) ca ifs c)
    (he : ∀ (s : Shared) (H : Hp) (C : Addr) (cl : List (Str × Addr)) (fp : List Addr), EV (X.blk s H scope (compEnvC scope cl C X.env) fp) ca elt el) (hT : ∀ j ∈ T, j ∈ ow) (ln : ∀ d g g', f d g = some g' → g'.length = g.length) (hs : ∀ x, foldedSetIterable iter X.env x = pure x := by intro _; rfl) :
    EV X ca (.ListComp elt [⟨tg, iter, ifs, 0⟩] scope pos) (eLc mi f c el ow) := by
  subst how
  exact pe_imp (pe_lc (wi := tIV X.K ca mi) (g := tGV X.K ca f T) (tt := tTV X.K ca c) (te := tEV X.K ca el) hc hN hi ok (fun s H C cl fp => (hg s H C cl fp).pg) ht he hs) (t_lc hT ln)
/-- name = [..] on one line -/
theorem sv_setLc {i : Nat} {y : Str} {py : Pos} {elt tg iter : Expr} {ifs : List Expr} {scope : Scope} {own : List (Str × Nat)} {pos spos : Pos} {mi : Gm → Option (List Nat × List D)} {f : D → Gm → Option Gm} {c : Gm → Option Bool} {el : Gm → Option R} {T ow : List Nat} (hc : X.calm = true) (hN : X.N.Nodup) (hy : X.N[i]? = some y) (hyl : X.env.scope.names.lookup y = some .local)
    (hsw : swapsWith (.ListComp elt [⟨tg, iter, ifs, 0⟩] scope pos) (some (.Name y py)) spos.line X.env = pure true) (hi : IV X ca tg iter mi) (ok : BlkOk X.N X.env.scope scope own) (how : ow = own.map (·.2))
    (hg : ∀ (s : Shared) (H : Hp) (C : Addr) (cl : List (Str × Addr)) (fp : List Addr), GV (X.blk s H scope (compEnvC scope cl C X.env) fp) ca tg f T) (ht : ∀ (s : Shared) (H : Hp) (C : Addr) (cl : List (Str × Addr)) (fp : List Addr), CV (X.blk s H scope (compEnvC scope cl C X.env) fp) ca ifs c)
    (he : ∀ (s : Shared) (H : Hp) (C : Addr) (cl : List (Str × Addr)) (fp : List Addr), EV (X.blk s H scope (compEnvC scope cl C X.env) fp) ca elt el) (hT : ∀ j ∈ T, j ∈ ow) (ln : ∀ d g g', f d g = some g' → g'.length = g.length) (hs : ∀ x, foldedSetIterable iter X.env x = pure x := by intro _; rfl) :
    SV X ca (.Assign [.Name y py] (.ListComp elt [⟨tg, iter, ifs, 0⟩] scope pos) spos) (sSet i (eLc mi f c el ow)) [i] := by
  subst how
  refine ⟨ps_imp (ps_setLc (wi := tIV X.K ca mi) (g := tGV X.K ca f T) (tt := tTV X.K ca c) (te := tEV X.K ca el) hc hN hy hyl hsw hi ok (fun s H C cl fp => (hg s H C cl fp).pg) ht he hs) ?_, fun g o e => ?_⟩
  · rintro D σ H ⟨H0, F0, F, Γ, o, S, e, p⟩
    unfold sSet at e
    obtain ⟨r, er, e⟩ := Option.bind_eq_some_iff.mp e
    cases z : setR Γ i r with
    | none => rw [z] at e; cases e
    | some g' =>
      rw [z] at e
      cases e
      exact t_lc hT ln σ H _ ⟨H0, F0, F, Γ, r, S, er, fun v H' F' x h => p _ H' F' (S.setR x h z) x.ff kp_set⟩
  · unfold sSet at e
    obtain ⟨r, er, e⟩ := Option.bind_eq_some_iff.mp e
    cases z : setR g i r with
    | none => rw [z] at e; cases e
    | some g' => rw [z] at e; cases e; exact setR_kp z
end
end BK
namespace BK
open PySem PySem.Spec L2
open PyProof.Rows (envOfC)
set_option autoImplicit false
/-! ### built-ins -/
section
variable {X : Cx} {ca : Nat → Addr} {e : Expr} {es : List Expr} {m n : Gm → Option R} {ms : Gm → Option (List R)} {pos p : Pos} {x : Str}
theorem ev_callB {id : String} {r : List V → Hp → VK → Prop} {f : List R → Option R} (hc : CallR X (.builtin id) r) (o : CallD X.K ca r f) (hg : Gl X x) (hm : X.mg x = none) (hv : bootBuiltins x = some (.builtin id)) (ha : AV X ca (e :: es) ms) (hn : x ≠ "__name__" := by decide) (hdb : (x == ("__debug__" : Str)) = false := by decide)
    (he : starEach (e :: es) X.env = (false, eval e X.env) :: starEach es X.env := by rfl) (hpl : (backTo pos (starEach es X.env)).any (·.1) = false := by rfl) : EV X ca (.Call (.Name x p) (e :: es) [] pos) (eA f ms) := pe_imp (pe_callB hc hg hm hv ha hn hdb he hpl) (t_call o)
theorem ev_callT {T : String} {r : List V → Hp → VK → Prop} {f : List R → Option R} (hc : CallR X (.type T) r) (o : CallD X.K ca r f) (hg : Gl X x) (hm : X.mg x = none) (hv : bootBuiltins x = some (.type T)) (ha : AV X ca (e :: es) ms) (hn : x ≠ "__name__" := by decide) (hdb : (x == ("__debug__" : Str)) = false := by decide)
    (he : starEach (e :: es) X.env = (false, eval e X.env) :: starEach es X.env := by rfl) (hpl : (backTo pos (starEach es X.env)).any (·.1) = false := by rfl) : EV X ca (.Call (.Name x p) (e :: es) [] pos) (eA f ms) := pe_imp (pe_callTy hc hg hm hv ha hn hdb he hpl) (t_call o)
end
section
variable {K : PySem.W.Frag} {ca : Nat → Addr}
def cLen (rs : List R) : Option R := match rs with
  | [r] => match r.d with
    | .lst ds => some (.va (.int ds.length))
    | .tup ds => some (.va (.int ds.length))
    | .rol ds => some (.va (.int ds.length))
    | .str z => if z.length ≤ LIM then some (.va (.int z.length)) else none
    | _ => none
  | _ => none
def rLenA (K : PySem.W.Frag) : List V → Hp → VK → Prop := fun xs H Q => (∃ p ys, xs = [.ref p] ∧ (SqL K H p ys ∨ SqT K H p ys) ∧ Q (.int ys.length) H) ∨ ∃ z, xs = [.str z] ∧ z.length ≤ sizeLine ∧ Q (.int z.length) H
theorem call_lenA {X : Cx} : CallR X (.builtin "len") (rLenA X.K) := call_len_seq.or call_len_str
theorem cd_len : CallD K ca (rLenA K) cLen := by
  intro B Hs F H vs xs z Q s hr e q
  unfold cLen at e
  split at e
  · cases hr with
    | cons h hs =>
      cases hs
      split at e
      · rename_i ds hd
        cases e
        obtain ⟨a, us, rfl, r1, d1⟩ := RV.lst s h hd
        exact .inl ⟨a, us, rfl, .inl (rd_l r1), by rw [d1.length]; exact q _ H F (.refl s) (.int _)⟩
      · rename_i ds hd
        cases e
        cases RV.den h hd rfl with
        | tup t d1 => exact .inl ⟨_, _, rfl, .inr (Same.seqT s t), by rw [d1.length]; exact q _ H F (.refl s) (.int _)⟩
      · rename_i ds hd
        cases e
        cases RV.den h hd rfl with
        | rol t d1 => exact .inl ⟨_, _, rfl, .inl (s.seq t), by rw [d1.length]; exact q _ H F (.refl s) (.int _)⟩
      · rename_i zz hd
        split at e
        · rename_i hl
          cases e
          cases RV.den h hd rfl
          exact .inr ⟨zz, rfl, by rw [lim_eq]; exact hl, q _ H F (.refl s) (.int _)⟩
        · cases e
      · cases e
  · cases e
/-- one int -/
def cI1 (C : Int → Prop) [∀ i, Decidable (C i)] (h : Int → D) (rs : List R) : Option R := match rs with
  | [.va (.int i)] => if C i then some (.va (h i)) else none
  | _ => none
theorem cd_I1 {C : Int → Prop} [∀ i, Decidable (C i)] {h : Int → D} {g : Int → V} (hg : ∀ F i, Den K ca F (g i) (h i)) : CallD K ca (fun xs H Q => ∃ i, xs = [.int i] ∧ C i ∧ Q (g i) H) (cI1 C h) := by
  intro B Hs F H vs xs z Q s hr e q
  unfold cI1 at e
  split at e
  · split at e
    · rename_i i hc
      cases e
      cases hr with
      | cons h hs =>
        cases hs
        cases h
        exact ⟨i, rfl, hc, q _ H F (.refl s) (hg F i)⟩
    · cases e
  · cases e
def cAbs : List R → Option R := cI1 (fun _ => True) fun i => .int (if i < 0 then -i else i)
theorem call_abs' {X : Cx} : CallR X (.builtin "abs") (fun xs H Q => ∃ i, xs = [.int i] ∧ True ∧ Q (.int (if i < 0 then -i else i)) H) := fun pins s σ H xs us Q I r ⟨i, h1, _, h2⟩ => call_abs pins s σ H xs us Q I r ⟨i, h1, h2⟩
theorem cd_abs : CallD K ca (fun xs H Q => ∃ i, xs = [.int i] ∧ True ∧ Q (.int (if i < 0 then -i else i)) H) cAbs := cd_I1 fun _ _ => .int _
/-- str of an int -/
def rStrA : List V → Hp → VK → Prop := fun xs H Q => (∃ i, xs = [.int i] ∧ i.natAbs.log2 < 1920 ∧ Q (.str (toString i)) H) ∨ (∃ a, xs = [.str a] ∧ Q (.str a) H)
theorem call_strA {X : Cx} : CallR X (.type "str") rStrA := call_str_int.or SkE.call_str_str
def cStrI (rs : List R) : Option R := match rs with
  | [.va (.int i)] => if i.natAbs.log2 < 1920 then some (.va (.str (toString i))) else none
  | [.va (.str a)] => some (.va (.str a))
  | _ => none
theorem cd_strI : CallD K ca rStrA cStrI := by
  intro B Hs F H vs xs z Q s hr e q
  unfold cStrI at e
  split at e
  · split at e
    · rename_i i hc
      cases e
      cases hr with
      | cons h hs =>
        cases hs
        cases h
        exact .inl ⟨i, rfl, hc, q _ H F (.refl s) (.str _)⟩
    · cases e
  · rename_i a
    cases e
    cases hr with
    | cons h hs =>
      cases hs
      cases h
      exact .inr ⟨a, rfl, q _ H F (.refl s) (.str _)⟩
  · cases e
/-- int of an int, a bool, a text -/
def cInt (rs : List R) : Option R := match rs with
  | [.va (.int i)] => some (.va (.int i))
  | [.va (.bl k)] => some (.va (.int (if k then 1 else 0)))
  | [.va (.str a)] => if a.length ≤ 640 then (PySem.intText? a).map fun n => .va (.int n) else none
  | _ => none
def rIntA : List V → Hp → VK → Prop := fun xs H Q => ((∃ i, xs = [.int i] ∧ Q (.int i) H) ∨ ∃ k, xs = [.bl k] ∧ Q (.int (if k then 1 else 0)) H) ∨ ∃ a n, xs = [.str a] ∧ PySem.intText? a = some n ∧ a.length ≤ 640 ∧ Q (.int n) H
theorem call_intA {X : Cx} : CallR X (.type "int") rIntA := call_int1.or call_int_str
theorem cd_int : CallD K ca rIntA cInt := by
  intro B Hs F H vs xs z Q s hr e q
  unfold cInt at e
  split at e
  · cases e
    cases hr with
    | cons h hs => cases hs; cases h; exact .inl (.inl ⟨_, rfl, q _ H F (.refl s) (.int _)⟩)
  · cases e
    cases hr with
    | cons h hs => cases hs; cases h; exact .inl (.inr ⟨_, rfl, q _ H F (.refl s) (.int _)⟩)
  · split at e
    · rename_i hl
      obtain ⟨n, en, rfl⟩ := Option.map_eq_some_iff.mp e
      cases hr with
      | cons h hs => cases hs; cases h; exact .inr ⟨_, n, rfl, en, hl, q _ H F (.refl s) (.int _)⟩
    · cases e
  · cases e
/-- max, min of two ints -/
def cI2 (h : Int → Int → D) (rs : List R) : Option R := match rs with
  | [.va (.int i), .va (.int j)] => some (.va (h i j))
  | _ => none
theorem cd_I2 {h : Int → Int → D} {g : Int → Int → V} (hg : ∀ F i j, Den K ca F (g i j) (h i j)) : CallD K ca (fun xs H Q => ∃ i j, xs = [.int i, .int j] ∧ Q (g i j) H) (cI2 h) := by
  intro B Hs F H vs xs z Q s hr e q
  unfold cI2 at e
  split at e
  · rename_i i j
    cases e
    cases hr with
    | cons h hs =>
      cases hs with
      | cons h2 hs =>
        cases hs
        cases h
        cases h2
        exact ⟨i, j, rfl, q _ H F (.refl s) (hg F i j)⟩
  · cases e
def cMax2 := cI2 fun i j => .int (if j > i then j else i)
def cMin2 := cI2 fun i j => .int (if j < i then j else i)
theorem cd_max2 : CallD K ca (fun xs H Q => ∃ i j, xs = [.int i, .int j] ∧ Q (.int (if j > i then j else i)) H) cMax2 := cd_I2 fun _ _ _ => .int _
theorem cd_min2 : CallD K ca (fun xs H Q => ∃ i j, xs = [.int i, .int j] ∧ Q (.int (if j < i then j else i)) H) cMin2 := cd_I2 fun _ _ _ => .int _
/-- lists of ints, of bools, of texts read off -/
def intsOf : List D → Option (List Int)
  | [] => some []
  | .int i :: ds => (intsOf ds).map (i :: ·)
  | _ => none
def blsOf : List D → Option (List Bool)
  | [] => some []
  | .bl i :: ds => (blsOf ds).map (i :: ·)
  | _ => none
def strsOf : List D → Option (List Str)
  | [] => some []
  | .str i :: ds => (strsOf ds).map (i :: ·)
  | _ => none
theorem intsOf_eq : ∀ {ds : List D} {ns : List Int}, intsOf ds = some ns → ds = ns.map D.int
  | [], ns, h => by cases h; rfl
  | d :: ds, ns, h => by
    cases d <;> first
      | (obtain ⟨ms, e, rfl⟩ := Option.map_eq_some_iff.mp (show (intsOf ds).map _ = some ns from h)
         rw [intsOf_eq e]
         rfl)
      | cases h
theorem blsOf_eq : ∀ {ds : List D} {ns : List Bool}, blsOf ds = some ns → ds = ns.map D.bl
  | [], ns, h => by cases h; rfl
  | d :: ds, ns, h => by
    cases d <;> first
      | (obtain ⟨ms, e, rfl⟩ := Option.map_eq_some_iff.mp (show (blsOf ds).map _ = some ns from h)
         rw [blsOf_eq e]
         rfl)
      | cases h
theorem strsOf_eq : ∀ {ds : List D} {ns : List Str}, strsOf ds = some ns → ds = ns.map D.str
  | [], ns, h => by cases h; rfl
  | d :: ds, ns, h => by
    cases d <;> first
      | (obtain ⟨ms, e, rfl⟩ := Option.map_eq_some_iff.mp (show (strsOf ds).map _ = some ns from h)
         rw [strsOf_eq e]
         rfl)
      | cases h
theorem intsOf_map : ∀ ns : List Int, intsOf (ns.map D.int) = some ns
  | [] => rfl
  | n :: ns => by show (intsOf (ns.map D.int)).map _ = _; rw [intsOf_map ns]; rfl
theorem blsOf_map : ∀ ns : List Bool, blsOf (ns.map D.bl) = some ns
  | [] => rfl
  | n :: ns => by show (blsOf (ns.map D.bl)).map _ = _; rw [blsOf_map ns]; rfl
theorem strsOf_map : ∀ ns : List Str, strsOf (ns.map D.str) = some ns
  | [] => rfl
  | n :: ns => by show (strsOf (ns.map D.str)).map _ = _; rw [strsOf_map ns]; rfl
def lstD : D → Option (List D)
  | .lst ds => some ds
  | _ => none
theorem lstD_eq {d : D} {ds : List D} (h : lstD d = some ds) : d = .lst ds := by
  cases d <;> first | (cases h; rfl) | cases h
def c1 (f : R → Option R) (rs : List R) : Option R := match rs with
  | [r] => f r
  | _ => none
def cSum : List R → Option R := c1 fun r => ((lstD r.d).bind intsOf).map fun ns => .va (.int ns.sum)
def cAll : List R → Option R := c1 fun r => ((lstD r.d).bind blsOf).map fun ns => .va (.bl (ns.all id))
def cAny : List R → Option R := c1 fun r => ((lstD r.d).bind blsOf).map fun ns => .va (.bl (ns.any id))
theorem one_of {f : R → Option R} {rs : List R} {z : R} (h : c1 f rs = some z) : ∃ r, rs = [r] ∧ f r = some z := by
  unfold c1 at h
  split at h
  · exact ⟨_, rfl, h⟩
  · cases h
theorem cd_sum : CallD K ca (rSum K) cSum := by
  intro B Hs F H vs xs z Q s hr e q
  obtain ⟨r, rfl, e⟩ := one_of e
  obtain ⟨ns, en, rfl⟩ := Option.map_eq_some_iff.mp e
  obtain ⟨ds, ed, en⟩ := Option.bind_eq_some_iff.mp en
  cases hr with
  | cons h hs =>
    cases hs
    obtain ⟨a, us, rfl, r1, d1⟩ := RV.lst s h (lstD_eq ed)
    rw [intsOf_eq en] at d1
    have := d1.ints_of
    subst this
    exact ⟨a, ns, rfl, rd_l r1, q _ H F (.refl s) (.int _)⟩
theorem cd_all : CallD K ca (rAll K) cAll := by
  intro B Hs F H vs xs z Q s hr e q
  obtain ⟨r, rfl, e⟩ := one_of e
  obtain ⟨ns, en, rfl⟩ := Option.map_eq_some_iff.mp e
  obtain ⟨ds, ed, en⟩ := Option.bind_eq_some_iff.mp en
  cases hr with
  | cons h hs =>
    cases hs
    obtain ⟨a, us, rfl, r1, d1⟩ := RV.lst s h (lstD_eq ed)
    rw [blsOf_eq en] at d1
    have := d1.bls_of
    subst this
    exact ⟨a, ns, rfl, rd_l r1, q _ H F (.refl s) (.bl _)⟩
theorem cd_any : CallD K ca (rAny K) cAny := by
  intro B Hs F H vs xs z Q s hr e q
  obtain ⟨r, rfl, e⟩ := one_of e
  obtain ⟨ns, en, rfl⟩ := Option.map_eq_some_iff.mp e
  obtain ⟨ds, ed, en⟩ := Option.bind_eq_some_iff.mp en
  cases hr with
  | cons h hs =>
    cases hs
    obtain ⟨a, us, rfl, r1, d1⟩ := RV.lst s h (lstD_eq ed)
    rw [blsOf_eq en] at d1
    have := d1.bls_of
    subst this
    exact ⟨a, ns, rfl, rd_l r1, q _ H F (.refl s) (.bl _)⟩
/-- max, min of a list of ints -/
def maxL : List Int → Option Int
  | [] => none
  | n :: ns => some (ns.foldl max n)
def minL : List Int → Option Int
  | [] => none
  | n :: ns => some (ns.foldl min n)
theorem foldl_max_mem : ∀ (ns : List Int) (n : Int), ns.foldl max n ∈ n :: ns ∧ ∀ y ∈ n :: ns, y ≤ ns.foldl max n
  | [], n => by simp
  | a :: ns, n => by
    obtain ⟨h1, h2⟩ := foldl_max_mem ns (max n a)
    refine ⟨?_, fun y hy => ?_⟩
    · show ns.foldl max (max n a) ∈ _
      rcases List.mem_cons.mp h1 with e | e
      · rw [e]
        rcases Int.le_total n a with z | z
        · rw [Int.max_eq_right z]; simp
        · rw [Int.max_eq_left z]; simp
      · exact List.mem_cons_of_mem _ (List.mem_cons_of_mem _ e)
    · show y ≤ ns.foldl max (max n a)
      have h3 := h2 (max n a) List.mem_cons_self
      rcases List.mem_cons.mp hy with e | hy
      · subst e; omega
      · rcases List.mem_cons.mp hy with e | hy
        · subst e; omega
        · exact h2 y (List.mem_cons_of_mem _ hy)
theorem foldl_min_mem : ∀ (ns : List Int) (n : Int), ns.foldl min n ∈ n :: ns ∧ ∀ y ∈ n :: ns, ns.foldl min n ≤ y
  | [], n => by simp
  | a :: ns, n => by
    obtain ⟨h1, h2⟩ := foldl_min_mem ns (min n a)
    refine ⟨?_, fun y hy => ?_⟩
    · show ns.foldl min (min n a) ∈ _
      rcases List.mem_cons.mp h1 with e | e
      · rw [e]
        rcases Int.le_total n a with z | z
        · rw [Int.min_eq_left z]; simp
        · rw [Int.min_eq_right z]; simp
      · exact List.mem_cons_of_mem _ (List.mem_cons_of_mem _ e)
    · show ns.foldl min (min n a) ≤ y
      have h3 := h2 (min n a) List.mem_cons_self
      rcases List.mem_cons.mp hy with e | hy
      · subst e; omega
      · rcases List.mem_cons.mp hy with e | hy
        · subst e; omega
        · exact h2 y (List.mem_cons_of_mem _ hy)
def cMax1 : List R → Option R := c1 fun r => (((lstD r.d).bind intsOf).bind maxL).map fun n => .va (.int n)
def cMin1 : List R → Option R := c1 fun r => (((lstD r.d).bind intsOf).bind minL).map fun n => .va (.int n)
theorem cd_max1 : CallD K ca (rMax K) cMax1 := by
  intro B Hs F H vs xs z Q s hr e q
  obtain ⟨r, rfl, e⟩ := one_of e
  obtain ⟨n, en, rfl⟩ := Option.map_eq_some_iff.mp e
  obtain ⟨ns, en, em⟩ := Option.bind_eq_some_iff.mp en
  obtain ⟨ds, ed, en⟩ := Option.bind_eq_some_iff.mp en
  cases hr with
  | cons h hs =>
    cases hs
    obtain ⟨a, us, rfl, r1, d1⟩ := RV.lst s h (lstD_eq ed)
    rw [intsOf_eq en] at d1
    have := d1.ints_of
    subst this
    cases ns with
    | nil => cases em
    | cons b ns =>
      cases em
      obtain ⟨h1, h2⟩ := foldl_max_mem ns b
      refine ⟨a, _, rfl, rd_l r1, Nat.succ_pos _, fun k hk hl => ?_⟩
      have : k = ns.foldl max b := Int.le_antisymm (h2 k hk) (hl _ h1)
      subst this
      exact q _ H F (.refl s) (.int _)
theorem cd_min1 : CallD K ca (rMin K) cMin1 := by
  intro B Hs F H vs xs z Q s hr e q
  obtain ⟨r, rfl, e⟩ := one_of e
  obtain ⟨n, en, rfl⟩ := Option.map_eq_some_iff.mp e
  obtain ⟨ns, en, em⟩ := Option.bind_eq_some_iff.mp en
  obtain ⟨ds, ed, en⟩ := Option.bind_eq_some_iff.mp en
  cases hr with
  | cons h hs =>
    cases hs
    obtain ⟨a, us, rfl, r1, d1⟩ := RV.lst s h (lstD_eq ed)
    rw [intsOf_eq en] at d1
    have := d1.ints_of
    subst this
    cases ns with
    | nil => cases em
    | cons b ns =>
      cases em
      obtain ⟨h1, h2⟩ := foldl_min_mem ns b
      refine ⟨a, _, rfl, rd_l r1, Nat.succ_pos _, fun k hk hl => ?_⟩
      have : k = ns.foldl min b := Int.le_antisymm (hl _ h1) (h2 k hk)
      subst this
      exact q _ H F (.refl s) (.int _)
/-- list(x), tuple(x) -/
def cList : List R → Option R := c1 fun r => match r.d with
  | .lst ds => some (.tm ds)
  | .tup ds => some (.tm ds)
  | _ => none
theorem cd_list : CallD K ca (fun xs H Q => ∃ p ys, xs = [.ref p] ∧ (SqL K H p ys ∨ SqT K H p ys) ∧ ∀ l, H l = none → Q (.ref l) (upd H l (.lst ys))) cList := by
  intro B Hs F H vs xs z Q s hr e q
  obtain ⟨r, rfl, e2⟩ := one_of e
  clear e
  cases hr with
  | cons h hs =>
    cases hs
    split at e2
    · rename_i ds hd
      cases e2
      obtain ⟨a, us, rfl, r1, d1⟩ := RV.lst s h hd
      exact ⟨a, us, rfl, .inl (rd_l r1), fun l hl => q _ _ F (.newO s _ hl) ⟨l, us, rfl, noT_none hl, s.free hl, upd_same, d1⟩⟩
    · rename_i ds hd
      cases e2
      cases RV.den h hd rfl with
      | tup t d1 => exact ⟨_, _, rfl, .inr (Same.seqT s t), fun l hl => q _ _ F (.newO s _ hl) ⟨l, _, rfl, noT_none hl, s.free hl, upd_same, d1⟩⟩
    · cases e2
def cTuple : List R → Option R := c1 fun r => match r.d with
  | .lst ds => some (.va (.tup ds))
  | .tup ds => some (.va (.tup ds))
  | _ => none
theorem cd_tuple : CallD K ca (fun xs H Q => ∃ p ys, xs = [.ref p] ∧ ((SqL K H p ys ∧ ∀ l, H l = none → Q (.ref l) (upd H l (.tup ys))) ∨ (SqT K H p ys ∧ Q (.ref p) H))) cTuple := by
  intro B Hs F H vs xs z Q s hr e q
  obtain ⟨r, rfl, e2⟩ := one_of e
  clear e
  cases hr with
  | cons h hs =>
    cases hs
    split at e2
    · rename_i ds hd
      cases e2
      obtain ⟨a, us, rfl, r1, d1⟩ := RV.lst s h hd
      exact ⟨a, us, rfl, .inl ⟨rd_l r1, fun l hl => q _ _ _ (.new s _ hl) (.tup (SqT.of upd_same) (d1.mono (same_upd (s.free hl))))⟩⟩
    · rename_i ds hd
      cases e2
      cases RV.den h hd rfl with
      | tup t d1 => exact ⟨_, _, rfl, .inr ⟨Same.seqT s t, q _ H F (.refl s) (.tup t d1)⟩⟩
    · cases e2
end
/-! ### isinstance of built-in types -/
inductive BTy where
  | int | bool | str | list | tuple
def BTy.nm : BTy → String
  | .int => "int"
  | .bool => "bool"
  | .str => "str"
  | .list => "list"
  | .tuple => "tuple"
def isB : BTy → D → Option Bool
  | _, .ins _ _ => none
  | _, .rol _ => none
  | _, .dic _ _ => none
  | _, .exc _ _ => none
  | .int, .int _ => some true
  | .int, .bl _ => some true
  | .bool, .bl _ => some true
  | .str, .str _ => some true
  | .list, .lst _ => some true
  | .tuple, .tup _ => some true
  | _, _ => some false
def tyN : D → String
  | .non => "NoneType"
  | .bl _ => "bool"
  | .int _ => "int"
  | .str _ => "str"
  | .lst _ => "list"
  | .tup _ => "tuple"
  | .ins _ _ => ""
  | .rol _ => ""
  | .dic _ _ => ""
  | .exc _ _ => ""
theorem isB_kit : ∀ (T : BTy) (d : D) (b : Bool), isB T d = some b → kitB (tyN d) T.nm = some b := by
  intro T d b h
  cases d <;> cases T <;> cases b <;> first
    | (exfalso; simp [isB] at h; done)
    | (clear h; show kitB _ _ = _; simp only [tyN, BTy.nm]; decide +kernel)
theorem RV.ty {K : PySem.W.Frag} {ca : Nat → Addr} {B : BT} {Hs F H : Hp} {v : V} {r : R} (s : Same F H) (h : RV K ca B Hs F H v r) (n : ∀ c fs, r.d ≠ .ins c fs) (n2 : ∀ fs, r.d ≠ .rol fs) (n3 : ∀ ks fs, r.d ≠ .dic ks fs) (n4 : ∀ c fs, r.d ≠ .exc c fs) : TyX K H v (.type (tyN r.d)) := by
  have lst : ∀ ds, r.d = .lst ds → TyX K H v (.type "list") := fun ds e => by
    obtain ⟨a, us, rfl, r1, _⟩ := RV.lst s h e
    rcases r1 with z | ⟨o, z⟩
    · exact .base (.lst z)
    · exact .base (.frz z)
  cases e : r.d with
  | non => cases RV.den h e rfl; exact .base .non
  | bl b => cases RV.den h e rfl; exact .base (.bl _)
  | int i => cases RV.den h e rfl; exact .base (.int _)
  | str x => cases RV.den h e rfl; exact .base (.str _)
  | lst ds => exact lst ds e
  | tup ds =>
    cases RV.den h e rfl with
    | tup t d1 =>
      rcases Same.seqT s t with (z | ⟨o, z⟩) | ⟨o, its, n, z1, z2, _⟩
      · exact .base (.tup z)
      · exact .fTuple z
      · exact .kTuple z1 z2
  | ins c fs => exact absurd e (n c fs)
  | rol fs => exact absurd e (n2 fs)
  | dic ks fs => exact absurd e (n3 ks fs)
  | exc c fs => exact absurd e (n4 c fs)
def eIs (T : BTy) (m : Gm → Option R) : Gm → Option R := fun g => (m g).bind fun r => if r.isTm = true then none else (isB T r.d).map fun b => .va (.bl b)
/-- isinstance(x, (A, B)) -/
def eIs2 (T U : BTy) (m : Gm → Option R) : Gm → Option R := fun g => (m g).bind fun r => if r.isTm = true then none else (isB T r.d).bind fun a => (isB U r.d).map fun b => .va (.bl (a || b))
section
variable {X : Cx} {ca : Nat → Addr} {e : Expr} {m : Gm → Option R} {pos p p1 p2 p3 : Pos}
theorem isB_ins {T : BTy} {r : R} {b : Bool} (h : isB T r.d = some b) : ∀ c fs, r.d ≠ .ins c fs := fun c fs e => by
  rw [e] at h
  cases T <;> cases h
theorem isB_exc {T : BTy} {r : R} {b : Bool} (h : isB T r.d = some b) : ∀ c fs, r.d ≠ .exc c fs := fun c fs e => by
  rw [e] at h
  cases T <;> cases h
theorem isB_dic {T : BTy} {r : R} {b : Bool} (h : isB T r.d = some b) : ∀ ks fs, r.d ≠ .dic ks fs := fun ks fs e => by
  rw [e] at h
  cases T <;> cases h
theorem isB_rol {T : BTy} {r : R} {b : Bool} (h : isB T r.d = some b) : ∀ fs, r.d ≠ .rol fs := fun fs e => by
  rw [e] at h
  cases T <;> cases h
theorem ev_isi {T : BTy} {x : Str} (hg : Gl X "isinstance") (hm : X.mg "isinstance" = none) (hv : bootBuiltins "isinstance" = some (.builtin "isinstance")) (he : EV X ca e m) (hT : PE X (.Name x p1) (tC (.ty T.nm)))
    (hs1 : starEach [e, .Name x p1] X.env = (false, eval e X.env) :: starEach [.Name x p1] X.env := by rfl) (hs2 : starEach [.Name x p1] X.env = (false, eval (.Name x p1) X.env) :: starEach [] X.env := by rfl)
    (hpl : (backTo pos (starEach [.Name x p1] X.env)).any (·.1) = false := by rfl) : EV X ca (.Call (.Name "isinstance" p) [e, .Name x p1] [] pos) (eIs T m) := by
  refine pe_imp (pe_callB call_isi hg hm hv (pa_cons he (pa_cons hT pa_nil hs2) hs1) (by decide) (by decide) hs1 hpl) ?_
  rintro σ H Q ⟨H0, F0, F, Γ, z, S, e, q⟩
  unfold eIs at e
  obtain ⟨r, er, e⟩ := Option.bind_eq_some_iff.mp e
  by_cases ht : r.isTm = true
  · rw [if_pos ht] at e; cases e
  rw [if_neg ht] at e
  obtain ⟨b, eb, rfl⟩ := Option.map_eq_some_iff.mp e
  refine ⟨H0, F0, F, Γ, r, S, er, fun v H1 F1 x1 r1 => ?_⟩
  exact ⟨v, _, _, _, b, rfl, .ty _, RV.ty x1.fh r1 (isB_ins eb) (isB_rol eb) (isB_dic eb) (isB_exc eb), kit_ty (isB_kit T _ b eb), q _ H1 F1 x1 (.bl b)⟩
theorem ev_isi2 {T U : BTy} {x y : Str} {kt : Nat} (hg : Gl X "isinstance") (hm : X.mg "isinstance" = none) (hv : bootBuiltins "isinstance" = some (.builtin "isinstance")) (he : EV X ca e m) (hT : PE X (.Name x p1) (tC (.ty T.nm))) (hU : PE X (.Name y p2) (tC (.ty U.nm)))
    (hs1 : starEach [e, .Tuple [.Name x p1, .Name y p2] kt p3] X.env = (false, eval e X.env) :: starEach [.Tuple [.Name x p1, .Name y p2] kt p3] X.env := by rfl)
    (hs2 : starEach [.Tuple [.Name x p1, .Name y p2] kt p3] X.env = (false, eval (.Tuple [.Name x p1, .Name y p2] kt p3) X.env) :: starEach [] X.env := by rfl)
    (hs3 : starEach [.Name x p1, .Name y p2] X.env = (false, eval (.Name x p1) X.env) :: starEach [.Name y p2] X.env := by rfl) (hs4 : starEach [.Name y p2] X.env = (false, eval (.Name y p2) X.env) :: starEach [] X.env := by rfl)
    (hpl : (backTo pos (starEach [.Tuple [.Name x p1, .Name y p2] kt p3] X.env)).any (·.1) = false := by rfl) : EV X ca (.Call (.Name "isinstance" p) [e, .Tuple [.Name x p1, .Name y p2] kt p3] [] pos) (eIs2 T U m) := by
  refine pe_imp (pe_callB call_isiT hg hm hv (pa_cons he (pa_cons (pe_tup (pa_cons hT (pa_cons hU pa_nil hs4) hs3)) pa_nil hs2) hs1) (by decide) (by decide) hs1 hpl) ?_
  rintro σ H Q ⟨H0, F0, F, Γ, z, S, e, q⟩
  unfold eIs2 at e
  obtain ⟨r, er, e⟩ := Option.bind_eq_some_iff.mp e
  by_cases ht : r.isTm = true
  · rw [if_pos ht] at e; cases e
  rw [if_neg ht] at e
  obtain ⟨a, ea, e⟩ := Option.bind_eq_some_iff.mp e
  obtain ⟨b, eb, rfl⟩ := Option.map_eq_some_iff.mp e
  refine ⟨H0, F0, F, Γ, r, S, er, fun v H1 F1 x1 r1 => ⟨by show 2 ≤ sizeLine; decide, fun t ht2 => ?_⟩⟩
  have x2 := x1.trans (Ext.newO x1.fh (.tup [.ty T.nm, .ty U.nm]) ht2)
  have r2 := r1.mono (Ext.newO x1.fh (.tup [.ty T.nm, .ty U.nm]) ht2)
  refine ⟨v, t, _, _, [.type T.nm, .type U.nm], a || b, rfl, upd_same, .cons (.ty _) (.cons (.ty _) .nil), RV.ty x2.fh r2 (isB_ins ea) (isB_rol ea) (isB_dic ea) (isB_exc ea), ?_, q _ _ F1 x2 (.bl _)⟩
  refine kitAny_cons (kit_ty (isB_kit T _ a ea)) (fun h => ?_) (fun h => by subst h; rfl)
  subst h
  refine kitAny_cons (kit_ty (isB_kit U _ b eb)) (fun h => ?_) (fun h => by subst h; rfl)
  subst h
  exact kitAny_nil
end
end BK
namespace BK
open PySem PySem.Spec L2
open PyProof.Rows (envOfC)
set_option autoImplicit false
/-! ### the other operators on ints -/
section
variable {K : PySem.W.Frag} {ca : Nat → Addr}
def oSub := oI (fun _ _ => True) fun i j => .int (i - j)
def oDiv := oI CDivB fun i j => .int (i.fdiv j)
def oMod := oI (fun _ j => j ≠ 0) fun i j => .int (i.fmod j)
def oPow := oI CPow fun i j => .int (i ^ j.toNat)
def oShl := oI CPow fun i j => .int (i * 2 ^ j.toNat)
def oShr := oI (fun _ j => 0 ≤ j) fun i j => .int (i / 2 ^ j.toNat)
def oAndB := oI (fun _ _ => True) fun i j => .int (Builtin.bitAnd i j)
def uNeg := uI fun i => .int (-i)
theorem od_sub : OpD K ca (rI0 fun i j => .int (i - j)) oSub := od_I0 fun _ _ _ => .int _
theorem od_div : OpD K ca (rI CDivB fun i j => .int (i.fdiv j)) oDiv := od_I fun _ _ _ => .int _
theorem od_mod : OpD K ca (rI (fun _ j => j ≠ 0) fun i j => .int (i.fmod j)) oMod := od_I fun _ _ _ => .int _
theorem od_pow : OpD K ca (rI CPow fun i j => .int (i ^ j.toNat)) oPow := od_I fun _ _ _ => .int _
theorem od_shl : OpD K ca (rI CPow fun i j => .int (i * 2 ^ j.toNat)) oShl := od_I fun _ _ _ => .int _
theorem od_shr : OpD K ca (rI (fun _ j => 0 ≤ j) fun i j => .int (i / 2 ^ j.toNat)) oShr := od_I fun _ _ _ => .int _
theorem od_and : OpD K ca (rI0 fun i j => .int (Builtin.bitAnd i j)) oAndB := od_I0 fun _ _ _ => .int _
theorem ud_neg : UnD K ca (rU fun i => .int (-i)) uNeg := ud_I fun _ _ => .int _
end
theorem b_isinstance : bootBuiltins "isinstance" = some (.builtin "isinstance") := by decide +kernel
theorem b_len : bootBuiltins "len" = some (.builtin "len") := by decide +kernel
theorem b_abs : bootBuiltins "abs" = some (.builtin "abs") := by decide +kernel
theorem b_max : bootBuiltins "max" = some (.builtin "max") := by decide +kernel
theorem b_min : bootBuiltins "min" = some (.builtin "min") := by decide +kernel
theorem b_sum : bootBuiltins "sum" = some (.builtin "sum") := by decide +kernel
theorem b_all : bootBuiltins "all" = some (.builtin "all") := by decide +kernel
theorem b_any : bootBuiltins "any" = some (.builtin "any") := by decide +kernel
theorem b_sorted : bootBuiltins "sorted" = some (.builtin "sorted") := by decide +kernel
theorem b_int : bootBuiltins "int" = some (.type "int") := by decide +kernel
theorem b_bool : bootBuiltins "bool" = some (.type "bool") := by decide +kernel
theorem b_str : bootBuiltins "str" = some (.type "str") := by decide +kernel
theorem b_list : bootBuiltins "list" = some (.type "list") := by decide +kernel
theorem b_tuple : bootBuiltins "tuple" = some (.type "tuple") := by decide +kernel
theorem b_dict : bootBuiltins "dict" = some (.type "dict") := by decide +kernel
/-- a built-in type's name as a value -/
theorem pe_ty {X : Cx} {x : Str} {n : String} {pos : Pos} (hg : Gl X x) (hm : X.mg x = none) (hv : bootBuiltins x = some (.type n)) (hn : x ≠ "__name__" := by decide) (hd : (x == ("__debug__" : Str)) = false := by decide) : PE X (.Name x pos) (tC (.ty n)) := pe_bltn hg hm hv rfl hn hd
end BK
namespace BK
open PySem PySem.Spec L2
open PyProof.Rows (envOfC)
set_option autoImplicit false
/-- turns that a while may take -/
@[irreducible] def FUEL : Nat := 2 ^ 1000000
theorem gE_le : ∀ ds g g', gE ds g = some g' → ds.length = 0 := fun ds g g' e => by
  cases ds with
  | nil => rfl
  | cons d ds => cases e
theorem gC_le {f : D → Gm → Option Gm} {r : List D → Gm → Option Gm} {n : Nat} (h : ∀ ds g g', r ds g = some g' → ds.length = n) : ∀ ds g g', gC f r ds g = some g' → ds.length = n + 1 := fun ds g g' e => by
  cases ds with
  | nil => cases e
  | cons d ds =>
    have e : (f d g).bind (r ds) = some g' := e
    obtain ⟨g1, e1, e2⟩ := Option.bind_eq_some_iff.mp e
    rw [List.length_cons, h _ _ _ e2]
/-! += -/
def rIAdd : TIp := fun x y H Q => ipI (fun i j => i + j) x y H Q ∨ ∃ i j, x = .str i ∧ y = .str j ∧ i.length + j.length ≤ sizeLine ∧ Q (.str (i ++ j)) H
theorem ip_addA {X : Cx} : PIp X .Add rIAdd := by
  intro pins s σ H x y v u Q I r1 r2 h
  rcases h with h | h
  · exact ip_add pins s σ H x y v u Q I r1 r2 h
  · exact iop_add_str pins s σ H x y v u Q I r1 r2 h
def oIAdd : R → R → Option R := fun a b => match a.d, b.d with
  | .int i, .int j => some (.va (.int (i + j)))
  | .str x, .str y => if x.length + y.length ≤ LIM then some (.va (.str (x ++ y))) else none
  | _, _ => none
theorem od_iadd {K : PySem.W.Frag} {ca : Nat → Addr} : OpD K ca rIAdd oIAdd := by
  intro B H0 F H v w x y z Q s rx ry e q
  unfold oIAdd at e
  split at e
  · rename_i i j h1 h2
    cases e
    cases RV.den rx h1 rfl
    cases RV.den ry h2 rfl
    exact .inl ⟨i, j, rfl, rfl, q _ H F (.refl s) (.int _)⟩
  · rename_i i j h1 h2
    split at e
    · rename_i hl
      cases e
      cases RV.den rx h1 rfl
      cases RV.den ry h2 rfl
      exact .inr ⟨i, j, rfl, rfl, by rw [lim_eq]; exact hl, q _ H F (.refl s) (.str _)⟩
    · cases e
  · cases e
end BK
namespace BK
open PySem PySem.Spec L2
set_option autoImplicit false
/-! ### how a def's function is reckoned out: rules for simp -/
def rdS (i : Nat) : Option Slot → Option R
  | some (.va d) => some (.va d)
  | some (.ow ds) => some (.bw i ds)
  | _ => none
@[simp] theorem eV_def (i : Nat) (g : Gm) : eV i g = rdS i (g[i]?) := by
  unfold eV
  cases h : g[i]? with
  | none => rfl
  | some s => cases s <;> rfl
@[simp] theorem rdS_va (i : Nat) (d : D) : rdS i (some (.va d)) = some (.va d) := rfl
@[simp] theorem rdS_ow (i : Nat) (ds : List D) : rdS i (some (.ow ds)) = some (.bw i ds) := rfl
@[simp] theorem eC_def (d : D) (g : Gm) : eC d g = some (.va d) := rfl
def b1 {α β : Type} (x : Option α) (f : α → Option β) : Option β := x.bind f
@[simp] theorem b1_some {α β : Type} (x : α) (f : α → Option β) : b1 (some x) f = f x := (rfl)
def b2 {α β γ : Type} (x : Option α) (y : Option β) (f : α → β → Option γ) : Option γ := x.bind fun x => y.bind fun y => f x y
@[simp] theorem b2_some {α β γ : Type} (x : α) (y : β) (f : α → β → Option γ) : b2 (some x) (some y) f = f x y := (rfl)
@[simp] theorem e1_def (f : R → Option R) (a : Gm → Option R) (g : Gm) : e1 f a g = b1 (a g) f := rfl
@[simp] theorem e2_def (f : R → R → Option R) (a b : Gm → Option R) (g : Gm) : e2 f a b g = b2 (a g) (b g) f := rfl
@[simp] theorem aN_def (g : Gm) : aN g = some [] := rfl
def cF (x : R) (y : List R) : Option (List R) := some (x.fz :: y)
@[simp] theorem aC_def (a : Gm → Option R) (b : Gm → Option (List R)) (g : Gm) : aC a b g = b2 (a g) (b g) cF := rfl
@[simp] theorem cF_def (x : R) (y : List R) : cF x y = some (x.fz :: y) := rfl
@[simp] theorem fz_va (d : D) : (R.va d).fz = .va d := rfl
@[simp] theorem fz_tm (ds : List D) : (R.tm ds).fz = .va (.lst ds) := rfl
@[simp] theorem fz_bw (j : Nat) (ds : List D) : (R.bw j ds).fz = .bw j ds := rfl
@[simp] theorem d_va (d : D) : (R.va d).d = d := rfl
@[simp] theorem d_tm (ds : List D) : (R.tm ds).d = .lst ds := rfl
@[simp] theorem d_bw (j : Nat) (ds : List D) : (R.bw j ds).d = .lst ds := rfl
@[simp] theorem bw_va (d : D) : (R.va d).isBw = false := rfl
@[simp] theorem bw_tm (ds : List D) : (R.tm ds).isBw = false := rfl
@[simp] theorem bw_bw (j : Nat) (ds : List D) : (R.bw j ds).isBw = true := rfl
@[simp] theorem tm_va (d : D) : (R.va d).isTm = false := rfl
@[simp] theorem tm_tm (ds : List D) : (R.tm ds).isTm = true := rfl
@[simp] theorem tm_bw (j : Nat) (ds : List D) : (R.bw j ds).isTm = false := rfl
@[simp] theorem wr_va (d : D) : (R.va d).wr = false := rfl
@[simp] theorem wr_tm (ds : List D) : (R.tm ds).wr = true := rfl
@[simp] theorem wr_bw (j : Nat) (ds : List D) : (R.bw j ds).wr = true := rfl
@[simp] theorem lf_va (d : D) : (R.va d).lf = lfn 8 d := rfl
@[simp] theorem lf_tm (ds : List D) : (R.tm ds).lf = ds.all (lfn 8) := rfl
@[simp] theorem lfn_non (n : Nat) : lfn n .non = true := by cases n <;> rfl
@[simp] theorem lfn_bl (n : Nat) (b : Bool) : lfn n (.bl b) = true := by cases n <;> rfl
@[simp] theorem lfn_int (n : Nat) (b : Int) : lfn n (.int b) = true := by cases n <;> rfl
@[simp] theorem lfn_str (n : Nat) (b : Str) : lfn n (.str b) = true := by cases n <;> rfl
@[simp] theorem lfn_tup (n : Nat) (xs : List D) : lfn (n + 1) (.tup xs) = xs.all (lfn n) := rfl
@[simp] theorem lfn_ins (n c : Nat) (xs : List D) : lfn (n + 1) (.ins c xs) = xs.all (lfn n) := rfl
@[simp] theorem eA_def (f : List R → Option R) (a : Gm → Option (List R)) (g : Gm) : eA f a g = b1 (a g) f := rfl
/-- a value of a call -/
def kR (bw : Bool) (ks : List Nat) (r : R) : Option R := if (!bw || r.lf || r.lfk ks) = true then some r else none
@[simp] theorem kR_false (ks : List Nat) (r : R) : kR false ks r = some r := rfl
@[simp] theorem kR_true (ks : List Nat) (r : R) : kR true ks r = if (r.lf || r.lfk ks) = true then some r else none := by unfold kR; simp
@[simp] theorem callR_def (φ : Phi) (dds : List D) (rs : List R) : callR φ dds rs = if (rs.any R.isTm) = true then none else b1 (φ (rs.map R.d ++ dds)) (kR (rs.any R.isBw) (lentK rs)) := rfl
@[simp] theorem eB_def (a : Gm → Option Bool) (g : Gm) : eB a g = (a g).map fun k => .va (.bl k) := rfl
def bB : R → Option Bool
  | .va (.bl k) => some k
  | _ => none
@[simp] theorem bB_bl (k : Bool) : bB (.va (.bl k)) = some k := rfl
@[simp] theorem bE_def (a : Gm → Option R) (g : Gm) : bE a g = b1 (a g) bB := by
  unfold bE b1
  cases a g with
  | none => rfl
  | some r =>
    cases r with
    | va d => cases d <;> rfl
    | _ => rfl
@[simp] theorem bNot_def (a : Gm → Option Bool) (g : Gm) : bNot a g = (a g).map (!·) := rfl
def anB (b : Gm → Option Bool) (g : Gm) (k : Bool) : Option Bool := if k = true then b g else some false
def orB (b : Gm → Option Bool) (g : Gm) (k : Bool) : Option Bool := if k = true then some true else b g
@[simp] theorem bAnd_def (a b : Gm → Option Bool) (g : Gm) : bAnd a b g = b1 (a g) (anB b g) := rfl
@[simp] theorem bOr_def (a b : Gm → Option Bool) (g : Gm) : bOr a b g = b1 (a g) (orB b g) := rfl
@[simp] theorem anB_def (b : Gm → Option Bool) (g : Gm) (k : Bool) : anB b g k = if k = true then b g else some false := rfl
@[simp] theorem orB_def (b : Gm → Option Bool) (g : Gm) (k : Bool) : orB b g k = if k = true then some true else b g := rfl
def anR (b : Gm → Option R) (g : Gm) (k : Bool) : Option R := if k = true then b g else some (.va (.bl false))
def orR (b : Gm → Option R) (g : Gm) (k : Bool) : Option R := if k = true then some (.va (.bl true)) else b g
@[simp] theorem eAnd_def (a b : Gm → Option R) (g : Gm) : eAnd a b g = b1 (bE a g) (anR b g) := rfl
@[simp] theorem eOr_def (a b : Gm → Option R) (g : Gm) : eOr a b g = b1 (bE a g) (orR b g) := rfl
@[simp] theorem anR_def (b : Gm → Option R) (g : Gm) (k : Bool) : anR b g k = if k = true then b g else some (.va (.bl false)) := rfl
@[simp] theorem orR_def (b : Gm → Option R) (g : Gm) (k : Bool) : orR b g k = if k = true then some (.va (.bl true)) else b g := rfl
@[simp] theorem eNot_def (a : Gm → Option R) (g : Gm) : eNot a g = (bE a g).map fun k => .va (.bl (!k)) := rfl
/-! statements -/
def bO (o : Option Out) (n : Gm → Option Out) : Option Out := o.bind fun o => match o with
  | .nx g' => n g'
  | .rt r => some (.rt r)
  | .bk g' => some (.bk g')
  | .ct g' => some (.ct g')
  | .ex x => some (.ex x)
@[simp] theorem sNil_def (g : Gm) : sNil g = some (.nx g) := rfl
@[simp] theorem sCons_def (m n : Gm → Option Out) (g : Gm) : sCons m n g = bO (m g) n := rfl
@[simp] theorem bO_nx (g : Gm) (n : Gm → Option Out) : bO (some (.nx g)) n = n g := rfl
@[simp] theorem bO_rt (r : R) (n : Gm → Option Out) : bO (some (.rt r)) n = some (.rt r) := rfl
@[simp] theorem bO_bk (g : Gm) (n : Gm → Option Out) : bO (some (.bk g)) n = some (.bk g) := rfl
@[simp] theorem bO_ct (g : Gm) (n : Gm → Option Out) : bO (some (.ct g)) n = some (.ct g) := rfl
@[simp] theorem bO_ex (x : Exc) (n : Gm → Option Out) : bO (some (.ex x)) n = some (.ex x) := rfl
@[simp] theorem bO_ite (c : Prop) [Decidable c] (a b : Option Out) (n : Gm → Option Out) : bO (if c then a else b) n = if c then bO a n else bO b n := by split <;> rfl
theorem b1_ite {α β : Type} (c : Prop) [Decidable c] (a b : Option α) (f : α → Option β) : b1 (if c then a else b) f = if c then b1 a f else b1 b f := by split <;> rfl
def rtO (r : R) : Option Out := some (.rt (retR r))
@[simp] theorem rtO_def (r : R) : rtO r = some (.rt (retR r)) := rfl
@[simp] theorem retR_va (d : D) : retR (.va d) = .va d := rfl
@[simp] theorem retR_tm (ds : List D) : retR (.tm ds) = .tm ds := rfl
@[simp] theorem retR_bw (j : Nat) (ds : List D) : retR (.bw j ds) = .tm ds := rfl
@[simp] theorem sRet_def (m : Gm → Option R) (g : Gm) : sRet m g = b1 (m g) rtO := by
  unfold sRet b1 rtO
  cases m g <;> rfl
@[simp] theorem sRetN_def (g : Gm) : sRetN g = some (.rt (.va .non)) := rfl
def stO (i : Nat) (g : Gm) (r : R) : Option Out := (setR g i r).map .nx
@[simp] theorem sSet_def (i : Nat) (m : Gm → Option R) (g : Gm) : sSet i m g = b1 (m g) (stO i g) := rfl
@[simp] theorem stO_va (i : Nat) (g : Gm) (d : D) : stO i g (.va d) = some (.nx (g.set i (.va d))) := rfl
@[simp] theorem stO_tm (i : Nat) (g : Gm) (ds : List D) : stO i g (.tm ds) = some (.nx (g.set i (.ow ds))) := rfl
def ifO (t u : Gm → Option Out) (g : Gm) (k : Bool) : Option Out := if k = true then t g else u g
@[simp] theorem sIf_def (c : Gm → Option Bool) (t u : Gm → Option Out) (g : Gm) : sIf c t u g = b1 (c g) (ifO t u g) := rfl
@[simp] theorem ifO_def (t u : Gm → Option Out) (g : Gm) (k : Bool) : ifO t u g k = if k = true then t g else u g := rfl
def exO (g : Gm) (r : R) : Option Out := some (.nx g)
@[simp] theorem exO_def (g : Gm) (r : R) : exO g r = some (.nx g) := rfl
@[simp] theorem sExp_def (m : Gm → Option R) (g : Gm) : sExp m g = b1 (m g) (exO g) := by
  unfold sExp b1 exO
  cases m g <;> rfl
@[simp] theorem sBk_def (g : Gm) : sBk g = some (.bk g) := rfl
@[simp] theorem sCt_def (g : Gm) : sCt g = some (.ct g) := rfl
def prO (i j : Nat) (g : Gm) (x y : R) : Option Out := match x.fz, y.fz with
  | .va d, .va e => some (.nx ((g.set i (.va d)).set j (.va e)))
  | _, _ => none
@[simp] theorem sPar_def (i j : Nat) (a b : Gm → Option R) (g : Gm) : sPar i j a b g = b2 (a g) (b g) (prO i j g) := rfl
@[simp] theorem prO_va (i j : Nat) (g : Gm) (d e : D) : prO i j g (.va d) (.va e) = some (.nx ((g.set i (.va d)).set j (.va e))) := rfl
def agO (i : Nat) (f : R → R → Option R) (g : Gm) (x y : R) : Option Out := b1 (f x y) (stO i g)
@[simp] theorem sAug_def (i : Nat) (f : R → R → Option R) (m : Gm → Option R) (g : Gm) : sAug i f m g = b2 (eV i g) (m g) (agO i f g) := rfl
@[simp] theorem agO_def (i : Nat) (f : R → R → Option R) (g : Gm) (x y : R) : agO i f g x y = b1 (f x y) (stO i g) := rfl
def asO (f : D → Gm → Option Gm) (g : Gm) (r : R) : Option Out := match r with
  | .va d => (f d g).map .nx
  | _ => none
@[simp] theorem sAsg_def (m : Gm → Option R) (f : D → Gm → Option Gm) (g : Gm) : sAsg m f g = b1 (m g) (asO f g) := rfl
@[simp] theorem asO_va (f : D → Gm → Option Gm) (g : Gm) (d : D) : asO f g (.va d) = (f d g).map .nx := rfl
@[simp] theorem gN_def (i : Nat) (d : D) (g : Gm) : gN i d g = some (g.set i (.va d)) := rfl
@[simp] theorem gE_def (g : Gm) : gE [] g = some g := rfl
@[simp] theorem gC_def (f : D → Gm → Option Gm) (r : List D → Gm → Option Gm) (d : D) (ds : List D) (g : Gm) : gC f r (d :: ds) g = b1 (f d g) (r ds) := rfl
@[simp] theorem gT_def (f : List D → Gm → Option Gm) (ds : List D) (g : Gm) : gT f (.tup ds) g = f ds g := rfl
def apO (i : Nat) (g : Gm) (ds : List D) (r : R) : Option Out := if (!r.isBw && decide (ds.length < LIM)) = true then some (.nx (g.set i (.ow (ds ++ [r.d])))) else none
def apS (i : Nat) (g : Gm) (x : Option R) : Option Slot → Option Out
  | some (.ow ds) => b1 x (apO i g ds)
  | _ => none
@[simp] theorem sApp_def (i : Nat) (m : Gm → Option R) (g : Gm) : sApp i m g = apS i g (m g) (g[i]?) := by
  unfold sApp
  cases h : g[i]? with
  | none => rfl
  | some s => cases s <;> rfl
@[simp] theorem apS_ow (i : Nat) (g : Gm) (x : Option R) (ds : List D) : apS i g x (some (.ow ds)) = b1 x (apO i g ds) := rfl
theorem apO_ok {i : Nat} {g : Gm} {ds : List D} {r : R} (h : r.isBw = false) (hl : ds.length < LIM) : apO i g ds r = some (.nx (g.set i (.ow (ds ++ [r.d])))) := by
  unfold apO
  rw [h, decide_eq_true hl]
  rfl
@[simp] theorem apO_va (i : Nat) (g : Gm) (ds : List D) (d : D) : apO i g ds (.va d) = if ds.length < LIM then some (.nx (g.set i (.ow (ds ++ [d])))) else none := by
  unfold apO
  by_cases h : ds.length < LIM <;> simp [h]
@[simp] theorem apO_tm (i : Nat) (g : Gm) (ds es : List D) : apO i g ds (.tm es) = if ds.length < LIM then some (.nx (g.set i (.ow (ds ++ [.lst es])))) else none := by
  unfold apO
  by_cases h : ds.length < LIM <;> simp [h]
def fzS (i : Nat) (m : Gm → Option Out) (g : Gm) : Option Slot → Option Out
  | some (.ow ds) => m (g.set i (.va (.lst ds)))
  | _ => m g
@[simp] theorem sFz_def (i : Nat) (m : Gm → Option Out) (g : Gm) : sFz i m g = fzS i m g (g[i]?) := by
  unfold sFz
  cases h : g[i]? with
  | none => rfl
  | some s => cases s <;> rfl
@[simp] theorem fzS_ow (i : Nat) (m : Gm → Option Out) (g : Gm) (ds : List D) : fzS i m g (some (.ow ds)) = m (g.set i (.va (.lst ds))) := rfl
@[simp] theorem fzS_va (i : Nat) (m : Gm → Option Out) (g : Gm) (d : D) : fzS i m g (some (.va d)) = m g := rfl
@[simp] theorem fzS_un (i : Nat) (m : Gm → Option Out) (g : Gm) : fzS i m g (some .un) = m g := rfl
/-! loops -/
def foO (f : D → Gm → Option Gm) (b : Gm → Option Out) (T : List Nat) (g : Gm) (p : List Nat × List D) : Option Out := if p.1.all (fun j => !T.contains j) = true then forL f b p.2 g else none
@[simp] theorem sFor_def (mi : Gm → Option (List Nat × List D)) (f : D → Gm → Option Gm) (b : Gm → Option Out) (T : List Nat) (g : Gm) : sFor mi f b T g = b1 (mi g) (foO f b T g) := rfl
@[simp] theorem foO_def (f : D → Gm → Option Gm) (b : Gm → Option Out) (T : List Nat) (g : Gm) (ps : List Nat) (ds : List D) : foO f b T g (ps, ds) = if ps.all (fun j => !T.contains j) = true then forL f b ds g else none := rfl
@[simp] theorem iA_def (f : List R → Option (List Nat × List D)) (ms : Gm → Option (List R)) (g : Gm) : iA f ms g = b1 (ms g) f := (rfl)
@[simp] theorem iSeq_def (m : Gm → Option R) (g : Gm) : iSeq m g = b1 (m g) seqR := (rfl)
/-- one turn of a for -/
def fL (f : D → Gm → Option Gm) (b : Gm → Option Out) (ds : List D) (o : Option Out) : Option Out := o.bind fun o => match o with
  | .nx g2 => forL f b ds g2
  | .ct g2 => forL f b ds g2
  | .bk g2 => some (.nx g2)
  | .rt r => some (.rt r)
  | .ex x => some (.ex x)
@[simp] theorem forL_nil (f : D → Gm → Option Gm) (b : Gm → Option Out) (g : Gm) : forL f b [] g = some (.nx g) := rfl
theorem forL_cons (f : D → Gm → Option Gm) (b : Gm → Option Out) (d : D) (ds : List D) (g : Gm) : forL f b (d :: ds) g = fL f b ds (b1 (f d g) b) := by
  unfold fL b1
  show (f d g).bind _ = _
  cases f d g <;> rfl
@[simp] theorem fL_nx (f : D → Gm → Option Gm) (b : Gm → Option Out) (ds : List D) (g : Gm) : fL f b ds (some (.nx g)) = forL f b ds g := rfl
@[simp] theorem fL_ct (f : D → Gm → Option Gm) (b : Gm → Option Out) (ds : List D) (g : Gm) : fL f b ds (some (.ct g)) = forL f b ds g := rfl
@[simp] theorem fL_bk (f : D → Gm → Option Gm) (b : Gm → Option Out) (ds : List D) (g : Gm) : fL f b ds (some (.bk g)) = some (.nx g) := rfl
@[simp] theorem fL_rt (f : D → Gm → Option Gm) (b : Gm → Option Out) (ds : List D) (r : R) : fL f b ds (some (.rt r)) = some (.rt r) := rfl
@[simp] theorem fL_ex (f : D → Gm → Option Gm) (b : Gm → Option Out) (ds : List D) (x : Exc) : fL f b ds (some (.ex x)) = some (.ex x) := rfl
@[simp] theorem fL_ite (f : D → Gm → Option Gm) (b : Gm → Option Out) (ds : List D) (c : Prop) [Decidable c] (x y : Option Out) : fL f b ds (if c then x else y) = if c then fL f b ds x else fL f b ds y := by split <;> rfl
def wL (c : Gm → Option Bool) (b : Gm → Option Out) (n : Nat) (o : Option Out) : Option Out := o.bind fun o => match o with
  | .nx g' => sWh c b n g'
  | .ct g' => sWh c b n g'
  | .bk g' => some (.nx g')
  | .rt r => some (.rt r)
  | .ex x => some (.ex x)
def whK (c : Gm → Option Bool) (b : Gm → Option Out) (n : Nat) (g : Gm) (k : Bool) : Option Out := if k = true then wL c b n (b g) else some (.nx g)
theorem sWh_succ (c : Gm → Option Bool) (b : Gm → Option Out) (n : Nat) (g : Gm) : sWh c b (n + 1) g = b1 (c g) (whK c b n g) := rfl
@[simp] theorem whK_def (c : Gm → Option Bool) (b : Gm → Option Out) (n : Nat) (g : Gm) (k : Bool) : whK c b n g k = if k = true then wL c b n (b g) else some (.nx g) := rfl
@[simp] theorem wL_nx (c : Gm → Option Bool) (b : Gm → Option Out) (n : Nat) (g : Gm) : wL c b n (some (.nx g)) = sWh c b n g := rfl
@[simp] theorem wL_ct (c : Gm → Option Bool) (b : Gm → Option Out) (n : Nat) (g : Gm) : wL c b n (some (.ct g)) = sWh c b n g := rfl
@[simp] theorem wL_bk (c : Gm → Option Bool) (b : Gm → Option Out) (n : Nat) (g : Gm) : wL c b n (some (.bk g)) = some (.nx g) := rfl
@[simp] theorem wL_rt (c : Gm → Option Bool) (b : Gm → Option Out) (n : Nat) (r : R) : wL c b n (some (.rt r)) = some (.rt r) := rfl
@[simp] theorem wL_ex (c : Gm → Option Bool) (b : Gm → Option Out) (n : Nat) (x : Exc) : wL c b n (some (.ex x)) = some (.ex x) := rfl
@[simp] theorem wL_ite (c : Gm → Option Bool) (b : Gm → Option Out) (n : Nat) (p : Prop) [Decidable p] (x y : Option Out) : wL c b n (if p then x else y) = if p then wL c b n x else wL c b n y := by split <;> rfl
/-! comprehensions -/
def lcO (f : D → Gm → Option Gm) (c : Gm → Option Bool) (el : Gm → Option R) (g : Gm) (p : List Nat × List D) : Option R := if p.2.length ≤ LIM then (compL f c el g p.2).map .tm else none
@[simp] theorem eLc_def (mi : Gm → Option (List Nat × List D)) (f : D → Gm → Option Gm) (c : Gm → Option Bool) (el : Gm → Option R) (own : List Nat) (g : Gm) : eLc mi f c el own g = b1 (mi g) (lcO f c el (wipeG g own)) := rfl
@[simp] theorem lcO_def (f : D → Gm → Option Gm) (c : Gm → Option Bool) (el : Gm → Option R) (g : Gm) (ps : List Nat) (ds : List D) : lcO f c el g (ps, ds) = if ds.length ≤ LIM then (compL f c el g ds).map .tm else none := rfl
@[simp] theorem bY_def (g : Gm) : bY g = some true := rfl
@[simp] theorem compL_nil (f : D → Gm → Option Gm) (c : Gm → Option Bool) (el : Gm → Option R) (g : Gm) : compL f c el g [] = some [] := rfl
def cpR (rest : Option (List D)) (r : R) : Option (List D) := if r.isBw = true then none else rest.map (r.d :: ·)
def cpK (el : Gm → Option R) (rest : Option (List D)) (g1 : Gm) (k : Bool) : Option (List D) := if k = true then b1 (el g1) (cpR rest) else rest
def cpG (c : Gm → Option Bool) (el : Gm → Option R) (rest : Option (List D)) (g1 : Gm) : Option (List D) := b1 (c g1) (cpK el rest g1)
theorem compL_cons (f : D → Gm → Option Gm) (c : Gm → Option Bool) (el : Gm → Option R) (g : Gm) (d : D) (ds : List D) : compL f c el g (d :: ds) = b1 (f d g) (cpG c el (compL f c el g ds)) := rfl
@[simp] theorem cpG_def (c : Gm → Option Bool) (el : Gm → Option R) (rest : Option (List D)) (g1 : Gm) : cpG c el rest g1 = b1 (c g1) (cpK el rest g1) := rfl
@[simp] theorem cpK_def (el : Gm → Option R) (rest : Option (List D)) (g1 : Gm) (k : Bool) : cpK el rest g1 k = if k = true then b1 (el g1) (cpR rest) else rest := rfl
@[simp] theorem cpR_va (rest : Option (List D)) (d : D) : cpR rest (.va d) = rest.map (d :: ·) := rfl
@[simp] theorem cpR_tm (rest : Option (List D)) (ds : List D) : cpR rest (.tm ds) = rest.map (.lst ds :: ·) := rfl
@[simp] theorem wipeG_nil (g : Gm) : wipeG g [] = g := rfl
@[simp] theorem wipeG_cons (g : Gm) (v : Nat) (vs : List Nat) : wipeG g (v :: vs) = (wipeG g vs).set v .un := rfl
/-- a comprehension whose elements are known -/
theorem compL_map {α : Type} (f : D → Gm → Option Gm) (c : Gm → Option Bool) (el : Gm → Option R) (g : Gm) (enc : α → D) (out : α → D) : ∀ (xs : List α), (∀ x ∈ xs, ∀ rest : List D, b1 (f (enc x) g) (cpG c el (some rest)) = some (out x :: rest)) → compL f c el g (xs.map enc) = some (xs.map out)
  | [], _ => rfl
  | x :: xs, h => by
    rw [List.map_cons, compL_cons, compL_map f c el g enc out xs fun y hy => h y (List.mem_cons_of_mem _ hy), h x List.mem_cons_self]
    rfl
/-- .. with a test -/
theorem compL_filter {α : Type} (f : D → Gm → Option Gm) (c : Gm → Option Bool) (el : Gm → Option R) (g : Gm) (enc : α → D) (out : α → D) (p : α → Bool) : ∀ (xs : List α), (∀ x ∈ xs, ∀ rest : List D, b1 (f (enc x) g) (cpG c el (some rest)) = some (if p x = true then out x :: rest else rest)) → compL f c el g (xs.map enc) = some ((xs.filter p).map out)
  | [], _ => rfl
  | x :: xs, h => by
    rw [List.map_cons, compL_cons, compL_filter f c el g enc out p xs fun y hy => h y (List.mem_cons_of_mem _ hy), h x List.mem_cons_self]
    by_cases e : p x = true
    · rw [if_pos e, List.filter_cons_of_pos e]; rfl
    · rw [if_neg e, List.filter_cons_of_neg e]
/-! operators -/
@[simp] theorem oI_def (C : Int → Int → Prop) [∀ i j, Decidable (C i j)] (h : Int → Int → D) (i j : Int) : oI C h (.va (.int i)) (.va (.int j)) = if C i j then some (.va (h i j)) else none := rfl
@[simp] theorem uI_def (h : Int → D) (i : Int) : uI h (.va (.int i)) = some (.va (h i)) := rfl
@[simp] theorem uNeg_def (i : Int) : uNeg (.va (.int i)) = some (.va (.int (-i))) := rfl
@[simp] theorem oAdd_int (i j : Int) : oAdd (.va (.int i)) (.va (.int j)) = some (.va (.int (i + j))) := rfl
@[simp] theorem oIAdd_int (i j : Int) : oIAdd (.va (.int i)) (.va (.int j)) = some (.va (.int (i + j))) := rfl
@[simp] theorem oIAdd_str (i j : Str) : oIAdd (.va (.str i)) (.va (.str j)) = if i.length + j.length ≤ LIM then some (.va (.str (i ++ j))) else none := rfl
@[simp] theorem oAdd_str (i j : Str) : oAdd (.va (.str i)) (.va (.str j)) = if i.length + j.length ≤ LIM then some (.va (.str (i ++ j))) else none := rfl
@[simp] theorem oAdd_tup (i j : List D) : oAdd (.va (.tup i)) (.va (.tup j)) = if i.length + j.length ≤ LIM then some (.va (.tup (i ++ j))) else none := rfl
theorem oAdd_lst {a b : R} {i j : List D} (ha : a.d = .lst i) (hb : b.d = .lst j) : oAdd a b = if i.length + j.length ≤ LIM then some (.tm (i ++ j)) else none := by
  unfold oAdd
  rw [ha, hb]
@[simp] theorem oAdd_tmtm (i j : List D) : oAdd (.tm i) (.tm j) = if i.length + j.length ≤ LIM then some (.tm (i ++ j)) else none := rfl
@[simp] theorem oAdd_bwtm (k : Nat) (i j : List D) : oAdd (.bw k i) (.tm j) = if i.length + j.length ≤ LIM then some (.tm (i ++ j)) else none := rfl
@[simp] theorem oAdd_tmbw (k : Nat) (i j : List D) : oAdd (.tm i) (.bw k j) = if i.length + j.length ≤ LIM then some (.tm (i ++ j)) else none := rfl
@[simp] theorem oAdd_bwbw (k l : Nat) (i j : List D) : oAdd (.bw k i) (.bw l j) = if i.length + j.length ≤ LIM then some (.tm (i ++ j)) else none := rfl
@[simp] theorem oAdd_vatm (i j : List D) : oAdd (.va (.lst i)) (.tm j) = if i.length + j.length ≤ LIM then some (.tm (i ++ j)) else none := rfl
@[simp] theorem oAdd_tmva (i j : List D) : oAdd (.tm i) (.va (.lst j)) = if i.length + j.length ≤ LIM then some (.tm (i ++ j)) else none := rfl
@[simp] theorem oAdd_vava (i j : List D) : oAdd (.va (.lst i)) (.va (.lst j)) = if i.length + j.length ≤ LIM then some (.tm (i ++ j)) else none := rfl
@[simp] theorem oAdd_bwva (k : Nat) (i j : List D) : oAdd (.bw k i) (.va (.lst j)) = if i.length + j.length ≤ LIM then some (.tm (i ++ j)) else none := rfl
@[simp] theorem oAdd_vabw (k : Nat) (i j : List D) : oAdd (.va (.lst i)) (.bw k j) = if i.length + j.length ≤ LIM then some (.tm (i ++ j)) else none := rfl
@[simp] theorem oSub_def (i j : Int) : oSub (.va (.int i)) (.va (.int j)) = some (.va (.int (i - j))) := rfl
@[simp] theorem oDiv_def (i j : Int) : oDiv (.va (.int i)) (.va (.int j)) = if CDivB i j then some (.va (.int (i.fdiv j))) else none := rfl
@[simp] theorem oMod_def (i j : Int) : oMod (.va (.int i)) (.va (.int j)) = if j ≠ 0 then some (.va (.int (i.fmod j))) else none := rfl
@[simp] theorem oPow_def (i j : Int) : oPow (.va (.int i)) (.va (.int j)) = if CPow i j then some (.va (.int (i ^ j.toNat))) else none := rfl
@[simp] theorem oShl_def (i j : Int) : oShl (.va (.int i)) (.va (.int j)) = if CPow i j then some (.va (.int (i * 2 ^ j.toNat))) else none := rfl
@[simp] theorem oShr_def (i j : Int) : oShr (.va (.int i)) (.va (.int j)) = if 0 ≤ j then some (.va (.int (i / 2 ^ j.toNat))) else none := rfl
@[simp] theorem oAndB_def (i j : Int) : oAndB (.va (.int i)) (.va (.int j)) = some (.va (.int (Builtin.bitAnd i j))) := rfl
@[simp] theorem oMulA_int (i j : Int) : oMulA (.va (.int i)) (.va (.int j)) = if CMulB i j then some (.va (.int (i * j))) else none := rfl
@[simp] theorem oMulA_str (i : Str) (j : Int) : oMulA (.va (.str i)) (.va (.int j)) = if -(2 ^ 63) ≤ j ∧ j < 2 ^ 63 ∧ i.length * j.toNat ≤ LIM then some (.va (.str (strRep i j))) else none := rfl
@[simp] theorem oMulA_lst (i : List D) (j : Int) : oMulA (.tm i) (.va (.int j)) = if -(2 ^ 63) ≤ j ∧ j < 2 ^ 63 ∧ i.length * j.toNat ≤ LIM then some (.tm (List.replicate j.toNat i).flatten) else none := rfl
@[simp] theorem oLt_def (i j : Int) : oLt (.va (.int i)) (.va (.int j)) = some (.va (.bl (decide (i < j)))) := rfl
@[simp] theorem oLe_def (i j : Int) : oLe (.va (.int i)) (.va (.int j)) = some (.va (.bl (decide (i ≤ j)))) := rfl
@[simp] theorem oGt_def (i j : Int) : oGt (.va (.int i)) (.va (.int j)) = some (.va (.bl (decide (j < i)))) := rfl
@[simp] theorem oGe_def (i j : Int) : oGe (.va (.int i)) (.va (.int j)) = some (.va (.bl (decide (j ≤ i)))) := rfl
@[simp] theorem oEq_int (i j : Int) : oEq (.va (.int i)) (.va (.int j)) = some (.va (.bl (decide (i = j)))) := by
  show some (R.va (.bl (i == j))) = _
  rw [Bool.beq_eq_decide_eq]
@[simp] theorem oNe_int (i j : Int) : oNe (.va (.int i)) (.va (.int j)) = some (.va (.bl (!decide (i = j)))) := by
  show some (R.va (.bl (!(i == j)))) = _
  rw [Bool.beq_eq_decide_eq]
@[simp] theorem oEq_str (i j : Str) : oEq (.va (.str i)) (.va (.str j)) = some (.va (.bl (decide (i = j)))) := rfl
@[simp] theorem oNe_str (i j : Str) : oNe (.va (.str i)) (.va (.str j)) = some (.va (.bl (!decide (i = j)))) := rfl
@[simp] theorem oEq_bl (i j : Bool) : oEq (.va (.bl i)) (.va (.bl j)) = some (.va (.bl (i == j))) := rfl
@[simp] theorem oNe_bl (i j : Bool) : oNe (.va (.bl i)) (.va (.bl j)) = some (.va (.bl (!(i == j)))) := rfl
theorem oEq_gen {a b : R} (h1 : ∀ x y, ¬(a.d = .str x ∧ b.d = .str y)) (ha : okn 8 a.d = true) (hb : okn 8 b.d = true) : oEq a b = some (.va (.bl (eqn 8 a.d b.d))) := by
  unfold oEq eqR
  split
  · rename_i x y e1 e2; exact absurd ⟨e1, e2⟩ (h1 x y)
  · rw [ha, hb]; rfl
theorem oNe_gen {a b : R} (h1 : ∀ x y, ¬(a.d = .str x ∧ b.d = .str y)) (ha : okn 8 a.d = true) (hb : okn 8 b.d = true) : oNe a b = some (.va (.bl (!eqn 8 a.d b.d))) := by
  unfold oNe eqR
  split
  · rename_i x y e1 e2; exact absurd ⟨e1, e2⟩ (h1 x y)
  · rw [ha, hb]; rfl
@[simp] theorem oEq_tup (i j : List D) : oEq (.va (.tup i)) (.va (.tup j)) = if (i.all (okn 7) && j.all (okn 7)) = true then some (.va (.bl (eqL (eqn 7) i j))) else none := by
  show (if (i.all (okn 7) && j.all (okn 7)) = true then some (eqL (eqn 7) i j) else none).map _ = _
  split <;> rfl
@[simp] theorem oNe_tup (i j : List D) : oNe (.va (.tup i)) (.va (.tup j)) = if (i.all (okn 7) && j.all (okn 7)) = true then some (.va (.bl (!eqL (eqn 7) i j))) else none := by
  show (if (i.all (okn 7) && j.all (okn 7)) = true then some (eqL (eqn 7) i j) else none).map _ = _
  split <;> rfl
def eqLst (n : Nat) (i j : List D) : Option Bool := if (i.all (okn n) && j.all (okn n)) = true then some (eqL (eqn n) i j) else none
theorem oEq_lst {a b : R} {i j : List D} (ha : a.d = .lst i) (hb : b.d = .lst j) : oEq a b = (eqLst 7 i j).map fun k => .va (.bl k) := by
  unfold oEq eqR
  rw [ha, hb]
  rfl
theorem oNe_lst {a b : R} {i j : List D} (ha : a.d = .lst i) (hb : b.d = .lst j) : oNe a b = (eqLst 7 i j).map fun k => .va (.bl (!k)) := by
  unfold oNe eqR
  rw [ha, hb]
  rfl
theorem eqLst_ok {n : Nat} {i j : List D} (hi : i.all (okn n) = true) (hj : j.all (okn n) = true) : eqLst n i j = some (eqL (eqn n) i j) := by
  unfold eqLst
  rw [hi, hj]
  rfl
@[simp] theorem okn_non (n : Nat) : okn n .non = true := by cases n <;> rfl
@[simp] theorem okn_bl (n : Nat) (b : Bool) : okn n (.bl b) = true := by cases n <;> rfl
@[simp] theorem okn_int (n : Nat) (b : Int) : okn n (.int b) = true := by cases n <;> rfl
@[simp] theorem okn_str (n : Nat) (b : Str) : okn n (.str b) = PyData.strOk b := by cases n <;> rfl
@[simp] theorem okn_tup (n : Nat) (xs : List D) : okn (n + 1) (.tup xs) = xs.all (okn n) := rfl
@[simp] theorem okn_lst (n : Nat) (xs : List D) : okn (n + 1) (.lst xs) = xs.all (okn n) := rfl
@[simp] theorem eqn_int (n : Nat) (i j : Int) : eqn n (.int i) (.int j) = decide (i = j) := by cases n <;> exact Bool.beq_eq_decide_eq _ _
@[simp] theorem eqn_bl (n : Nat) (i j : Bool) : eqn n (.bl i) (.bl j) = (i == j) := by cases n <;> rfl
@[simp] theorem eqn_str (n : Nat) (i j : Str) : eqn n (.str i) (.str j) = decide (i = j) := by cases n <;> exact Bool.beq_eq_decide_eq _ _
@[simp] theorem eqn_non (n : Nat) : eqn n .non .non = true := by cases n <;> rfl
@[simp] theorem eqn_tup (n : Nat) (i j : List D) : eqn (n + 1) (.tup i) (.tup j) = eqL (eqn n) i j := rfl
@[simp] theorem eqn_lst (n : Nat) (i j : List D) : eqn (n + 1) (.lst i) (.lst j) = eqL (eqn n) i j := rfl
@[simp] theorem eqL_nil (f : D → D → Bool) : eqL f [] [] = true := rfl
@[simp] theorem eqL_cons (f : D → D → Bool) (x y : D) (xs ys : List D) : eqL f (x :: xs) (y :: ys) = (f x y && eqL f xs ys) := rfl
@[simp] theorem eqL_nc (f : D → D → Bool) (y : D) (ys : List D) : eqL f [] (y :: ys) = false := rfl
@[simp] theorem eqL_cn (f : D → D → Bool) (y : D) (ys : List D) : eqL f (y :: ys) [] = false := rfl
theorem eqL_map {α : Type} [DecidableEq α] {f : D → D → Bool} {enc : α → D} (h : ∀ x y, f (enc x) (enc y) = decide (x = y)) : ∀ xs ys : List α, eqL f (xs.map enc) (ys.map enc) = decide (xs = ys)
  | [], [] => rfl
  | [], _ :: _ => by simp
  | _ :: _, [] => by simp
  | x :: xs, y :: ys => by
    rw [List.map_cons, List.map_cons, eqL_cons, h, eqL_map h xs ys]
    by_cases e : x = y <;> by_cases e2 : xs = ys <;> simp [e, e2]
theorem eqL_refl {f : D → D → Bool} : ∀ xs : List D, (∀ x ∈ xs, f x x = true) → eqL f xs xs = true
  | [], _ => rfl
  | x :: xs, h => by
    rw [eqL_cons, h x List.mem_cons_self, eqL_refl xs fun y hy => h y (List.mem_cons_of_mem _ hy)]
    rfl
theorem all_map {α β : Type} (f : β → Bool) (g : α → β) (xs : List α) (h : ∀ x ∈ xs, f (g x) = true) : (xs.map g).all f = true := by
  rw [List.all_eq_true]
  intro y hy
  obtain ⟨x, hx, rfl⟩ := List.mem_map.mp hy
  exact h x hx
@[simp] theorem oIs_bl (r : R) (k : Bool) : oIs r (.va (.bl k)) = some (.va (.bl (r.d.isBl k))) := rfl
@[simp] theorem isBl_bl (k b : Bool) : D.isBl k (.bl b) = (b == k) := rfl
@[simp] theorem isBl_non (k : Bool) : D.isBl k .non = false := rfl
@[simp] theorem isBl_int (k : Bool) (i : Int) : D.isBl k (.int i) = false := rfl
@[simp] theorem isBl_str (k : Bool) (i : Str) : D.isBl k (.str i) = false := rfl
@[simp] theorem isBl_lst (k : Bool) (i : List D) : D.isBl k (.lst i) = false := rfl
@[simp] theorem isBl_tup (k : Bool) (i : List D) : D.isBl k (.tup i) = false := rfl
@[simp] theorem isBl_ins (k : Bool) (c : Nat) (i : List D) : D.isBl k (.ins c i) = false := rfl
@[simp] theorem oIs_def (r : R) : oIs r (.va .non) = some (.va (.bl r.d.isNon)) := rfl
@[simp] theorem oIsN_def (r : R) : oIsN r (.va .non) = some (.va (.bl (!r.d.isNon))) := rfl
@[simp] theorem isNon_non : D.isNon .non = true := rfl
@[simp] theorem isNon_int (i : Int) : D.isNon (.int i) = false := rfl
@[simp] theorem isNon_bl (i : Bool) : D.isNon (.bl i) = false := rfl
@[simp] theorem isNon_str (i : Str) : D.isNon (.str i) = false := rfl
@[simp] theorem isNon_tup (i : List D) : D.isNon (.tup i) = false := rfl
@[simp] theorem isNon_lst (i : List D) : D.isNon (.lst i) = false := rfl
@[simp] theorem isNon_ins (c : Nat) (i : List D) : D.isNon (.ins c i) = false := rfl
theorem oIx_lst {a : R} {xs : List D} {i : Int} (h : a.d = .lst xs) : oIx a (.va (.int i)) = (atI xs i).map .va := by
  unfold oIx
  rw [h]
  rfl
@[simp] theorem oIx_vlst (xs : List D) (i : Int) : oIx (.va (.lst xs)) (.va (.int i)) = (atI xs i).map .va := rfl
@[simp] theorem oIx_tm (xs : List D) (i : Int) : oIx (.tm xs) (.va (.int i)) = (atI xs i).map .va := rfl
@[simp] theorem oIx_bw (j : Nat) (xs : List D) (i : Int) : oIx (.bw j xs) (.va (.int i)) = (atI xs i).map .va := rfl
@[simp] theorem oIx_tup (xs : List D) (i : Int) : oIx (.va (.tup xs)) (.va (.int i)) = (atI xs i).map .va := rfl
@[simp] theorem oIx_rol (xs : List D) (i : Int) : oIx (.va (.rol xs)) (.va (.int i)) = (atI xs i).map .va := rfl
@[simp] theorem oIx_str (z : Str) (i : Int) : oIx (.va (.str z)) (.va (.int i)) = if z.length ≤ LIM then (atI z.cps.toList i).map fun c => .va (.str ⟨#[c]⟩) else none := rfl
theorem atI_ofNat {α : Type} (xs : List α) (k : Nat) : atI xs (k : Int) = xs[k]? := by
  unfold atI ixN
  rw [if_pos (by omega)]
  by_cases h : (k : Int) < (xs.length : Int)
  · rw [if_pos h]
    simp
  · rw [if_neg h]
    have : xs.length ≤ k := by omega
    rw [List.getElem?_eq_none this]
    rfl
@[simp] theorem atI_zero {α : Type} (x : α) (xs : List α) : atI (x :: xs) 0 = some x := by
  have := atI_ofNat (x :: xs) 0
  simpa using this
@[simp] theorem atI_one {α : Type} (x y : α) (xs : List α) : atI (x :: y :: xs) 1 = some y := by
  have := atI_ofNat (x :: y :: xs) 1
  simpa using this
@[simp] theorem atI_two {α : Type} (x y z : α) (xs : List α) : atI (x :: y :: z :: xs) 2 = some z := by
  have := atI_ofNat (x :: y :: z :: xs) 2
  simpa using this
@[simp] theorem atI_three {α : Type} (x y z u : α) (xs : List α) : atI (x :: y :: z :: u :: xs) 3 = some u := by
  have := atI_ofNat (x :: y :: z :: u :: xs) 3
  simpa using this
@[simp] theorem atI_four {α : Type} (x y z u v : α) (xs : List α) : atI (x :: y :: z :: u :: v :: xs) 4 = some v := by
  have := atI_ofNat (x :: y :: z :: u :: v :: xs) 4
  simpa using this
theorem atI_map {α β : Type} (f : α → β) (xs : List α) (i : Int) : atI (xs.map f) i = (atI xs i).map f := by
  unfold atI
  rw [List.length_map]
  cases ixN xs.length i with
  | none => rfl
  | some j => simp
/-- an item of a written list at a remainder -/
theorem atI_lt {α : Type} (xs : List α) (i : Int) (h0 : 0 ≤ i) (h1 : i < xs.length) : ∃ x ∈ xs, atI xs i = some x := by
  obtain ⟨k, rfl⟩ := Int.eq_ofNat_of_zero_le h0
  have hk : k < xs.length := by omega
  exact ⟨xs[k], List.getElem_mem hk, by rw [atI_ofNat, List.getElem?_eq_getElem hk]⟩
theorem atI_neg1 {α : Type} (xs : List α) (x : α) : atI (xs ++ [x]) (-1) = some x := atI_last xs x
@[simp] theorem oTup_def (rs : List R) : oTup rs = if (rs.all (fun r => !r.wr) && decide (rs.length ≤ LIM)) = true then some (.va (.tup (rs.map R.d))) else none := rfl
@[simp] theorem oLst_def (rs : List R) : oLst rs = if (rs.all (fun r => !r.wr) && decide (rs.length ≤ LIM)) = true then some (.tm (rs.map R.d)) else none := rfl
@[simp] theorem cLen_vlst (ds : List D) : cLen [.va (.lst ds)] = some (.va (.int ds.length)) := rfl
@[simp] theorem cLen_tm (ds : List D) : cLen [.tm ds] = some (.va (.int ds.length)) := rfl
@[simp] theorem cLen_bw (j : Nat) (ds : List D) : cLen [.bw j ds] = some (.va (.int ds.length)) := rfl
@[simp] theorem cLen_tup (ds : List D) : cLen [.va (.tup ds)] = some (.va (.int ds.length)) := rfl
@[simp] theorem cLen_rol (ds : List D) : cLen [.va (.rol ds)] = some (.va (.int ds.length)) := rfl
@[simp] theorem cLen_str (z : Str) : cLen [.va (.str z)] = if z.length ≤ LIM then some (.va (.int z.length)) else none := rfl
@[simp] theorem cAbs_def (i : Int) : cAbs [.va (.int i)] = some (.va (.int (if i < 0 then -i else i))) := rfl
@[simp] theorem cStrI_def (i : Int) : cStrI [.va (.int i)] = if i.natAbs.log2 < 1920 then some (.va (.str (toString i))) else none := rfl
@[simp] theorem cInt_int (i : Int) : cInt [.va (.int i)] = some (.va (.int i)) := rfl
@[simp] theorem cInt_bl (i : Bool) : cInt [.va (.bl i)] = some (.va (.int (if i then 1 else 0))) := rfl
@[simp] theorem cInt_str (a : Str) : cInt [.va (.str a)] = if a.length ≤ 640 then (PySem.intText? a).map fun n => .va (.int n) else none := rfl
@[simp] theorem cMax2_def (i j : Int) : cMax2 [.va (.int i), .va (.int j)] = some (.va (.int (max i j))) := by
  show some (R.va (.int (if j > i then j else i))) = _
  congr 3
  split <;> omega
@[simp] theorem cMin2_def (i j : Int) : cMin2 [.va (.int i), .va (.int j)] = some (.va (.int (min i j))) := by
  show some (R.va (.int (if j < i then j else i))) = _
  congr 3
  split <;> omega
@[simp] theorem c1_def (f : R → Option R) (r : R) : c1 f [r] = f r := rfl
theorem cSum_def {r : R} {ns : List Int} (h : r.d = .lst (ns.map D.int)) : cSum [r] = some (.va (.int ns.sum)) := by
  show ((lstD r.d).bind intsOf).map _ = _
  rw [h]
  show (intsOf (ns.map D.int)).map _ = _
  rw [intsOf_map]
  rfl
theorem cAll_def {r : R} {ns : List Bool} (h : r.d = .lst (ns.map D.bl)) : cAll [r] = some (.va (.bl (ns.all id))) := by
  show ((lstD r.d).bind blsOf).map _ = _
  rw [h]
  show (blsOf (ns.map D.bl)).map _ = _
  rw [blsOf_map]
  rfl
theorem cAny_def {r : R} {ns : List Bool} (h : r.d = .lst (ns.map D.bl)) : cAny [r] = some (.va (.bl (ns.any id))) := by
  show ((lstD r.d).bind blsOf).map _ = _
  rw [h]
  show (blsOf (ns.map D.bl)).map _ = _
  rw [blsOf_map]
  rfl
@[simp] theorem cList_vlst (ds : List D) : cList [.va (.lst ds)] = some (.tm ds) := rfl
@[simp] theorem cList_tup (ds : List D) : cList [.va (.tup ds)] = some (.tm ds) := rfl
@[simp] theorem cList_bw (j : Nat) (ds : List D) : cList [.bw j ds] = some (.tm ds) := rfl
@[simp] theorem cTuple_vlst (ds : List D) : cTuple [.va (.lst ds)] = some (.va (.tup ds)) := rfl
@[simp] theorem cTuple_tup (ds : List D) : cTuple [.va (.tup ds)] = some (.va (.tup ds)) := rfl
@[simp] theorem cTuple_bw (j : Nat) (ds : List D) : cTuple [.bw j ds] = some (.va (.tup ds)) := rfl
def isO (T : BTy) (r : R) : Option R := if r.isTm = true then none else (isB T r.d).map fun b => .va (.bl b)
@[simp] theorem eIs_def (T : BTy) (m : Gm → Option R) (g : Gm) : eIs T m g = b1 (m g) (isO T) := rfl
@[simp] theorem isO_def (T : BTy) (r : R) : isO T r = if r.isTm = true then none else (isB T r.d).map fun b => .va (.bl b) := rfl
def isO2 (T U : BTy) (r : R) : Option R := if r.isTm = true then none else b2 (isB T r.d) (isB U r.d) fun a b => some (.va (.bl (a || b)))
@[simp] theorem eIs2_def (T U : BTy) (m : Gm → Option R) (g : Gm) : eIs2 T U m g = b1 (m g) (isO2 T U) := by
  unfold eIs2 b1 isO2
  cases m g with
  | none => rfl
  | some r =>
    show (if r.isTm = true then none else _) = (if r.isTm = true then none else _)
    split
    · rfl
    · unfold b2
      cases isB T r.d with
      | none => rfl
      | some a => cases isB U r.d <;> rfl
@[simp] theorem isO2_def (T U : BTy) (r : R) : isO2 T U r = if r.isTm = true then none else b2 (isB T r.d) (isB U r.d) fun a b => some (.va (.bl (a || b))) := rfl
@[simp] theorem isB_int_int (i : Int) : isB .int (.int i) = some true := rfl
@[simp] theorem isB_int_bl (i : Bool) : isB .int (.bl i) = some true := rfl
@[simp] theorem isB_int_non : isB .int .non = some false := rfl
@[simp] theorem isB_int_str (i : Str) : isB .int (.str i) = some false := rfl
@[simp] theorem isB_int_tup (i : List D) : isB .int (.tup i) = some false := rfl
@[simp] theorem isB_int_lst (i : List D) : isB .int (.lst i) = some false := rfl
@[simp] theorem isB_bool_int (i : Int) : isB .bool (.int i) = some false := rfl
@[simp] theorem isB_bool_bl (i : Bool) : isB .bool (.bl i) = some true := rfl
@[simp] theorem isB_bool_non : isB .bool .non = some false := rfl
@[simp] theorem isB_bool_str (i : Str) : isB .bool (.str i) = some false := rfl
@[simp] theorem isB_bool_tup (i : List D) : isB .bool (.tup i) = some false := rfl
@[simp] theorem isB_bool_lst (i : List D) : isB .bool (.lst i) = some false := rfl
@[simp] theorem isB_str_int (i : Int) : isB .str (.int i) = some false := rfl
@[simp] theorem isB_str_bl (i : Bool) : isB .str (.bl i) = some false := rfl
@[simp] theorem isB_str_non : isB .str .non = some false := rfl
@[simp] theorem isB_str_str (i : Str) : isB .str (.str i) = some true := rfl
@[simp] theorem isB_str_tup (i : List D) : isB .str (.tup i) = some false := rfl
@[simp] theorem isB_str_lst (i : List D) : isB .str (.lst i) = some false := rfl
@[simp] theorem isB_list_int (i : Int) : isB .list (.int i) = some false := rfl
@[simp] theorem isB_list_bl (i : Bool) : isB .list (.bl i) = some false := rfl
@[simp] theorem isB_list_non : isB .list .non = some false := rfl
@[simp] theorem isB_list_str (i : Str) : isB .list (.str i) = some false := rfl
@[simp] theorem isB_list_tup (i : List D) : isB .list (.tup i) = some false := rfl
@[simp] theorem isB_list_lst (i : List D) : isB .list (.lst i) = some true := rfl
@[simp] theorem isB_tuple_int (i : Int) : isB .tuple (.int i) = some false := rfl
@[simp] theorem isB_tuple_bl (i : Bool) : isB .tuple (.bl i) = some false := rfl
@[simp] theorem isB_tuple_non : isB .tuple .non = some false := rfl
@[simp] theorem isB_tuple_str (i : Str) : isB .tuple (.str i) = some false := rfl
@[simp] theorem isB_tuple_tup (i : List D) : isB .tuple (.tup i) = some true := rfl
@[simp] theorem isB_tuple_lst (i : List D) : isB .tuple (.lst i) = some false := rfl
@[simp] theorem listR_bw (j : Nat) (ds : List D) : listR (.bw j ds) = some ([j], ds) := rfl
@[simp] theorem listR_tm (ds : List D) : listR (.tm ds) = some ([], ds) := rfl
@[simp] theorem listR_va (ds : List D) : listR (.va (.lst ds)) = some ([], ds) := rfl
@[simp] theorem seqR_bw (j : Nat) (ds : List D) : seqR (.bw j ds) = some ([j], ds) := rfl
@[simp] theorem seqR_tm (ds : List D) : seqR (.tm ds) = some ([], ds) := rfl
@[simp] theorem seqR_va (ds : List D) : seqR (.va (.lst ds)) = some ([], ds) := rfl
@[simp] theorem seqR_rol (ds : List D) : seqR (.va (.rol ds)) = some ([], ds) := rfl
@[simp] theorem seqR_tup (ds : List D) : seqR (.va (.tup ds)) = some ([], ds) := rfl
@[simp] theorem seqR_str (z : Str) : seqR (.va (.str z)) = some ([], signs z) := rfl
@[simp] theorem listA_bw (j : Nat) (ds : List D) : listA (.bw j ds) = some ([j], ds) := rfl
@[simp] theorem listA_va (ds : List D) : listA (.va (.lst ds)) = some ([], ds) := rfl
@[simp] theorem listA_rol (ds : List D) : listA (.va (.rol ds)) = some ([], ds) := rfl
theorem rg1R_def (j : Int) : rg1R [.va (.int j)] = if -(2 ^ 62) ≤ j ∧ j < 2 ^ 62 then some ([], rangeL 0 j.toNat) else none := rfl
theorem rg2R_def (i j : Int) : rg2R [.va (.int i), .va (.int j)] = if -(2 ^ 62) ≤ i ∧ i < 2 ^ 62 ∧ -(2 ^ 62) ≤ j ∧ j < 2 ^ 62 then some ([], rangeL i (j - i).toNat) else none := rfl
@[simp] theorem enR_def (r : R) : enR [r] = (listA r).map fun p => (p.1, enumL 0 p.2) := rfl
@[simp] theorem zpR_tt (xs ys : List D) : zpR [.va (.tup xs), .va (.tup ys)] = some ([], zipL xs ys) := rfl
@[simp] theorem zpR_ll (xs ys : List D) : zpR [.va (.lst xs), .va (.lst ys)] = some ([], zipL xs ys) := rfl
@[simp] theorem zpR_bl (j : Nat) (xs ys : List D) : zpR [.bw j xs, .va (.lst ys)] = some ([j], zipL xs ys) := rfl
@[simp] theorem zpR_lb (j : Nat) (xs ys : List D) : zpR [.va (.lst xs), .bw j ys] = some ([j], zipL xs ys) := rfl
@[simp] theorem zpR_bb (i j : Nat) (xs ys : List D) : zpR [.bw i xs, .bw j ys] = some ([i, j], zipL xs ys) := rfl
@[simp] theorem rvR_def (r : R) : rvR [r] = (listA r).map fun p => (p.1, p.2.reverse) := rfl
def slO (lo hi : Option Int) (a : R) : Option R := oSl a lo hi
@[simp] theorem eSl_def (m : Gm → Option R) (l h : Gm → Option (Option Int)) (g : Gm) : eSl m l h g = b1 (m g) fun a => b2 (l g) (h g) (oSl a) := rfl
@[simp] theorem pN_def (g : Gm) : pN g = some none := rfl
def pI : R → Option (Option Int)
  | .va (.int i) => some (some i)
  | _ => none
@[simp] theorem pI_def (i : Int) : pI (.va (.int i)) = some (some i) := rfl
@[simp] theorem pS_def (m : Gm → Option R) (g : Gm) : pS m g = b1 (m g) pI := by
  unfold pS b1
  cases m g with
  | none => rfl
  | some r =>
    cases r with
    | va d => cases d <;> rfl
    | _ => rfl
@[simp] theorem oSl_vlst (xs : List D) (lo hi : Option Int) : oSl (.va (.lst xs)) lo hi = some (.tm (cutL xs lo hi)) := rfl
@[simp] theorem oSl_tm (xs : List D) (lo hi : Option Int) : oSl (.tm xs) lo hi = some (.tm (cutL xs lo hi)) := rfl
@[simp] theorem oSl_bw (j : Nat) (xs : List D) (lo hi : Option Int) : oSl (.bw j xs) lo hi = some (.tm (cutL xs lo hi)) := rfl
@[simp] theorem oSl_tup (xs : List D) (lo hi : Option Int) : oSl (.va (.tup xs)) lo hi = some (.va (.tup (cutL xs lo hi))) := rfl
@[simp] theorem oSl_rol (xs : List D) (lo hi : Option Int) : oSl (.va (.rol xs)) lo hi = some (.tm (cutL xs lo hi)) := rfl
@[simp] theorem oSl_str (z : Str) (lo hi : Option Int) : oSl (.va (.str z)) lo hi = if z.length ≤ LIM then some (.va (.str (cutS z lo hi))) else none := rfl
/-- the end of a def -/
def fnR : Option Out → Option R
  | some (.rt r) => some (retR r)
  | some (.nx _) => some (.va .non)
  | _ => none
theorem phi_def (m : Gm → Option Out) (N n : Nat) (ds : List D) : phi m N n ds = if ds.length = n then fnR (m (ds.map Slot.va ++ List.replicate (N - n) Slot.un)) else none := by
  unfold phi
  by_cases h : ds.length = n
  · rw [if_pos h, if_pos h]
    cases m (ds.map Slot.va ++ List.replicate (N - n) Slot.un) with
    | none => rfl
    | some o => cases o <;> rfl
  · rw [if_neg h, if_neg h]
@[simp] theorem fnR_rt (r : R) : fnR (some (.rt r)) = some (retR r) := rfl
@[simp] theorem fnR_nx (g : Gm) : fnR (some (.nx g)) = some (.va .non) := rfl
@[simp] theorem fnR_ite (c : Prop) [Decidable c] (a b : Option Out) : fnR (if c then a else b) = if c then fnR a else fnR b := by split <;> rfl
@[simp] theorem lim_num : LIM = 16777216 := rfl
theorem cut_map {α β : Type} (f : α → β) (xs : List α) (lo hi : Option Int) : cutL (xs.map f) lo hi = (cutL xs lo hi).map f := by
  unfold cutL
  simp
theorem cut_take {α : Type} (xs : List α) (k : Nat) : cutL xs none (some (k : Int)) = xs.take k := by
  unfold cutL
  rw [HT.sIx_none, HT.sIx_nat]
  simp [List.take_eq_take_iff]
theorem cut_take0 {α : Type} (xs : List α) (k : Nat) : cutL xs (some 0) (some (k : Int)) = xs.take k := by
  unfold cutL
  rw [show HT.sIx xs.length 0 (some 0) = min 0 xs.length from HT.sIx_nat xs.length 0 0, HT.sIx_nat]
  simp [List.take_eq_take_iff]
theorem cut_drop {α : Type} (xs : List α) (k : Nat) : cutL xs (some (k : Int)) none = xs.drop k := by
  unfold cutL
  rw [HT.sIx_none, HT.sIx_nat]
  by_cases h : k ≤ xs.length
  · rw [Nat.min_eq_left h, List.take_of_length_le (by simp)]
  · rw [Nat.min_eq_right (by omega), List.drop_of_length_le (Nat.le_refl _), List.drop_of_length_le (by omega)]
    simp
theorem fdiv_pos {a b : Int} (h : 0 < b) : a.fdiv b = a / b := Int.fdiv_eq_ediv_of_nonneg a (by omega)
theorem fmod_pos {a b : Int} (h : 0 < b) : a.fmod b = a % b := Int.fmod_eq_emod_of_nonneg a (by omega)
theorem cdiv_small {a b : Int} (h0 : 0 < b) (h : b < 2 ^ 64) : CDivB a b := ⟨by omega, by
  have : b.natAbs < 2 ^ 64 := by omega
  have := PySem.Flt.log2_lt_of (by omega : 0 < 64) this
  omega⟩
theorem log_lt {x : Int} {n : Nat} (h0 : 0 < n) (h : x.natAbs < 2 ^ n) : x.natAbs.log2 < n := PySem.Flt.log2_lt_of h0 h
theorem cmul_of {a b : Int} {m n : Nat} (h0 : 0 < m) (h1 : 0 < n) (ha : a.natAbs < 2 ^ m) (hb : b.natAbs < 2 ^ n) (h : m + n ≤ 134000000) : CMulB a b := by
  have x := log_lt h0 ha
  have y := log_lt h1 hb
  unfold CMulB
  omega
theorem abs_mul_lt {a b : Int} {m n : Nat} (ha : a.natAbs < 2 ^ m) (hb : b.natAbs < 2 ^ n) : (a * b).natAbs < 2 ^ (m + n) := by
  rw [Int.natAbs_mul, Nat.pow_add]
  exact Nat.mul_lt_mul'' ha hb
theorem abs_add_lt {a b : Int} {m : Nat} (ha : a.natAbs < 2 ^ m) (hb : b.natAbs < 2 ^ m) : (a + b).natAbs < 2 ^ (m + 1) := by
  rw [Nat.pow_succ]
  omega
end BK
namespace BK
open PySem PySem.Spec L2
set_option autoImplicit false
/-! ### steps -/
@[simp] theorem cdivB_small {a b : Int} (h0 : 0 < b) (h : b < 18446744073709551616) : CDivB a b := cdiv_small h0 h
@[simp] theorem fdiv_nn {a b : Int} (h : 0 ≤ b) : a.fdiv b = a / b := Int.fdiv_eq_ediv_of_nonneg a h
@[simp] theorem fmod_nn {a b : Int} (h : 0 ≤ b) : a.fmod b = a % b := Int.fmod_eq_emod_of_nonneg a h
@[simp] theorem cpow_small {a b : Int} (h0 : -18446744073709551616 < a) (h : a < 18446744073709551616) (h1 : 0 ≤ b) (h2 : b ≤ 1000000) : CPow a b := ⟨h1, h2, by omega⟩
theorem fn_step {m n : Gm → Option Out} {g g' : Gm} {o : Option R} (h : m g = some (.nx g')) (k : fnR (n g') = o) : fnR (sCons m n g) = o := by
  rw [sCons_def, h, bO_nx, k]
theorem fn_fz {i : Nat} {m n : Gm → Option Out} {g : Gm} {ds : List D} {o : Option R} (h : g[i]? = some (.ow ds)) (k : fnR (sCons m n (g.set i (.va (.lst ds)))) = o) : fnR (sCons (sFz i m) n g) = o := by
  rw [sCons_def, sFz_def, h, fzS_ow]
  exact k
theorem fn_fz0 {i : Nat} {m n : Gm → Option Out} {g : Gm} {d : D} {o : Option R} (h : g[i]? = some (.va d)) (k : fnR (sCons m n g) = o) : fnR (sCons (sFz i m) n g) = o := by
  rw [sCons_def, sFz_def, h, fzS_va]
  exact k
theorem st_fz {i : Nat} {m n : Gm → Option Out} {g : Gm} {ds : List D} {o : Option Out} (h : g[i]? = some (.ow ds)) (k : sCons m n (g.set i (.va (.lst ds))) = o) : sCons (sFz i m) n g = o := by
  rw [sCons_def, sFz_def, h, fzS_ow]
  exact k
theorem fn_ret {m n : Gm → Option Out} {g : Gm} {r : R} {o : Option R} (h : m g = some (.rt r)) (k : some (retR r) = o) : fnR (sCons m n g) = o := by
  rw [sCons_def, h, bO_rt, fnR_rt, k]
theorem st_step {m n : Gm → Option Out} {g g' : Gm} {o : Option Out} (h : m g = some (.nx g')) (k : n g' = o) : sCons m n g = o := by
  rw [sCons_def, h, bO_nx, k]
theorem phi_go {m : Gm → Option Out} {N n : Nat} {ds : List D} {o : Option R} (hl : ds.length = n) (h : fnR (m (ds.map Slot.va ++ List.replicate (N - n) Slot.un)) = o) : phi m N n ds = o := by
  rw [phi_def, if_pos hl, h]
/-- an item of a written list -/
theorem pick {P : D → Prop} {xs : List D} {i : Int} (h0 : 0 ≤ i) (h1 : i < xs.length) (h : ∀ x ∈ xs, P x) : ∃ d, atI xs i = some d ∧ P d := by
  obtain ⟨x, hx, e⟩ := atI_lt xs i h0 h1
  exact ⟨x, e, h x hx⟩
theorem pickI {P : Int → Prop} {xs : List D} {i : Int} (h0 : 0 ≤ i) (h1 : i < xs.length) (h : ∀ x ∈ xs, ∃ n, x = .int n ∧ P n) : ∃ n, atI xs i = some (.int n) ∧ P n := by
  obtain ⟨x, hx, e⟩ := atI_lt xs i h0 h1
  obtain ⟨n, rfl, hn⟩ := h x hx
  exact ⟨n, e, hn⟩
/-- a loop that changes nothing but what its turns say: by an invariant over the items -/
theorem forL_inv {α : Type} (f : D → Gm → Option Gm) (b : Gm → Option Out) (enc : α → D) (I : List α → Gm → Prop) (xs : List α)
    (step : ∀ (pre : List α) (x : α) (g : Gm), (∃ post, xs = pre ++ x :: post) → I pre g → ∃ g', b1 (f (enc x) g) b = some (.nx g') ∧ I (pre ++ [x]) g') (g : Gm) (h : I [] g) : ∃ g', forL f b (xs.map enc) g = some (.nx g') ∧ I xs g' := by
  have key : ∀ (post pre : List α) (g : Gm), xs = pre ++ post → I pre g → ∃ g', forL f b (post.map enc) g = some (.nx g') ∧ I xs g' := by
    intro post
    induction post with
    | nil =>
      intro pre g e h
      rw [List.append_nil] at e
      subst e
      exact ⟨g, rfl, h⟩
    | cons x post ih =>
      intro pre g e h
      obtain ⟨g1, e1, h1⟩ := step pre x g ⟨post, e⟩ h
      obtain ⟨g2, e2, h2⟩ := ih (pre ++ [x]) g1 (by rw [e, List.append_assoc]; rfl) h1
      exact ⟨g2, by rw [List.map_cons, forL_cons, e1, fL_nx, e2], h2⟩
  exact key xs [] g rfl h
theorem rangeL_map (n : Nat) : rangeL 0 n = (List.range n).map fun i => .int (i : Nat) := by
  apply List.ext_getElem?
  intro i
  by_cases h : i < n
  · rw [rangeL_get n 0 i h, List.getElem?_map, List.getElem?_range h]
    simp
  · rw [List.getElem?_eq_none (by rw [rangeL_length]; omega), List.getElem?_eq_none (by simp; omega)]
/-- of at most so many bits -/
structure Sz (n : Nat) (z : Int) : Prop where
  lt : z.natAbs < 2 ^ n
theorem Sz.mono {m n : Nat} {z : Int} (h : Sz m z) (l : m ≤ n) : Sz n z := ⟨Nat.lt_of_lt_of_le h.lt (Nat.pow_le_pow_right (by omega) l)⟩
theorem Sz.zero (n : Nat) : Sz n 0 := ⟨Nat.two_pow_pos n⟩
theorem Sz.mul {m n : Nat} {a b : Int} (h : Sz m a) (k : Sz n b) : Sz (m + n) (a * b) := ⟨abs_mul_lt h.lt k.lt⟩
theorem Sz.add {m n : Nat} {a b : Int} (h : Sz m a) (k : Sz n b) : Sz (max m n + 1) (a + b) := ⟨abs_add_lt (h.mono (Nat.le_max_left ..)).lt (k.mono (Nat.le_max_right ..)).lt⟩
theorem Sz.neg {m : Nat} {a : Int} (h : Sz m a) : Sz m (-a) := ⟨by rw [Int.natAbs_neg]; exact h.lt⟩
theorem Sz.sub {m n : Nat} {a b : Int} (h : Sz m a) (k : Sz n b) : Sz (max m n + 1) (a - b) := by rw [Int.sub_eq_add_neg]; exact h.add k.neg
theorem Sz.le {n : Nat} {a b : Int} (h0 : 0 ≤ a) (h : a ≤ b) (k : Sz n b) : Sz n a := ⟨Nat.lt_of_le_of_lt (by omega) k.lt⟩
theorem Sz.abs_le {n : Nat} {a b : Int} (h : a.natAbs ≤ b.natAbs) (k : Sz n b) : Sz n a := ⟨Nat.lt_of_le_of_lt h k.lt⟩
theorem Sz.mod {n : Nat} {a b : Int} (h : 0 < b) (k : Sz n b) : Sz n (a % b) := Sz.le (Int.emod_nonneg _ (by omega)) (Int.le_of_lt (Int.emod_lt_of_pos _ h)) k
theorem Sz.div {n : Nat} {a b : Int} (h : 0 ≤ a) (h' : 0 ≤ b) (k : Sz n a) : Sz n (a / b) := Sz.le (Int.ediv_nonneg h h') (Int.ediv_le_self b h) k
theorem Sz.small {z : Int} (h : z.natAbs < 18446744073709551616) : Sz 64 z := ⟨h⟩
theorem Sz.big {z : Int} (h : z.natAbs < 1606938044258990275541962092341162602522202993782792835301376) : Sz 200 z := ⟨h⟩
theorem Sz.pow {n : Nat} : Sz (4 * n + 1) (10 ^ n : Int) := ⟨by
  rw [Int.natAbs_pow]
  calc (10 : Nat) ^ n ≤ 16 ^ n := Nat.pow_le_pow_left (by omega) n
    _ = 2 ^ (4 * n) := by rw [show (16 : Nat) = 2 ^ 4 by rfl, ← Nat.pow_mul]
    _ < 2 ^ (4 * n + 1) := Nat.pow_lt_pow_right (by omega) (by omega)⟩
theorem Sz.log {n : Nat} {z : Int} (h : Sz n z) (h0 : 0 < n) : z.natAbs.log2 < n := log_lt h0 h.lt
theorem Sz.cmul {m n : Nat} {a b : Int} (h : Sz m a) (k : Sz n b) (h0 : 0 < m) (h1 : 0 < n) (l : m + n ≤ 134000000) : CMulB a b := cmul_of h0 h1 h.lt k.lt l
theorem Sz.cdiv {n : Nat} {a b : Int} (h : Sz n b) (h0 : 0 < n) (hn : n ≤ 9000) (hb : b ≠ 0) : CDivB a b := ⟨hb, by have := h.log h0; omega⟩
theorem rg1_ok {j : Int} (h : j < 1000000000000000) (h' : -1000000000000000 < j) : rg1R [.va (.int j)] = some ([], rangeL 0 j.toNat) := by
  rw [rg1R_def, if_pos (by omega)]
theorem rg2_ok {i j : Int} (h1 : i < 1000000000000000) (h1' : -1000000000000000 < i) (h : j < 1000000000000000) (h' : -1000000000000000 < j) : rg2R [.va (.int i), .va (.int j)] = some ([], rangeL i (j - i).toNat) := by
  rw [rg2R_def, if_pos (by omega)]
/-- range(n) for a natural number n -/
theorem rg1_nat {j : Int} {n : Nat} (h : n < 1000000000000000) (e : j = n) : rg1R [.va (.int j)] = some ([], (List.range n).map fun i => .int (i : Nat)) := by
  subst e
  rw [rg1_ok (by omega) (by omega), Int.toNat_natCast, rangeL_map]
theorem bits_sz {z : Int} (h : Builtin.Int.intBits z ≤ 1048576) : Sz 1048576 z := by
  unfold Builtin.Int.intBits at h
  by_cases e : z = 0
  · subst e
    exact Sz.zero _
  · have e' : ¬ (z == 0) = true := by simpa using e
    rw [if_neg e'] at h
    exact ⟨Nat.lt_of_lt_of_le (Nat.lt_log2_self (n := z.natAbs)) (Nat.pow_le_pow_right (by omega) (by omega))⟩
/-- a for ahead of the rest of a def, by an invariant over the items taken -/
theorem for_inv {mi : Gm → Option (List Nat × List D)} {f : D → Gm → Option Gm} {b n : Gm → Option Out} {T : List Nat} {g : Gm} {o : Option R} {ps : List Nat} {α : Type} (enc : α → D) (I : List α → Gm → Prop) (xs : List α)
    (hm : mi g = some (ps, xs.map enc)) (hp : ps.all (fun j => !T.contains j) = true) (h0 : I [] g)
    (step : ∀ (pre : List α) (x : α) (g : Gm), (∃ post, xs = pre ++ x :: post) → I pre g → ∃ g', b1 (f (enc x) g) b = some (.nx g') ∧ I (pre ++ [x]) g') (k : ∀ g', I xs g' → fnR (n g') = o) : fnR (sCons (sFor mi f b T) n g) = o := by
  obtain ⟨g', e1, h1⟩ := forL_inv f b enc I xs step g h0
  refine fn_step (g' := g') ?_ (k g' h1)
  rw [sFor_def, hm]
  show (if ps.all (fun j => !T.contains j) = true then _ else _) = _
  rw [if_pos hp, e1]
/-- .. inside a block -/
theorem st_for_inv {mi : Gm → Option (List Nat × List D)} {f : D → Gm → Option Gm} {b n : Gm → Option Out} {T : List Nat} {g : Gm} {o : Option Out} {ps : List Nat} {α : Type} (enc : α → D) (I : List α → Gm → Prop) (xs : List α)
    (hm : mi g = some (ps, xs.map enc)) (hp : ps.all (fun j => !T.contains j) = true) (h0 : I [] g)
    (step : ∀ (pre : List α) (x : α) (g : Gm), (∃ post, xs = pre ++ x :: post) → I pre g → ∃ g', b1 (f (enc x) g) b = some (.nx g') ∧ I (pre ++ [x]) g') (k : ∀ g', I xs g' → n g' = o) : sCons (sFor mi f b T) n g = o := by
  obtain ⟨g', e1, h1⟩ := forL_inv f b enc I xs step g h0
  refine st_step (g' := g') ?_ (k g' h1)
  rw [sFor_def, hm]
  show (if ps.all (fun j => !T.contains j) = true then _ else _) = _
  rw [if_pos hp, e1]
/-- a cell of the script, nought where there is none -/
def cellN (ns : List Int) (k : Nat) : Int := ns.getD k 0
theorem cellN_sz {ns : List Int} (h : ∀ z ∈ ns, Sz 1048576 z) (k : Nat) : Sz 1048576 (cellN ns k) := by
  unfold cellN
  rw [List.getD_eq_getElem?_getD]
  cases e : ns[k]? with
  | none => exact Sz.zero _
  | some z => exact h z (List.mem_of_getElem? e)
theorem mem_split {α : Type} {xs pre : List α} {x : α} (h : ∃ post, xs = pre ++ x :: post) : x ∈ xs := by
  obtain ⟨post, h⟩ := h
  rw [h]
  simp
theorem get_split {α : Type} {xs pre : List α} {x : α} (h : ∃ post, xs = pre ++ x :: post) : xs[pre.length]? = some x ∧ pre = xs.take pre.length ∧ pre.length < xs.length := by
  obtain ⟨post, rfl⟩ := h
  simp
theorem range_split {n : Nat} {pre : List Nat} {x : Nat} (h : ∃ post, List.range n = pre ++ x :: post) : x < n ∧ pre = List.range x := by
  obtain ⟨h1, h2, h3⟩ := get_split h
  rw [List.length_range] at h3
  rw [List.getElem?_range h3] at h1
  cases h1
  refine ⟨h3, h2.trans ?_⟩
  rw [List.take_range, Nat.min_eq_left (by omega)]
end BK
namespace BK
open PySem PySem.Spec L2
set_option autoImplicit false
/-! ### own classes: fields, instances made, the method is_bridge -/
def fldD (c : Nat) (ds : List D) (f : Str) : Option D := ((fldsOf c).zip ds).lookup f
def oFld (f : Str) (r : R) : Option R := match r with
  | .va (.ins c ds) => (fldD c ds f).map .va
  | _ => none
section
variable {K : PySem.W.Frag} {ca : Nat → Addr} {F : Hp}
theorem lookup_den {f : Str} : ∀ {fs : List (Str × V)} {names : List Str} {ds : List D} {d : D}, fs.map (·.1) = names → Dens K ca F (fs.map (·.2)) ds → (names.zip ds).lookup f = some d → f ∈ names ∧ ∃ v, fs.lookup f = some v ∧ Den K ca F v d
  | [], _, ds, d, e, h, q => by
    subst e
    cases q
  | (g, u) :: fs, _, ds, d, e, h, q => by
    subst e
    cases h with
    | cons h1 h2 =>
      rename_i d1 ds
      rw [List.map_cons, List.zip_cons_cons, List.lookup_cons] at q
      by_cases hg : (f == g) = true
      · rw [hg] at q
        cases q
        refine ⟨by rw [eq_of_beq hg]; exact List.mem_cons_self, u, by rw [List.lookup_cons, hg], h1⟩
      · rw [Bool.not_eq_true] at hg
        rw [hg] at q
        obtain ⟨m, v, e1, e2⟩ := lookup_den rfl h2 q
        exact ⟨List.mem_cons_of_mem _ m, v, by rw [List.lookup_cons, hg]; exact e1, e2⟩
theorem lookup_no {f : Str} : ∀ {fs : List (Str × V)}, f ∉ fs.map (·.1) → fs.lookup f = none
  | [], _ => rfl
  | (g, u) :: fs, h => by
    have h1 : ¬ (f == g) = true := fun e => h (by rw [eq_of_beq e]; exact List.mem_cons_self)
    rw [Bool.not_eq_true] at h1
    rw [List.lookup_cons, h1]
    exact lookup_no fun m => h (List.mem_cons_of_mem _ m)
end
section
variable {X : Cx} {ca : Nat → Addr} {e : Expr} {m : Gm → Option R} {pos p apos : Pos}
theorem ev_fld {f : Str} (he : EV X ca e m) (hb : attributeBase e f X.env (eval e X.env) = eval e X.env) : EV X ca (.Attribute e f pos) (e1 (oFld f) m) := by
  refine pe_imp (pe_fld he hb) ?_
  rintro σ H Q ⟨H0, F0, F, Γ, z, S, e, q⟩
  unfold e1 at e
  obtain ⟨r, er, e⟩ := Option.bind_eq_some_iff.mp e
  refine ⟨H0, F0, F, Γ, r, S, er, fun v H1 F1 x1 r1 => ?_⟩
  unfold oFld at e
  split at e
  · rename_i c ds
    obtain ⟨d, ed, rfl⟩ := Option.map_eq_some_iff.mp e
    cases r1 with
    | ins k h n hs =>
      obtain ⟨hm, v, e1, e2⟩ := lookup_den n hs ed
      exact ⟨_, _, _, _, v, rfl, x1.fh _ _ h, k.cl, k.na f hm, e1, q v H1 F1 x1 e2⟩
  · cases e
/-- is_bridge: a def of each of two classes -/
def cIsB (r : R) : Option R := match r with
  | .va (.ins 0 _) => some (.va (.bl false))
  | .va (.ins 1 _) => some (.va (.bl true))
  | _ => none
/-- what the c-th class answers by a method without arguments -/
structure MCallee (P : Program) (w : World) (K : PySem.W.Frag) (mg : Str → Option Value) (base : Heap) (ca : Nat → Addr) (k c : Nat) (m : Str) (φ : Phi) : Prop where
  ex : ∃ (f : Addr) (fd : FuncData) (ps : List Str), FnOk P w K mg base CX0 k f fd ps (spOf K ca φ) ∧ Cls K (ca c) ∧ Meth K (ca c) m f ∧ Binds K fd ps []
theorem MCallee.mono {P : Program} {w : World} {K : PySem.W.Frag} {mg : Str → Option Value} {base : Heap} {ca : Nat → Addr} {j k c : Nat} {m : Str} {φ : Phi} (C : MCallee P w K mg base ca j c m φ) (h : j ≤ k) : MCallee P w K mg base ca k c m φ := by
  obtain ⟨f, fd, ps, F, r⟩ := C.ex
  exact ⟨f, fd, ps, F.mono h, r⟩
theorem pe_or {e : Expr} {t u : TE} (h : PE X e t) (k : PE X e u) : PE X e fun σ H Q => t σ H Q ∨ u σ H Q := ⟨fun pins s σ H Q I q => by
  rcases q with q | q
  · exact h.run pins s σ H Q I q
  · exact k.run pins s σ H Q I q⟩
theorem isb_core {j c : Nat} {mt : Str} {φ : Phi} {H : Hp} {sp : Sp} {σ : L2.St} (hn : mt ∉ fldsOf c) {b : Bool} (hφ : ∀ ds, φ [.ins c ds] = some (.va (.bl b))) {H0 F0 F : Hp} {Γ : Gm} {r : R} {ds : List D} {E : XK} {Q : VK} (S : SR X.K ca H0 F0 σ H F Γ) (er : m Γ = some (.va (.ins c ds)))
    (q : ∀ v H' F', Ext ca H F H' F' → RV X.K ca (BB σ Γ) H F' H' v (.va (.bl b)) → Q v H') : tMeth (ca c) mt (spOf X.K ca φ) [] E (tEV X.K ca m) tNil σ H Q := by
  refine ⟨H0, F0, F, Γ, _, S, er, fun v H1 F1 x1 r1 => ?_⟩
  have r2 := r1
  cases r1 with
  | ins k h n hs =>
    refine ⟨_, _, _, rfl, x1.fh _ _ h, lookup_no (by rw [n]; exact hn), ?_⟩
    refine ⟨[.ins c ds], F1, _, x1.fh, (S.mono x1).ext.nt S.nt0, S.tc0.mono (S.mono x1).ext.hh, .cons r2 .nil, hφ ds, fun v H' F' x2 r3 => ?_⟩
    exact q v H' F' (x1.trans x2) r3
theorem ev_isb {j : Nat} {φ0 φ1 : Phi} (h0 : ∀ ds, φ0 [.ins 0 ds] = some (.va (.bl false))) (h1 : ∀ ds, φ1 [.ins 1 ds] = some (.va (.bl true))) (C0 : MCallee X.prog X.w X.K X.mg X.base ca j 0 "is_bridge" φ0) (C1 : MCallee X.prog X.w X.K X.mg X.base ca j 1 "is_bridge" φ1) (hr : Room j X.A) (he : EV X ca e m)
    {pl : Sem Bool} (hev : eval (.Call (.Attribute e "is_bridge" apos) [] [] pos) X.env = (do
      let ov ← eval e X.env
      standAt apos.atName
      let (f, first) ← holding [ov] (getMethod ov "is_bridge" pl)
      callWith pos f first (backTo pos (starEach [] X.env)) (backToKw pos (keywordEach [] X.env))) := by rfl) : EV X ca (.Call (.Attribute e "is_bridge" apos) [] [] pos) (e1 cIsB m) := by
  obtain ⟨f0, fd0, ps0, G0, c0, m0, b0⟩ := C0.ex
  obtain ⟨f1, fd1, ps1, G1, c1, m1, b1⟩ := C1.ex
  refine pe_imp (pe_or (pe_meth0 he c0 m0 G0 hr b0 .nil pass0 hev) (pe_meth0 he c1 m1 G1 hr b1 .nil pass0 hev)) ?_
  rintro σ H Q ⟨H0, F0, F, Γ, z, S, e, q⟩
  unfold e1 at e
  obtain ⟨r, er, e⟩ := Option.bind_eq_some_iff.mp e
  unfold cIsB at e
  split at e
  · cases e
    exact .inl (isb_core (j := j) (sp := spOf X.K ca φ0) (r := .va .non) (by decide +kernel) h0 S er q)
  · cases e
    exact .inr (isb_core (j := j) (sp := spOf X.K ca φ0) (r := .va .non) (by decide +kernel) h1 S er q)
  · cases e
end
/-! ### instances -/
/-- the fields, each by its expression over the arguments -/
def inis : List (Gm → Option R) → Gm → Option (List D)
  | [], _ => some []
  | m :: ms, g => (m g).bind fun r => if r.isBw = true then none else (inis ms g).map (r.d :: ·)
def allVa : List R → Option (List D)
  | [] => some []
  | .va d :: rs => (allVa rs).map (d :: ·)
  | _ => none
def cMk (c : Nat) (ms : List (Gm → Option R)) (rs : List R) : Option R := (allVa rs).bind fun ds => (inis ms (.un :: ds.map .va)).map fun es => .va (.ins c es)
/-- a result as a tree -/
def R.t : R → BK.T
  | .va d => .fz d
  | .tm ds => .lst (ds.map .fz)
  | .bw _ ds => .fz (.lst ds)
theorem R.t_d : ∀ r : R, r.t.d = r.d
  | .va _ => rfl
  | .tm ds => by show D.lst (T.ds (ds.map .fz)) = .lst ds; rw [T.ds_fz]
  | .bw _ _ => rfl
/-- the fields as trees -/
def tinis : List (Gm → Option R) → Gm → Option (List BK.T)
  | [], _ => some []
  | m :: ms, g => (m g).bind fun r => if r.isBw = true then none else (tinis ms g).map (r.t :: ·)
theorem tinis_ds : ∀ (ms : List (Gm → Option R)) (g : Gm), inis ms g = (tinis ms g).map T.ds
  | [], _ => rfl
  | m :: ms, g => by
    unfold inis tinis
    cases m g with
    | none => rfl
    | some r =>
      show (if r.isBw = true then none else (inis ms g).map (r.d :: ·)) = (if r.isBw = true then none else (tinis ms g).map (r.t :: ·)).map T.ds
      rw [tinis_ds ms g]
      split
      · rfl
      · cases tinis ms g with
        | none => rfl
        | some ts =>
          show some (r.d :: T.ds ts) = some (r.t.d :: T.ds ts)
          rw [R.t_d]
theorem tinis_of {ms : List (Gm → Option R)} {g : Gm} {es : List D} (h : inis ms g = some es) : ∃ ts, tinis ms g = some ts ∧ T.ds ts = es := by
  rw [tinis_ds] at h
  exact Option.map_eq_some_iff.mp h
/-- values of new trees: apart from what was, and from x -/
def TFs (K : PySem.W.Frag) (ca : Nat → Addr) (H0 F H : Hp) (x : Addr) (vs : List V) (ts : List BK.T) : Prop := ∃ as, OTs K ca F H vs ts as ∧ as.Nodup ∧ ∀ b ∈ as, noT H0 b = none ∧ F b = none ∧ b ≠ x
theorem TFs.mono {K : PySem.W.Frag} {ca : Nat → Addr} {H0 F H F' H' : Hp} {x : Addr} {vs : List V} {ts : List BK.T} (h : TFs K ca H0 F H x vs ts) (e : Ext ca H F H' F') : TFs K ca H0 F' H' x vs ts := by
  obtain ⟨as, h1, h2, h3⟩ := h
  have key : ∀ b ∈ as, H' b = H b ∧ F' b = none := fun b hb => by
    obtain ⟨u, hu, hn⟩ := h1.at b hb
    exact ⟨by rw [hu, e.hh.st b u hu hn], e.keepN hu (h3 b hb).2.1 hn⟩
  exact ⟨as, h1.mono e.ff fun b hb => (key b hb).1, h2, fun b hb => ⟨(h3 b hb).1, (key b hb).2, (h3 b hb).2.2⟩⟩
theorem TFs.root {K : PySem.W.Frag} {ca : Nat → Addr} {H0 H1 F H : Hp} {x : Addr} {vs : List V} {ts : List BK.T} (h : TFs K ca H1 F H x vs ts) (s : SameN ca H0 H1) : TFs K ca H0 F H x vs ts := by
  obtain ⟨as, h1, h2, h3⟩ := h
  exact ⟨as, h1, h2, fun b hb => ⟨s.free (h3 b hb).1, (h3 b hb).2⟩⟩
theorem TFs.upd {K : PySem.W.Frag} {ca : Nat → Addr} {H0 F H : Hp} {x : Addr} {o : HO} {vs : List V} {ts : List BK.T} (h : TFs K ca H0 F H x vs ts) : TFs K ca H0 F (L2.upd H x o) x vs ts := by
  obtain ⟨as, h1, h2, h3⟩ := h
  exact ⟨as, h1.mono (Same.refl _) fun b hb => upd_ne (h3 b hb).2.2, h2, h3⟩
/-- one value more -/
theorem TFs.snoc {K : PySem.W.Frag} {ca : Nat → Addr} {B : BT} {H0 F H F' H' : Hp} {x : Addr} {vs : List V} {ts : List BK.T} {v : V} {r : R} (h : TFs K ca H0 F H x vs ts) (e : Ext ca H F H' F') (s : SameN ca H0 H) (hx : noT H x ≠ none) (hb : r.isBw = false) (rv : RV K ca B H F' H' v r) : TFs K ca H0 F' H' x (vs ++ [v]) (ts ++ [r.t]) := by
  obtain ⟨as, h1, h2, h3⟩ := h
  have key : ∀ b ∈ as, H' b = H b ∧ F' b = none ∧ noT H b ≠ none := fun b hb => by
    obtain ⟨u, hu, hn⟩ := h1.at b hb
    exact ⟨by rw [hu, e.hh.st b u hu hn], e.keepN hu (h3 b hb).2.1 hn, by rw [noT_get hu hn]; exact fun z => nomatch z⟩
  have h1' := h1.mono e.ff fun b hb => (key b hb).1
  cases r with
  | bw j ds => cases hb
  | va d =>
    refine ⟨as ++ ([] ++ []), h1'.append (.cons (.fz rv) .nil), by simpa using h2, fun b hb => ?_⟩
    have hb : b ∈ as := by simpa using hb
    exact ⟨(h3 b hb).1, (key b hb).2.1, (h3 b hb).2.2⟩
  | tm ds =>
    obtain ⟨b, us, rfl, n1, f1, k1, d1⟩ := rv
    refine ⟨as ++ ((b :: []) ++ []), h1'.append (.cons (.lst k1 (OTs.fzs d1)) .nil), ?_, fun c hc => ?_⟩
    · simp only [List.append_nil]
      rw [List.nodup_append]
      refine ⟨h2, by simp, fun c hc d hd => ?_⟩
      rw [List.mem_singleton] at hd
      subst hd
      exact fun z => (key c hc).2.2 (z ▸ n1)
    · simp only [List.append_nil, List.mem_append, List.mem_singleton] at hc
      rcases hc with hc | rfl
      · exact ⟨(h3 c hc).1, (key c hc).2.1, (h3 c hc).2.2⟩
      · exact ⟨s.free n1, f1, fun z => hx (z ▸ n1)⟩
/-- a promise of __init__: x is a new instance of the c-th class, without fields; n arguments -/
def spIni (K : PySem.W.Frag) (ca : Nat → Addr) (c n : Nat) (names : List Str) (ms : List (Gm → Option R)) : Sp := fun vs H Q _ => ∃ H0 F x dx us ds es, vs = .ref x :: us ∧ H0 x = none ∧ H = upd H0 x (.ins (ca c) dx []) ∧ Same F H0 ∧ NT F ∧ TabsC ca H0 ∧ Dens K ca F us ds ∧ us.length = n ∧ tinis ms (.un :: ds.map .va) = some es ∧
  ∀ H' F' fs, Ext ca H0 F H' F' → F' x = none → H' x = some (.ins (ca c) dx fs) → fs.map (·.1) = names → TFs K ca H0 F' H' x (fs.map (·.2)) es → Q .non H'
theorem putF_new {f : Str} {v : V} : ∀ {fs : List (Str × V)}, f ∉ fs.map (·.1) → putF f v fs = fs ++ [(f, v)]
  | [], _ => rfl
  | (g, u) :: fs, h => by
    have h1 : ¬ g = f := fun e => h (by rw [e]; exact List.mem_cons_self)
    show (if g = f then _ else _) = _
    rw [if_neg h1, putF_new fun m => h (List.mem_cons_of_mem _ m)]
    rfl
section
variable {X : Cx} {ca : Nat → Addr}
/-- the state within __init__ -/
def JS (K : PySem.W.Frag) (ca : Nat → Addr) (c : Nat) (H0 F0 : Hp) (x dx : Addr) (σ : L2.St) (H F : Hp) (Γ : Gm) (fs : List (Str × V)) (es : List BK.T) : Prop :=
  SR K ca H0 F0 σ H F Γ ∧ σ[0]? = some (some (.ref x)) ∧ H0 x = none ∧ F x = none ∧ H x = some (.ins (ca c) dx fs) ∧ TFs K ca H0 F H x (fs.map (·.2)) es ∧ ∀ (i : Nat) (t : T), Γ[i]? ≠ some (Slot.ot t)
/-- what a part of __init__ does: it stores fields -/
def JRd (K : PySem.W.Frag) (ca : Nat → Addr) (c : Nat) (T : TS) (names : List Str) (ms : List (Gm → Option R)) : Prop := ∀ (H0 F0 : Hp) (x dx : Addr) (σ : L2.St) (H F : Hp) (Γ : Gm) (fs : List (Str × V)) (es es2 : List BK.T) (D : Ends), JS K ca c H0 F0 x dx σ H F Γ fs es → tinis ms Γ = some es2 →
  (fs.map (·.1) ++ names).Nodup → fs.length + names.length < 1000 → (∀ H' F' gs, JS K ca c H0 F0 x dx σ H' F' Γ (fs ++ gs) (es ++ es2) → gs.map (·.1) = names → D.nx σ H') → T D σ H
def JV (X : Cx) (ca : Nat → Addr) (c : Nat) (st : Stmt) (names : List Str) (ms : List (Gm → Option R)) : Prop := ∃ T, PS X st T ∧ JRd X.K ca c T names ms
def JVs (X : Cx) (ca : Nat → Addr) (c : Nat) (sts : List Stmt) (names : List Str) (ms : List (Gm → Option R)) : Prop := ∃ T, PSs X sts T ∧ JRd X.K ca c T names ms
/-- .. from its beginning -/
def JR0 (K : PySem.W.Frag) (ca : Nat → Addr) (c : Nat) (T : TS) (names : List Str) (ms : List (Gm → Option R)) : Prop := ∀ (H0 F0 : Hp) (x dx : Addr) (σ : L2.St) (H F : Hp) (Γ : Gm) (es2 : List BK.T) (D : Ends), JS K ca c H0 F0 x dx σ H F Γ [] [] → tinis ms Γ = some es2 →
  names.Nodup → names.length < 1000 → (∀ H' F' gs, JS K ca c H0 F0 x dx σ H' F' Γ gs es2 → gs.map (·.1) = names → D.nx σ H') → T D σ H
def JVs0 (X : Cx) (ca : Nat → Addr) (c : Nat) (sts : List Stmt) (names : List Str) (ms : List (Gm → Option R)) : Prop := ∃ T, PSs X sts T ∧ JR0 X.K ca c T names ms
theorem jvs0_of {c : Nat} {sts : List Stmt} {names : List Str} {ms : List (Gm → Option R)} (h : JVs X ca c sts names ms) : JVs0 X ca c sts names ms := by
  obtain ⟨T, p, r⟩ := h
  exact ⟨T, p, fun H0 F0 x dx σ H F Γ es2 D J e nd hl q => r H0 F0 x dx σ H F Γ [] [] es2 D J e nd (by simpa using hl) q⟩
theorem inis_cons {m : Gm → Option R} {ms : List (Gm → Option R)} {g : Gm} {es : List BK.T} (h : tinis (m :: ms) g = some es) : ∃ r es2, m g = some r ∧ r.isBw = false ∧ tinis ms g = some es2 ∧ es = r.t :: es2 := by
  obtain ⟨r, er, e⟩ := Option.bind_eq_some_iff.mp h
  by_cases hb : r.isBw = true
  · rw [if_pos hb] at e; cases e
  rw [if_neg hb] at e
  obtain ⟨es3, e3, rfl⟩ := Option.map_eq_some_iff.mp e
  exact ⟨r, es3, er, by simpa using hb, e3, rfl⟩
theorem sr_atX {K : PySem.W.Frag} {H0 F0 H F : Hp} {σ : L2.St} {Γ : Gm} (S : SR K ca H0 F0 σ H F Γ) {x : Addr} {o : HO} (h0 : H0 x = none) (hp : Pl H x) (hf : F x = none) (ho : ∀ (j : Nat) (a : Addr) (ds : List D), Γ[j]? = some (Slot.ow ds) → σ[j]? = some (some (V.ref a)) → a ≠ x) (hno : ∀ (i : Nat) (t : T), Γ[i]? ≠ some (Slot.ot t)) : SR K ca H0 F0 σ (upd H x o) F Γ := by
  refine ⟨⟨S.ext.hh.updO (noT_none h0) hp, S.ext.ff, fun b u e => ?_, S.ext.nw, S.ext.nt⟩, S.nt0, S.tc0, S.len, S.va, fun j ds hj => ?_, S.ap, Own.nil hno⟩
  · rw [upd_ne (ne_of_none e hf)]; exact S.ext.fh b u e
  · obtain ⟨a, vs, s, h1, h2, h3, h4⟩ := S.ow j ds hj
    exact ⟨a, vs, s, h1, h2, by rw [upd_ne (ho j a ds hj s)]; exact h3, h4⟩
theorem jv_fld {c : Nat} {f : Str} {o e : Expr} {m : Gm → Option R} {pos pos' : Pos} (k : Kls X.K (ca c) c) (hf : f ∈ fldsOf c) (ho : PE X o (tVar 0)) (he : EV X ca e m) (hs : swapsWith e (some (.Attribute o f pos')) pos.line X.env = pure false) : JV X ca c (.Assign [.Attribute o f pos'] e pos) [f] [m] := by
  refine ⟨_, ps_fld ho he hs, ?_⟩
  rintro H0 F0 x dx σ H F Γ fs es es2 D ⟨S, s0, h0, hF, hH, hd, hno⟩ e nd hl q
  obtain ⟨r, es3, er, hbw, e3, rfl⟩ := inis_cons e
  cases e3
  have hn : f ∉ fs.map (·.1) := fun m => by
    rw [List.nodup_append] at nd
    exact nd.2.2 _ m _ List.mem_cons_self rfl
  refine ⟨H0, F0, F, Γ, r, S, er, fun v H1 F1 x1 r1 => ?_⟩
  refine ⟨_, s0, x, ca c, dx, fs, rfl, x1.hh.i hH, k.cl, k.na f hf, by simp at hl; omega, ?_⟩
  have hF2 : F1 x = none := x1.keepN hH hF
  rw [putF_new hn]
  refine q _ F1 [(f, v)] ⟨sr_atX (S.mono x1) h0 (Pl.ins (x1.hh.i hH)) hF2 (fun j a ds hj hs e => ?_) hno, s0, h0, hF2, upd_same, ?_, hno⟩ rfl
  · subst e
    obtain ⟨b, vs, g1, g2, g3, g4, _⟩ := S.ow j ds hj
    rw [hs] at g1
    cases g1
    rw [hH] at g4
    cases g4
  · rw [List.map_append]
    exact (hd.snoc x1 S.ext.hh (by rw [noT_get hH fun _ z => nomatch z]; exact fun z => nomatch z) hbw r1).upd
theorem jvs_one {c : Nat} {st : Stmt} {names : List Str} {ms : List (Gm → Option R)} (h : JV X ca c st names ms) : JVs X ca c [st] names ms := by
  obtain ⟨T, p, r⟩ := h
  exact ⟨_, pss_one p, r⟩
theorem jvs_cons {c : Nat} {st : Stmt} {sts : List Stmt} {f : Str} {names : List Str} {m : Gm → Option R} {ms : List (Gm → Option R)} (h : JV X ca c st [f] [m]) (hs : JVs X ca c sts names ms) : JVs X ca c (st :: sts) (f :: names) (m :: ms) := by
  obtain ⟨T, p, r⟩ := h
  obtain ⟨U, pp, rr⟩ := hs
  refine ⟨_, pss_cons p pp, ?_⟩
  intro H0 F0 x dx σ H F Γ fs es es2 D J e nd hl q
  obtain ⟨rv, es3, er, hbw, e3, rfl⟩ := inis_cons e
  have e1 : tinis [m] Γ = some [rv.t] := by
    show ((m Γ).bind fun r => if r.isBw = true then none else (tinis [] Γ).map (r.t :: ·)) = _
    rw [er]
    show (if rv.isBw = true then none else _) = _
    rw [if_neg (by simp [hbw])]
    rfl
  have nd1 : (fs.map (·.1) ++ [f]).Nodup := by
    rw [show fs.map (·.1) ++ f :: names = (fs.map (·.1) ++ [f]) ++ names by simp] at nd
    exact (List.nodup_append.mp nd).1
  refine r H0 F0 x dx σ H F Γ fs es _ _ J e1 nd1 (by simp at hl ⊢; omega) fun H' F' gs J' eg => ?_
  refine rr H0 F0 x dx σ H' F' Γ (fs ++ gs) (es ++ [rv.t]) es3 D J' e3 (by rw [List.map_append, eg]; simpa using nd) (by
    have := congrArg List.length eg
    simp at this hl ⊢
    omega) fun H2 F2 gs2 J2 eg2 => ?_
  refine q H2 F2 (gs ++ gs2) ?_ (by rw [List.map_append, eg, eg2]; rfl)
  rw [← List.append_assoc]
  simpa using J2
/-- an own class's def called by the class's name -/
theorem pe_ucall {CX : CXT} {k : Nat} {f C : Addr} {fd : FuncData} {ps : List Str} {sp : Sp} {dvs : List V} {ds : List Value} {E : XK} {x m : Str} {mc : Value} {p apos pos : Pos} {e : Expr} {es : List Expr} {t : TA} {pl : Sem Bool} (G : FnOk X.prog X.w X.K X.mg X.base CX k f fd ps sp) (hr : Room k X.A) (hg : Gl X x) (hm : X.mg x = some (.ref C))
    (hrd : PySem.W.readsIn X.K C mc = true) (hga : PySem.W.specialIn X.K (.ref C) "__getattribute__" = some (some (.builtin "type.__getattribute__"))) (hfc : PySem.W.findCls X.K (.ref C) mc m = some (.val (.ref f))) (hk : PySem.W.keepIn X.K (.ref f) = true) (hb : Binds X.K fd ps ds) (hv : Vals dvs ds) (hx : Passes CX X E) (ha : PA X (e :: es) t)
    (he : starEach (e :: es) X.env = (false, eval e X.env) :: starEach es X.env := by rfl) (hpl : (backTo pos (starEach es X.env)).any (·.1) = false := by rfl)
    (hev : eval (.Call (.Attribute (.Name x p) m apos) (e :: es) [] pos) X.env = (do
      let ov ← eval (.Name x p) X.env
      standAt apos.atName
      let (f, first) ← holding [ov] (getMethod ov m pl)
      callWith pos f first (backTo pos (starEach (e :: es) X.env)) (backToKw pos (keywordEach [] X.env))) := by rfl) (hdb : (x == ("__debug__" : Str)) = false := by decide) : PE X (.Call (.Attribute (.Name x p) m apos) (e :: es) [] pos) (tCall sp dvs E t) := by
  refine ⟨fun pins s σ H Q I h => ?_⟩
  refine PySem.W.methodCall_KW (ld_glob I hg hm ?_ hdb) hev
  refine PySem.W.method_cls I.kIn hga (PySem.W.cls_value I.kIn hrd hfc rfl ?_)
  have I2 := I.tok (s.toks + 1)
  refine PySem.W.callWith_K (K := X.K) I2.kIn hk ?_ he hpl
  refine thn (ha.run pos pins _ σ H _ I2 h) ?_
  rintro us s' ⟨vs, H', I3, hvs, q⟩
  exact ⟨I3.kIn, run_fn G hr hb hv hx I3 hvs q⟩
/-- the first statement of __init__ is the base's __init__ of one argument -/
theorem jvs0_base {c k i : Nat} {f C : Addr} {fd : FuncData} {ps : List Str} {x m f1 : Str} {mc : Value} {names : List Str} {ms : List (Gm → Option R)} {p p1 p2 apos pos pos2 : Pos} {sts : List Stmt} {y z : Str} {pl : Sem Bool} (G : FnOk X.prog X.w X.K X.mg X.base CX0 k f fd ps (spIni X.K ca c 1 [f1] [eV 1])) (hr : Room k X.A) (hg : Gl X x) (hm : X.mg x = some (.ref C))
    (hrd : PySem.W.readsIn X.K C mc = true) (hga : PySem.W.specialIn X.K (.ref C) "__getattribute__" = some (some (.builtin "type.__getattribute__"))) (hfc : PySem.W.findCls X.K (.ref C) mc m = some (.val (.ref f))) (hk : PySem.W.keepIn X.K (.ref f) = true) (hb : Binds X.K fd ps [])
    (h0 : PE X (.Name y p1) (tVar 0)) (h1 : PE X (.Name z p2) (tVar i)) (hs : JVs X ca c sts names ms)
    (he : starEach [.Name y p1, .Name z p2] X.env = (false, eval (.Name y p1) X.env) :: starEach [.Name z p2] X.env := by rfl) (he2 : starEach [.Name z p2] X.env = (false, eval (.Name z p2) X.env) :: starEach [] X.env := by rfl) (hpl : (backTo pos (starEach [.Name z p2] X.env)).any (·.1) = false := by rfl)
    (hev : eval (.Call (.Attribute (.Name x p) m apos) [.Name y p1, .Name z p2] [] pos) X.env = (do
      let ov ← eval (.Name x p) X.env
      standAt apos.atName
      let (f, first) ← holding [ov] (getMethod ov m pl)
      callWith pos f first (backTo pos (starEach [.Name y p1, .Name z p2] X.env)) (backToKw pos (keywordEach [] X.env))) := by rfl) (hdb : (x == ("__debug__" : Str)) = false := by decide)
    (hsw : swapsWith (.Call (.Attribute (.Name x p) m apos) [.Name y p1, .Name z p2] [] pos) none pos2.line X.env = pure false := by rfl) : JVs0 X ca c (.Expr (.Call (.Attribute (.Name x p) m apos) [.Name y p1, .Name z p2] [] pos) pos2 :: sts) (f1 :: names) (eV i :: ms) := by
  obtain ⟨U, pp, rr⟩ := hs
  refine ⟨_, pss_cons (ps_expr (pe_ucall G hr hg hm hrd hga hfc hk hb .nil pass0 (pa_cons h0 (pa_cons h1 pa_nil he2) he) he hpl hev hdb) hsw) pp, ?_⟩
  rintro H0 F0 a dx σ H F Γ es2 D ⟨S, s0, h0, hF, hH, hd, hno⟩ e nd hl q
  obtain ⟨r, es3, er, hbw, e3, rfl⟩ := inis_cons e
  unfold eV at er
  split at er
  rotate_left
  · cases er; cases hbw
  · cases er
  rename_i d hi
  cases er
  obtain ⟨v, sv, dv⟩ := S.va i d hi
  let H1 : Hp := fun b => if b = a then none else H b
  have e1 : H = L2.upd H1 a (.ins (ca c) dx []) := funext fun b => by
    by_cases hb : b = a
    · subst hb; rw [upd_same]; exact hH
    · rw [upd_ne hb]
      show H b = if b = a then none else H b
      rw [if_neg hb]
  have ha1 : H1 a = none := if_pos rfl
  have hn1 : ∀ b, b ≠ a → H1 b = H b := fun b hb => if_neg hb
  have S1 : SR X.K ca H0 F0 σ H1 F Γ := by
    have key : ∀ {P : Addr} {qn : Str}, LamX.TabS H P qn → LamX.TabS H1 P qn := fun {P qn} t => by
      obtain ⟨ps, t1, t2, t3⟩ := t
      refine ⟨ps, by rw [hn1 P (fun z => by subst z; rw [hH] at t1; cases t1)]; exact t1, t2, fun pos cv hc => ?_⟩
      obtain ⟨b, e1, e2⟩ := t3 pos cv hc
      refine ⟨b, e1, ?_⟩
      by_cases z : b = a
      · subst z; exact absurd e2 ((Pl.ins hH).c qn)
      · rw [hn1 b z]; exact e2
    refine ⟨⟨⟨fun b o e n => by rw [hn1 b (ne_of_none e h0)]; exact S.ext.hh.st b o e n, fun t => ⟨fun k => key ((S.ext.hh.tb t).a k), fun k => key ((S.ext.hh.tb t).b k)⟩⟩, S.ext.ff, fun b o e => ?_, S.ext.nw, S.ext.nt⟩, S.nt0, S.tc0, S.len, S.va, fun j ds hj => ?_, S.ap, Own.nil hno⟩
    · rw [hn1 b (ne_of_none e hF)]; exact S.ext.fh b o e
    · obtain ⟨b, vs, s, g1, g2, g3, g4⟩ := S.ow j ds hj
      refine ⟨b, vs, s, g1, g2, ?_, g4⟩
      rw [hn1 b fun e => by subst e; rw [hH] at g3; cases g3]
      exact g3
  refine ⟨_, s0, _, sv, ?_⟩
  refine ⟨H1, F, a, dx, [v], [d], [.fz d], rfl, ha1, e1, S1.ext.fh, S1.ext.nt S1.nt0, S1.tc0.mono S1.ext.hh, .cons dv .nil, rfl, rfl, fun H' F' fs x' hF' hH' en hd' => ?_⟩
  refine rr H0 F0 a dx σ H' F' Γ fs [.fz d] es3 D ⟨S1.mono x', s0, h0, hF', hH', hd'.root S1.ext.hh, hno⟩ e3 (by rw [en]; simpa using nd) (by
    have := congrArg List.length en
    simp at this hl ⊢
    omega) fun H2 F2 gs2 J2 eg2 => ?_
  refine q H2 F2 (fs ++ gs2) J2 (by rw [List.map_append, en, eg2]; rfl)
end
section
variable {P : Program} {w : World} {K : PySem.W.Frag} {mg : Str → Option Value} {base : Heap} {ca : Nat → Addr}
theorem ini_ok {x qual : Str} {st : Stmt} {f : Addr} {fd : FuncData} {N ps : List Str} {k n c : Nat} {names : List Str} {ms : List (Gm → Option R)} (F : Fun K x qual st f fd) (S : FnScope N ps (defScope st)) (hn : ps.length = n + 1) (hN : N.length = n + 1) (nd : names.Nodup) (hl : names.length < 1000)
    (hbody : ∀ (cdv : Value) (A : Around) (outer : List Env) (s : Shared) (H : Hp) (E : XK), Room k (A.deeper (PyProof.Rows.envOfC qual (defScope st) s.heap.objs.size f cdv)) →
      JVs0 (cxOf CX0 P w K mg base N qual (defScope st) f cdv A outer s H E).nox ca c (defBody st) names ms) : FnOk P w K mg base CX0 (k + 1) f fd ps (spIni K ca c n names ms) := by
  refine F.ok S (fun vs H Q E ⟨H0, F0, a, dx, us, ds, es, ev, h0, eH, sm, nt, tc, hd, hl, ei, q⟩ => ?_) (fun cdv A outer s H vs Q E hr ⟨H0, F0, a, dx, us, ds, es, ev, h0, eH, sm, nt, tc, hd, hlu, ei, q⟩ => ?_)
  · rw [ev, List.length_cons, hl, hn]
  · obtain ⟨T, pb, rd⟩ := hbody cdv A outer s H E hr
    refine ⟨T, pb, ?_⟩
    subst ev
    subst eH
    have hlen : ds.length = n := by rw [← hd.length, hlu]
    have eN : N.length - (V.ref a :: us).length = 0 := by rw [List.length_cons, hlu, hN]; omega
    have eσ : L2.start N (V.ref a :: us) = (V.ref a :: us).map some := by
      unfold L2.start
      rw [eN]
      simp
    have fn : F0 a = none := by
      cases e : F0 a with
      | none => rfl
      | some o => have := sm _ _ e; rw [h0] at this; cases this
    have hno : ∀ (i : Nat) (t : BK.T), (Slot.un :: ds.map Slot.va)[i]? ≠ some (Slot.ot t) := fun i t e => by
      cases i with
      | zero => cases e
      | succ i =>
        rw [List.getElem?_cons_succ, List.getElem?_map] at e
        cases q : ds[i]? with
        | none => rw [q] at e; cases e
        | some d' => rw [q] at e; cases e
    have S0 : SR K ca H0 F0 (L2.start N (V.ref a :: us)) (L2.upd H0 a (.ins (ca c) dx [])) F0 (.un :: ds.map Slot.va) := by
      rw [eσ]
      refine ⟨Ext.newO sm _ h0, nt, tc, by simp [hd.length], fun i d e => ?_, fun i es e => ?_, fun i j es fs b n e1 e2 => ?_, Own.nil hno⟩
      · cases i with
        | zero => cases e
        | succ i =>
          rw [List.getElem?_cons_succ, List.getElem?_map] at e
          cases q : ds[i]? with
          | none => rw [q] at e; cases e
          | some d' =>
            rw [q] at e
            cases e
            obtain ⟨v, h1, h2⟩ := hd.getV q
            exact ⟨v, by rw [List.map_cons, List.getElem?_cons_succ, List.getElem?_map, h1]; rfl, h2⟩
      · cases i with
        | zero => cases e
        | succ i =>
          rw [List.getElem?_cons_succ, List.getElem?_map] at e
          cases q : ds[i]? with
          | none => rw [q] at e; cases e
          | some d' => rw [q] at e; cases e
      · cases i with
        | zero => cases e1
        | succ i =>
          rw [List.getElem?_cons_succ, List.getElem?_map] at e1
          cases q : ds[i]? with
          | none => rw [q] at e1; cases e1
          | some d' => rw [q] at e1; cases e1
    refine rd H0 F0 a dx _ _ F0 _ es _ ⟨S0, by rw [eσ]; rfl, h0, fn, upd_same, ⟨[], .nil, .nil, fun _ z => nomatch z⟩, hno⟩ ei nd hl fun H' F' gs J en => ?_
    obtain ⟨S', s0', h0', hF', hH', hd', _⟩ := J
    exact q H' F' gs S'.ext hF' hH' en hd'
/-- a class as those see it that make instances -/
structure Maker (P : Program) (w : World) (K : PySem.W.Frag) (mg : Str → Option Value) (base : Heap) (ca : Nat → Addr) (k c n : Nat) (x : Str) (ms : List (Gm → Option R)) : Prop where
  ex : ∃ (f : Addr) (fd : FuncData) (ps : List Str), Mk K (ca c) f ∧ Kls K (ca c) c ∧ FnOk P w K mg base CX0 k f fd ps (spIni K ca c n (fldsOf c) ms) ∧ mg x = some (.ref (ca c)) ∧ Binds K fd ps []
end
def cMkN (c n : Nat) (ms : List (Gm → Option R)) (rs : List R) : Option R := if rs.length = n then cMk c ms rs else none
section
variable {X : Cx} {ca : Nat → Addr} {k c n : Nat} {x : Str} {ms : List (Gm → Option R)} {p pos : Pos} {e : Expr} {es : List Expr} {as : Gm → Option (List R)}
theorem allVa_den {K : PySem.W.Frag} {B : BT} {Hs F H : Hp} : ∀ {vs : List V} {rs : List R} {ds : List D}, RVs K ca B Hs F H vs rs → allVa rs = some ds → Dens K ca F vs ds ∧ vs.length = rs.length
  | _, _, _, .nil, e => by cases e; exact ⟨.nil, rfl⟩
  | _, r :: rs, ds, .cons h hs, e => by
    cases r with
    | va d =>
      obtain ⟨ds2, e2, rfl⟩ := Option.map_eq_some_iff.mp e
      obtain ⟨h1, h2⟩ := allVa_den hs e2
      exact ⟨.cons h h1, by rw [List.length_cons, List.length_cons, h2]⟩
    | tm ds => cases e
    | bw j ds => cases e
/-- a new instance is a tree -/
def cMkT (c n : Nat) (ms : List (Gm → Option R)) (rs : List R) : Option BK.T := if rs.length = n then (allVa rs).bind fun ds => (tinis ms (.un :: ds.map .va)).map fun ts => .ins c ts else none
theorem cMkT_d {c n : Nat} {ms : List (Gm → Option R)} {rs : List R} {z : R} (h : cMkN c n ms rs = some z) : ∃ t, cMkT c n ms rs = some t ∧ z = .va t.d := by
  unfold cMkN cMk at h
  split at h
  rotate_left
  · cases h
  rename_i hl
  obtain ⟨ds, ed, h⟩ := Option.bind_eq_some_iff.mp h
  obtain ⟨es, ee, rfl⟩ := Option.map_eq_some_iff.mp h
  obtain ⟨ts, et, rfl⟩ := tinis_of ee
  exact ⟨.ins c ts, by unfold cMkT; rw [if_pos hl, ed]; show (tinis ms _).map _ = _; rw [et]; rfl, rfl⟩
def tMkT (K : PySem.W.Frag) (ca : Nat → Addr) (f : List R → Option BK.T) (as : Gm → Option (List R)) : TE := fun σ H Q => ∃ H0 F0 F Γ rs t, SR K ca H0 F0 σ H F Γ ∧ as Γ = some rs ∧ f rs = some t ∧
  ∀ v H' F' bs, Ext ca H F H' F' → OT K ca F' H' v t bs → bs.Nodup → (∀ b ∈ bs, noT H b = none ∧ F' b = none) → Q v H'
theorem pe_makeT (C : Maker X.prog X.w X.K X.mg X.base ca k c n x ms) (hr : Room (k + 1) X.A) (hg : Gl X x) (ha : AV X ca (e :: es) as) (hdb : (x == ("__debug__" : Str)) = false := by decide)
    (he : starEach (e :: es) X.env = (false, eval e X.env) :: starEach es X.env := by rfl) (hpl : (backTo pos (starEach es X.env)).any (·.1) = false := by rfl) : PE X (.Call (.Name x p) (e :: es) [] pos) (tMkT X.K ca (cMkT c n ms) as) := by
  obtain ⟨f, fd, ps, M, kl, G, hm, hb⟩ := C.ex
  refine pe_imp (pe_make M G hr hg hm hb .nil pass0 ha hdb he hpl) ?_
  rintro σ H Q ⟨H0, F0, F, Γ, rs, t, S, er, e, q⟩
  unfold cMkT at e
  split at e
  rotate_left
  · cases e
  rename_i hln
  obtain ⟨ds, ed, e⟩ := Option.bind_eq_some_iff.mp e
  obtain ⟨fsd, ef, rfl⟩ := Option.map_eq_some_iff.mp e
  refine ⟨H0, F0, F, Γ, rs, S, er, fun vs H1 F1 x1 r1 a dx ha hdx hne => ?_⟩
  obtain ⟨hd, hlv⟩ := allVa_den r1 ed
  have hH2 : (L2.upd H1 dx (.own a)) a = none := by rw [upd_ne hne.symm]; exact ha
  have x2 : Ext ca H1 F1 (L2.upd H1 dx (.own a)) F1 := Ext.newO x1.fh _ hdx
  rw [List.append_nil]
  refine ⟨_, F1, a, dx, vs, ds, fsd, rfl, hH2, rfl, x2.fh, ((S.mono x1).mono x2).ext.nt S.nt0, S.tc0.mono ((S.mono x1).mono x2).ext.hh, hd, by rw [hlv, hln], ef, fun H' F' fs x' hF' hH' en hd' => ⟨rfl, ?_⟩⟩
  have x3 : Ext ca H F H' F' := (x1.trans x2).trans x'
  have hHa : noT H a = none := x1.hh.free (noT_none ha)
  obtain ⟨bs, h1, h2, h3⟩ := hd'.root (x1.trans x2).hh
  refine q _ H' F' (a :: bs) x3 (.ins kl hH' en h1) (List.nodup_cons.mpr ⟨fun z => (h3 a z).2.2 rfl, h2⟩) fun b hb => ?_
  rcases List.mem_cons.mp hb with rfl | hb
  · exact ⟨hHa, hF'⟩
  · exact ⟨(h3 b hb).1, (h3 b hb).2.1⟩
theorem ot_freeze {K : PySem.W.Frag} {H F H' F' : Hp} {v : V} {t : BK.T} {bs : List Addr} (x : Ext ca H F H' F') (h : OT K ca F' H' v t bs) (hf : ∀ b ∈ bs, noT H b = none ∧ F' b = none) : ∃ F2, Ext ca H F H' F2 ∧ Same F' F2 ∧ Den K ca F2 v t.d := by
  classical
  let F2 : Hp := fun b => if b ∈ bs then H' b else F' b
  have sf : Same F' F2 := fun b u e => by
    show (if b ∈ bs then H' b else F' b) = some u
    by_cases hb : b ∈ bs
    · rw [(hf b hb).2] at e; cases e
    · rw [if_neg hb]; exact e
  refine ⟨F2, ⟨x.hh, x.ff.trans sf, fun b u e => ?_, fun b e => ?_, fun n b ps e => ?_⟩, sf, h.den sf fun b hb => if_pos hb⟩
  · have e : (if b ∈ bs then H' b else F' b) = some u := e
    by_cases hb : b ∈ bs
    · rw [if_pos hb] at e; exact e
    · rw [if_neg hb] at e; exact x.fh b u e
  · by_cases hb : b ∈ bs
    · exact .inr (hf b hb).1
    · have e : (if b ∈ bs then H' b else F' b) ≠ none := e
      rw [if_neg hb] at e
      exact x.nw b e
  · have e : (if b ∈ bs then H' b else F' b) = some (.tbl ps) := e
    by_cases hb : b ∈ bs
    · rw [if_pos hb] at e
      obtain ⟨u, hu, hn⟩ := h.at b hb
      rw [hu] at e
      exact hn ps (Option.some.inj e)
    · rw [if_neg hb] at e
      exact x.nt n b ps e
theorem ev_make (C : Maker X.prog X.w X.K X.mg X.base ca k c n x ms) (hr : Room (k + 1) X.A) (hg : Gl X x) (ha : AV X ca (e :: es) as) (hdb : (x == ("__debug__" : Str)) = false := by decide)
    (he : starEach (e :: es) X.env = (false, eval e X.env) :: starEach es X.env := by rfl) (hpl : (backTo pos (starEach es X.env)).any (·.1) = false := by rfl) : EV X ca (.Call (.Name x p) (e :: es) [] pos) (eA (cMkN c n ms) as) := by
  refine pe_imp (pe_makeT C hr hg ha hdb he hpl) ?_
  rintro σ H Q ⟨H0, F0, F, Γ, z, S, e, q⟩
  unfold eA at e
  obtain ⟨rs, er, e⟩ := Option.bind_eq_some_iff.mp e
  obtain ⟨t, et, rfl⟩ := cMkT_d e
  refine ⟨H0, F0, F, Γ, rs, t, S, er, et, fun v H' F' bs x1 h1 _ h3 => ?_⟩
  obtain ⟨F2, x2, _, d2⟩ := ot_freeze x1 h1 h3
  exact q v H' F2 x2 d2
end
end BK
namespace BK
open PySem PySem.Spec L2
set_option autoImplicit false
/-- a promise for whatever addresses the classes have -/
def spAll (K : PySem.W.Frag) (φ : Phi) : Sp := fun vs H Q E => ∀ ca : Nat → Addr, ca 20 = 0 → ca 22 = 0 → spOf K ca φ vs H Q E
theorem fn_all {P : Program} {w : World} {K : PySem.W.Frag} {mg : Str → Option Value} {base : Heap} {CX : CXT} {k : Nat} {f : Addr} {fd : FuncData} {ps : List Str} {φ : Phi} {ca : Nat → Addr} (G : FnOk P w K mg base CX k f fd ps (spOf K ca φ)) (h20 : ca 20 = 0 := by rfl) (h22 : ca 22 = 0 := by rfl) : FnOk P w K mg base CX k f fd ps (spAll K φ) :=
  ⟨fun vs H Q E h => G.len vs H Q E (h ca h20 h22), fun A outer s H args us vs Q E hr he hb hv h => G.run A outer s H args us vs Q E hr he hb hv (h ca h20 h22)⟩
theorem noT_sq {K : PySem.W.Frag} {H : Hp} {a : Addr} {xs : List V} (h : SqL K H a xs) : SqL K (noT H) a xs := by
  rcases h with (h | ⟨o, h⟩) | h
  · exact .inl (.inl (noT_get h fun ps z => nomatch z))
  · exact .inl (.inr ⟨o, noT_get h fun ps z => nomatch z⟩)
  · exact .inr h
theorem tabsC0 {ca : Nat → Addr} {H : Hp} (h : ca 20 = 0) (k : ca 22 = 0) : TabsC ca H := ⟨fun z => (by rw [h] at z; cases z), fun z => (by rw [k] at z; cases z)⟩
end BK
namespace BK
open PySem PySem.Spec L2
set_option autoImplicit false
theorem fn_none {P : Program} {w : World} {K : PySem.W.Frag} {mg : Str → Option Value} {base : Heap} {CX : CXT} {k : Nat} {f : Addr} {fd : FuncData} {ps : List Str} {ca : Nat → Addr} : FnOk P w K mg base CX k f fd ps (spOf K ca fun _ => none) :=
  ⟨fun vs H Q E ⟨ds, F, r, _, _, _, _, e, _⟩ => (by cases e), fun A outer s H args us vs Q E hr he hb hv ⟨ds, F, r, _, _, _, _, e, _⟩ => (by cases e)⟩
end BK
namespace BK
open PySem PySem.Spec L2
set_option autoImplicit false
theorem blk_by {X : Cx} {N : List Str} {sc scope : Scope} {own : List (Str × Nat)} (hN : X.N = N) (hs : X.env.scope = sc) (h : blkC N sc scope own = true) : BlkOk X.N X.env.scope scope own := by
  rw [hN, hs]
  exact blkOk_by h
/-- a block's scope within the scope sf -/
def relS (sc sf : Scope) : Scope := relabel sc ⟨sf, 0, 0, [], Str.empty, none, .none, none, 0⟩
theorem blk_by2 {X : Cx} {N : List Str} {sc sf scope : Scope} {own : List (Str × Nat)} {s : Shared} {H : Hp} {C : Addr} {cl : List (Str × Addr)} {fp : List Addr} (hN : X.N = N) (hs : X.env.scope = sf) (h : blkC N (relS sc sf) scope own = true) : BlkOk (X.blk s H sc (compEnvC sc cl C X.env) fp).N (X.blk s H sc (compEnvC sc cl C X.env) fp).env.scope scope own := by
  subst hs
  show BlkOk X.N (relS sc X.env.scope) scope own
  rw [hN]
  exact blkOk_by h
end BK
namespace BK
open PySem PySem.Spec L2
set_option autoImplicit false
/-! ### chains, methods of texts and lists, stores -/
/-- a < b < c -/
def eCh (f f' : R → R → Option R) (a b c : Gm → Option R) : Gm → Option R := fun g => (a g).bind fun x => (b g).bind fun y => (f x y).bind fun z => match z with
  | .va (.bl true) => (c g).bind fun w => f' y.fz w
  | .va (.bl false) => some (.va (.bl false))
  | _ => none
section
variable {X : Cx} {ca : Nat → Addr} {a b c : Expr} {m n k : Gm → Option R} {pos apos p : Pos}
theorem t_chain {r r' : R2} {f f' : R → R → Option R} (o : OpD X.K ca r f) (o' : OpD X.K ca r' f') : ∀ σ H Q, tEV X.K ca (eCh f f' m n k) σ H Q → tChain r r' (tEV X.K ca m) (tEV X.K ca n) (tEV X.K ca k) σ H Q := by
  rintro σ H Q ⟨H0, F0, F, Γ, z, S, e, q⟩
  unfold eCh at e
  obtain ⟨x, ex, e⟩ := Option.bind_eq_some_iff.mp e
  obtain ⟨y, ey, e⟩ := Option.bind_eq_some_iff.mp e
  obtain ⟨t, et, e⟩ := Option.bind_eq_some_iff.mp e
  refine ⟨H0, F0, F, Γ, x, S, ex, fun v H1 F1 x1 r1 => ⟨H0, F0, F1, Γ, y, S.mono x1, ey, fun w H2 F2 x2 r2 => ?_⟩⟩
  refine o x2.fh (r1.mono x2) (r2.back x1.hh) et fun u H3 F3 x3 r3 => ?_
  split at e
  · cases r3
    refine ⟨true, rfl, ?_⟩
    rw [if_pos rfl]
    obtain ⟨cw, ec, e⟩ := Option.bind_eq_some_iff.mp e
    have x23 := (x1.trans x2).trans x3
    obtain ⟨F4, x4, r4⟩ := RV.fz (x2.trans x3) (r2.mono x3)
    have x14 := x1.trans x4
    refine ⟨H0, F0, F4, Γ, cw, S.mono x14, ec, fun w' H5 F5 x5 r5 => ?_⟩
    refine o' x5.fh ((r4.back x1.hh).mono x5) (r5.back x14.hh) e fun u H6 F6 x6 r6 => ?_
    exact q u H6 F6 ((x14.trans x5).trans x6) (r6.back (x14.trans x5).hh)
  · cases r3
    refine ⟨false, rfl, ?_⟩
    rw [if_neg (by decide)]
    cases e
    exact q _ H3 F3 ((x1.trans x2).trans x3) (.bl false)
  · cases e
theorem ev_chain {op op' : CmpOp} {r r' : R2} {f f' : R → R → Option R} (ho : OpR X (compareOp op) r) (o : OpD X.K ca r f) (ho' : OpR X (compareOp op') r') (o' : OpD X.K ca r' f') (ha : EV X ca a m) (hb : EV X ca b n) (hc : EV X ca c k) (hl : lastMarks [op, op'] [b, c] = false := by rfl) : EV X ca (.Compare a [op, op'] [b, c] pos) (eCh f f' m n k) := pe_imp (pe_chain ho ho' ha hb hc hl) (t_chain o o')
theorem tv_chain {op op' : CmpOp} {r r' : R2} {f f' : R → R → Option R} (ho : OpR X (compareOp op) r) (o : OpD X.K ca r f) (ho' : OpR X (compareOp op') r') (o' : OpD X.K ca r' f') (ha : EV X ca a m) (hb : EV X ca b n) (hc : EV X ca c k) (hl : lastMarks [op, op'] [b, c] = false := by rfl) : TV X ca (.Compare a [op, op'] [b, c] pos) (bE (eCh f f' m n k)) :=
  pt_imp (pt_chain ho ho' ha hb hc hl) fun σ H Q q => t_chain o o' _ _ _ (t_test q)
/-! texts -/
def MD1 (K : PySem.W.Frag) (ca : Nat → Addr) (r : V → List V → Hp → VK → Prop) (f : R → R → Option R) : Prop :=
  ∀ {B : BT} {Hs F H : Hp} {v w : V} {x y z : R} {Q : VK}, Same F H → RV K ca B Hs F H v x → RV K ca B Hs F H w y → f x y = some z → (∀ u H' F', Ext ca H F H' F' → RV K ca B H F' H' u z → Q u H') → (∃ t, v = .str t) ∧ r v [w] H Q
theorem t_m1 {r : V → List V → Hp → VK → Prop} {f : R → R → Option R} (o : MD1 X.K ca r f) (hf : ∀ x y z, f x y = some z → ∃ t, x = .va (.str t)) : ∀ σ H Q, tEV X.K ca (e2 f m n) σ H Q → tM1 r (tEV X.K ca m) (tEV X.K ca n) σ H Q := by
  rintro σ H Q ⟨H0, F0, F, Γ, z, S, e, q⟩
  unfold e2 at e
  obtain ⟨x, ex, e⟩ := Option.bind_eq_some_iff.mp e
  obtain ⟨y, ey, e⟩ := Option.bind_eq_some_iff.mp e
  obtain ⟨t, rfl⟩ := hf x y z e
  refine ⟨H0, F0, F, Γ, _, S, ex, fun v H1 F1 x1 r1 => ?_⟩
  have r1' := r1
  cases r1
  refine ⟨⟨t, rfl⟩, H0, F0, F1, Γ, y, S.mono x1, ey, fun w H2 F2 x2 r2 => ?_⟩
  exact (o x2.fh (r1'.mono x2) (r2.back x1.hh) e fun u H3 F3 x3 r3 => q u H3 F3 ((x1.trans x2).trans x3) (r3.back (x1.hh.trans x2.hh))).2
/-- two texts -/
def f2s (g : Str → Str → Option R) (x y : R) : Option R := match x with
  | .va (.str a) => match y with
    | .va (.str b) => g a b
    | _ => none
  | _ => none
theorem f2s_some {g : Str → Str → Option R} {x y z : R} (h : f2s g x y = some z) : ∃ a b, x = .va (.str a) ∧ y = .va (.str b) ∧ g a b = some z := by
  unfold f2s at h
  split at h
  · split at h
    · exact ⟨_, _, rfl, rfl, h⟩
    · cases h
  · cases h
theorem ev_m1s {g : Str → Str → Option R} {id : String} {name : Str} {r : V → List V → Hp → VK → Prop} (slot : PySem.Slot "str" name id) (ty : typeOf (.builtin id) = pure (.type "method_descriptor")) (rule : MtR X id r) (o : ∀ {B : BT} {F H : Hp} {a b : Str} {z : R} {Q : VK}, Same F H → g a b = some z → (∀ u H' F', Ext ca H F H' F' → RV X.K ca B H F' H' u z → Q u H') → r (.str a) [.str b] H Q)
    (ha : EV X ca a m) (hb : EV X ca b n) (h1 : starEach [b] X.env = [(false, eval b X.env)] := by rfl) (h2 : attributeBase a name X.env (eval a X.env) = eval a X.env := by rfl) (h3 : (apos.endLine == pos.line) = true := by decide) : EV X ca (.Call (.Attribute a name apos) [b] [] pos) (e2 (f2s g) m n) :=
  pe_imp (pe_m1 slot ty rule ha hb h1 h2 h3) (t_m1 (fun {B Hs F H v w x y z Q} s rx ry e q => by
    obtain ⟨ta, tb, rfl, rfl, e⟩ := f2s_some e
    cases rx
    cases ry
    exact ⟨⟨ta, rfl⟩, o s e q⟩) fun x y z e => by
      obtain ⟨ta, tb, h, _⟩ := f2s_some e
      exact ⟨ta, h⟩)
def gSw (a b : Str) : Option R := some (.va (.bl (Txt.startswith a b)))
def gFind (a b : Str) : Option R := some (.va (.int (Txt.find a b)))
def gPart (a b : Str) : Option R := if (b.length == 0) = false ∧ a.length ≤ LIM then some (.va (.tup [.str (Txt.partition a b).1, .str (Txt.partition a b).2.1, .str (Txt.partition a b).2.2])) else none
def gSplit (a b : Str) : Option R := if (b.length == 0) = false ∧ a.length + 2 ≤ LIM then some (.tm ((Txt.split a b).map .str)) else none
theorem ev_sw (ha : EV X ca a m) (hb : EV X ca b n) (h1 : starEach [b] X.env = [(false, eval b X.env)] := by rfl) (h2 : attributeBase a "startswith" X.env (eval a X.env) = eval a X.env := by rfl) (h3 : (apos.endLine == pos.line) = true := by decide) : EV X ca (.Call (.Attribute a "startswith" apos) [b] [] pos) (e2 (f2s gSw) m n) :=
  ev_m1s PySem.F.slot_str_startswith PySem.F.type_str_startswith mt_startswith (fun {B F H a b z Q} s e q => by
    cases e
    exact ⟨a, b, rfl, rfl, q _ H F (.refl s) (.bl _)⟩) ha hb h1 h2 h3
theorem ev_find (ha : EV X ca a m) (hb : EV X ca b n) (h1 : starEach [b] X.env = [(false, eval b X.env)] := by rfl) (h2 : attributeBase a "find" X.env (eval a X.env) = eval a X.env := by rfl) (h3 : (apos.endLine == pos.line) = true := by decide) : EV X ca (.Call (.Attribute a "find" apos) [b] [] pos) (e2 (f2s gFind) m n) :=
  ev_m1s PySem.F.slot_str_find PySem.F.type_str_find mt_find (fun {B F H a b z Q} s e q => by
    cases e
    exact ⟨a, b, rfl, rfl, q _ H F (.refl s) (.int _)⟩) ha hb h1 h2 h3
theorem ev_part (ha : EV X ca a m) (hb : EV X ca b n) (h1 : starEach [b] X.env = [(false, eval b X.env)] := by rfl) (h2 : attributeBase a "partition" X.env (eval a X.env) = eval a X.env := by rfl) (h3 : (apos.endLine == pos.line) = true := by decide) : EV X ca (.Call (.Attribute a "partition" apos) [b] [] pos) (e2 (f2s gPart) m n) :=
  pe_imp (pe_partition ha hb h1 h2 h3) (t_m1 (fun {B Hs F H v w x y z Q} s rx ry e q => by
    obtain ⟨ta, tb, rfl, rfl, e'⟩ := f2s_some e
    clear e
    cases rx
    cases ry
    have e := e'
    unfold gPart at e
    split at e
    · rename_i hc
      cases e
      refine ⟨⟨ta, rfl⟩, ta, tb, rfl, rfl, hc.1, by rw [lim_eq]; exact hc.2, fun p hp => ?_⟩
      exact q _ _ _ (.new s (.tup _) hp) (.tup (SqT.of upd_same) (.cons (.str _) (.cons (.str _) (.cons (.str _) .nil))))
    · cases e) fun x y z e => by
      obtain ⟨ta, tb, h, _⟩ := f2s_some e
      exact ⟨ta, h⟩)
theorem dens_strs {K : PySem.W.Frag} {F : Hp} : ∀ (zs : List Str), Dens K ca F (zs.map V.str) (zs.map D.str)
  | [] => .nil
  | z :: zs => .cons (.str z) (dens_strs zs)
theorem ev_split (ha : EV X ca a m) (hb : EV X ca b n) (h1 : starEach [b] X.env = [(false, eval b X.env)] := by rfl) (h2 : attributeBase a "split" X.env (eval a X.env) = eval a X.env := by rfl) (h3 : (apos.endLine == pos.line) = true := by decide) : EV X ca (.Call (.Attribute a "split" apos) [b] [] pos) (e2 (f2s gSplit) m n) :=
  pe_imp (pe_split ha hb h1 h2 h3) (t_m1 (fun {B Hs F H v w x y z Q} s rx ry e q => by
    obtain ⟨ta, tb, rfl, rfl, e'⟩ := f2s_some e
    clear e
    cases rx
    cases ry
    have e := e'
    unfold gSplit at e
    split at e
    · rename_i hc
      cases e
      refine ⟨⟨ta, rfl⟩, ta, tb, rfl, rfl, hc.1, by rw [lim_eq]; exact hc.2, fun p hp => ?_⟩
      exact q _ _ _ (Ext.newO s _ hp) ⟨p, _, rfl, noT_none hp, s.free hp, upd_same, dens_strs _⟩
    · cases e) fun x y z e => by
      obtain ⟨ta, tb, h, _⟩ := f2s_some e
      exact ⟨ta, h⟩)
/-- sep.join(xs) -/
def strsD : List D → Option (List Str)
  | [] => some []
  | .str z :: ds => (strsD ds).map (z :: ·)
  | _ => none
def R.seq (r : R) : Option (List D) := match r.d with
  | .lst ds => some ds
  | .tup ds => some ds
  | .rol ds => some ds
  | _ => none
def fJoin (x y : R) : Option R := match x with
  | .va (.str a) => y.seq.bind fun ds => (strsD ds).bind fun zs => if (zs.map (·.length)).sum + zs.length * a.length ≤ 16777216 then some (.va (.str (Txt.join a zs))) else none
  | _ => none
theorem strsD_den {K : PySem.W.Frag} {F : Hp} : ∀ {ds : List D} {zs : List Str} {vs : List V}, strsD ds = some zs → Dens K ca F vs ds → vs = zs.map V.str
  | [], zs, vs, e, h => by cases e; cases h; rfl
  | d :: ds, zs, vs, e, h => by
    cases d with
    | str z =>
      obtain ⟨ys, ey, rfl⟩ := Option.map_eq_some_iff.mp e
      cases h with
      | cons h1 h2 =>
        cases h1
        rw [strsD_den ey h2]
        rfl
    | _ => cases e
theorem RV.seqD {K : PySem.W.Frag} {B : BT} {Hs F H : Hp} {v : V} {r : R} {ds : List D} (s : Same F H) (h : RV K ca B Hs F H v r) (e : r.seq = some ds) : ∃ p vs, v = .ref p ∧ (SqL K H p vs ∨ SqT K H p vs) ∧ Dens K ca F vs ds := by
  unfold R.seq at e
  split at e
  · rename_i es q
    cases e
    obtain ⟨p, vs, rfl, h1, h2⟩ := RV.lst s h q
    refine ⟨p, vs, rfl, .inl ?_, h2⟩
    rcases h1 with z | ⟨o, z⟩
    · exact SqL.of z
    · exact .inl (.inr ⟨o, z⟩)
  · rename_i es q
    cases e
    cases RV.den h q rfl with
    | tup t d1 => exact ⟨_, _, rfl, .inr (Same.seqT s t), d1⟩
  · rename_i es q
    cases e
    cases RV.den h q rfl with
    | rol t d1 => exact ⟨_, _, rfl, .inl (s.seq t), d1⟩
  · cases e
theorem ev_join (ha : EV X ca a m) (hb : EV X ca b n) (h1 : starEach [b] X.env = [(false, eval b X.env)] := by rfl) (h2 : attributeBase a "join" X.env (eval a X.env) = eval a X.env := by rfl) (h3 : (apos.endLine == pos.line) = true := by decide) : EV X ca (.Call (.Attribute a "join" apos) [b] [] pos) (e2 fJoin m n) :=
  pe_imp (pe_join ha hb h1 h2 h3) (t_m1 (fun {B Hs F H v w x y z Q} s rx ry e q => by
    unfold fJoin at e
    split at e
    · rename_i ta
      obtain ⟨ds, ed, e⟩ := Option.bind_eq_some_iff.mp e
      obtain ⟨zs, ez, e⟩ := Option.bind_eq_some_iff.mp e
      split at e
      · rename_i hc
        cases e
        cases rx
        obtain ⟨p, vs, rfl, hp, hd⟩ := RV.seqD s ry ed
        have := strsD_den ez hd
        subst this
        exact ⟨⟨ta, rfl⟩, ta, p, zs, rfl, rfl, hp, hc, q _ H F (.refl s) (.str _)⟩
      · cases e
    · cases e) fun x y z e => by
      unfold fJoin at e
      split at e
      · exact ⟨_, rfl⟩
      · cases e)
end
end BK
namespace BK
open PySem PySem.Spec L2
set_option autoImplicit false
section
variable {X : Cx} {ca : Nat → Addr}
theorem ev_globI {x : Str} {pos : Pos} {i : Int} (h : ∃ t, X.mg x = some (.int i t)) (hg : Gl X x := by rfl) (hdb : (x == ("__debug__" : Str)) = false := by decide) : EV X ca (.Name x pos) (eC (.int i)) := by
  obtain ⟨t, ht⟩ := h
  exact ev_c (v := .int i) (pe_glob hg ht ⟨_, rfl⟩ hdb) fun _ => .int _
theorem ev_globS {x : Str} {pos : Pos} {z : Str} (h : ∃ t, X.mg x = some (.str z t)) (hg : Gl X x := by rfl) (hdb : (x == ("__debug__" : Str)) = false := by decide) : EV X ca (.Name x pos) (eC (.str z)) := by
  obtain ⟨t, ht⟩ := h
  exact ev_c (v := .str z) (pe_glob hg ht ⟨_, rfl⟩ hdb) fun _ => .str _
end
end BK
namespace BK
open PySem PySem.Spec L2
set_option autoImplicit false
/-! ### own lists changed otherwise -/
/-- the place that a pop or a store names -/
def ixD (ds : List D) (r : R) : Option Nat := match r with
  | .va (.int k) => if -(2 ^ 63) ≤ k ∧ k < 2 ^ 63 then seqIndex? k ds.length else none
  | _ => none
theorem ixD_some {ds : List D} {r : R} {t : Nat} (h : ixD ds r = some t) : ∃ k : Int, r = .va (.int k) ∧ -(2 ^ 63) ≤ k ∧ k < 2 ^ 63 ∧ seqIndex? k ds.length = some t := by
  unfold ixD at h
  split at h
  · split at h
    · rename_i hb
      exact ⟨_, rfl, hb.1, hb.2, h⟩
    · cases h
  · cases h
/-- y = xs.pop(k) -/
def sPopS (j i : Nat) (a : Gm → Option R) : Gm → Option Out := fun g => match g[i]? with
  | some (.ow ds) => (a g).bind fun r => (ixD ds r).bind fun t => ds[t]?.map fun d => .nx ((g.set i (.ow (ds.eraseIdx t))).set j (.va d))
  | _ => none
/-- xs.pop(k) -/
def sPopX (i : Nat) (a : Gm → Option R) : Gm → Option Out := fun g => match g[i]? with
  | some (.ow ds) => (a g).bind fun r => (ixD ds r).bind fun t => ds[t]?.map fun _ => .nx (g.set i (.ow (ds.eraseIdx t)))
  | _ => none
def sRev (i : Nat) : Gm → Option Out := fun g => match g[i]? with
  | some (.ow ds) => some (.nx (g.set i (.ow ds.reverse)))
  | _ => none
def sClr (i : Nat) : Gm → Option Out := fun g => match g[i]? with
  | some (.ow _) => some (.nx (g.set i (.ow [])))
  | _ => none
/-- xs[k] = v -/
def sSt (i : Nat) (a v : Gm → Option R) : Gm → Option Out := fun g => match g[i]? with
  | some (.ow ds) => (v g).bind fun r => if r.isBw = true then none else (a g).bind fun q => match q with
    | .va (.int k) => (ixN ds.length k).map fun t => .nx (g.set i (.ow (ds.set t r.d)))
    | _ => none
  | _ => none
section
variable {X : Cx} {ca : Nat → Addr} {e : Expr} {m : Gm → Option R} {pos pos' p1 p2 p3 : Pos} {i j : Nat} {x y : Str}
theorem kpg_set2 {g : Gm} {s t : Slot} : KpG [i, j] g (.nx ((g.set i s).set j t)) := fun k hk => by
  have h1 : j ≠ k := fun e => hk (by rw [e]; simp)
  have h2 : i ≠ k := fun e => hk (by rw [e]; simp)
  rw [List.getElem?_set_ne h1, List.getElem?_set_ne h2]
theorem kp_set' {σ : L2.St} {v : Option V} : Kp [i, j] σ (σ.set j v) := fun k hk => by
  have h1 : j ≠ k := fun e => hk (by rw [e]; simp)
  rw [List.getElem?_set_ne h1]
theorem sv_popS (hN : X.N.Nodup) (hi : X.N[j]? = some y) (hy : Loc X.env.scope y) (hx : PE X (.Name x p1) (tVar i)) (he : EV X ca e m) (hs1 : starEach [e] X.env = (false, eval e X.env) :: starEach [] X.env := by rfl)
    (h : PE X (.Call (.Attribute (.Name x p1) "pop" p2) [e] [] p3) (tBM X.K "list" rPopAt (tVar i) (tCons (tEV X.K ca m) tNil)))
    (hs : swapsWith (.Call (.Attribute (.Name x p1) "pop" p2) [e] [] p3) (some (.Name y pos')) pos.line X.env = pure false := by rfl)
    (hf : X.fn y = true ∨ X.env.scope.names.lookup y = some .local := by first | exact .inl rfl | exact .inr rfl | assumption) : SV X ca (.Assign [.Name y pos'] (.Call (.Attribute (.Name x p1) "pop" p2) [e] [] p3) pos) (sPopS j i m) [i, j] := by
  refine ⟨ps_imp (ps_set hN hi hy h hs hf) ?_, fun g o e => ?_⟩
  · rintro D σ H ⟨H0, F0, F, Γ, o, S, e, p⟩
    unfold sPopS at e
    split at e
    · rename_i ds hg
      obtain ⟨r, er, e⟩ := Option.bind_eq_some_iff.mp e
      obtain ⟨t, et, e⟩ := Option.bind_eq_some_iff.mp e
      obtain ⟨d, ed, rfl⟩ := Option.map_eq_some_iff.mp e
      obtain ⟨k, rfl, k1, k2, k3⟩ := ixD_some et
      obtain ⟨a, vs, s, h1, h2, h3, h4⟩ := S.ow i ds hg
      refine ⟨_, s, .inl ⟨rfl, vs, SqL.of h3⟩, H0, F0, F, Γ, _, S, er, fun v H1 F1 x1 r1 => ?_⟩
      cases r1
      have h4' := h4.mono x1.ff
      obtain ⟨w, hw, hd⟩ := h4'.getV ed
      refine ⟨a, vs, k, t, w, rfl, rfl, x1.hh.l h3, k1, k2, by rw [h4.length]; exact k3, hw, ?_⟩
      have S2 := S.mono x1
      have S3 := S2.upd hg s (h4'.eraseIdx t)
      exact p _ _ F1 (S3.setVa hd) x1.ff kp_set'
    · cases e
  · unfold sPopS at e
    split at e
    · obtain ⟨r, er, e⟩ := Option.bind_eq_some_iff.mp e
      obtain ⟨t, et, e⟩ := Option.bind_eq_some_iff.mp e
      obtain ⟨d, ed, rfl⟩ := Option.map_eq_some_iff.mp e
      exact kpg_set2
    · cases e
theorem sv_popX (hx : PE X (.Name x p1) (tVar i)) (he : EV X ca e m) (hs1 : starEach [e] X.env = (false, eval e X.env) :: starEach [] X.env := by rfl)
    (h : PE X (.Call (.Attribute (.Name x p1) "pop" p2) [e] [] p3) (tBM X.K "list" rPopAt (tVar i) (tCons (tEV X.K ca m) tNil)))
    (hs : swapsWith (.Call (.Attribute (.Name x p1) "pop" p2) [e] [] p3) none pos.line X.env = pure false := by rfl) : SV X ca (.Expr (.Call (.Attribute (.Name x p1) "pop" p2) [e] [] p3) pos) (sPopX i m) [i] := by
  refine ⟨ps_imp (ps_expr h hs) ?_, fun g o e => ?_⟩
  · rintro D σ H ⟨H0, F0, F, Γ, o, S, e, p⟩
    unfold sPopX at e
    split at e
    · rename_i ds hg
      obtain ⟨r, er, e⟩ := Option.bind_eq_some_iff.mp e
      obtain ⟨t, et, e⟩ := Option.bind_eq_some_iff.mp e
      obtain ⟨d, ed, rfl⟩ := Option.map_eq_some_iff.mp e
      obtain ⟨k, rfl, k1, k2, k3⟩ := ixD_some et
      obtain ⟨a, vs, s, h1, h2, h3, h4⟩ := S.ow i ds hg
      refine ⟨_, s, .inl ⟨rfl, vs, SqL.of h3⟩, H0, F0, F, Γ, _, S, er, fun v H1 F1 x1 r1 => ?_⟩
      cases r1
      have h4' := h4.mono x1.ff
      obtain ⟨w, hw, hd⟩ := h4'.getV ed
      refine ⟨a, vs, k, t, w, rfl, rfl, x1.hh.l h3, k1, k2, by rw [h4.length]; exact k3, hw, ?_⟩
      exact p σ _ F1 ((S.mono x1).upd hg s (h4'.eraseIdx t)) x1.ff .refl
    · cases e
  · unfold sPopX at e
    split at e
    · obtain ⟨r, er, e⟩ := Option.bind_eq_some_iff.mp e
      obtain ⟨t, et, e⟩ := Option.bind_eq_some_iff.mp e
      obtain ⟨d, ed, rfl⟩ := Option.map_eq_some_iff.mp e
      exact kpg_set
    · cases e
theorem sv_rev (hx : PE X (.Name x p1) (tVar i)) (h : PE X (.Call (.Attribute (.Name x p1) "reverse" p2) [] [] p3) (tBM0 X.K "list" rReverse (tVar i)))
    (hs : swapsWith (.Call (.Attribute (.Name x p1) "reverse" p2) [] [] p3) none pos.line X.env = pure false := by rfl) : SV X ca (.Expr (.Call (.Attribute (.Name x p1) "reverse" p2) [] [] p3) pos) (sRev i) [i] := by
  refine ⟨ps_imp (ps_expr h hs) ?_, fun g o e => ?_⟩
  · rintro D σ H ⟨H0, F0, F, Γ, o, S, e, p⟩
    unfold sRev at e
    split at e
    · rename_i ds hg
      cases e
      obtain ⟨a, vs, s, h1, h2, h3, h4⟩ := S.ow i ds hg
      exact ⟨_, s, .inl ⟨rfl, vs, SqL.of h3⟩, a, vs, rfl, rfl, h3, p σ _ F (S.upd hg s h4.reverse) (Same.refl _) .refl⟩
    · cases e
  · unfold sRev at e
    split at e
    · cases e; exact kpg_set
    · cases e
theorem sv_clr (hx : PE X (.Name x p1) (tVar i)) (h : PE X (.Call (.Attribute (.Name x p1) "clear" p2) [] [] p3) (tBM0 X.K "list" rClear (tVar i)))
    (hs : swapsWith (.Call (.Attribute (.Name x p1) "clear" p2) [] [] p3) none pos.line X.env = pure false := by rfl) : SV X ca (.Expr (.Call (.Attribute (.Name x p1) "clear" p2) [] [] p3) pos) (sClr i) [i] := by
  refine ⟨ps_imp (ps_expr h hs) ?_, fun g o e => ?_⟩
  · rintro D σ H ⟨H0, F0, F, Γ, o, S, e, p⟩
    unfold sClr at e
    split at e
    · rename_i ds hg
      cases e
      obtain ⟨a, vs, s, h1, h2, h3, h4⟩ := S.ow i ds hg
      exact ⟨_, s, .inl ⟨rfl, vs, SqL.of h3⟩, a, vs, rfl, rfl, h3, p σ _ F (S.upd hg s .nil) (Same.refl _) .refl⟩
    · cases e
  · unfold sClr at e
    split at e
    · cases e; exact kpg_set
    · cases e
theorem sv_store {v : Expr} {mv : Gm → Option R} (hv : EV X ca v mv) (hx : PE X (.Name x p1) (tVar i)) (he : EV X ca e m) (hp : PG X (.Subscript (.Name x p1) e pos') (gSub (tVar i) (tEV X.K ca m) rSetL)) (h1 : swapsWithSole [.Subscript (.Name x p1) e pos'] v pos.line X.env = pure false := by rfl) (h2 : swappedStores [.Subscript (.Name x p1) e pos'] v X.env = pure none := by rfl)
    (h3 : (assignEach [.Subscript (.Name x p1) e pos'] X.env).map (·.2) = [assign (.Subscript (.Name x p1) e pos') X.env] := by rfl) : SV X ca (.Assign [.Subscript (.Name x p1) e pos'] v pos) (sSt i m mv) [i] := by
  refine ⟨ps_imp (ps_asg hv hp h1 h2 h3) ?_, fun g o e => ?_⟩
  · rintro D σ H ⟨H0, F0, F, Γ, o, S, e, p⟩
    unfold sSt at e
    split at e
    · rename_i ds hg
      obtain ⟨r, er, e⟩ := Option.bind_eq_some_iff.mp e
      split at e
      · cases e
      rename_i hb
      obtain ⟨q, eq', e⟩ := Option.bind_eq_some_iff.mp e
      split at e
      · rename_i k
        obtain ⟨t, et, rfl⟩ := Option.map_eq_some_iff.mp e
        refine ⟨H0, F0, F, Γ, r, S, er, fun w H1 F1 x1 r1 => ?_⟩
        obtain ⟨F2, x2, s2, d2⟩ := RV.froze x1 r1 (by simpa using hb)
        have S2 := S.mono x2
        obtain ⟨a, vs, s, h1, h2, h3, h4⟩ := S2.ow i ds hg
        refine ⟨_, s, H0, F0, F2, Γ, _, S2, eq', fun u H3 F3 x3 r3 => ?_⟩
        cases r3
        have S3 := S2.mono x3
        refine ⟨a, vs, k, t, rfl, rfl, x3.hh.l h3, by rw [h4.length]; exact et, ?_⟩
        exact p σ _ F3 (S3.upd hg s ((h4.mono x3.ff).set t (d2.mono x3.ff))) (x2.trans x3).ff .refl
      · cases e
    · cases e
  · unfold sSt at e
    split at e
    · obtain ⟨r, er, e⟩ := Option.bind_eq_some_iff.mp e
      split at e
      · cases e
      obtain ⟨q, eq', e⟩ := Option.bind_eq_some_iff.mp e
      split at e
      · obtain ⟨t, et, rfl⟩ := Option.map_eq_some_iff.mp e
        exact kpg_set
      · cases e
    · cases e
end
end BK
namespace BK
open PySem PySem.Spec L2
set_option autoImplicit false
/-- xs += ys -/
def sExt (i : Nat) (m : Gm → Option R) : Gm → Option Out := fun g => match g[i]? with
  | some (.ow ds) => (m g).bind fun r => match r.d with
    | .lst es => if ds.length + es.length ≤ LIM then some (.nx (g.set i (.ow (ds ++ es)))) else none
    | _ => none
  | _ => none
section
variable {X : Cx} {ca : Nat → Addr} {e : Expr} {m : Gm → Option R} {pos pos' : Pos} {i : Nat} {x : Str}
theorem set_same {α : Type} {l : List α} {i : Nat} {v : α} (h : l[i]? = some v) : l.set i v = l := by
  apply List.ext_getElem?
  intro j
  by_cases e : i = j
  · subst e
    rw [List.getElem?_set_self (List.getElem?_eq_some_iff.mp h).1, h]
  · rw [List.getElem?_set_ne e]
theorem sv_ext (hN : X.N.Nodup) (hi : X.N[i]? = some x) (hx : Loc X.env.scope x) (he : EV X ca e m)
    (hf : X.fn x = true ∨ X.env.scope.names.lookup x = some .local := by first | exact .inl rfl | exact .inr rfl | assumption) : SV X ca (.AugAssign (.Name x pos') .Add e pos) (sExt i m) [i] := by
  refine ⟨ps_imp (ps_aug hN hi hx he (op := .Add) iop_ext hf) ?_, fun g o e => ?_⟩
  · rintro D σ H ⟨H0, F0, F, Γ, o, S, e, p⟩
    unfold sExt at e
    split at e
    · rename_i ds hg
      obtain ⟨r, er, e⟩ := Option.bind_eq_some_iff.mp e
      split at e
      · rename_i es hd
        split at e
        · rename_i hl
          cases e
          obtain ⟨a, vs, s, h1, h2, h3, h4⟩ := S.ow i ds hg
          refine ⟨_, s, H0, F0, F, Γ, r, S, er, fun v H1 F1 x1 r1 => ?_⟩
          obtain ⟨b, ws, rfl, w1, w2⟩ := RV.lstH x1.fh r1 hd
          refine ⟨a, b, vs, ws, rfl, rfl, x1.hh.l h3, w1, by rw [lim_eq, h4.length, w2.length]; exact hl, ?_⟩
          have S2 := (S.mono x1).upd hg s ((h4.mono x1.ff).append w2)
          show D.nx (σ.set i (some (.ref a))) _
          rw [set_same s]
          exact p σ _ F1 S2 x1.ff .refl
        · cases e
      · cases e
    · cases e
  · unfold sExt at e
    split at e
    · obtain ⟨r, er, e⟩ := Option.bind_eq_some_iff.mp e
      split at e
      · split at e
        · cases e; exact kpg_set
        · cases e
      · cases e
    · cases e
end
end BK
namespace BK
open PySem PySem.Spec L2
set_option autoImplicit false
/-! isinstance of an own class -/
structure IsC (K : PySem.W.Frag) (C : Addr) : Prop where
  cc : PySem.W.findIn K (.ref C) "__class__" = some (some (.builtin "object.__class__"))
  cg : PySem.W.specialIn K (.builtin "object.__class__") "__get__" = some (some (.builtin "getset_descriptor.__get__"))
  ct : PySem.W.takesIn K (.builtin "object.__class__") = some true
  cm : PySem.W.mroIn K C (.type "object") = some true
def IsiK (K : PySem.W.Frag) (ca : Nat → Addr) (cs : List Nat) (c : Nat) : Prop := ∀ c2 ∈ cs, IsC K (ca c2) ∧ PySem.W.kitOne K (.ref (ca c2)) (.ref (ca c)) = some (c2 == c)
def cIsC (cs : List Nat) (c : Nat) (r : R) : Option R := match r with
  | .va (.ins c2 _) => if cs.contains c2 = true then some (.va (.bl (c2 == c))) else none
  | _ => none
section
variable {X : Cx} {ca : Nat → Addr} {e : Expr} {m : Gm → Option R} {pos p p1 : Pos}
theorem ev_isc {cs : List Nat} {c : Nat} {x : Str} (hg : Gl X "isinstance") (hm : X.mg "isinstance" = none) (hv : bootBuiltins "isinstance" = some (.builtin "isinstance")) (he : EV X ca e m) (hgc : Gl X x) (hmc : X.mg x = some (.ref (ca c))) (I : IsiK X.K ca cs c) (hdb : (x == ("__debug__" : Str)) = false := by decide)
    (hs1 : starEach [e, .Name x p1] X.env = (false, eval e X.env) :: starEach [.Name x p1] X.env := by rfl) (hs2 : starEach [.Name x p1] X.env = (false, eval (.Name x p1) X.env) :: starEach [] X.env := by rfl)
    (hpl : (backTo pos (starEach [.Name x p1] X.env)).any (·.1) = false := by rfl) : EV X ca (.Call (.Name "isinstance" p) [e, .Name x p1] [] pos) (e1 (cIsC cs c) m) := by
  refine pe_imp (pe_callB call_isi hg hm hv (pa_cons he (pa_cons (pe_glob (v := .ref (ca c)) hgc hmc rfl hdb) pa_nil hs2) hs1) (by decide) (by decide) hs1 hpl) ?_
  rintro σ H Q ⟨H0, F0, F, Γ, z, S, e, q⟩
  unfold e1 at e
  obtain ⟨r, er, e⟩ := Option.bind_eq_some_iff.mp e
  refine ⟨H0, F0, F, Γ, r, S, er, fun v H1 F1 x1 r1 => ?_⟩
  unfold cIsC at e
  split at e
  · rename_i c2 ds
    split at e
    · rename_i hc
      cases e
      obtain ⟨ic, hk⟩ := I c2 (by simpa using hc)
      have r2 := r1
      cases r1 with
      | ins k h n hs =>
        exact ⟨_, _, _, _, _, rfl, .own _, .base (.ins (x1.fh _ _ h) k.cl ic.cc ic.cg ic.ct ic.cm), hk, q _ H1 F1 x1 (.bl _)⟩
    · cases e
  · cases e
end
end BK
namespace BK
open PySem PySem.Spec L2
set_option autoImplicit false
theorem kit_own {K : PySem.W.Frag} {C2 C : Addr} {b : Bool} (h1 : PySem.W.isClsIn K C = true) (h2 : PySem.W.typeIn K (.ref C) = some (.type "type")) (h3 : PySem.W.subIn K (.ref C2) (.ref C) = some b) (h4 : PySem.W.subIn K (.ref C) (.ref C) = some true) : PySem.W.kitOne K (.ref C2) (.ref C) = some b := by
  unfold PySem.W.kitOne
  by_cases e : C2 = C
  · subst e
    rw [h3] at h4
    rw [if_pos (by simp), h4]
  · rw [if_neg (by simpa using e)]
    show (if ((PySem.W.clsIn K C).isSome && PySem.W.typeIn K (.ref C) == some (.type "type")) = true then PySem.W.subIn K (.ref C2) (.ref C) else none) = _
    have e1 : (PySem.W.clsIn K C).isSome = true := h1
    rw [e1, h2, if_pos (by simp), h3]
end BK
namespace BK
open PySem PySem.Spec L2
set_option autoImplicit false
/-- ys = xs, xs no more used -/
def sMv (i j : Nat) : Gm → Option Out := fun g => match g[j]? with
  | some (.ow ds) => if i = j then none else some (.nx ((g.set j .un).set i (.ow ds)))
  | some (.va d) => some (.nx (g.set i (.va d)))
  | _ => none
theorem SR.forget {K : PySem.W.Frag} {ca : Nat → Addr} {H0 F0 H F : Hp} {σ : L2.St} {Γ : Gm} (S : SR K ca H0 F0 σ H F Γ) (j : Nat) : SR K ca H0 F0 σ H F (Γ.set j .un) := by
  refine ⟨S.ext, S.nt0, S.tc0, by rw [List.length_set]; exact S.len, fun k e hk => ?_, fun k ds hk => ?_, fun k l ds es a n hk hl sk sl => ?_, S.own.keep (fun k t e => by
    rcases get_set e with ⟨_, e1, _⟩ | ⟨n, e⟩
    · cases e1
    · exact ⟨e, rfl⟩) (fun k ds a g s' => by
    rcases get_set g with ⟨_, e1, _⟩ | ⟨n, g⟩
    · cases e1
    · exact .inl ⟨k, ds, g, s'⟩) (Same.refl _) fun b u e n f _ => ⟨e, f⟩⟩
  · rcases get_set hk with ⟨_, e1, _⟩ | ⟨_, hk⟩
    · cases e1
    · exact S.va k e hk
  · rcases get_set hk with ⟨_, e1, _⟩ | ⟨_, hk⟩
    · cases e1
    · exact S.ow k ds hk
  · rcases get_set hk with ⟨_, e1, _⟩ | ⟨_, hk⟩
    · cases e1
    · rcases get_set hl with ⟨_, e1, _⟩ | ⟨_, hl⟩
      · cases e1
      · exact S.ap k l ds es a n hk hl sk sl
section
variable {X : Cx} {ca : Nat → Addr} {pos pos' p1 : Pos} {i j : Nat} {x y : Str}
theorem sv_mv (hN : X.N.Nodup) (hi : X.N[i]? = some y) (hy : Loc X.env.scope y) (hx : PE X (.Name x p1) (tVar j)) (hs : swapsWith (.Name x p1) (some (.Name y pos')) pos.line X.env = pure false := by rfl)
    (hf : X.fn y = true ∨ X.env.scope.names.lookup y = some .local := by first | exact .inl rfl | exact .inr rfl | assumption) : SV X ca (.Assign [.Name y pos'] (.Name x p1) pos) (sMv i j) [j, i] := by
  refine ⟨ps_imp (ps_set hN hi hy hx hs hf) ?_, fun g o e => ?_⟩
  · rintro D σ H ⟨H0, F0, F, Γ, o, S, e, p⟩
    unfold sMv at e
    split at e
    · rename_i ds hg
      split at e
      · cases e
      rename_i hij
      cases e
      obtain ⟨a, vs, s, h1, h2, h3, h4⟩ := S.ow j ds hg
      refine ⟨_, s, p _ _ F ?_ (Same.refl _) kp_set'⟩
      have S1 := S.forget j
      refine ⟨S1.ext, S1.nt0, S1.tc0, by rw [List.length_set, List.length_set]; exact S1.len, fun k e hk => ?_, fun k es hk => ?_, fun k l es fs b n hk hl sk sl => ?_, S.own.keep (fun k t e => by
        rcases get_set e with ⟨_, e1, _⟩ | ⟨n, e⟩
        · cases e1
        rcases get_set e with ⟨_, e1, _⟩ | ⟨_, e⟩
        · cases e1
        · exact ⟨e, List.getElem?_set_ne n⟩) (fun k es b g s' => by
        rcases get_set g with ⟨e0, e1, hl⟩ | ⟨n, g⟩
        · subst e0
          rw [List.getElem?_set_self (S1.lt hl)] at s'
          cases s'
          exact .inl ⟨j, ds, hg, s⟩
        · rw [List.getElem?_set_ne n] at s'
          rcases get_set g with ⟨_, e1, _⟩ | ⟨_, g⟩
          · cases e1
          · exact .inl ⟨k, es, g, s'⟩) (Same.refl _) fun b u e n f _ => ⟨e, f⟩⟩
      · rcases get_set hk with ⟨rfl, e1, hl⟩ | ⟨n, hk⟩
        · cases e1
        · rw [List.getElem?_set_ne n]; exact S1.va k e hk
      · rcases get_set hk with ⟨rfl, e1, hl⟩ | ⟨n, hk⟩
        · cases e1
          exact ⟨a, vs, List.getElem?_set_self (S1.lt hl), h1, h2, h3, h4⟩
        · rw [List.getElem?_set_ne n]; exact S1.ow k es hk
      · have key : ∀ {k : Nat} {es : List BK.D}, (Γ.set j .un)[k]? = some (.ow es) → σ[k]? = some (some (.ref a)) → False := fun {k es} hk sk => by
          rcases get_set hk with ⟨_, e1, _⟩ | ⟨n, hk⟩
          · cases e1
          · exact S.ap j k ds es a n hg hk s sk
        rcases get_set hk with ⟨rfl, e1, hl1⟩ | ⟨n1, hk⟩
        · rw [List.getElem?_set_self (S1.lt hl1)] at sk
          cases sk
          rcases get_set hl with ⟨rfl, e2, hl2⟩ | ⟨n2, hl⟩
          · exact n rfl
          · rw [List.getElem?_set_ne n2] at sl
            exact key hl sl
        · rcases get_set hl with ⟨rfl, e2, hl2⟩ | ⟨n2, hl⟩
          · rw [List.getElem?_set_self (S1.lt hl2)] at sl
            cases sl
            rw [List.getElem?_set_ne n1] at sk
            exact key hk sk
          · rw [List.getElem?_set_ne n1] at sk
            rw [List.getElem?_set_ne n2] at sl
            exact S1.ap k l es fs b n hk hl sk sl
    · rename_i d hg
      cases e
      obtain ⟨v, s, h⟩ := S.va j d hg
      exact ⟨v, s, p _ _ F (S.setVa h) (Same.refl _) kp_set'⟩
    · cases e
  · unfold sMv at e
    split at e
    · split at e
      · cases e
      cases e
      exact kpg_set2
    · cases e
      intro k hk
      have h1 : i ≠ k := fun e => hk (by rw [e]; simp)
      rw [List.getElem?_set_ne h1]
    · cases e
end
end BK
namespace BK
open PySem PySem.Spec L2
set_option autoImplicit false
/-! ### evaluation of the later combinators -/
/-- fields -/
@[simp] theorem oFld_ins (f : Str) (c : Nat) (ds : List D) : oFld f (.va (.ins c ds)) = (fldD c ds f).map .va := rfl
@[simp] theorem fld_0 (a : D) : fldD 0 [a] "length" = some a := rfl
@[simp] theorem fld_1a (a b c d e : D) : fldD 1 [a, b, c, d, e] "length" = some a := rfl
@[simp] theorem fld_1b (a b c d e : D) : fldD 1 [a, b, c, d, e] "name" = some b := rfl
@[simp] theorem fld_1c (a b c d e : D) : fldD 1 [a, b, c, d, e] "bears" = some c := rfl
@[simp] theorem fld_1d (a b c d e : D) : fldD 1 [a, b, c, d, e] "wide" = some d := rfl
@[simp] theorem fld_1e (a b c d e : D) : fldD 1 [a, b, c, d, e] "most" = some e := rfl
@[simp] theorem fld_2a (a b c : D) : fldD 2 [a, b, c] "pieces" = some a := rfl
@[simp] theorem fld_2b (a b c : D) : fldD 2 [a, b, c] "rounds" = some b := rfl
@[simp] theorem fld_2c (a b c : D) : fldD 2 [a, b, c] "shuts" = some c := rfl
@[simp] theorem fld_3a (a b c : D) : fldD 3 [a, b, c] "name" = some a := rfl
@[simp] theorem fld_3b (a b c : D) : fldD 3 [a, b, c] "speed" = some b := rfl
@[simp] theorem fld_3c (a b c : D) : fldD 3 [a, b, c] "wheels" = some c := rfl
@[simp] theorem fld_4a (a b c d e : D) : fldD 4 [a, b, c, d, e] "cart" = some a := rfl
@[simp] theorem fld_4b (a b c d e : D) : fldD 4 [a, b, c, d, e] "way" = some b := rfl
@[simp] theorem fld_4c (a b c d e : D) : fldD 4 [a, b, c, d, e] "start" = some c := rfl
@[simp] theorem fld_4d (a b c d e : D) : fldD 4 [a, b, c, d, e] "crossings" = some d := rfl
@[simp] theorem fld_4e (a b c d e : D) : fldD 4 [a, b, c, d, e] "ended" = some e := rfl
@[simp] theorem fld_5a (a b c : D) : fldD 5 [a, b, c] "road" = some a := rfl
@[simp] theorem fld_5b (a b c : D) : fldD 5 [a, b, c] "loads" = some b := rfl
@[simp] theorem fld_5c (a b c : D) : fldD 5 [a, b, c] "sends" = some c := rfl
@[simp] theorem cIsB_0 (ds : List D) : cIsB (.va (.ins 0 ds)) = some (.va (.bl false)) := rfl
@[simp] theorem cIsB_1 (ds : List D) : cIsB (.va (.ins 1 ds)) = some (.va (.bl true)) := rfl
@[simp] theorem allVa_nil : allVa [] = some [] := rfl
@[simp] theorem allVa_cons (d : D) (rs : List R) : allVa (.va d :: rs) = (allVa rs).map (d :: ·) := rfl
def iniK (o : Option (List D)) (r : R) : Option (List D) := if r.isBw = true then none else o.map (r.d :: ·)
@[simp] theorem iniK_va (d : D) (o : Option (List D)) : iniK o (.va d) = o.map (d :: ·) := rfl
@[simp] theorem iniK_tm (ds : List D) (o : Option (List D)) : iniK o (.tm ds) = o.map (D.lst ds :: ·) := rfl
@[simp] theorem inis_nil (g : Gm) : inis [] g = some [] := rfl
@[simp] theorem inis_cns (m : Gm → Option R) (ms : List (Gm → Option R)) (g : Gm) : inis (m :: ms) g = b1 (m g) (iniK (inis ms g)) := rfl
@[simp] theorem cMk_def (c : Nat) (ms : List (Gm → Option R)) (rs : List R) : cMk c ms rs = b1 (allVa rs) fun ds => (inis ms (.un :: ds.map .va)).map fun es => .va (.ins c es) := rfl
@[simp] theorem cMkN_def (c n : Nat) (ms : List (Gm → Option R)) (rs : List R) : cMkN c n ms rs = if rs.length = n then cMk c ms rs else none := rfl
/-- chains -/
def chK (f : R → R → Option R) (y : R) (w : Option R) : R → Option R
  | .va (.bl k) => if k = true then b1 w (f y) else some (.va (.bl false))
  | _ => none
@[simp] theorem chK_bl (f : R → R → Option R) (y : R) (w : Option R) (k : Bool) : chK f y w (.va (.bl k)) = if k = true then b1 w (f y) else some (.va (.bl false)) := rfl
@[simp] theorem eCh_def (f f' : R → R → Option R) (a b c : Gm → Option R) (g : Gm) : eCh f f' a b c g = b2 (a g) (b g) fun x y => b1 (f x y) (chK f' y.fz (c g)) := by
  unfold eCh b2
  cases a g with
  | none => rfl
  | some x =>
    cases b g with
    | none => rfl
    | some y =>
      show (f x y).bind _ = b1 (f x y) _
      cases f x y with
      | none => rfl
      | some z =>
        cases z with
        | va d =>
          cases d with
          | bl k => cases k <;> rfl
          | _ => rfl
        | _ => rfl
/-- texts -/
@[simp] theorem f2s_str (g : Str → Str → Option R) (a b : Str) : f2s g (.va (.str a)) (.va (.str b)) = g a b := rfl
@[simp] theorem gSw_def (a b : Str) : gSw a b = some (.va (.bl (Txt.startswith a b))) := rfl
@[simp] theorem gFind_def (a b : Str) : gFind a b = some (.va (.int (Txt.find a b))) := rfl
@[simp] theorem gPart_def (a b : Str) : gPart a b = if (b.length == 0) = false ∧ a.length ≤ LIM then some (.va (.tup [.str (Txt.partition a b).1, .str (Txt.partition a b).2.1, .str (Txt.partition a b).2.2])) else none := rfl
@[simp] theorem gSplit_def (a b : Str) : gSplit a b = if (b.length == 0) = false ∧ a.length + 2 ≤ LIM then some (.tm ((Txt.split a b).map .str)) else none := rfl
@[simp] theorem strsD_nil : strsD [] = some [] := rfl
@[simp] theorem strsD_cons (z : Str) (ds : List D) : strsD (.str z :: ds) = (strsD ds).map (z :: ·) := rfl
@[simp] theorem strsD_map (zs : List Str) : strsD (zs.map .str) = some zs := by
  induction zs with
  | nil => rfl
  | cons z zs ih => rw [List.map_cons, strsD_cons, ih]; rfl
@[simp] theorem seq_lst (ds : List D) : (R.va (.lst ds)).seq = some ds := rfl
@[simp] theorem seq_tup (ds : List D) : (R.va (.tup ds)).seq = some ds := rfl
@[simp] theorem seq_rol (ds : List D) : (R.va (.rol ds)).seq = some ds := rfl
@[simp] theorem seq_tm (ds : List D) : (R.tm ds).seq = some ds := rfl
@[simp] theorem seq_bw (j : Nat) (ds : List D) : (R.bw j ds).seq = some ds := rfl
@[simp] theorem fJoin_str (a : Str) (y : R) : fJoin (.va (.str a)) y = b1 y.seq fun ds => b1 (strsD ds) fun zs => if (zs.map (·.length)).sum + zs.length * a.length ≤ 16777216 then some (.va (.str (Txt.join a zs))) else none := rfl
/-- own lists -/
def pop1 (ds : List D) (k : Int) : Option Nat := if -(2 ^ 63) ≤ k ∧ k < 2 ^ 63 then seqIndex? k ds.length else none
@[simp] theorem ixD_int (ds : List D) (k : Int) : ixD ds (.va (.int k)) = pop1 ds k := rfl
def popK (j i : Nat) (g : Gm) (ds : List D) (t : Nat) : Option Out := ds[t]?.map fun d => .nx ((g.set i (.ow (ds.eraseIdx t))).set j (.va d))
def popS (j i : Nat) (g : Gm) (r : Option R) : Option Slot → Option Out
  | some (.ow ds) => b1 r fun r => b1 (ixD ds r) (popK j i g ds)
  | _ => none
@[simp] theorem popS_ow (j i : Nat) (g : Gm) (r : Option R) (ds : List D) : popS j i g r (some (.ow ds)) = b1 r fun r => b1 (ixD ds r) (popK j i g ds) := rfl
@[simp] theorem sPopS_def (j i : Nat) (a : Gm → Option R) (g : Gm) : sPopS j i a g = popS j i g (a g) (g[i]?) := by
  unfold sPopS
  cases h : g[i]? with
  | none => rfl
  | some s => cases s <;> rfl
@[simp] theorem pop1_zero (d : D) (ds : List D) : pop1 (d :: ds) 0 = some 0 := by
  unfold pop1 seqIndex?
  rw [if_pos ⟨by decide, by decide⟩]
  simp
theorem pop1_nat {ds : List D} {k : Int} {n : Nat} (e : k = n) (h : n < ds.length) (hl : ds.length < 1000000) : pop1 ds k = some n := by
  subst e
  unfold pop1 seqIndex?
  rw [if_pos ⟨by omega, by omega⟩]
  have h1 : ¬ ((n : Int) < 0) := by omega
  simp only [h1, if_false]
  rw [if_pos (by simp; omega)]
  simp
@[simp] theorem popK_zero (j i : Nat) (g : Gm) (d : D) (ds : List D) : popK j i g (d :: ds) 0 = some (.nx ((g.set i (.ow ds)).set j (.va d))) := rfl
def popXK (i : Nat) (g : Gm) (ds : List D) (t : Nat) : Option Out := ds[t]?.map fun _ => .nx (g.set i (.ow (ds.eraseIdx t)))
def popX (i : Nat) (g : Gm) (r : Option R) : Option Slot → Option Out
  | some (.ow ds) => b1 r fun r => b1 (ixD ds r) (popXK i g ds)
  | _ => none
@[simp] theorem popX_ow (i : Nat) (g : Gm) (r : Option R) (ds : List D) : popX i g r (some (.ow ds)) = b1 r fun r => b1 (ixD ds r) (popXK i g ds) := rfl
@[simp] theorem sPopX_def (i : Nat) (a : Gm → Option R) (g : Gm) : sPopX i a g = popX i g (a g) (g[i]?) := by
  unfold sPopX
  cases h : g[i]? with
  | none => rfl
  | some s => cases s <;> rfl
def revS (i : Nat) (g : Gm) : Option Slot → Option Out
  | some (.ow ds) => some (.nx (g.set i (.ow ds.reverse)))
  | _ => none
@[simp] theorem revS_ow (i : Nat) (g : Gm) (ds : List D) : revS i g (some (.ow ds)) = some (.nx (g.set i (.ow ds.reverse))) := rfl
@[simp] theorem sRev_def (i : Nat) (g : Gm) : sRev i g = revS i g (g[i]?) := by
  unfold sRev
  cases h : g[i]? with
  | none => rfl
  | some s => cases s <;> rfl
def clrS (i : Nat) (g : Gm) : Option Slot → Option Out
  | some (.ow _) => some (.nx (g.set i (.ow [])))
  | _ => none
@[simp] theorem clrS_ow (i : Nat) (g : Gm) (ds : List D) : clrS i g (some (.ow ds)) = some (.nx (g.set i (.ow []))) := rfl
@[simp] theorem sClr_def (i : Nat) (g : Gm) : sClr i g = clrS i g (g[i]?) := by
  unfold sClr
  cases h : g[i]? with
  | none => rfl
  | some s => cases s <;> rfl
def stK (i : Nat) (g : Gm) (ds : List D) (r q : R) : Option Out := if r.isBw = true then none else match q with
  | .va (.int k) => (ixN ds.length k).map fun t => .nx (g.set i (.ow (ds.set t r.d)))
  | _ => none
@[simp] theorem stK_va (i : Nat) (g : Gm) (ds : List D) (d : D) (k : Int) : stK i g ds (.va d) (.va (.int k)) = (ixN ds.length k).map fun t => .nx (g.set i (.ow (ds.set t d))) := rfl
@[simp] theorem stK_tm (i : Nat) (g : Gm) (ds es : List D) (k : Int) : stK i g ds (.tm es) (.va (.int k)) = (ixN ds.length k).map fun t => .nx (g.set i (.ow (ds.set t (.lst es)))) := rfl
def stS (i : Nat) (g : Gm) (v a : Option R) : Option Slot → Option Out
  | some (.ow ds) => b2 v a (stK i g ds)
  | _ => none
@[simp] theorem stS_ow (i : Nat) (g : Gm) (v a : Option R) (ds : List D) : stS i g v a (some (.ow ds)) = b2 v a (stK i g ds) := rfl
@[simp] theorem sSt_def (i : Nat) (a v : Gm → Option R) (g : Gm) : sSt i a v g = stS i g (v g) (a g) (g[i]?) := by
  unfold sSt
  cases h : g[i]? with
  | none => rfl
  | some s =>
    cases s with
    | ow ds =>
      show (v g).bind _ = b2 (v g) (a g) _
      unfold b2
      cases v g with
      | none => rfl
      | some r =>
        show (if r.isBw = true then none else _) = _
        cases hb : r.isBw with
        | true =>
          cases a g with
          | none => simp
          | some q =>
            show _ = stK i g ds r q
            unfold stK
            rw [hb]
            rfl
        | false =>
          rw [if_neg (by decide)]
          cases a g with
          | none => rfl
          | some q =>
            show _ = stK i g ds r q
            unfold stK
            rw [hb, if_neg (by decide)]
            rfl
    | _ => rfl
@[simp] theorem atI_end {α : Type} (xs : List α) (x : α) : atI (xs ++ [x]) (-1) = some x := by
  unfold atI ixN
  rw [if_neg (by omega), if_pos (by simp; omega)]
  show (xs ++ [x])[(-1 + ((xs ++ [x]).length : Int)).toNat]? = some x
  have e : (-1 + ((xs ++ [x]).length : Int)).toNat = xs.length := by
    rw [List.length_append, List.length_singleton]
    omega
  rw [e]
  simp
theorem atI_natE {α : Type} {xs : List α} {k : Int} {n : Nat} (e : k = n) : atI xs k = xs[n]? := by rw [e, atI_ofNat]
theorem ixN_nat {n m : Nat} {k : Int} (e : k = m) (h : m < n) : ixN n k = some m := by
  subst e
  unfold ixN
  rw [if_pos (by omega), if_pos (by omega), Int.toNat_natCast]
end BK
namespace BK
open PySem PySem.Spec L2
set_option autoImplicit false
/-- a result of which something holds -/
def Go (o : Option R) (P : R → Prop) : Prop := ∃ r, o = some r ∧ P r
theorem go_done {o : Option R} {r : R} {P : R → Prop} (h : o = some r) (p : P r) : Go o P := ⟨r, h, p⟩
theorem go_phi {m : Gm → Option Out} {N n : Nat} {ds : List D} {P : R → Prop} (h : ds.length = n) (k : Go (fnR (m (ds.map Slot.va ++ List.replicate (N - n) Slot.un))) P) : Go (phi m N n ds) P := by
  obtain ⟨r, e, p⟩ := k
  exact ⟨r, phi_go h e, p⟩
theorem go_step {m n : Gm → Option Out} {g g' : Gm} {P : R → Prop} (h : m g = some (.nx g')) (k : Go (fnR (n g')) P) : Go (fnR (sCons m n g)) P := by
  obtain ⟨r, e, p⟩ := k
  exact ⟨r, fn_step h e, p⟩
theorem go_fz {i : Nat} {m n : Gm → Option Out} {g : Gm} {ds : List D} {P : R → Prop} (h : g[i]? = some (.ow ds)) (k : Go (fnR (sCons m n (g.set i (.va (.lst ds))))) P) : Go (fnR (sCons (sFz i m) n g)) P := by
  obtain ⟨r, e, p⟩ := k
  exact ⟨r, fn_fz h e, p⟩
theorem go_fz0 {i : Nat} {m n : Gm → Option Out} {g : Gm} {d : D} {P : R → Prop} (h : g[i]? = some (.va d)) (k : Go (fnR (sCons m n g)) P) : Go (fnR (sCons (sFz i m) n g)) P := by
  obtain ⟨r, e, p⟩ := k
  exact ⟨r, fn_fz0 h e, p⟩
theorem go_for {mi : Gm → Option (List Nat × List D)} {f : D → Gm → Option Gm} {b n : Gm → Option Out} {T : List Nat} {g : Gm} {P : R → Prop} {ps : List Nat} {α : Type} (enc : α → D) (I : List α → Gm → Prop) (xs : List α)
    (hm : mi g = some (ps, xs.map enc)) (hp : ps.all (fun j => !T.contains j) = true) (h0 : I [] g)
    (step : ∀ (pre : List α) (x : α) (g : Gm), (∃ post, xs = pre ++ x :: post) → I pre g → ∃ g', b1 (f (enc x) g) b = some (.nx g') ∧ I (pre ++ [x]) g') (k : ∀ g', I xs g' → Go (fnR (n g')) P) : Go (fnR (sCons (sFor mi f b T) n g)) P := by
  obtain ⟨g', e1, h1⟩ := forL_inv f b enc I xs step g h0
  refine go_step (g' := g') ?_ (k g' h1)
  rw [sFor_def, hm]
  show (if ps.all (fun j => !T.contains j) = true then _ else _) = _
  rw [if_pos hp, e1]
end BK
namespace BK
open PySem PySem.Spec L2
set_option autoImplicit false
def extO (i : Nat) (g : Gm) (ds : List D) (r : R) : Option Out := match r.d with
  | .lst es => if ds.length + es.length ≤ LIM then some (.nx (g.set i (.ow (ds ++ es)))) else none
  | _ => none
@[simp] theorem extO_tm (i : Nat) (g : Gm) (ds es : List D) : extO i g ds (.tm es) = if ds.length + es.length ≤ LIM then some (.nx (g.set i (.ow (ds ++ es)))) else none := rfl
@[simp] theorem extO_bw (i j : Nat) (g : Gm) (ds es : List D) : extO i g ds (.bw j es) = if ds.length + es.length ≤ LIM then some (.nx (g.set i (.ow (ds ++ es)))) else none := rfl
@[simp] theorem extO_va (i : Nat) (g : Gm) (ds es : List D) : extO i g ds (.va (.lst es)) = if ds.length + es.length ≤ LIM then some (.nx (g.set i (.ow (ds ++ es)))) else none := rfl
def extS (i : Nat) (g : Gm) (v : Option R) : Option Slot → Option Out
  | some (.ow ds) => b1 v (extO i g ds)
  | _ => none
@[simp] theorem extS_ow (i : Nat) (g : Gm) (v : Option R) (ds : List D) : extS i g v (some (.ow ds)) = b1 v (extO i g ds) := rfl
@[simp] theorem sExt_def (i : Nat) (m : Gm → Option R) (g : Gm) : sExt i m g = extS i g (m g) (g[i]?) := by
  unfold sExt
  cases h : g[i]? with
  | none => rfl
  | some s => cases s <;> rfl
end BK
namespace BK
open PySem PySem.Spec L2
set_option autoImplicit false
@[simp] theorem cIsC_ins (cs : List Nat) (c c2 : Nat) (ds : List D) : cIsC cs c (.va (.ins c2 ds)) = if cs.contains c2 = true then some (.va (.bl (c2 == c))) else none := rfl
end BK
namespace BK
open PySem PySem.Spec L2
set_option autoImplicit false
def mvS (i j : Nat) (g : Gm) : Option Slot → Option Out
  | some (.ow ds) => if i = j then none else some (.nx ((g.set j .un).set i (.ow ds)))
  | some (.va d) => some (.nx (g.set i (.va d)))
  | _ => none
@[simp] theorem mvS_ow (i j : Nat) (g : Gm) (ds : List D) : mvS i j g (some (.ow ds)) = if i = j then none else some (.nx ((g.set j .un).set i (.ow ds))) := rfl
@[simp] theorem mvS_va (i j : Nat) (g : Gm) (d : D) : mvS i j g (some (.va d)) = some (.nx (g.set i (.va d))) := rfl
@[simp] theorem sMv_def (i j : Nat) (g : Gm) : sMv i j g = mvS i j g (g[j]?) := by
  unfold sMv
  cases h : g[j]? with
  | none => rfl
  | some s => cases s <;> rfl
end BK
namespace BK
open PySem PySem.Spec L2
set_option autoImplicit false
@[simp] theorem atI_five {α : Type} (a b c d e f : α) (xs : List α) : atI (a :: b :: c :: d :: e :: f :: xs) 5 = some f := by
  have := atI_ofNat (a :: b :: c :: d :: e :: f :: xs) 5
  simpa using this
end BK
namespace BK
open PySem PySem.Spec L2
set_option autoImplicit false
/-- a for that hands back at the first item of a kind -/
theorem forL_find {α : Type} (f : D → Gm → Option Gm) (b : Gm → Option Out) (enc : α → D) (p : α → Bool) (out : α → R) (I : Gm → Prop) : ∀ (xs : List α), (∀ x ∈ xs, ∀ g, I g → (p x = true → b1 (f (enc x) g) b = some (.rt (out x))) ∧ (p x = false → ∃ g', b1 (f (enc x) g) b = some (.nx g') ∧ I g')) → ∀ g, I g →
    (∃ x, xs.find? p = some x ∧ forL f b (xs.map enc) g = some (.rt (out x))) ∨ (xs.find? p = none ∧ ∃ g', forL f b (xs.map enc) g = some (.nx g') ∧ I g')
  | [], _, g, h => .inr ⟨rfl, g, rfl, h⟩
  | x :: xs, step, g, h => by
    obtain ⟨h1, h2⟩ := step x List.mem_cons_self g h
    cases e : p x with
    | true =>
      refine .inl ⟨x, by rw [List.find?_cons_of_pos e], ?_⟩
      rw [List.map_cons, forL_cons, h1 e]
      rfl
    | false =>
      obtain ⟨g1, e1, hI⟩ := h2 e
      have ef : (x :: xs).find? p = xs.find? p := List.find?_cons_of_neg (by rw [e]; decide)
      rw [ef, List.map_cons, forL_cons, e1, fL_nx]
      exact forL_find f b enc p out I xs (fun y hy => step y (List.mem_cons_of_mem _ hy)) g1 hI
theorem for_find {mi : Gm → Option (List Nat × List D)} {f : D → Gm → Option Gm} {b n : Gm → Option Out} {T : List Nat} {g : Gm} {o : Option R} {ps : List Nat} {α : Type} (enc : α → D) (p : α → Bool) (out : α → R) (I : Gm → Prop) (xs : List α)
    (hm : mi g = some (ps, xs.map enc)) (hp : ps.all (fun j => !T.contains j) = true) (h0 : I g) (step : ∀ x ∈ xs, ∀ g, I g → (p x = true → b1 (f (enc x) g) b = some (.rt (out x))) ∧ (p x = false → ∃ g', b1 (f (enc x) g) b = some (.nx g') ∧ I g'))
    (k1 : ∀ x, xs.find? p = some x → some (retR (out x)) = o) (k : xs.find? p = none → ∀ g', I g' → fnR (n g') = o) : fnR (sCons (sFor mi f b T) n g) = o := by
  have e0 : sFor mi f b T g = forL f b (xs.map enc) g := by
    rw [sFor_def, hm]
    show (if ps.all (fun j => !T.contains j) = true then _ else _) = _
    rw [if_pos hp]
  rcases forL_find f b enc p out I xs step g h0 with ⟨x, e1, e2⟩ | ⟨e1, g', e2, hI⟩
  · rw [sCons_def, e0, e2, bO_rt, fnR_rt]
    exact k1 x e1
  · exact fn_step (by rw [e0, e2]) (k e1 g' hI)
end BK
namespace BK
open PySem PySem.Spec L2
set_option autoImplicit false
/-! a block that ends in a state of which something holds -/
theorem gs_tg {f : D → Gm → Option Gm} {b : Gm → Option Out} {d : D} {g g1 : Gm} {P : Gm → Prop} (h : f d g = some g1) (k : ∃ g2, b g1 = some (.nx g2) ∧ P g2) : ∃ g2, b1 (f d g) b = some (.nx g2) ∧ P g2 := by
  rw [h, b1_some]
  exact k
theorem gs_step {m n : Gm → Option Out} {g g' : Gm} {P : Gm → Prop} (h : m g = some (.nx g')) (k : ∃ g2, n g' = some (.nx g2) ∧ P g2) : ∃ g2, sCons m n g = some (.nx g2) ∧ P g2 := by
  obtain ⟨g2, e, p⟩ := k
  exact ⟨g2, st_step h e, p⟩
theorem gs_nil {g : Gm} {P : Gm → Prop} (p : P g) : ∃ g2, sNil g = some (.nx g2) ∧ P g2 := ⟨g, rfl, p⟩
theorem gs_fz {i : Nat} {m n : Gm → Option Out} {g : Gm} {ds : List D} {P : Gm → Prop} (h : g[i]? = some (.ow ds)) (k : ∃ g2, sCons m n (g.set i (.va (.lst ds))) = some (.nx g2) ∧ P g2) : ∃ g2, sCons (sFz i m) n g = some (.nx g2) ∧ P g2 := by
  obtain ⟨g2, e, p⟩ := k
  exact ⟨g2, st_fz h e, p⟩
theorem gs_for {mi : Gm → Option (List Nat × List D)} {f : D → Gm → Option Gm} {b n : Gm → Option Out} {T : List Nat} {g : Gm} {P : Gm → Prop} {ps : List Nat} {α : Type} (enc : α → D) (I : List α → Gm → Prop) (xs : List α)
    (hm : mi g = some (ps, xs.map enc)) (hp : ps.all (fun j => !T.contains j) = true) (h0 : I [] g)
    (step : ∀ (pre : List α) (x : α) (g : Gm), (∃ post, xs = pre ++ x :: post) → I pre g → ∃ g', b1 (f (enc x) g) b = some (.nx g') ∧ I (pre ++ [x]) g') (k : ∀ g', I xs g' → ∃ g2, n g' = some (.nx g2) ∧ P g2) : ∃ g2, sCons (sFor mi f b T) n g = some (.nx g2) ∧ P g2 := by
  obtain ⟨g', e1, h1⟩ := forL_inv f b enc I xs step g h0
  refine gs_step (g' := g') ?_ (k g' h1)
  rw [sFor_def, hm]
  show (if ps.all (fun j => !T.contains j) = true then _ else _) = _
  rw [if_pos hp, e1]
end BK
namespace BK
open PySem PySem.Spec L2
set_option autoImplicit false
theorem cut_mem {α : Type} {xs : List α} {lo hi : Option Int} {x : α} (h : x ∈ cutL xs lo hi) : x ∈ xs := List.mem_of_mem_drop (List.mem_of_mem_take h)
theorem cut_mid {α : Type} (xs : List α) (a b : Nat) : cutL xs (some (a : Int)) (some (b : Int)) = (xs.take b).drop a := by
  unfold cutL
  rw [HT.sIx_nat, HT.sIx_nat, List.drop_take]
  by_cases h : a ≤ xs.length
  · rw [Nat.min_eq_left h]
    by_cases h2 : b ≤ xs.length
    · rw [Nat.min_eq_left h2]
    · rw [Nat.min_eq_right (by omega), List.take_of_length_le (by rw [List.length_drop]; omega), List.take_of_length_le (by rw [List.length_drop]; omega)]
  · rw [List.drop_eq_nil_of_le (show xs.length ≤ min a xs.length by omega), List.drop_eq_nil_of_le (show xs.length ≤ a by omega)]
    simp
end BK
namespace BK
open PySem PySem.Spec L2
set_option autoImplicit false
theorem enumL_map {α : Type} (enc : α → D) : ∀ (xs : List α) (k : Nat), enumL k (xs.map enc) = (xs.zipIdx k).map fun p => .tup [.int (p.2 : Nat), enc p.1]
  | [], _ => rfl
  | x :: xs, k => by
    rw [List.map_cons, List.zipIdx_cons, List.map_cons, ← enumL_map enc xs (k + 1)]
    rfl
theorem zipIdx_split {α : Type} {xs : List α} {pre post : List (α × Nat)} {x : α × Nat} (h : xs.zipIdx = pre ++ x :: post) : x.2 = pre.length ∧ xs = pre.map (·.1) ++ x.1 :: post.map (·.1) := by
  constructor
  · have h1 : (xs.zipIdx)[pre.length]? = some x := by rw [h]; simp
    rw [List.getElem?_zipIdx] at h1
    obtain ⟨a, ha, e⟩ := Option.map_eq_some_iff.mp h1
    rw [← e]
    simp
  · have h1 : (xs.zipIdx).map (·.1) = xs := List.zipIdx_map_fst 0 xs
    rw [h] at h1
    rw [← h1]
    simp
end BK
namespace BK
open PySem PySem.Spec L2
set_option autoImplicit false
/-! ### reckonings in plain types, and that a def's function follows them -/
def Sm {α β : Type} (o : Option β) (s : Option α) (P : α → β → Prop) : Prop := ∀ x, s = some x → ∃ y, o = some y ∧ P x y
def grd {α : Type} (p : Prop) [Decidable p] (t : Option α) : Option α := if p then t else none
def lt {α β : Type} (v : α) (t : α → Option β) : Option β := t v
theorem grd_pos {α : Type} {p : Prop} [Decidable p] {t : Option α} (h : p) : grd p t = t := if_pos h
theorem lt_def {α β : Type} (v : α) (t : α → Option β) : lt v t = t v := rfl
inductive Ctl (σ ρ : Type) where
  | nx (s : σ) | bk (s : σ) | rt (r : ρ)
def ctl {σ ρ α : Type} (c : Ctl σ ρ) (t : σ → Option α) (u : ρ → Option α) : Option α := match c with
  | .nx s => t s
  | .bk s => t s
  | .rt r => u r
def forO {α σ : Type} (body : α → σ → Option σ) : List α → σ → Option σ
  | [], s => some s
  | x :: xs, s => b1 (body x s) (forO body xs)
def forC {α σ ρ : Type} (body : α → σ → Option (Ctl σ ρ)) : List α → σ → Option (Ctl σ ρ)
  | [], s => some (.nx s)
  | x :: xs, s => b1 (body x s) fun c => match c with
    | .nx s => forC body xs s
    | .bk s => some (.nx s)
    | .rt r => some (.rt r)
def whO {σ : Type} (c : σ → Option Bool) (body : σ → Option σ) : Nat → σ → Option σ
  | 0, _ => none
  | n + 1, s => b1 (c s) fun k => if k = true then b1 (body s) (whO c body n) else some s
def whC {σ ρ : Type} (c : σ → Option Bool) (body : σ → Option (Ctl σ ρ)) : Nat → σ → Option (Ctl σ ρ)
  | 0, _ => none
  | n + 1, s => b1 (c s) fun k => if k = true then b1 (body s) fun q => match q with
      | .nx s => whC c body n s
      | .bk s => some (.nx s)
      | .rt r => some (.rt r)
    else some (.nx s)
/-- comprehensions whose elements are reckoned partly -/
def mapO {α β : Type} (f : α → Option β) : List α → Option (List β)
  | [] => some []
  | x :: xs => b1 (f x) fun y => b1 (mapO f xs) fun ys => some (y :: ys)
def fmapO {α β : Type} (c : α → Option Bool) (f : α → Option β) : List α → Option (List β)
  | [] => some []
  | x :: xs => b1 (c x) fun k => if k = true then b1 (f x) fun y => b1 (fmapO c f xs) fun ys => some (y :: ys) else fmapO c f xs
section
variable {α β γ : Type} {o : Option β} {P : α → β → Prop}
theorem sm_ret {x : α} {y : β} (h : o = some y) (p : P x y) : Sm o (some x) P := fun x e => by cases e; exact ⟨y, h, p⟩
theorem sm_eq {x : α} {k : α → β} (h : o = some (k x)) : Sm o (some x) fun x y => y = k x := sm_ret h rfl
theorem sm_b1 {p : Option γ} {t : γ → Option α} (h : ∀ x, p = some x → Sm o (t x) P) : Sm o (b1 p t) P := by
  cases p with
  | none => exact fun _ e => by cases e
  | some x => exact h x rfl
theorem sm_lt {v : γ} {t : γ → Option α} (h : ∀ x, x = v → Sm o (t x) P) : Sm o (lt v t) P := h v rfl
theorem sm_grd {p : Prop} [Decidable p] {t : Option α} (h : p → Sm o t P) : Sm o (grd p t) P := by
  unfold grd
  split
  · rename_i c; exact h c
  · exact fun _ e => by cases e
theorem sm_none : Sm o none P := fun _ e => by cases e
theorem sm_if {c : Bool} {a b : Option α} (h1 : c = true → Sm o a P) (h2 : c = false → Sm o b P) : Sm o (if c = true then a else b) P := by
  cases c
  · exact h2 rfl
  · exact h1 rfl
theorem Sm.get {s : Option α} (h : Sm o s P) {x : α} (e : s = some x) : ∃ y, o = some y ∧ P x y := h x e
theorem Sm.eq {s : Option α} {k : α → β} (h : Sm o s fun x y => y = k x) {x : α} (e : s = some x) : o = some (k x) := by
  obtain ⟨y, h1, rfl⟩ := h x e
  exact h1
end
/-! blocks -/
def nxt : Gm → Option Out := fun g => some (.nx g)
def cont (b n : Gm → Option Out) : Gm → Option Out := fun g => bO (b g) n
def J {α : Type} (m n : Gm → Option Out) (g : Gm) (s : Option α) (P : α → Out → Prop) : Prop := Sm (bO (m g) n) s P
def PN {σ : Type} (St : σ → Gm → Prop) : σ → Out → Prop := fun s o => ∃ g, o = .nx g ∧ St s g
/-- a loop's turn -/
def PT {σ : Type} (St : σ → Gm → Prop) : σ → Out → Prop := fun s o => ∃ g, (o = .nx g ∨ o = .ct g) ∧ St s g
def PC {σ ρ : Type} (St : σ → Gm → Prop) (k : ρ → R) : Ctl σ ρ → Out → Prop
  | .nx s, o => ∃ g, (o = .nx g ∨ o = .ct g) ∧ St s g
  | .bk s, o => ∃ g, o = .bk g ∧ St s g
  | .rt r, o => o = .rt (k r)
def PF {α : Type} (k : α → R) : α → Out → Prop := fun v o => fnR (some o) = some (k v)
theorem bO_assoc (x : Option Out) (m n : Gm → Option Out) : bO (bO x m) n = bO x (cont m n) := by
  cases x with
  | none => rfl
  | some o => cases o <;> rfl
theorem bO_nxt (x : Option Out) : bO x nxt = x := by
  cases x with
  | none => rfl
  | some o => cases o <;> rfl
section
variable {α γ : Type} {b n : Gm → Option Out} {g g1 : Gm} {P : α → Out → Prop} {s : Option α} {t : γ → Option α} {i : Nat}
theorem j_b1 {m : Gm → Option Out} {p : Option γ} (h : ∀ x, p = some x → J m n g (t x) P) : J m n g (b1 p t) P := sm_b1 h
theorem j_grd {m : Gm → Option Out} {p : Prop} [Decidable p] (h : p → J m n g s P) : J m n g (grd p s) P := sm_grd h
theorem j_none {m : Gm → Option Out} : J m n g none P := sm_none
theorem j_seq {a : Gm → Option Out} (h : a g = some (.nx g1)) (k : J b n g1 s P) : J (sCons a b) n g s P := by
  unfold J
  rw [sCons_def, h, bO_nx]
  exact k
theorem j_set {e : Gm → Option R} {w : γ → D} {v : γ} (h : e g = some (.va (w v))) (g1 : γ → Gm) (h1 : g.set i (.va (w v)) = g1 v) (k : ∀ x, J b n (g1 x) (t x) P) : J (sCons (sSet i e) b) n g (lt v t) P :=
  j_seq (a := sSet i e) (g1 := g1 v) (by rw [sSet_def, h, b1_some, stO_va, h1]) (k v)
theorem j_setT {δ : Type} {e : Gm → Option R} {w : δ → D} {v : List δ} {t : List δ → Option α} (h : e g = some (.tm (v.map w))) (g1 : List δ → Gm) (h1 : g.set i (.ow (v.map w)) = g1 v) (k : ∀ x, J b n (g1 x) (t x) P) : J (sCons (sSet i e) b) n g (lt v t) P :=
  j_seq (a := sSet i e) (g1 := g1 v) (by rw [sSet_def, h, b1_some, stO_tm, h1]) (k v)
/-- a store whose value is a name already -/
theorem j_setN {e : Gm → Option R} {d : D} (h : e g = some (.va d)) (h1 : g.set i (.va d) = g1) (k : J b n g1 s P) : J (sCons (sSet i e) b) n g s P :=
  j_seq (a := sSet i e) (g1 := g1) (by rw [sSet_def, h, b1_some, stO_va, h1]) k
theorem j_setTN {e : Gm → Option R} {d : List D} (h : e g = some (.tm d)) (h1 : g.set i (.ow d) = g1) (k : J b n g1 s P) : J (sCons (sSet i e) b) n g s P :=
  j_seq (a := sSet i e) (g1 := g1) (by rw [sSet_def, h, b1_some, stO_tm, h1]) k
theorem j_asg {e : Gm → Option R} {f : D → Gm → Option Gm} {d : D} (h : e g = some (.va d)) (h1 : f d g = some g1) (k : J b n g1 s P) : J (sCons (sAsg e f) b) n g s P :=
  j_seq (a := sAsg e f) (g1 := g1) (by rw [sAsg_def, h, b1_some, asO_va, h1]; rfl) k
theorem j_par {a c : Gm → Option R} {x y : R} {j : Nat} {d d' : D} (h : a g = some x) (h' : c g = some y) (hx : x.fz = .va d) (hy : y.fz = .va d') (h1 : (g.set i (.va d)).set j (.va d') = g1) (k : J b n g1 s P) : J (sCons (sPar i j a c) b) n g s P :=
  j_seq (a := sPar i j a c) (g1 := g1) (by
    show (a g).bind _ = _
    rw [h]
    show (c g).bind _ = _
    rw [h']
    show (match x.fz, y.fz with | .va d, .va e => _ | _, _ => none : Option Out) = _
    rw [hx, hy, ← h1]) k
theorem j_aug {e : Gm → Option R} {f : R → R → Option R} {x y : R} {d : D} (h0 : eV i g = some x) (h : e g = some y) (hf : f x y = some (.va d)) (h1 : g.set i (.va d) = g1) (k : J b n g1 s P) : J (sCons (sAug i f e) b) n g s P :=
  j_seq (a := sAug i f e) (g1 := g1) (by rw [sAug_def, h0, h, b2_some, agO_def, hf, b1_some, stO_va, h1]) k
theorem j_app {e : Gm → Option R} {ds : List D} {r : R} (h0 : g[i]? = some (.ow ds)) (h : e g = some r) (hb : r.isBw = false) (hl : ds.length < 16777216) (h1 : g.set i (.ow (ds ++ [r.d])) = g1) (k : J b n g1 s P) : J (sCons (sApp i e) b) n g s P :=
  j_seq (a := sApp i e) (g1 := g1) (by rw [sApp_def, h0, h, apS_ow, b1_some, apO_ok hb hl, h1]) k
theorem j_ext {e : Gm → Option R} {ds es : List D} {r : R} (h0 : g[i]? = some (.ow ds)) (h : e g = some r) (hd : r.d = .lst es) (hl : ds.length + es.length ≤ 16777216) (h1 : g.set i (.ow (ds ++ es)) = g1) (k : J b n g1 s P) : J (sCons (sExt i e) b) n g s P :=
  j_seq (a := sExt i e) (g1 := g1) (by
    rw [sExt_def, h0, h, extS_ow, b1_some]
    unfold extO
    rw [hd]
    show (if ds.length + es.length ≤ LIM then _ else _) = _
    rw [if_pos (show _ ≤ LIM from hl), h1]) k
theorem j_fzO {m : Gm → Option Out} {ds : List D} (h0 : g[i]? = some (.ow ds)) (h1 : g.set i (.va (.lst ds)) = g1) (k : J (sCons m b) n g1 s P) : J (sCons (sFz i m) b) n g s P := by
  unfold J at k ⊢
  rw [sCons_def, sFz_def, h0, fzS_ow, h1]
  exact k
theorem j_fzV {m : Gm → Option Out} {d : D} (h0 : g[i]? = some (.va d)) (k : J (sCons m b) n g s P) : J (sCons (sFz i m) b) n g s P := by
  unfold J at k ⊢
  rw [sCons_def, sFz_def, h0, fzS_va]
  exact k
theorem j_fzU {m : Gm → Option Out} (h0 : g[i]? = some .un) (k : J (sCons m b) n g s P) : J (sCons (sFz i m) b) n g s P := by
  unfold J at k ⊢
  rw [sCons_def, sFz_def, h0, fzS_un]
  exact k
theorem j_mvO {j : Nat} {ds : List D} (h0 : g[j]? = some (.ow ds)) (hij : (i == j) = false) (h1 : (g.set j .un).set i (.ow ds) = g1) (k : J b n g1 s P) : J (sCons (sMv i j) b) n g s P :=
  j_seq (a := sMv i j) (g1 := g1) (by
    rw [sMv_def, h0, mvS_ow, if_neg (by simpa using hij), h1]) k
theorem j_mvV {j : Nat} {d : D} (h0 : g[j]? = some (.va d)) (h1 : g.set i (.va d) = g1) (k : J b n g1 s P) : J (sCons (sMv i j) b) n g s P :=
  j_seq (a := sMv i j) (g1 := g1) (by rw [sMv_def, h0, mvS_va, h1]) k
theorem j_exp {e : Gm → Option R} {r : R} (h : e g = some r) (k : J b n g s P) : J (sCons (sExp e) b) n g s P :=
  j_seq (a := sExp e) (g1 := g) (by rw [sExp_def, h, b1_some, exO_def]) k
theorem j_rev {ds : List D} (h0 : g[i]? = some (.ow ds)) (h1 : g.set i (.ow ds.reverse) = g1) (k : J b n g1 s P) : J (sCons (sRev i) b) n g s P :=
  j_seq (a := sRev i) (g1 := g1) (by unfold sRev; rw [h0, ← h1]) k
theorem j_clr {ds : List D} (h0 : g[i]? = some (.ow ds)) (h1 : g.set i (.ow []) = g1) (k : J b n g1 s P) : J (sCons (sClr i) b) n g s P :=
  j_seq (a := sClr i) (g1 := g1) (by unfold sClr; rw [h0, ← h1]) k
theorem j_ret {e : Gm → Option R} {r : R} {v : α} (h : e g = some r) (p : P v (.rt (retR r))) : J (sCons (sRet e) b) n g (some v) P := by
  unfold J
  rw [sCons_def, sRet_def, h, b1_some, rtO_def]
  exact sm_ret rfl p
theorem j_retN {v : α} (p : P v (.rt (.va .non))) : J (sCons sRetN b) n g (some v) P := sm_ret rfl p
theorem j_ct {v : α} (p : P v (.ct g)) : J (sCons sCt b) n g (some v) P := sm_ret rfl p
theorem j_bk {v : α} (p : P v (.bk g)) : J (sCons sBk b) n g (some v) P := sm_ret rfl p
theorem j_nil {v : α} (p : P v (.nx g)) : J sNil nxt g (some v) P := sm_ret rfl p
theorem j_nilC (k : J b n g s P) : J sNil (cont b n) g s P := k
theorem j_pass (k : J b n g s P) : J (sCons sNil b) n g s P := k
theorem j_if {c : Gm → Option Bool} {A B : Gm → Option Out} {k : Bool} {sA sB : Option α} (h : c g = some k) (hA : k = true → J A (cont b n) g sA P) (hB : k = false → J B (cont b n) g sB P) : J (sCons (sIf c A B) b) n g (if k = true then sA else sB) P := by
  unfold J
  rw [sCons_def, sIf_def, h, b1_some, ifO_def, bO_assoc]
  cases k with
  | true => exact hA rfl
  | false => exact hB rfl
theorem j_cut {m : Gm → Option Out} {σ : Type} {St : σ → Gm → Prop} {u : Option σ} {t : σ → Option α} (h : J m nxt g u (PN St)) (k : ∀ st g', St st g' → J b n g' (t st) P) : J (sCons m b) n g (b1 u t) P := by
  refine sm_b1 fun st e => ?_
  obtain ⟨o, e1, g', rfl, h2⟩ := h st e
  rw [bO_nxt] at e1
  exact j_seq e1 (k st g' h2)
theorem j_joinB {c : Gm → Option Bool} {A B : Gm → Option Out} {k : Bool} {σ : Type} {St : σ → Gm → Prop} {sA sB : Option σ} {t : σ → Option α} (h : c g = some k) (hA : k = true → J A nxt g sA (PN St)) (hB : k = false → J B nxt g sB (PN St)) (q : ∀ st g', St st g' → J b n g' (t st) P) : J (sCons (sIf c A B) b) n g (b1 (if k = true then sA else sB) t) P := by
  refine j_cut (St := St) ?_ q
  unfold J
  rw [sIf_def, h, b1_some, ifO_def]
  cases k with
  | true => exact hA rfl
  | false => exact hB rfl
theorem j_joinL {c : Gm → Option Bool} {A B : Gm → Option Out} {k : Bool} {σ : Type} {St : σ → Gm → Prop} {vA vB : σ} {t : σ → Option α} (h : c g = some k) (hA : k = true → J A nxt g (some vA) (PN St)) (hB : k = false → J B nxt g (some vB) (PN St)) (q : ∀ st g', St st g' → J b n g' (t st) P) : J (sCons (sIf c A B) b) n g (lt (if k = true then vA else vB) t) P := by
  have := j_joinB (t := t) h hA hB q
  cases k with
  | true => exact this
  | false => exact this
theorem jn_end {σ : Type} {St : σ → Gm → Prop} {st : σ} (h : St st g) : J sNil nxt g (some st) (PN St) := j_nil ⟨g, rfl, h⟩
theorem jt_end {σ : Type} {St : σ → Gm → Prop} {st : σ} (h : St st g) : J sNil nxt g (some st) (PT St) := j_nil ⟨g, .inl rfl, h⟩
theorem jt_ct {σ : Type} {St : σ → Gm → Prop} {st : σ} (h : St st g) : J (sCons sCt b) n g (some st) (PT St) := j_ct ⟨g, .inr rfl, h⟩
theorem jc_end {σ ρ : Type} {St : σ → Gm → Prop} {k : ρ → R} {st : σ} (h : St st g) : J sNil nxt g (some (.nx st)) (PC St k) := j_nil (P := PC St k) (v := .nx st) ⟨g, .inl rfl, h⟩
theorem jc_ct {σ ρ : Type} {St : σ → Gm → Prop} {k : ρ → R} {st : σ} (h : St st g) : J (sCons sCt b) n g (some (.nx st)) (PC St k) := j_ct (P := PC St k) (v := .nx st) ⟨g, .inr rfl, h⟩
theorem jc_bk {σ ρ : Type} {St : σ → Gm → Prop} {k : ρ → R} {st : σ} (h : St st g) : J (sCons sBk b) n g (some (.bk st)) (PC St k) := j_bk (P := PC St k) (v := .bk st) ⟨g, rfl, h⟩
theorem jc_ret {σ ρ : Type} {St : σ → Gm → Prop} {k : ρ → R} {e : Gm → Option R} {r : R} {v : ρ} (h : e g = some r) (p : retR r = k v) : J (sCons (sRet e) b) n g (some (.rt v)) (PC St k) := j_ret (P := PC St k) (v := .rt v) h (congrArg Out.rt p)
theorem forO_sm {α σ : Type} {f : D → Gm → Option Gm} {m : Gm → Option Out} (enc : α → D) (St : σ → Gm → Prop) (body : α → σ → Option σ) : ∀ (xs : List α), (∀ x ∈ xs, ∀ st g, St st g → ∃ g1, f (enc x) g = some g1 ∧ J m nxt g1 (body x st) (PT St)) → ∀ st g, St st g → ∀ st', forO body xs st = some st' → ∃ g', forL f m (xs.map enc) g = some (.nx g') ∧ St st' g'
  | [], _, st, g, h, st', e => by cases e; exact ⟨g, rfl, h⟩
  | x :: xs, step, st, g, h, st', e => by
    obtain ⟨g1, e1, j⟩ := step x List.mem_cons_self st g h
    cases e2 : body x st with
    | none => rw [forO, e2] at e; cases e
    | some s2 =>
      rw [forO, e2, b1_some] at e
      obtain ⟨o, e3, g2, ho, h2⟩ := j s2 e2
      rw [bO_nxt] at e3
      obtain ⟨g', e4, h4⟩ := forO_sm enc St body xs (fun y hy => step y (List.mem_cons_of_mem _ hy)) s2 g2 h2 st' e
      refine ⟨g', ?_, h4⟩
      rw [List.map_cons, forL_cons, e1, b1_some, e3]
      rcases ho with rfl | rfl
      · rw [fL_nx, e4]
      · rw [fL_ct, e4]
theorem j_for {δ σ : Type} {mi : Gm → Option (List Nat × List D)} {f : D → Gm → Option Gm} {m : Gm → Option Out} {T : List Nat} {ps : List Nat} (enc : δ → D) (St : σ → Gm → Prop) {body : δ → σ → Option σ} {xs : List δ} {st0 : σ} {t : σ → Option α}
    (hm : mi g = some (ps, xs.map enc)) (hp : ps.all (fun j => !T.contains j) = true) (h0 : St st0 g) (step : ∀ x ∈ xs, ∀ st g, St st g → ∃ g1, f (enc x) g = some g1 ∧ J m nxt g1 (body x st) (PT St)) (k : ∀ st g', St st g' → J b n g' (t st) P) : J (sCons (sFor mi f m T) b) n g (b1 (forO body xs st0) t) P := by
  refine sm_b1 fun st e => ?_
  obtain ⟨g', e1, h1⟩ := forO_sm enc St body xs step st0 g h0 st e
  refine j_seq (g1 := g') ?_ (k st g' h1)
  rw [sFor_def, hm]
  show (if ps.all (fun j => !T.contains j) = true then _ else _) = _
  rw [if_pos hp, e1]
theorem forC_sm {α σ ρ : Type} {f : D → Gm → Option Gm} {m : Gm → Option Out} (enc : α → D) (St : σ → Gm → Prop) (k : ρ → R) (body : α → σ → Option (Ctl σ ρ)) : ∀ (xs : List α), (∀ x ∈ xs, ∀ st g, St st g → ∃ g1, f (enc x) g = some g1 ∧ J m nxt g1 (body x st) (PC St k)) → ∀ st g, St st g → ∀ c, forC body xs st = some c → ∃ o, forL f m (xs.map enc) g = some o ∧ match c with
    | .nx st => ∃ g', o = .nx g' ∧ St st g'
    | .bk _ => False
    | .rt r => o = .rt (k r)
  | [], _, st, g, h, c, e => by cases e; exact ⟨_, rfl, g, rfl, h⟩
  | x :: xs, step, st, g, h, c, e => by
    obtain ⟨g1, e1, j⟩ := step x List.mem_cons_self st g h
    cases e2 : body x st with
    | none => rw [forC, e2] at e; cases e
    | some s2 =>
      rw [forC, e2, b1_some] at e
      obtain ⟨o, e3, ho⟩ := j s2 e2
      rw [bO_nxt] at e3
      cases s2 with
      | nx s2 =>
        obtain ⟨g2, ho, h2⟩ := ho
        obtain ⟨o', e4, h4⟩ := forC_sm enc St k body xs (fun y hy => step y (List.mem_cons_of_mem _ hy)) s2 g2 h2 c e
        refine ⟨o', ?_, h4⟩
        rw [List.map_cons, forL_cons, e1, b1_some, e3]
        rcases ho with rfl | rfl
        · rw [fL_nx, e4]
        · rw [fL_ct, e4]
      | bk s2 =>
        obtain ⟨g2, rfl, h2⟩ := ho
        cases e
        refine ⟨.nx g2, ?_, g2, rfl, h2⟩
        rw [List.map_cons, forL_cons, e1, b1_some, e3, fL_bk]
      | rt r =>
        cases e
        refine ⟨o, ?_, ho⟩
        have ho : o = .rt (k r) := ho
        subst ho
        rw [List.map_cons, forL_cons, e1, b1_some, e3, fL_rt]
theorem j_forC {δ σ ρ : Type} {mi : Gm → Option (List Nat × List D)} {f : D → Gm → Option Gm} {m : Gm → Option Out} {T : List Nat} {ps : List Nat} (enc : δ → D) (St : σ → Gm → Prop) (kr : ρ → R) {body : δ → σ → Option (Ctl σ ρ)} {xs : List δ} {st0 : σ} {t : σ → Option α} {u : ρ → Option α}
    (hm : mi g = some (ps, xs.map enc)) (hp : ps.all (fun j => !T.contains j) = true) (h0 : St st0 g) (step : ∀ x ∈ xs, ∀ st g, St st g → ∃ g1, f (enc x) g = some g1 ∧ J m nxt g1 (body x st) (PC St kr)) (k : ∀ st g', St st g' → J b n g' (t st) P) (k2 : ∀ r, Sm (some (.rt (kr r))) (u r) P) : J (sCons (sFor mi f m T) b) n g (b1 (forC body xs st0) fun c => ctl c t u) P := by
  refine sm_b1 fun c e => ?_
  obtain ⟨o, e1, h1⟩ := forC_sm enc St kr body xs step st0 g h0 c e
  have e2 : sFor mi f m T g = some o := by
    rw [sFor_def, hm]
    show (if ps.all (fun j => !T.contains j) = true then _ else _) = _
    rw [if_pos hp, e1]
  cases c with
  | nx st =>
    obtain ⟨g', rfl, h2⟩ := h1
    exact j_seq e2 (k st g' h2)
  | bk st => exact h1.elim
  | rt r =>
    have h1 : o = .rt (kr r) := h1
    subst h1
    show Sm (bO (bO (sFor mi f m T g) b) n) (u r) P
    rw [e2]
    exact k2 r
theorem whO_sm {σ : Type} {c : Gm → Option Bool} {m : Gm → Option Out} (St : σ → Gm → Prop) (cs : σ → Option Bool) (body : σ → Option σ) (hc : ∀ st g, St st g → Sm (c g) (cs st) fun x y => y = x) (step : ∀ st g, St st g → J m nxt g (body st) (PT St)) : ∀ (n : Nat) st g, St st g → ∀ st', whO cs body n st = some st' → ∃ g', sWh c m n g = some (.nx g') ∧ St st' g'
  | 0, st, g, h, st', e => by cases e
  | n + 1, st, g, h, st', e => by
    cases e1 : cs st with
    | none => rw [whO, e1] at e; cases e
    | some k =>
      have ec := (hc st g h).eq (k := id) e1
      rw [whO, e1, b1_some] at e
      rw [sWh_succ, ec, b1_some, whK_def]
      cases k with
      | false => cases e; exact ⟨g, rfl, h⟩
      | true =>
        rw [if_pos rfl] at e
        show ∃ g', (if true = true then _ else _) = _ ∧ _
        rw [if_pos rfl]
        cases e2 : body st with
        | none => rw [e2] at e; cases e
        | some s2 =>
          rw [e2, b1_some] at e
          obtain ⟨o, e3, g2, ho, h2⟩ := step st g h s2 e2
          rw [bO_nxt] at e3
          obtain ⟨g', e4, h4⟩ := whO_sm St cs body hc step n s2 g2 h2 st' e
          refine ⟨g', ?_, h4⟩
          rw [e3]
          rcases ho with rfl | rfl
          · rw [wL_nx, e4]
          · rw [wL_ct, e4]
theorem j_wh {σ : Type} {c : Gm → Option Bool} {m : Gm → Option Out} {F : Nat} (St : σ → Gm → Prop) {cs : σ → Option Bool} {body : σ → Option σ} {st0 : σ} {t : σ → Option α} (h0 : St st0 g) (hc : ∀ st g, St st g → Sm (c g) (cs st) fun x y => y = x) (step : ∀ st g, St st g → J m nxt g (body st) (PT St)) (k : ∀ st g', St st g' → J b n g' (t st) P) : J (sCons (sWh c m F) b) n g (b1 (whO cs body F st0) t) P := by
  refine sm_b1 fun st e => ?_
  obtain ⟨g', e1, h1⟩ := whO_sm St cs body hc step F st0 g h0 st e
  exact j_seq e1 (k st g' h1)
theorem whC_sm {σ ρ : Type} {c : Gm → Option Bool} {m : Gm → Option Out} (St : σ → Gm → Prop) (kr : ρ → R) (cs : σ → Option Bool) (body : σ → Option (Ctl σ ρ)) (hc : ∀ st g, St st g → Sm (c g) (cs st) fun x y => y = x) (step : ∀ st g, St st g → J m nxt g (body st) (PC St kr)) : ∀ (n : Nat) st g, St st g → ∀ q, whC cs body n st = some q → ∃ o, sWh c m n g = some o ∧ match q with
    | .nx st => ∃ g', o = .nx g' ∧ St st g'
    | .bk _ => False
    | .rt r => o = .rt (kr r)
  | 0, st, g, h, q, e => by cases e
  | n + 1, st, g, h, q, e => by
    cases e1 : cs st with
    | none => rw [whC, e1] at e; cases e
    | some k =>
      have ec := (hc st g h).eq (k := id) e1
      rw [whC, e1, b1_some] at e
      rw [sWh_succ, ec, b1_some, whK_def]
      cases k with
      | false => cases e; exact ⟨_, rfl, g, rfl, h⟩
      | true =>
        rw [if_pos rfl] at e
        show ∃ o, (if true = true then _ else _) = _ ∧ _
        rw [if_pos rfl]
        cases e2 : body st with
        | none => rw [e2] at e; cases e
        | some s2 =>
          rw [e2, b1_some] at e
          obtain ⟨o, e3, ho⟩ := step st g h s2 e2
          rw [bO_nxt] at e3
          rw [e3]
          cases s2 with
          | nx s2 =>
            obtain ⟨g2, ho, h2⟩ := ho
            obtain ⟨o', e4, h4⟩ := whC_sm St kr cs body hc step n s2 g2 h2 q e
            refine ⟨o', ?_, h4⟩
            rcases ho with rfl | rfl
            · rw [wL_nx, e4]
            · rw [wL_ct, e4]
          | bk s2 =>
            obtain ⟨g2, rfl, h2⟩ := ho
            cases e
            exact ⟨.nx g2, by rw [wL_bk], g2, rfl, h2⟩
          | rt r =>
            cases e
            have ho : o = .rt (kr r) := ho
            subst ho
            exact ⟨_, by rw [wL_rt], rfl⟩
theorem j_whC {σ ρ : Type} {c : Gm → Option Bool} {m : Gm → Option Out} {F : Nat} (St : σ → Gm → Prop) (kr : ρ → R) {cs : σ → Option Bool} {body : σ → Option (Ctl σ ρ)} {st0 : σ} {t : σ → Option α} {u : ρ → Option α} (h0 : St st0 g) (hc : ∀ st g, St st g → Sm (c g) (cs st) fun x y => y = x) (step : ∀ st g, St st g → J m nxt g (body st) (PC St kr)) (k : ∀ st g', St st g' → J b n g' (t st) P) (k2 : ∀ r, Sm (some (.rt (kr r))) (u r) P) : J (sCons (sWh c m F) b) n g (b1 (whC cs body F st0) fun c => ctl c t u) P := by
  refine sm_b1 fun q e => ?_
  obtain ⟨o, e2, h1⟩ := whC_sm St kr cs body hc step F st0 g h0 q e
  cases q with
  | nx st =>
    obtain ⟨g', rfl, h2⟩ := h1
    exact j_seq e2 (k st g' h2)
  | bk st => exact h1.elim
  | rt r =>
    have h1 : o = .rt (kr r) := h1
    subst h1
    show Sm (bO (bO (sWh c m F g) b) n) (u r) P
    rw [e2]
    exact k2 r
end
theorem fnR_retR (r : R) : fnR (some (.rt (retR r))) = some (retR r) := by cases r <;> rfl
theorem sim_phi {α : Type} {m : Gm → Option Out} {N n : Nat} {ds : List D} {s : Option α} {k : α → R} (hl : ds.length = n) (h : J m nxt (ds.map Slot.va ++ List.replicate (N - n) Slot.un) s (PF k)) {x : α} (e : s = some x) : phi m N n ds = some (k x) := by
  obtain ⟨o, e1, e2⟩ := h x e
  rw [bO_nxt] at e1
  rw [phi_def, if_pos hl, e1, e2]
end BK
namespace BK
open PySem PySem.Spec L2
set_option autoImplicit false
/-! ### plain types as data -/
abbrev eD (d : D) : D := d
abbrev eL {α : Type} (e : α → D) (xs : List α) : D := .lst (xs.map e)
abbrev eT {α : Type} (e : α → D) (xs : List α) : D := .tup (xs.map e)
abbrev eRL (ns : List Int) : D := .rol (ns.map D.int)
def eO {α : Type} (e : α → D) : Option α → D
  | none => .non
  | some x => e x
abbrev eU (_ : Unit) : D := .non
abbrev eP1 {α : Type} (a : α → D) (x : α) : D := .tup [a x]
abbrev eP2 {α β : Type} (a : α → D) (b : β → D) (x : α × β) : D := .tup [a x.1, b x.2]
abbrev eP3 {α β γ : Type} (a : α → D) (b : β → D) (c : γ → D) (x : α × β × γ) : D := .tup [a x.1, b x.2.1, c x.2.2]
abbrev eP4 {α β γ δ : Type} (a : α → D) (b : β → D) (c : γ → D) (d : δ → D) (x : α × β × γ × δ) : D := .tup [a x.1, b x.2.1, c x.2.2.1, d x.2.2.2]
abbrev eP5 {α β γ δ ε : Type} (a : α → D) (b : β → D) (c : γ → D) (d : δ → D) (e : ε → D) (x : α × β × γ × δ × ε) : D := .tup [a x.1, b x.2.1, c x.2.2.1, d x.2.2.2.1, e x.2.2.2.2]
abbrev eP6 {α β γ δ ε ζ : Type} (a : α → D) (b : β → D) (c : γ → D) (d : δ → D) (e : ε → D) (f : ζ → D) (x : α × β × γ × δ × ε × ζ) : D := .tup [a x.1, b x.2.1, c x.2.2.1, d x.2.2.2.1, e x.2.2.2.2.1, f x.2.2.2.2.2]
abbrev eP7 {α β γ δ ε ζ η : Type} (a : α → D) (b : β → D) (c : γ → D) (d : δ → D) (e : ε → D) (f : ζ → D) (g : η → D) (x : α × β × γ × δ × ε × ζ × η) : D := .tup [a x.1, b x.2.1, c x.2.2.1, d x.2.2.2.1, e x.2.2.2.2.1, f x.2.2.2.2.2.1, g x.2.2.2.2.2.2]
/-- a bridge -/
structure Bg where
  name : Str
  length : Int
  bears : Int
  wide : Int
  most : Int
abbrev insB (b : Bg) : D := .ins 1 [.int b.length, .str b.name, .int b.bears, .int b.wide, .int b.most]
abbrev Pc := Int ⊕ Bg
/-- a piece: an open one of a length, or a bridge -/
def insP : Pc → D
  | .inl n => .ins 0 [.int n]
  | .inr b => insB b
def pcLen : Pc → Int
  | .inl n => n
  | .inr b => b.length
def pcBr : Pc → Option Bg
  | .inl _ => none
  | .inr b => some b
def isBr : Pc → Bool
  | .inl _ => false
  | .inr _ => true
abbrev Wh := Int × Int × Int
abbrev eWh : Wh → D := eP3 D.int D.int D.int
abbrev Fr := Int × Int
abbrev eFr : Fr → D := eP2 D.int D.int
structure Rd' where
  pieces : List Pc
  rounds : List (Str × Int)
  shuts : List (Str × Int × Int)
abbrev eRo (r : Rd') : D := .ins 2 [eL insP r.pieces, eL (eP2 D.str D.int) r.rounds, eL (eP3 D.str D.int D.int) r.shuts]
structure Ct where
  name : Str
  speed : Int
  wheels : List Wh
abbrev eCt (c : Ct) : D := .ins 3 [.str c.name, .int c.speed, eL eWh c.wheels]
abbrev Cr := Str × Fr × Int × List Wh
abbrev eCr : Cr → D := eP4 D.str eFr D.int (eL eWh)
structure Tp where
  cart : Ct
  way : List Bool
  start : Fr
  crossings : List Cr
  ended : Fr
abbrev eTp (t : Tp) : D := .ins 4 [eCt t.cart, eT D.bl t.way, eFr t.start, eL eCr t.crossings, eFr t.ended]
structure Dy where
  road : Rd'
  loads : List Ct
  sends : List (Int × Int × List Bool)
abbrev eDy (d : Dy) : D := .ins 5 [eRo d.road, eL eCt d.loads, eL (eP3 D.int D.int (eT D.bl)) d.sends]
/-! ### expressions -/
section
variable {g : Gm} {α β γ : Type}
theorem x1 {f : R → Option R} {a : Gm → Option R} {x z : R} (h : a g = some x) (k : f x = some z) : e1 f a g = some z := by
  rw [e1_def, h, b1_some, k]
theorem x2 {f : R → R → Option R} {a b : Gm → Option R} {x y z : R} (h : a g = some x) (h' : b g = some y) (k : f x y = some z) : e2 f a b g = some z := by
  rw [e2_def, h, h', b2_some, k]
theorem xA {f : List R → Option R} {a : Gm → Option (List R)} {rs : List R} {z : R} (h : a g = some rs) (k : f rs = some z) : eA f a g = some z := by
  rw [eA_def, h, b1_some, k]
theorem xaN : aN g = some [] := rfl
theorem xaC {a : Gm → Option R} {b : Gm → Option (List R)} {x : R} {rs : List R} (h : a g = some x) (h' : b g = some rs) : aC a b g = some (x.fz :: rs) := by
  rw [aC_def, h, h', b2_some, cF_def]
theorem xV {i : Nat} {d : D} (h : g[i]? = some (.va d)) : eV i g = some (.va d) := by rw [eV_def, h]; rfl
theorem xW {i : Nat} {ds : List D} (h : g[i]? = some (.ow ds)) : eV i g = some (.bw i ds) := by rw [eV_def, h]; rfl
/-! tests -/
theorem t_val {a : Gm → Option R} {k : Bool} (h : a g = some (.va (.bl k))) : bE a g = some k := by rw [bE_def, h]; rfl
theorem t_not {c : Gm → Option Bool} {k : Bool} (h : c g = some k) : bNot c g = some (!k) := by rw [bNot_def, h]; rfl
theorem t_and {c d : Gm → Option Bool} {k l : Bool} (h : c g = some k) (h' : d g = some l) : bAnd c d g = some (k && l) := by
  rw [bAnd_def, h, b1_some, anB_def, h']; cases k <;> rfl
theorem t_or {c d : Gm → Option Bool} {k l : Bool} (h : c g = some k) (h' : d g = some l) : bOr c d g = some (k || l) := by
  rw [bOr_def, h, b1_some, orB_def, h']; cases k <;> rfl
theorem t_andP {c d : Gm → Option Bool} {k z : Bool} {s : Option Bool} (h : c g = some k) (h' : k = true → Sm (d g) s fun x y => y = x) (e : (if k = true then s else some false) = some z) : bAnd c d g = some z := by
  rw [bAnd_def, h, b1_some, anB_def]
  cases k with
  | false => exact e
  | true => exact (h' rfl).eq (k := id) (by simpa using e)
theorem t_orP {c d : Gm → Option Bool} {k z : Bool} {s : Option Bool} (h : c g = some k) (h' : k = false → Sm (d g) s fun x y => y = x) (e : (if k = true then some true else s) = some z) : bOr c d g = some z := by
  rw [bOr_def, h, b1_some, orB_def]
  cases k with
  | true => exact e
  | false => exact (h' rfl).eq (k := id) (by simpa using e)
theorem v_and {a b : Gm → Option R} {k l : Bool} (h : a g = some (.va (.bl k))) (h' : b g = some (.va (.bl l))) : eAnd a b g = some (.va (.bl (k && l))) := by
  rw [eAnd_def, t_val h, b1_some, anR_def, h']; cases k <;> rfl
theorem v_or {a b : Gm → Option R} {k l : Bool} (h : a g = some (.va (.bl k))) (h' : b g = some (.va (.bl l))) : eOr a b g = some (.va (.bl (k || l))) := by
  rw [eOr_def, t_val h, b1_some, orR_def, h']; cases k <;> rfl
theorem v_andP {a b : Gm → Option R} {k z : Bool} {s : Option Bool} (h : a g = some (.va (.bl k))) (h' : k = true → Sm (b g) s fun x y => y = .va (.bl x)) (e : (if k = true then s else some false) = some z) : eAnd a b g = some (.va (.bl z)) := by
  rw [eAnd_def, t_val h, b1_some, anR_def]
  cases k with
  | false => cases e; rfl
  | true => exact (h' rfl).eq (k := fun x => R.va (.bl x)) (by simpa using e)
theorem v_orP {a b : Gm → Option R} {k z : Bool} {s : Option Bool} (h : a g = some (.va (.bl k))) (h' : k = false → Sm (b g) s fun x y => y = .va (.bl x)) (e : (if k = true then some true else s) = some z) : eOr a b g = some (.va (.bl z)) := by
  rw [eOr_def, t_val h, b1_some, orR_def]
  cases k with
  | true => cases e; rfl
  | false => exact (h' rfl).eq (k := fun x => R.va (.bl x)) (by simpa using e)
theorem v_not {a : Gm → Option R} {k : Bool} (h : a g = some (.va (.bl k))) : eNot a g = some (.va (.bl (!k))) := by
  rw [eNot_def, t_val h]; rfl
theorem v_chain {f f' : R → R → Option R} {a b c : Gm → Option R} {x y w : R} {k l : Bool} (h : a g = some x) (h' : b g = some y) (h'' : c g = some w) (e1 : f x y = some (.va (.bl k))) (e2 : f' y.fz w = some (.va (.bl l))) : eCh f f' a b c g = some (.va (.bl (k && l))) := by
  rw [eCh_def, h, h', b2_some, e1, b1_some, chK_bl, h'', b1_some, e2]
  cases k <;> rfl
/-! operators -/
theorem f_mul {i j : Int} (h : CMulB i j) : oMulA (.va (.int i)) (.va (.int j)) = some (.va (.int (i * j))) := by rw [oMulA_int, if_pos h]
theorem f_div {i j : Int} (h : CDivB i j) : oDiv (.va (.int i)) (.va (.int j)) = some (.va (.int (i.fdiv j))) := by rw [oDiv_def, if_pos h]
theorem f_mod {i j : Int} (h : j ≠ 0) : oMod (.va (.int i)) (.va (.int j)) = some (.va (.int (i.fmod j))) := by rw [oMod_def, if_pos h]
theorem f_pow {i j : Int} (h : CPow i j) : oPow (.va (.int i)) (.va (.int j)) = some (.va (.int (i ^ j.toNat))) := by rw [oPow_def, if_pos h]
theorem f_shl {i j : Int} (h : CPow i j) : oShl (.va (.int i)) (.va (.int j)) = some (.va (.int (i * 2 ^ j.toNat))) := by rw [oShl_def, if_pos h]
theorem f_shr {i j : Int} (h : 0 ≤ j) : oShr (.va (.int i)) (.va (.int j)) = some (.va (.int (i / 2 ^ j.toNat))) := by rw [oShr_def, if_pos h]
theorem f_addS {i j : Str} (h : i.length + j.length ≤ 16777216) : oAdd (.va (.str i)) (.va (.str j)) = some (.va (.str (i ++ j))) := by rw [oAdd_str, if_pos (show _ ≤ LIM from h)]
theorem f_iaddS {i j : Str} (h : i.length + j.length ≤ 16777216) : oIAdd (.va (.str i)) (.va (.str j)) = some (.va (.str (i ++ j))) := by rw [oIAdd_str, if_pos (show _ ≤ LIM from h)]
theorem f_addT {e : α → D} {xs ys : List α} {us vs : List D} (hx : us = xs.map e) (hy : vs = ys.map e) (h : xs.length + ys.length ≤ 16777216) : oAdd (.va (.tup us)) (.va (.tup vs)) = some (.va (.tup ((xs ++ ys).map e))) := by
  subst hx; subst hy
  rw [oAdd_tup, if_pos (by rw [List.length_map, List.length_map]; exact h), List.map_append]
theorem f_addL {e : α → D} {xs ys : List α} {a b : R} (hx : a.d = .lst (xs.map e)) (hy : b.d = .lst (ys.map e)) (h : xs.length + ys.length ≤ 16777216) : oAdd a b = some (.tm ((xs ++ ys).map e)) := by
  rw [oAdd_lst hx hy, if_pos (by rw [List.length_map, List.length_map]; exact h), List.map_append]
theorem f_mulS {i : Str} {j : Int} (h : -(2 ^ 63) ≤ j ∧ j < 2 ^ 63 ∧ i.length * j.toNat ≤ 16777216) : oMulA (.va (.str i)) (.va (.int j)) = some (.va (.str (strRep i j))) := by rw [oMulA_str, if_pos (show _ ∧ _ ∧ _ ≤ LIM from h)]
theorem f_mulL {e : α → D} {xs : List α} {us : List D} {j : Int} (hx : us = xs.map e) (h : -(2 ^ 63) ≤ j ∧ j < 2 ^ 63 ∧ xs.length * j.toNat ≤ 16777216) : oMulA (.tm us) (.va (.int j)) = some (.tm ((List.replicate j.toNat xs).flatten.map e)) := by
  subst hx
  rw [oMulA_lst, if_pos (show _ ∧ _ ∧ _ ≤ LIM by rw [List.length_map]; exact h), List.map_flatten, List.map_replicate]
/-- == of plain types -/
structure EQ (n : Nat) [DecidableEq α] (e : α → D) : Prop where
  eq : ∀ x y, eqn n (e x) (e y) = decide (x = y)
structure OK (n : Nat) (e : α → D) : Prop where
  ok : ∀ x, okn n (e x) = true
theorem eqR_gen {a b : R} {x y : D} (ha : a.d = x) (hb : b.d = y) (h1 : okn 8 x = true) (h2 : okn 8 y = true) : eqR a b = some (eqn 8 x y) := by
  subst ha; subst hb
  unfold eqR
  split
  · rename_i u v e1 e2
    rw [e1, e2]; rfl
  · rw [h1, h2]; rfl
theorem f_eq {a b : R} {k : Bool} (h : eqR a b = some k) : oEq a b = some (.va (.bl k)) := by unfold oEq; rw [h]; rfl
theorem f_ne {a b : R} {k : Bool} (h : eqR a b = some k) : oNe a b = some (.va (.bl (!k))) := by unfold oNe; rw [h]; rfl
theorem eqR_T [DecidableEq α] {a b : R} {e : α → D} {x y : α} (E : EQ 8 e) (ha : a.d = e x) (hb : b.d = e y) (h : okn 8 (e x) = true ∧ okn 8 (e y) = true) : eqR a b = some (decide (x = y)) := by rw [eqR_gen ha hb h.1 h.2, E.eq]
theorem eqR_K [DecidableEq α] {a b : R} {e : α → D} {x y : α} (E : EQ 8 e) (O : OK 8 e) (ha : a.d = e x) (hb : b.d = e y) : eqR a b = some (decide (x = y)) := eqR_T E ha hb ⟨O.ok x, O.ok y⟩
theorem eqR_str {x y : Str} : eqR (.va (.str x)) (.va (.str y)) = some (decide (x = y)) := rfl
theorem EQ_int (n : Nat) : EQ n D.int := ⟨fun _ _ => eqn_int ..⟩
theorem EQ_str (n : Nat) : EQ n D.str := ⟨fun _ _ => eqn_str ..⟩
theorem EQ_bl (n : Nat) : EQ n D.bl := ⟨fun x y => by rw [eqn_bl]; cases x <;> cases y <;> rfl⟩
theorem OK_int (n : Nat) : OK n D.int := ⟨fun _ => okn_int ..⟩
theorem OK_bl (n : Nat) : OK n D.bl := ⟨fun _ => okn_bl ..⟩
theorem OK_L {n : Nat} {e : α → D} (h : OK n e) : OK (n + 1) (eL e) := ⟨fun xs => by
  rw [okn_lst, List.all_map, List.all_eq_true]; exact fun x _ => h.ok x⟩
theorem OK_T {n : Nat} {e : α → D} (h : OK n e) : OK (n + 1) (eT e) := ⟨fun xs => by
  rw [okn_tup, List.all_map, List.all_eq_true]; exact fun x _ => h.ok x⟩
theorem EQ_L {n : Nat} [DecidableEq α] {e : α → D} (h : EQ n e) : EQ (n + 1) (eL e) := ⟨fun xs ys => by rw [eqn_lst]; exact eqL_map h.eq xs ys⟩
theorem EQ_T {n : Nat} [DecidableEq α] {e : α → D} (h : EQ n e) : EQ (n + 1) (eT e) := ⟨fun xs ys => by rw [eqn_tup]; exact eqL_map h.eq xs ys⟩
theorem eqL_cc (f : D → D → Bool) (x y : D) (xs ys : List D) {p q : Prop} [Decidable p] [Decidable q] (h : f x y = decide p) (k : eqL f xs ys = decide q) : eqL f (x :: xs) (y :: ys) = decide (p ∧ q) := by
  rw [eqL_cons, h, k, Bool.decide_and]
theorem OK_P2 {n : Nat} {a : α → D} {b : β → D} (ha : OK n a) (hb : OK n b) : OK (n + 1) (eP2 a b) := ⟨fun x => by simp [ha.ok, hb.ok]⟩
theorem OK_P3 {n : Nat} {a : α → D} {b : β → D} {c : γ → D} (ha : OK n a) (hb : OK n b) (hc : OK n c) : OK (n + 1) (eP3 a b c) := ⟨fun x => by simp [ha.ok, hb.ok, hc.ok]⟩
theorem OK_P4 {δ : Type} {n : Nat} {a : α → D} {b : β → D} {c : γ → D} {d : δ → D} (ha : OK n a) (hb : OK n b) (hc : OK n c) (hd : OK n d) : OK (n + 1) (eP4 a b c d) := ⟨fun x => by simp [ha.ok, hb.ok, hc.ok, hd.ok]⟩
theorem EQ_P2 {n : Nat} [DecidableEq α] [DecidableEq β] {a : α → D} {b : β → D} (ha : EQ n a) (hb : EQ n b) : EQ (n + 1) (eP2 a b) := ⟨fun x y => by
  rw [Bool.eq_iff_iff]; simp [ha.eq, hb.eq, Prod.ext_iff]⟩
theorem EQ_P3 {n : Nat} [DecidableEq α] [DecidableEq β] [DecidableEq γ] {a : α → D} {b : β → D} {c : γ → D} (ha : EQ n a) (hb : EQ n b) (hc : EQ n c) : EQ (n + 1) (eP3 a b c) := ⟨fun x y => by
  rw [Bool.eq_iff_iff]; simp [ha.eq, hb.eq, hc.eq, Prod.ext_iff]⟩
theorem EQ_P4 {δ : Type} {n : Nat} [DecidableEq α] [DecidableEq β] [DecidableEq γ] [DecidableEq δ] {a : α → D} {b : β → D} {c : γ → D} {d : δ → D} (ha : EQ n a) (hb : EQ n b) (hc : EQ n c) (hd : EQ n d) : EQ (n + 1) (eP4 a b c d) := ⟨fun x y => by
  rw [Bool.eq_iff_iff]; simp [ha.eq, hb.eq, hc.eq, hd.eq, Prod.ext_iff]⟩
theorem f_isN (r : R) : oIs r (.va .non) = some (.va (.bl r.d.isNon)) := rfl
theorem f_isNN (r : R) : oIsN r (.va .non) = some (.va (.bl (!r.d.isNon))) := rfl
theorem isNon_eO {e : α → D} (h : ∀ x, (e x).isNon = false) (o : Option α) : D.isNon (eO e o) = o.isNone := by
  cases o with
  | none => rfl
  | some x => exact h x
theorem f_isO {e : α → D} (h : ∀ x, (e x).isNon = false) (o : Option α) : oIs (.va (eO e o)) (.va .non) = some (.va (.bl o.isNone)) := by rw [f_isN]; exact congrArg (fun k => some (R.va (.bl k))) (isNon_eO h o)
theorem f_isNO {e : α → D} (h : ∀ x, (e x).isNon = false) (o : Option α) : oIsN (.va (eO e o)) (.va .non) = some (.va (.bl o.isSome)) := by
  rw [f_isNN]
  refine congrArg (fun k => some (R.va (.bl k))) ?_
  show (!D.isNon (eO e o)) = _
  rw [isNon_eO h o]
  cases o <;> rfl
theorem f_isB {r : R} {k b : Bool} (h : r.d = .bl b) : oIs r (.va (.bl k)) = some (.va (.bl (b == k))) := by
  rw [oIs_bl, h]; rfl
/-- in, of texts and of ints -/
theorem any_strs (zs : List Str) (z : Str) : (zs.map D.str).any (fun e => eqn 0 e (.str z)) = decide (z ∈ zs) := by
  induction zs with
  | nil => rfl
  | cons y zs ih =>
    rw [List.map_cons, List.any_cons, ih, eqn_str, ← Bool.decide_or]
    exact decide_eq_decide.mpr ⟨fun h => h.elim (fun e => e ▸ List.mem_cons_self) (List.mem_cons_of_mem _), fun h => (List.mem_cons.mp h).elim (fun e => .inl e.symm) .inr⟩
theorem any_ints (zs : List Int) (z : Int) : (zs.map D.int).any (fun e => eqn 0 e (.int z)) = decide (z ∈ zs) := by
  induction zs with
  | nil => rfl
  | cons y zs ih =>
    rw [List.map_cons, List.any_cons, ih, eqn_int, ← Bool.decide_or]
    exact decide_eq_decide.mpr ⟨fun h => h.elim (fun e => e ▸ List.mem_cons_self) (List.mem_cons_of_mem _), fun h => (List.mem_cons.mp h).elim (fun e => .inl e.symm) .inr⟩
theorem all_strs (zs : List Str) : (zs.map D.str).all (okn 0) = zs.all PyData.strOk := by
  rw [List.all_map]
  congr 1
theorem all_ints (zs : List Int) : (zs.map D.int).all (okn 0) = true := by
  rw [List.all_map, List.all_eq_true]
  intro x _
  rfl
theorem inR_str {a b : R} {z : Str} {zs : List Str} (ha : a.d = .str z) (hb : b.d = .lst (zs.map D.str) ∨ b.d = .tup (zs.map D.str)) (h : PyData.strOk z = true ∧ zs.all PyData.strOk = true) : inR a b = some (decide (z ∈ zs)) := by
  have e : (okn 0 (.str z) && (zs.map D.str).all (okn 0)) = true := by rw [all_strs, h.2, okn_str, h.1]; rfl
  have e2 := any_strs zs z
  unfold inR
  rcases hb with hb | hb
  · rw [ha, hb]
    show (if _ then some _ else none) = _
    rw [if_pos e, e2]
  · rw [ha, hb]
    show (if _ then some _ else none) = _
    rw [if_pos e, e2]
theorem inR_int {a b : R} {z : Int} {zs : List Int} (ha : a.d = .int z) (hb : b.d = .lst (zs.map D.int) ∨ b.d = .tup (zs.map D.int)) : inR a b = some (decide (z ∈ zs)) := by
  have e : (okn 0 (.int z) && (zs.map D.int).all (okn 0)) = true := by rw [all_ints]; rfl
  have e2 := any_ints zs z
  unfold inR
  rcases hb with hb | hb
  · rw [ha, hb]
    show (if _ then some _ else none) = _
    rw [if_pos e, e2]
  · rw [ha, hb]
    show (if _ then some _ else none) = _
    rw [if_pos e, e2]
theorem f_in {a b : R} {k : Bool} (h : inR a b = some k) : oIn a b = some (.va (.bl k)) := by unfold oIn; rw [h]; rfl
theorem f_nin {a b : R} {k : Bool} (h : inR a b = some k) : oNin a b = some (.va (.bl (!k))) := by unfold oNin; rw [h]; rfl
/-- one sign in a text -/
def sgIn (a z : Str) : Option Bool := match a.cps.toList with
  | [c] => some (decide (c ∈ z.cps.toList))
  | _ => none
theorem inR_sg {a z : Str} {k : Bool} (h : sgIn a z = some k) : inR (.va (.str a)) (.va (.str z)) = some k := h
/-- items -/
theorem f_ixL {a : R} {e : α → D} {xs : List α} {i : Int} {x : α} (h : a.d = .lst (xs.map e)) (k : atI xs i = some x) : oIx a (.va (.int i)) = some (.va (e x)) := by
  rw [oIx_lst h, atI_map, k]; rfl
theorem f_ixT {e : α → D} {xs : List α} {us : List D} {i : Int} {x : α} (h : us = xs.map e) (k : atI xs i = some x) : oIx (.va (.tup us)) (.va (.int i)) = some (.va (e x)) := by
  subst h
  rw [oIx_tup, atI_map, k]; rfl
theorem f_ixR {ns : List Int} {us : List D} {i x : Int} (h : us = ns.map D.int) (k : atI ns i = some x) : oIx (.va (.rol us)) (.va (.int i)) = some (.va (.int x)) := by
  subst h
  rw [oIx_rol, atI_map, k]; rfl
def sgAt (z : Str) (i : Int) : Option Str := (atI z.cps.toList i).map fun c => ⟨#[c]⟩
theorem f_ixS {z x : Str} {i : Int} (h : z.length ≤ 16777216) (k : sgAt z i = some x) : oIx (.va (.str z)) (.va (.int i)) = some (.va (.str x)) := by
  rw [oIx_str, if_pos (show _ ≤ LIM from h)]
  unfold sgAt at k
  obtain ⟨c, e, rfl⟩ := Option.map_eq_some_iff.mp k
  rw [e]; rfl
theorem f_ixC {xs : List D} {x : D} (i : Nat) (h : xs[i]? = some x) : oIx (.va (.tup xs)) (.va (.int (i : Int))) = some (.va x) := by
  rw [oIx_tup, atI_ofNat, h]; rfl
/-- slices -/
theorem x_sl {m : Gm → Option R} {l h : Gm → Option (Option Int)} {a z : R} {lo hi : Option Int} (e1 : m g = some a) (e2 : l g = some lo) (e3 : h g = some hi) (k : oSl a lo hi = some z) : eSl m l h g = some z := by
  show (m g).bind _ = _
  rw [e1]
  show (l g).bind _ = _
  rw [e2]
  show (h g).bind _ = _
  rw [e3]
  exact k
theorem x_pN : pN g = some none := rfl
theorem x_pS {m : Gm → Option R} {i : Int} (h : m g = some (.va (.int i))) : pS m g = some (some i) := by
  show (m g).bind _ = _
  rw [h]; rfl
theorem f_slL {a : R} {e : α → D} {xs : List α} {lo hi : Option Int} (h : a.d = .lst (xs.map e)) : oSl a lo hi = some (.tm ((cutL xs lo hi).map e)) := by
  unfold oSl
  rw [h, ← cut_map]
theorem f_slR {ns : List Int} {us : List D} {lo hi : Option Int} (h : us = ns.map D.int) : oSl (.va (.rol us)) lo hi = some (.tm ((cutL ns lo hi).map D.int)) := by
  subst h
  rw [← cut_map]; rfl
theorem f_slT {e : α → D} {xs : List α} {us : List D} {lo hi : Option Int} (h : us = xs.map e) : oSl (.va (.tup us)) lo hi = some (.va (.tup ((cutL xs lo hi).map e))) := by
  subst h
  rw [← cut_map]; rfl
theorem f_slS {z : Str} {lo hi : Option Int} (h : z.length ≤ 16777216) : oSl (.va (.str z)) lo hi = some (.va (.str (cutS z lo hi))) := if_pos (show _ ≤ LIM from h)
/-- displays -/
theorem f_tup {rs : List R} {ds : List D} (h : rs.all (fun r => !r.wr) = true) (hl : decide (rs.length ≤ LIM) = true) (hd : rs.map R.d = ds) : oTup rs = some (.va (.tup ds)) := by
  subst hd
  rw [oTup_def, if_pos (by rw [h, hl]; rfl)]
theorem f_lst {rs : List R} {ds : List D} (h : rs.all (fun r => !r.wr) = true) (hl : decide (rs.length ≤ LIM) = true) (hd : rs.map R.d = ds) : oLst rs = some (.tm ds) := by
  subst hd
  rw [oLst_def, if_pos (by rw [h, hl]; rfl)]
/-- calls of built-in names -/
theorem f_lenL {a : R} {e : α → D} {xs : List α} (h : a.d = .lst (xs.map e)) : cLen [a] = some (.va (.int xs.length)) := by
  cases a with
  | va d =>
    obtain rfl : d = .lst (xs.map e) := h
    rw [cLen_vlst, List.length_map]
  | tm ds =>
    obtain rfl : ds = xs.map e := by injection h
    rw [cLen_tm, List.length_map]
  | bw j ds =>
    obtain rfl : ds = xs.map e := by injection h
    rw [cLen_bw, List.length_map]
theorem f_lenT {us : List D} {e : α → D} {xs : List α} (h : us = xs.map e) : cLen [.va (.tup us)] = some (.va (.int xs.length)) := by
  subst h
  rw [cLen_tup, List.length_map]
theorem f_lenC {us : List D} {n : Int} (h : (us.length : Int) = n) : cLen [.va (.tup us)] = some (.va (.int n)) := by
  subst h
  rw [cLen_tup]
theorem f_lenR {us : List D} {ns : List Int} (h : us = ns.map D.int) : cLen [.va (.rol us)] = some (.va (.int ns.length)) := by
  subst h
  rw [cLen_rol, List.length_map]
theorem f_lenS {z : Str} (h : z.length ≤ 16777216) : cLen [.va (.str z)] = some (.va (.int z.length)) := by rw [cLen_str, if_pos (show _ ≤ LIM from h)]
theorem f_strI {i : Int} (h : i.natAbs.log2 < 1920) : cStrI [.va (.int i)] = some (.va (.str (toString i))) := by rw [cStrI_def, if_pos h]
def intS (a : Str) : Option Int := if a.length ≤ 640 then PySem.intText? a else none
theorem f_intS {a : Str} {i : Int} (h : intS a = some i) : cInt [.va (.str a)] = some (.va (.int i)) := by
  unfold intS at h
  split at h
  · rename_i c
    rw [cInt_str, if_pos c, h]; rfl
  · cases h
theorem f_sum {r : R} {ns : List Int} (h : r.d = .lst (ns.map D.int)) : cSum [r] = some (.va (.int ns.sum)) := cSum_def h
theorem f_all {r : R} {ns : List Bool} (h : r.d = .lst (ns.map D.bl)) : cAll [r] = some (.va (.bl (ns.all id))) := cAll_def h
theorem f_any {r : R} {ns : List Bool} (h : r.d = .lst (ns.map D.bl)) : cAny [r] = some (.va (.bl (ns.any id))) := cAny_def h
theorem f_max1 {r : R} {ns : List Int} {n : Int} (h : r.d = .lst (ns.map D.int)) (k : maxL ns = some n) : cMax1 [r] = some (.va (.int n)) := by
  show (((lstD r.d).bind intsOf).bind maxL).map _ = _
  rw [h]
  show ((intsOf (ns.map D.int)).bind maxL).map _ = _
  rw [intsOf_map]
  show (maxL ns).map _ = _
  rw [k]; rfl
theorem f_min1 {r : R} {ns : List Int} {n : Int} (h : r.d = .lst (ns.map D.int)) (k : minL ns = some n) : cMin1 [r] = some (.va (.int n)) := by
  show (((lstD r.d).bind intsOf).bind minL).map _ = _
  rw [h]
  show ((intsOf (ns.map D.int)).bind minL).map _ = _
  rw [intsOf_map]
  show (minL ns).map _ = _
  rw [k]; rfl
theorem f_list {r : R} {ds : List D} (h : r.d = .lst ds ∨ r.d = .tup ds) : cList [r] = some (.tm ds) := by
  show (match r.d with | .lst ds => some (R.tm ds) | .tup ds => some (R.tm ds) | _ => none) = _
  rcases h with h | h <;> rw [h]
theorem f_tuple {r : R} {ds : List D} (h : r.d = .lst ds ∨ r.d = .tup ds) : cTuple [r] = some (.va (.tup ds)) := by
  show (match r.d with | .lst ds => some (R.va (.tup ds)) | .tup ds => some (R.va (.tup ds)) | _ => none) = _
  rcases h with h | h <;> rw [h]
theorem f_isi {T : BTy} {a : Gm → Option R} {r : R} {b : Bool} (h : a g = some r) (ht : r.isTm = false) (k : isB T r.d = some b) : eIs T a g = some (.va (.bl b)) := by
  rw [eIs_def, h, b1_some, isO_def, ht, if_neg (by decide), k]; rfl
theorem f_isi2 {T U : BTy} {a : Gm → Option R} {r : R} {b c : Bool} (h : a g = some r) (ht : r.isTm = false) (k : isB T r.d = some b) (k' : isB U r.d = some c) : eIs2 T U a g = some (.va (.bl (b || c))) := by
  rw [eIs2_def, h, b1_some, isO2_def, ht, if_neg (by decide), k, k']; rfl
/-- own defs -/
theorem f_call {φ : Phi} {dds : List D} {rs : List R} {z : R} (h : φ (rs.map R.d ++ dds) = some z) (ht : rs.any R.isTm = false) (hb : rs.any R.isBw = false ∨ z.lf = true ∨ z.lfk (lentK rs) = true) : callR φ dds rs = some z := by
  rw [callR_def, ht, if_neg (by decide), h, b1_some]
  unfold kR
  rcases hb with hb | hb | hb
  · rw [hb]; rfl
  · rw [hb, Bool.or_true, Bool.true_or, if_pos rfl]
  · rw [hb, Bool.or_true, if_pos rfl]
theorem f_make {c n : Nat} {ms : List (Gm → Option R)} {rs : List R} {ds es : List D} (hl : rs.length = n) (h : allVa rs = some ds) (k : inis ms (.un :: ds.map .va) = some es) : cMkN c n ms rs = some (.va (.ins c es)) := by
  rw [cMkN_def, if_pos hl, cMk_def, h, b1_some, k]; rfl
theorem f_isb (p : Pc) : cIsB (.va (insP p)) = some (.va (.bl (isBr p))) := by cases p <;> rfl
theorem f_pcLen (p : Pc) : oFld "length" (.va (insP p)) = some (.va (.int (pcLen p))) := by cases p <;> rfl
theorem f_fld {f : Str} {c : Nat} {ds : List D} {d : D} (h : fldD c ds f = some d) : oFld f (.va (.ins c ds)) = some (.va d) := by rw [oFld_ins, h]; rfl
theorem pc_br {p : Pc} {b : Bg} (h : pcBr p = some b) : insP p = insB b := by
  cases p with
  | inl n => cases h
  | inr c => cases h; rfl
/-- texts -/
theorem f_sw (a b : Str) : f2s gSw (.va (.str a)) (.va (.str b)) = some (.va (.bl (Txt.startswith a b))) := rfl
theorem f_find (a b : Str) : f2s gFind (.va (.str a)) (.va (.str b)) = some (.va (.int (Txt.find a b))) := rfl
theorem f_part {a b : Str} (h : (b.length == 0) = false ∧ a.length ≤ 16777216) : f2s gPart (.va (.str a)) (.va (.str b)) = some (.va (.tup [.str (Txt.partition a b).1, .str (Txt.partition a b).2.1, .str (Txt.partition a b).2.2])) := if_pos (show _ ∧ _ ≤ LIM from h)
theorem f_split {a b : Str} (h : (b.length == 0) = false ∧ a.length + 2 ≤ 16777216) : f2s gSplit (.va (.str a)) (.va (.str b)) = some (.tm ((Txt.split a b).map .str)) := if_pos (show _ ∧ _ ≤ LIM from h)
theorem f_join {a : Str} {r : R} {zs : List Str} (hr : r.seq = some (zs.map D.str)) (h : (zs.map (·.length)).sum + zs.length * a.length ≤ 16777216) : fJoin (.va (.str a)) r = some (.va (.str (Txt.join a zs))) := by
  show (r.seq.bind fun ds => (strsD ds).bind fun zs => if (zs.map (·.length)).sum + zs.length * a.length ≤ 16777216 then some (R.va (.str (Txt.join a zs))) else none) = _
  rw [hr]
  show ((strsD (zs.map D.str)).bind _) = _
  rw [strsD_map]
  exact if_pos h
/-- walks -/
theorem i_seq {m : Gm → Option R} {r : R} {p : List Nat × List D} (h : m g = some r) (k : seqR r = some p) : iSeq m g = some p := by rw [iSeq_def, h, b1_some, k]
theorem i_A {f : List R → Option (List Nat × List D)} {ms : Gm → Option (List R)} {rs : List R} {p : List Nat × List D} (h : ms g = some rs) (k : f rs = some p) : iA f ms g = some p := by rw [iA_def, h, b1_some, k]
def rgI (a b : Int) : List Int := (List.range (b - a).toNat).map fun i : Nat => a + (i : Int)
theorem rangeL_rgI (lo : Int) (n : Nat) : rangeL lo n = ((List.range n).map fun i : Nat => lo + (i : Int)).map D.int := by
  apply List.ext_getElem?
  intro i
  by_cases h : i < n
  · rw [rangeL_get n lo i h, List.getElem?_map, List.getElem?_map, List.getElem?_range h]; rfl
  · rw [List.getElem?_eq_none (by rw [rangeL_length]; omega), List.getElem?_eq_none (by simp; omega)]
theorem f_rg1 {j : Int} (h : -4611686018427387904 ≤ j ∧ j < 4611686018427387904) : rg1R [.va (.int j)] = some ([], (rgI 0 j).map D.int) := by
  rw [rg1R_def, if_pos (by omega), rangeL_rgI, rgI, Int.sub_zero]
theorem f_rg2 {i j : Int} (h : (-4611686018427387904 ≤ i ∧ i < 4611686018427387904) ∧ -4611686018427387904 ≤ j ∧ j < 4611686018427387904) : rg2R [.va (.int i), .va (.int j)] = some ([], (rgI i j).map D.int) := by
  rw [rg2R_def, if_pos (by omega), rangeL_rgI, rgI]
def enI {α : Type} (xs : List α) : List (Int × α) := xs.zipIdx.map fun p => ((p.2 : Int), p.1)
theorem f_en {r : R} {ps : List Nat} {e : α → D} {xs : List α} (h : listA r = some (ps, xs.map e)) : enR [r] = some (ps, (enI xs).map (eP2 D.int e)) := by
  rw [enR_def, h]
  show some (ps, enumL 0 (xs.map e)) = _
  rw [enumL_map, enI, List.map_map]
  rfl
theorem zipL_map {e : α → D} {f : β → D} : ∀ (xs : List α) (ys : List β), zipL (xs.map e) (ys.map f) = (xs.zip ys).map (eP2 e f)
  | [], _ => rfl
  | _ :: _, [] => rfl
  | x :: xs, y :: ys => by
    show D.tup _ :: zipL (xs.map e) (ys.map f) = _
    rw [zipL_map xs ys]; rfl
theorem zpR_gen {r s : R} {ps qs : List Nat} {xs ys : List D} (h : listA r = some (ps, xs)) (k : listA s = some (qs, ys)) : zpR [r, s] = some (ps ++ qs, zipL xs ys) := by
  have : zpR [r, s] = (listA r).bind fun p => (listA s).map fun q => (p.1 ++ q.1, zipL p.2 q.2) := by
    unfold zpR
    split
    · rename_i e
      cases e
      cases h
    · rename_i e
      cases e
      rfl
    · rename_i h1
      exact absurd rfl (h1 r s)
  rw [this, h]
  show ((listA s).map _) = _
  rw [k]; rfl
theorem f_zp {r s : R} {ps qs : List Nat} {e : α → D} {f : β → D} {xs : List α} {ys : List β} (h : listA r = some (ps, xs.map e)) (k : listA s = some (qs, ys.map f)) : zpR [r, s] = some (ps ++ qs, (xs.zip ys).map (eP2 e f)) := by
  rw [zpR_gen h k, zipL_map]
theorem f_zpT {e : α → D} {f : β → D} {xs : List α} {ys : List β} {us vs : List D} (h : us = xs.map e) (k : vs = ys.map f) : zpR [.va (.tup us), .va (.tup vs)] = some ([], (xs.zip ys).map (eP2 e f)) := by
  subst h; subst k
  rw [zpR_tt, zipL_map]
theorem f_rv {r : R} {ps : List Nat} {e : α → D} {xs : List α} (h : listA r = some (ps, xs.map e)) : rvR [r] = some (ps, xs.reverse.map e) := by
  rw [rvR_def, h, List.map_reverse]; rfl
def sgs (z : Str) : List Str := z.cps.toList.map fun c => ⟨#[c]⟩
theorem signs_sgs (z : Str) : signs z = (sgs z).map D.str := by
  unfold signs sgs
  rw [List.map_map]; rfl
/-- comprehensions -/
theorem x_lc {mi : Gm → Option (List Nat × List D)} {f : D → Gm → Option Gm} {el : Gm → Option R} {own : List Nat} {ps : List Nat} {e : α → D} {e' : β → D} {xs : List α} {v : α → β} (r : α → R) (hm : mi g = some (ps, xs.map e)) (hl : xs.length ≤ 16777216) (h : ∀ x ∈ xs, ∃ g1, f (e x) (wipeG g own) = some g1 ∧ el g1 = some (r x)) (hr : ∀ x, (r x).isBw = false ∧ (r x).d = e' (v x) := by exact fun _ => ⟨rfl, rfl⟩) : eLc mi f bY el own g = some (.tm ((xs.map v).map e')) := by
  rw [eLc_def, hm, b1_some, lcO_def, if_pos (by rw [List.length_map]; exact hl), compL_map f bY el (wipeG g own) e (fun x => e' (v x)) xs, List.map_map]
  · rfl
  · intro x hx rest
    obtain ⟨g1, h1, h2⟩ := h x hx
    obtain ⟨h3, h4⟩ := hr x
    rw [h1, b1_some, cpG_def, bY_def, b1_some, cpK_def, if_pos rfl, h2, b1_some]
    unfold cpR
    rw [h3, h4]; rfl
theorem x_lcF {mi : Gm → Option (List Nat × List D)} {f : D → Gm → Option Gm} {c : Gm → Option Bool} {el : Gm → Option R} {own : List Nat} {ps : List Nat} {e : α → D} {e' : β → D} {xs : List α} {v : α → β} (k : α → Bool) (r : α → R) (hm : mi g = some (ps, xs.map e)) (hl : xs.length ≤ 16777216) (h : ∀ x ∈ xs, ∃ g1, f (e x) (wipeG g own) = some g1 ∧ c g1 = some (k x) ∧ el g1 = some (r x)) (hr : ∀ x, (r x).isBw = false ∧ (r x).d = e' (v x) := by exact fun _ => ⟨rfl, rfl⟩) : eLc mi f c el own g = some (.tm (((xs.filter k).map v).map e')) := by
  rw [eLc_def, hm, b1_some, lcO_def, if_pos (by rw [List.length_map]; exact hl), compL_filter f c el (wipeG g own) e (fun x => e' (v x)) k xs, List.map_map]
  · rfl
  · intro x hx rest
    obtain ⟨g1, h1, h5, h2⟩ := h x hx
    obtain ⟨h3, h4⟩ := hr x
    rw [h1, b1_some, cpG_def, h5, b1_some, cpK_def, h2, b1_some]
    unfold cpR
    rw [h3, h4]
    cases k x <;> rfl
theorem compL_mapO {f : D → Gm → Option Gm} {el : Gm → Option R} {g0 : Gm} {e : α → D} {e' : β → D} (p : α → Option β) (r : β → R) (hr : ∀ x, (r x).isBw = false ∧ (r x).d = e' x) : ∀ (xs : List α), (∀ x ∈ xs, ∃ g1, f (e x) g0 = some g1 ∧ Sm (el g1) (p x) fun y z => z = r y) → ∀ ys, mapO p xs = some ys → compL f bY el g0 (xs.map e) = some (ys.map e')
  | [], _, ys, h => by cases h; rfl
  | x :: xs, step, ys, h => by
    obtain ⟨g1, h1, h2⟩ := step x List.mem_cons_self
    cases e1 : p x with
    | none => rw [mapO, e1] at h; cases h
    | some y =>
      rw [mapO, e1, b1_some] at h
      cases e2 : mapO p xs with
      | none => rw [e2] at h; cases h
      | some zs =>
        rw [e2, b1_some] at h
        cases h
        obtain ⟨h3, h4⟩ := hr y
        rw [List.map_cons, compL_cons, h1, b1_some, cpG_def, bY_def, b1_some, cpK_def, if_pos rfl, h2.eq e1, b1_some, compL_mapO p r hr xs (fun z hz => step z (List.mem_cons_of_mem _ hz)) zs e2]
        unfold cpR
        rw [h3, h4]; rfl
theorem x_lcO {mi : Gm → Option (List Nat × List D)} {f : D → Gm → Option Gm} {el : Gm → Option R} {own : List Nat} {ps : List Nat} {e : α → D} {e' : β → D} {xs : List α} {p : α → Option β} {ys : List β} (r : β → R) (hm : mi g = some (ps, xs.map e)) (hl : xs.length ≤ 16777216) (h : ∀ x ∈ xs, ∃ g1, f (e x) (wipeG g own) = some g1 ∧ Sm (el g1) (p x) fun y z => z = r y) (hy : mapO p xs = some ys) (hr : ∀ x, (r x).isBw = false ∧ (r x).d = e' x := by exact fun _ => ⟨rfl, rfl⟩) : eLc mi f bY el own g = some (.tm (ys.map e')) := by
  rw [eLc_def, hm, b1_some, lcO_def, if_pos (by rw [List.length_map]; exact hl), compL_mapO p r hr xs h ys hy]; rfl
theorem compL_fmapO {f : D → Gm → Option Gm} {c : Gm → Option Bool} {el : Gm → Option R} {g0 : Gm} {e : α → D} {e' : β → D} (k : α → Option Bool) (p : α → Option β) (r : β → R) (hr : ∀ x, (r x).isBw = false ∧ (r x).d = e' x) : ∀ (xs : List α), (∀ x ∈ xs, ∃ g1, f (e x) g0 = some g1 ∧ Sm (c g1) (k x) (fun y z => z = y) ∧ (Sm (el g1) (p x) fun y z => z = r y)) → ∀ ys, fmapO k p xs = some ys → compL f c el g0 (xs.map e) = some (ys.map e')
  | [], _, ys, h => by cases h; rfl
  | x :: xs, step, ys, h => by
    obtain ⟨g1, h1, h5, h2⟩ := step x List.mem_cons_self
    cases e0 : k x with
    | none => rw [fmapO, e0] at h; cases h
    | some q =>
      rw [fmapO, e0, b1_some] at h
      have e00 := h5.eq (k := id) e0
      cases q with
      | false =>
        rw [if_neg (by decide)] at h
        rw [List.map_cons, compL_cons, h1, b1_some, cpG_def, e00, b1_some, cpK_def]
        show (if false = true then _ else _) = _
        rw [if_neg (by decide)]
        exact compL_fmapO k p r hr xs (fun z hz => step z (List.mem_cons_of_mem _ hz)) ys h
      | true =>
        rw [if_pos rfl] at h
        cases e1 : p x with
        | none => rw [e1] at h; cases h
        | some y =>
          rw [e1, b1_some] at h
          cases e2 : fmapO k p xs with
          | none => rw [e2] at h; cases h
          | some zs =>
            rw [e2, b1_some] at h
            cases h
            obtain ⟨h3, h4⟩ := hr y
            rw [List.map_cons, compL_cons, h1, b1_some, cpG_def, e00, b1_some, cpK_def]
            show (if true = true then _ else _) = _
            rw [if_pos rfl, h2.eq e1, b1_some, compL_fmapO k p r hr xs (fun z hz => step z (List.mem_cons_of_mem _ hz)) zs e2]
            unfold cpR
            rw [h3, h4]; rfl
theorem x_lcFO {mi : Gm → Option (List Nat × List D)} {f : D → Gm → Option Gm} {c : Gm → Option Bool} {el : Gm → Option R} {own : List Nat} {ps : List Nat} {e : α → D} {e' : β → D} {xs : List α} {k : α → Option Bool} {p : α → Option β} {ys : List β} (r : β → R) (hm : mi g = some (ps, xs.map e)) (hl : xs.length ≤ 16777216) (h : ∀ x ∈ xs, ∃ g1, f (e x) (wipeG g own) = some g1 ∧ Sm (c g1) (k x) (fun y z => z = y) ∧ (Sm (el g1) (p x) fun y z => z = r y)) (hy : fmapO k p xs = some ys) (hr : ∀ x, (r x).isBw = false ∧ (r x).d = e' x := by exact fun _ => ⟨rfl, rfl⟩) : eLc mi f c el own g = some (.tm (ys.map e')) := by
  rw [eLc_def, hm, b1_some, lcO_def, if_pos (by rw [List.length_map]; exact hl), compL_fmapO k p r hr xs h ys hy]; rfl
end
end BK
namespace BK
open PySem PySem.Spec L2
set_option autoImplicit false
theorem j_lt {α γ : Type} {m n : Gm → Option Out} {P : α → Out → Prop} {t : γ → Option α} (G : γ → Gm) {v : γ} (h : ∀ x, J m n (G x) (t x) P) : J m n (G v) (lt v t) P := h v
section
variable {g : Gm} {α β γ δ ε ζ : Type}
theorem x_get {m : Gm → Option R} {e : α → D} {o : Option α} {x : α} (p : m g = some (.va (eO e o))) (h : o = some x) : m g = some (.va (e x)) := by rw [p, h]; rfl
theorem x_br {m : Gm → Option R} {q : Pc} {b : Bg} (p : m g = some (.va (insP q))) (h : pcBr q = some b) : m g = some (.va (insB b)) := by rw [p, pc_br h]
def dInt : D → Option Int
  | .int i => some i
  | _ => none
def dStr : D → Option Str
  | .str i => some i
  | _ => none
def dBl : D → Option Bool
  | .bl i => some i
  | _ => none
theorem dInt_eq {d : D} {i : Int} (h : dInt d = some i) : d = .int i := by cases d <;> first | (cases h; rfl) | cases h
theorem dStr_eq {d : D} {i : Str} (h : dStr d = some i) : d = .str i := by cases d <;> first | (cases h; rfl) | cases h
theorem dBl_eq {d : D} {i : Bool} (h : dBl d = some i) : d = .bl i := by cases d <;> first | (cases h; rfl) | cases h
theorem x_dInt {m : Gm → Option R} {d : D} {i : Int} (p : m g = some (.va d)) (h : dInt d = some i) : m g = some (.va (.int i)) := by rw [p, dInt_eq h]
theorem x_dStr {m : Gm → Option R} {d : D} {i : Str} (p : m g = some (.va d)) (h : dStr d = some i) : m g = some (.va (.str i)) := by rw [p, dStr_eq h]
theorem x_dBl {m : Gm → Option R} {d : D} {i : Bool} (p : m g = some (.va d)) (h : dBl d = some i) : m g = some (.va (.bl i)) := by rw [p, dBl_eq h]
theorem f_addP {xs ys : List D} (h : decide (xs.length + ys.length ≤ LIM) = true) : oAdd (.va (.tup xs)) (.va (.tup ys)) = some (.va (.tup (xs ++ ys))) := by
  rw [oAdd_tup, if_pos (of_decide_eq_true h)]
theorem f_divK {i k : Int} (h : 0 < k ∧ k < 18446744073709551616) : oDiv (.va (.int i)) (.va (.int k)) = some (.va (.int (i / k))) := by
  rw [oDiv_def, if_pos (cdivB_small h.1 h.2), fdiv_nn (by omega)]
theorem f_modK {i k : Int} (h : 0 < k) : oMod (.va (.int i)) (.va (.int k)) = some (.va (.int (i % k))) := by
  rw [oMod_def, if_pos (by omega), fmod_nn (by omega)]
theorem f_powK {i j k : Int} (h : (0 ≤ i ∧ i < 18446744073709551616) ∧ 0 ≤ j ∧ j ≤ 1000000) (e : i ^ j.toNat = k) : oPow (.va (.int i)) (.va (.int j)) = some (.va (.int k)) := by
  rw [oPow_def, if_pos (cpow_small (by omega) h.1.2 h.2.1 h.2.2), e]
def eqD (a b : D) : Option Bool := eqR (.va a) (.va b)
theorem eqD_R {a b : R} {x y : D} {k : Bool} (h : eqD x y = some k) (ha : a.d = x) (hb : b.d = y) : eqR a b = some k := by
  subst ha; subst hb
  rw [← h]; rfl
def lenD (d : D) : Option Int := (cLen [.va d]).bind fun r => match r with
  | .va (.int i) => some i
  | _ => none
theorem f_lenD {d : D} {i : Int} (h : lenD d = some i) : cLen [.va d] = some (.va (.int i)) := by
  unfold lenD at h
  obtain ⟨r, e1, e2⟩ := Option.bind_eq_some_iff.mp h
  split at e2
  · cases e2; exact e1
  · cases e2
def ixD' (d : D) (i : Int) : Option D := (oIx (.va d) (.va (.int i))).bind fun r => match r with
  | .va d => some d
  | _ => none
theorem f_ixD {d x : D} {i : Int} (h : ixD' d i = some x) : oIx (.va d) (.va (.int i)) = some (.va x) := by
  unfold ixD' at h
  obtain ⟨r, e1, e2⟩ := Option.bind_eq_some_iff.mp h
  split at e2
  · cases e2; exact e1
  · cases e2
theorem f_iscOpen {cs : List Nat} (p : Pc) (h0 : cs.contains 0 = true) (h1 : cs.contains 1 = true) : cIsC cs 0 (.va (insP p)) = some (.va (.bl (!isBr p))) := by
  cases p with
  | inl n => show (if cs.contains 0 = true then _ else _) = _; rw [if_pos h0]; rfl
  | inr b => show (if cs.contains 1 = true then _ else _) = _; rw [if_pos h1]; rfl
theorem f_iscBridge {cs : List Nat} (p : Pc) (h0 : cs.contains 0 = true) (h1 : cs.contains 1 = true) : cIsC cs 1 (.va (insP p)) = some (.va (.bl (isBr p))) := by
  cases p with
  | inl n => show (if cs.contains 0 = true then _ else _) = _; rw [if_pos h0]; rfl
  | inr b => show (if cs.contains 1 = true then _ else _) = _; rw [if_pos h1]; rfl
/-- no list within -/
structure LF (n : Nat) (e : α → D) : Prop where
  lf : ∀ x, lfn n (e x) = true
theorem lf_vaE {e : α → D} {x : α} (h : LF 8 e) : (R.va (e x)).lf = true := h.lf x
theorem lf_tmE {e : α → D} {xs : List α} (h : LF 8 e) : (R.tm (xs.map e)).lf = true := by
  show (xs.map e).all (lfn 8) = true
  rw [List.all_map, List.all_eq_true]
  exact fun x _ => h.lf x
theorem LF_int (n : Nat) : LF n D.int := ⟨fun _ => lfn_int ..⟩
theorem LF_bool (n : Nat) : LF n D.bl := ⟨fun _ => lfn_bl ..⟩
theorem LF_str (n : Nat) : LF n D.str := ⟨fun _ => lfn_str ..⟩
theorem LF_unit (n : Nat) : LF n eU := ⟨fun _ => lfn_non ..⟩
theorem LF_O {n : Nat} {e : α → D} (h : LF n e) : LF n (eO e) := ⟨fun x => by
  cases x with
  | none => exact lfn_non _
  | some x => exact h.lf x⟩
theorem LF_T {n : Nat} {e : α → D} (h : LF n e) : LF (n + 1) (eT e) := ⟨fun xs => by
  rw [lfn_tup, List.all_map, List.all_eq_true]; exact fun x _ => h.lf x⟩
theorem LF_P1 {n : Nat} {a : α → D} (ha : LF n a) : LF (n + 1) (eP1 a) := ⟨fun x => by simp [ha.lf]⟩
theorem LF_P2 {n : Nat} {a : α → D} {b : β → D} (ha : LF n a) (hb : LF n b) : LF (n + 1) (eP2 a b) := ⟨fun x => by simp [ha.lf, hb.lf]⟩
theorem LF_P3 {n : Nat} {a : α → D} {b : β → D} {c : γ → D} (ha : LF n a) (hb : LF n b) (hc : LF n c) : LF (n + 1) (eP3 a b c) := ⟨fun x => by simp [ha.lf, hb.lf, hc.lf]⟩
theorem LF_P4 {n : Nat} {a : α → D} {b : β → D} {c : γ → D} {d : δ → D} (ha : LF n a) (hb : LF n b) (hc : LF n c) (hd : LF n d) : LF (n + 1) (eP4 a b c d) := ⟨fun x => by simp [ha.lf, hb.lf, hc.lf, hd.lf]⟩
theorem LF_P5 {n : Nat} {a : α → D} {b : β → D} {c : γ → D} {d : δ → D} {e : ε → D} (ha : LF n a) (hb : LF n b) (hc : LF n c) (hd : LF n d) (he : LF n e) : LF (n + 1) (eP5 a b c d e) := ⟨fun x => by simp [ha.lf, hb.lf, hc.lf, hd.lf, he.lf]⟩
theorem LF_P6 {n : Nat} {a : α → D} {b : β → D} {c : γ → D} {d : δ → D} {e : ε → D} {f : ζ → D} (ha : LF n a) (hb : LF n b) (hc : LF n c) (hd : LF n d) (he : LF n e) (hf : LF n f) : LF (n + 1) (eP6 a b c d e f) := ⟨fun x => by simp [ha.lf, hb.lf, hc.lf, hd.lf, he.lf, hf.lf]⟩
theorem LF_Bg (n : Nat) : LF (n + 1) insB := ⟨fun x => by simp⟩
theorem LF_Pc (n : Nat) : LF (n + 1) insP := ⟨fun x => by cases x <;> simp [insP]⟩
theorem LF_ {n : Nat} {a : α → D} (ha : LF n a) : LF n a := ha
theorem OK_O {n : Nat} {e : α → D} (h : OK n e) : OK n (eO e) := ⟨fun x => by
  cases x with
  | none => exact okn_non n
  | some x => exact h.ok x⟩
theorem EQ_O {n : Nat} [DecidableEq α] {e : α → D} (h : EQ n e) (hn : ∀ x, eqn n .non (e x) = false ∧ eqn n (e x) .non = false := by exact fun x => ⟨rfl, rfl⟩) : EQ n (eO e) := ⟨fun x y => by
  cases x with
  | none =>
    cases y with
    | none => exact eqn_non n
    | some y => exact ((hn y).1).trans (by simp)
  | some x =>
    cases y with
    | none => exact ((hn x).2).trans (by simp)
    | some y =>
      show eqn n (e x) (e y) = _
      rw [h.eq]
      exact decide_eq_decide.mpr ⟨fun h => h ▸ rfl, fun h => Option.some.inj h⟩⟩
end
instance iq1 : DecidableEq (List (Int × Int × Int)) := inferInstance
instance iq2 : DecidableEq (Int × List (Int × Int × Int)) := inferInstance
instance iq3 : DecidableEq ((Int × Int) × Int × List (Int × Int × Int)) := inferInstance
instance iq4 : DecidableEq (Str × (Int × Int) × Int × (List (Int × Int × Int))) := inferInstance
end BK
namespace BK
open PySem PySem.Spec L2
set_option autoImplicit false
/-! ### reckonings shown -/
def Gs {α : Type} (s : Option α) (P : α → Prop) : Prop := ∃ r, s = some r ∧ P r
section
variable {α β γ σ ρ : Type} {P : α → Prop} {s : Option α}
theorem gs_some {v : α} (h : P v) : Gs (some v) P := ⟨v, rfl, h⟩
theorem gs_of {v : α} (e : s = some v) (h : P v) : Gs s P := ⟨v, e, h⟩
theorem Gs.mono {Q : α → Prop} (h : Gs s Q) (k : ∀ x, Q x → P x) : Gs s P := by
  obtain ⟨r, e, q⟩ := h
  exact ⟨r, e, k r q⟩
theorem Gs.eq {v : α} (h : Gs s fun x => x = v) : s = some v := by
  obtain ⟨r, e, rfl⟩ := h
  exact e
theorem gs_b1 {p : Option γ} {t : γ → Option α} {Q : γ → Prop} (h : Gs p Q) (k : ∀ x, Q x → Gs (t x) P) : Gs (b1 p t) P := by
  obtain ⟨x, e, q⟩ := h
  rw [e, b1_some]
  exact k x q
theorem gs_eq {p : Option γ} {t : γ → Option α} {x : γ} (h : p = some x) (k : Gs (t x) P) : Gs (b1 p t) P := by
  rw [h, b1_some]
  exact k
theorem gs_lt {v : γ} {t : γ → Option α} (k : Gs (t v) P) : Gs (lt v t) P := k
theorem gs_ltE {v : γ} {t : γ → Option α} (k : ∀ x, x = v → Gs (t x) P) : Gs (lt v t) P := k v rfl
theorem gs_grd {p : Prop} [Decidable p] (h : p) (k : Gs s P) : Gs (grd p s) P := by rw [grd_pos h]; exact k
theorem gs_if {c : Bool} {a b : Option α} (h1 : c = true → Gs a P) (h2 : c = false → Gs b P) : Gs (if c = true then a else b) P := by
  cases c
  · exact h2 rfl
  · exact h1 rfl
theorem gs_ifT {c : Bool} {a b : Option α} (h : c = true) (k : Gs a P) : Gs (if c = true then a else b) P := by rw [if_pos h]; exact k
theorem gs_ifF {c : Bool} {a b : Option α} (h : c = false) (k : Gs b P) : Gs (if c = true then a else b) P := by rw [h, if_neg (by decide)]; exact k
theorem forO_inv {body : α → σ → Option σ} (I : List α → σ → Prop) (xs : List α) (step : ∀ pre x st, (∃ post, xs = pre ++ x :: post) → I pre st → Gs (body x st) (I (pre ++ [x]))) : ∀ st, I [] st → Gs (forO body xs st) (I xs) := by
  have key : ∀ (post pre : List α) st, xs = pre ++ post → I pre st → Gs (forO body post st) (I xs) := by
    intro post
    induction post with
    | nil =>
      intro pre st e h
      rw [List.append_nil] at e
      subst e
      exact gs_some h
    | cons x post ih =>
      intro pre st e h
      exact gs_b1 (step pre x st ⟨post, e⟩ h) fun st' h' => ih (pre ++ [x]) st' (by rw [e, List.append_assoc]; rfl) h'
  exact fun st h => key xs [] st rfl h
theorem gs_forO {γ : Type} {body : γ → σ → Option σ} {xs : List γ} {st0 : σ} {t : σ → Option α} (I : List γ → σ → Prop) (h0 : I [] st0) (step : ∀ pre x st, (∃ post, xs = pre ++ x :: post) → I pre st → Gs (body x st) (I (pre ++ [x]))) (k : ∀ st, I xs st → Gs (t st) P) : Gs (b1 (forO body xs st0) t) P := gs_b1 (forO_inv I xs step st0 h0) k
theorem forO_map {f : β → α} {body : α → σ → Option σ} : ∀ (xs : List β) st, forO body (xs.map f) st = forO (fun x => body (f x)) xs st
  | [], _ => rfl
  | x :: xs, st => by
    show b1 (body (f x) st) (forO body (xs.map f)) = b1 (body (f x) st) (forO (fun x => body (f x)) xs)
    congr 1
    funext st
    exact forO_map xs st
theorem forC_map {f : β → α} {body : α → σ → Option (Ctl σ ρ)} : ∀ (xs : List β) st, forC body (xs.map f) st = forC (fun x => body (f x)) xs st
  | [], _ => rfl
  | x :: xs, st => by
    show b1 (body (f x) st) _ = b1 (body (f x) st) _
    congr 1
    funext c
    cases c with
    | nx s => exact forC_map xs s
    | bk s => rfl
    | rt r => rfl
theorem rgI_nat {m : Int} {n : Nat} (h : m = n) : rgI 0 m = (List.range n).map fun i : Nat => (i : Int) := by
  subst h
  unfold rgI
  rw [Int.sub_zero, Int.toNat_natCast]
  exact List.map_congr_left fun i _ => Int.zero_add _
theorem gs_rg {body : Int → σ → Option σ} {st0 : σ} {t : σ → Option α} {m : Int} (n : Nat) (I : Nat → σ → Prop) (hm : m = n) (h0 : I 0 st0) (step : ∀ (k : Nat) st, k < n → I k st → Gs (body (k : Int) st) (I (k + 1))) (q : ∀ st, I n st → Gs (t st) P) : Gs (b1 (forO body (rgI 0 m) st0) t) P := by
  rw [rgI_nat hm, forO_map]
  refine gs_forO (fun pre st => I pre.length st) h0 ?_ ?_
  · intro pre x st hx h
    obtain ⟨h1, h2⟩ := range_split hx
    have e : pre.length = x := by rw [h2, List.length_range]
    rw [e] at h
    rw [List.length_append, e]
    exact step x st h1 h
  · intro st h
    rw [List.length_range] at h
    exact q st h
/-- a loop that may hand back: it goes through -/
theorem forC_inv {body : α → σ → Option (Ctl σ ρ)} (I : List α → σ → Prop) (xs : List α) (step : ∀ pre x st, (∃ post, xs = pre ++ x :: post) → I pre st → Gs (body x st) fun c => ∃ s, c = .nx s ∧ I (pre ++ [x]) s) : ∀ st, I [] st → Gs (forC body xs st) fun c => ∃ s, c = .nx s ∧ I xs s := by
  have key : ∀ (post pre : List α) st, xs = pre ++ post → I pre st → Gs (forC body post st) fun c => ∃ s, c = .nx s ∧ I xs s := by
    intro post
    induction post with
    | nil =>
      intro pre st e h
      rw [List.append_nil] at e
      subst e
      exact gs_some ⟨st, rfl, h⟩
    | cons x post ih =>
      intro pre st e h
      refine gs_b1 (step pre x st ⟨post, e⟩ h) fun c hc => ?_
      obtain ⟨s, rfl, h'⟩ := hc
      exact ih (pre ++ [x]) s (by rw [e, List.append_assoc]; rfl) h'
  exact fun st h => key xs [] st rfl h
theorem gs_forC {γ : Type} {body : γ → σ → Option (Ctl σ ρ)} {xs : List γ} {st0 : σ} {t : σ → Option α} {u : ρ → Option α} (I : List γ → σ → Prop) (h0 : I [] st0) (step : ∀ pre x st, (∃ post, xs = pre ++ x :: post) → I pre st → Gs (body x st) fun c => ∃ s, c = .nx s ∧ I (pre ++ [x]) s) (k : ∀ st, I xs st → Gs (t st) P) : Gs (b1 (forC body xs st0) fun c => ctl c t u) P := by
  refine gs_b1 (forC_inv I xs step st0 h0) fun c hc => ?_
  obtain ⟨s, rfl, h⟩ := hc
  exact k s h
/-- .. or hands back at the first item of a kind -/
theorem forC_find {body : α → Unit → Option (Ctl Unit ρ)} (p : α → Bool) (out : α → ρ) : ∀ (xs : List α), (∀ x ∈ xs, (p x = true → body x () = some (.rt (out x))) ∧ (p x = false → body x () = some (.nx ()))) → forC body xs () = some (match xs.find? p with | some x => .rt (out x) | none => .nx ())
  | [], _ => rfl
  | x :: xs, h => by
    obtain ⟨h1, h2⟩ := h x List.mem_cons_self
    rw [forC]
    cases e : p x with
    | true => rw [h1 e, List.find?_cons_of_pos e]; rfl
    | false =>
      rw [h2 e, b1_some, List.find?_cons_of_neg (by rw [e]; decide)]
      exact forC_find p out xs fun y hy => h y (List.mem_cons_of_mem _ hy)
theorem whO_inv {c : σ → Option Bool} {body : σ → Option σ} (I : σ → Prop) (Q : σ → Prop) (μ : σ → Nat) (step : ∀ st, I st → (c st = some false ∧ Q st) ∨ (c st = some true ∧ Gs (body st) fun st' => I st' ∧ μ st' < μ st)) : ∀ (n : Nat) st, I st → μ st < n → Gs (whO c body n st) Q
  | 0, _, _, h => absurd h (by omega)
  | n + 1, st, h, hm => by
    rw [whO]
    rcases step st h with ⟨h1, h2⟩ | ⟨h1, h2⟩
    · rw [h1, b1_some, if_neg (by decide)]
      exact gs_some h2
    · rw [h1, b1_some, if_pos rfl]
      exact gs_b1 h2 fun st' q => whO_inv I Q μ step n st' q.1 (by omega)
theorem mapO_eq {f : α → Option β} {g : α → β} : ∀ (xs : List α), (∀ x ∈ xs, f x = some (g x)) → mapO f xs = some (xs.map g)
  | [], _ => rfl
  | x :: xs, h => by
    rw [mapO, h x List.mem_cons_self, b1_some, mapO_eq xs fun y hy => h y (List.mem_cons_of_mem _ hy), b1_some, List.map_cons]
theorem mapO_all {f : α → Option β} (Q : α → β → Prop) : ∀ (xs : List α), (∀ x ∈ xs, Gs (f x) (Q x)) → Gs (mapO f xs) fun ys => ys.length = xs.length ∧ ∀ (i : Nat) (x : α) (y : β), xs[i]? = some x → ys[i]? = some y → Q x y
  | [], _ => gs_some ⟨rfl, fun i x y h => by simp at h⟩
  | x :: xs, h => by
    rw [mapO]
    refine gs_b1 (h x List.mem_cons_self) fun y hy => ?_
    refine gs_b1 (mapO_all Q xs fun y hy => h y (List.mem_cons_of_mem _ hy)) fun ys hys => ?_
    refine gs_some ⟨by simp [hys.1], fun i a b ha hb => ?_⟩
    cases i with
    | zero =>
      rw [List.getElem?_cons_zero] at ha hb
      cases ha; cases hb
      exact hy
    | succ i =>
      rw [List.getElem?_cons_succ] at ha hb
      exact hys.2 i a b ha hb
theorem fmapO_eq {c : α → Option Bool} {k : α → Bool} {f : α → Option β} {g : α → β} : ∀ (xs : List α), (∀ x ∈ xs, c x = some (k x)) → (∀ x ∈ xs, k x = true → f x = some (g x)) → fmapO c f xs = some ((xs.filter k).map g)
  | [], _, _ => rfl
  | x :: xs, h, h' => by
    have ih := fmapO_eq xs (fun y hy => h y (List.mem_cons_of_mem _ hy)) fun y hy => h' y (List.mem_cons_of_mem _ hy)
    rw [fmapO, h x List.mem_cons_self, b1_some]
    cases e : k x with
    | true => rw [if_pos rfl, h' x List.mem_cons_self e, b1_some, ih, b1_some, List.filter_cons_of_pos e, List.map_cons]
    | false => rw [if_neg (by decide), ih, List.filter_cons_of_neg (by rw [e]; decide)]
end
/-! ### plain data compared -/
/-- plain data to a depth -/
def pl : Nat → D → Bool
  | _, .non => true
  | _, .bl _ => true
  | _, .int _ => true
  | _, .str _ => true
  | n + 1, .lst xs => decide (xs.length ≤ 1000000) && xs.all (pl n)
  | n + 1, .tup xs => decide (xs.length ≤ 1000000) && xs.all (pl n)
  | _, _ => false
noncomputable def sameG (a b : D) : Option Bool := @grd _ (a = b ∧ pl 9 a = true) (Classical.propDecidable _) (some true)
theorem sameG_ok {a b : D} (h : a = b) (hp : pl 9 b = true) : sameG a b = some true := by
  subst h
  exact @grd_pos _ _ (Classical.propDecidable _) _ ⟨rfl, hp⟩
theorem sameG_inv {a b : D} {r : Bool} (h : sameG a b = some r) : a = b ∧ pl 9 a = true ∧ r = true := by
  unfold sameG grd at h
  split at h
  · rename_i c
    cases h
    exact ⟨c.1, c.2, rfl⟩
  · cases h
structure PL (n : Nat) {α : Type} (e : α → D) : Prop where
  pl : ∀ x, pl n (e x) = true
@[simp] theorem pl_non (n : Nat) : pl n .non = true := by cases n <;> rfl
@[simp] theorem pl_bl (n : Nat) (b : Bool) : pl n (.bl b) = true := by cases n <;> rfl
@[simp] theorem pl_int (n : Nat) (b : Int) : pl n (.int b) = true := by cases n <;> rfl
@[simp] theorem pl_str (n : Nat) (b : Str) : pl n (.str b) = true := by cases n <;> rfl
theorem pl_lst (n : Nat) (xs : List D) : pl (n + 1) (.lst xs) = (decide (xs.length ≤ 1000000) && xs.all (pl n)) := rfl
theorem pl_tup (n : Nat) (xs : List D) : pl (n + 1) (.tup xs) = (decide (xs.length ≤ 1000000) && xs.all (pl n)) := rfl
@[simp] theorem pl_t2 (n : Nat) (a b : D) : pl (n + 1) (.tup [a, b]) = (pl n a && pl n b) := by simp [pl_tup]
@[simp] theorem pl_t3 (n : Nat) (a b c : D) : pl (n + 1) (.tup [a, b, c]) = (pl n a && (pl n b && pl n c)) := by simp [pl_tup]
@[simp] theorem pl_t4 (n : Nat) (a b c d : D) : pl (n + 1) (.tup [a, b, c, d]) = (pl n a && (pl n b && (pl n c && pl n d))) := by simp [pl_tup]
@[simp] theorem pl_l1 (n : Nat) (a : D) : pl (n + 1) (.lst [a]) = pl n a := by simp [pl_lst]
@[simp] theorem pl_l2 (n : Nat) (a b : D) : pl (n + 1) (.lst [a, b]) = (pl n a && pl n b) := by simp [pl_lst]
@[simp] theorem pl_l3 (n : Nat) (a b c : D) : pl (n + 1) (.lst [a, b, c]) = (pl n a && (pl n b && pl n c)) := by simp [pl_lst]
theorem pl_L {n : Nat} {α : Type} {e : α → D} {xs : List α} (hl : xs.length ≤ 1000000) (h : ∀ x ∈ xs, pl n (e x) = true) : pl (n + 1) (eL e xs) = true := by
  rw [pl_lst, List.length_map, decide_eq_true hl, Bool.true_and, List.all_map, List.all_eq_true]
  exact h
theorem pl_T {n : Nat} {α : Type} {e : α → D} {xs : List α} (hl : xs.length ≤ 1000000) (h : ∀ x ∈ xs, pl n (e x) = true) : pl (n + 1) (eT e xs) = true := by
  rw [pl_tup, List.length_map, decide_eq_true hl, Bool.true_and, List.all_map, List.all_eq_true]
  exact h
theorem pl_O {n : Nat} {α : Type} {e : α → D} {o : Option α} (h : ∀ x, o = some x → pl n (e x) = true) : pl n (eO e o) = true := by
  cases o with
  | none => exact pl_non n
  | some x => exact h x rfl
end BK
namespace BK
open PySem PySem.Spec L2
set_option autoImplicit false
/-! ### numbers, fractions -/
theorem fuel_gt {n : Nat} {z : Int} (h : Sz n z) (hn : n ≤ 1000000) : z.natAbs < FUEL := by
  unfold FUEL
  exact (h.mono hn).lt
theorem gcd_fmod (a b : Int) : Int.gcd b (a.fmod b) = Int.gcd a b := by
  have e : a.fmod b = a - b * a.fdiv b := Int.fmod_def a b
  apply Nat.dvd_antisymm
  · apply Int.dvd_gcd
    · have h1 : ((Int.gcd b (a.fmod b) : Nat) : Int) ∣ b := Int.gcd_dvd_left ..
      have h2 : ((Int.gcd b (a.fmod b) : Nat) : Int) ∣ a.fmod b := Int.gcd_dvd_right ..
      have h3 : a = a.fmod b + b * a.fdiv b := (Int.fmod_add_mul_fdiv a b).symm
      rw [h3]
      exact Int.dvd_add (by rw [← h3]; exact h2) (Int.dvd_trans (by rw [← h3]; exact h1) (Int.dvd_mul_right _ _))
    · exact Int.gcd_dvd_left ..
  · apply Int.dvd_gcd
    · exact Int.gcd_dvd_right ..
    · rw [e]
      exact Int.dvd_sub (Int.gcd_dvd_left ..) (Int.dvd_trans (Int.gcd_dvd_right ..) (Int.dvd_mul_right _ _))
theorem fmod_abs_lt (a b : Int) (h : b ≠ 0) : (a.fmod b).natAbs < b.natAbs := by
  rcases Int.lt_or_gt_of_ne h with h1 | h1
  · have e := Int.neg_fmod_neg a b
    have h2 := Int.fmod_lt_of_pos (-a) (show 0 < -b by omega)
    have h3 := Int.fmod_nonneg_of_pos (-a) (show 0 < -b by omega)
    omega
  · have h2 := Int.fmod_lt_of_pos a h1
    have h3 := Int.fmod_nonneg_of_pos a h1
    omega
theorem gcd_pos {a b : Int} (h : b ≠ 0) : 0 < Int.gcd a b := Nat.pos_of_ne_zero fun z => h (Int.gcd_eq_zero_iff.mp z).2
theorem gcd_le_right {a b : Int} (h : b ≠ 0) : Int.gcd a b ≤ b.natAbs := Int.gcd_le_natAbs_right _ h
/-- a fraction as a pair -/
def qt (q : Rat) : Fr := (q.num, (q.den : Int))
/-- a fraction of numbers of so many bits -/
def bq (n : Nat) (q : Rat) : Prop := Sz n q.num ∧ Sz n (q.den : Int)
theorem qt_divInt {a b : Int} (h : b ≠ 0) : qt (Rat.divInt a b) = (a.fdiv (if b < 0 then -(Int.gcd a b : Int) else Int.gcd a b), b.fdiv (if b < 0 then -(Int.gcd a b : Int) else Int.gcd a b)) := by
  have g0 : (0 : Int) < Int.gcd a b := by have := gcd_pos (a := a) h; omega
  obtain ⟨x, hx⟩ : (Int.gcd a b : Int) ∣ a := Int.gcd_dvd_left ..
  obtain ⟨y, hy⟩ : (Int.gcd a b : Int) ∣ b := Int.gcd_dvd_right ..
  generalize hg : (Int.gcd a b : Int) = g at *
  have hgc : (Int.gcd b a : Int) = g := by rw [Int.gcd_comm]; exact hg
  have hgn : Int.gcd b a = g.natAbs := by omega
  unfold qt
  rw [Rat.num_divInt, Rat.den_divInt, if_neg h, hgc, hgn]
  have hb2 : b.natAbs / g.natAbs = y.natAbs := by
    rw [hy, Int.natAbs_mul]
    exact Nat.mul_div_cancel_left _ (by omega)
  rw [hb2]
  by_cases hn : b < 0
  · have y0 : y < 0 := by
      rw [hy] at hn
      by_cases z : y < 0
      · exact z
      · have := Int.mul_nonneg (Int.le_of_lt g0) (show 0 ≤ y by omega)
        omega
    rw [if_pos hn, Int.sign_eq_neg_one_of_neg hn]
    have e1 : a.fdiv (-g) = -x := by
      rw [hx, show g * x = (-g) * (-x) by rw [Int.neg_mul_neg]]
      exact Int.mul_fdiv_cancel_left _ (by omega)
    have e2 : b.fdiv (-g) = -y := by
      rw [hy, show g * y = (-g) * (-y) by rw [Int.neg_mul_neg]]
      exact Int.mul_fdiv_cancel_left _ (by omega)
    have e3 : -1 * a / g = -x := by
      rw [hx, show -1 * (g * x) = g * (-x) by rw [Int.neg_one_mul, Int.mul_neg]]
      exact Int.mul_ediv_cancel_left _ (by omega)
    rw [e1, e2, e3]
    refine Prod.ext rfl ?_
    show ((y.natAbs : Nat) : Int) = _
    omega
  · have y0 : 0 < y := by
      rcases Int.lt_trichotomy y 0 with z | z | z
      · exfalso
        have : g * y < 0 := Int.mul_neg_of_pos_of_neg g0 z
        omega
      · subst z; simp at hy; omega
      · exact z
    rw [if_neg hn, Int.sign_eq_one_of_pos (by omega)]
    have e1 : a.fdiv g = x := by
      rw [hx]
      exact Int.mul_fdiv_cancel_left _ (by omega)
    have e2 : b.fdiv g = y := by
      rw [hy]
      exact Int.mul_fdiv_cancel_left _ (by omega)
    have e3 : 1 * a / g = x := by
      rw [hx, Int.one_mul]
      exact Int.mul_ediv_cancel_left _ (by omega)
    rw [e1, e2, e3]
    refine Prod.ext rfl ?_
    show ((y.natAbs : Nat) : Int) = _
    omega
theorem divInt_negr (n d : Int) : Rat.divInt n (-d) = - Rat.divInt n d := by
  have h := Rat.neg_divInt_neg (-n) d
  rw [Int.neg_neg] at h
  rw [h, ← Rat.neg_divInt]
theorem qt_neg (q : Rat) : qt (-q) = (-q.num, (q.den : Int)) := by
  unfold qt
  rw [Rat.neg_num, Rat.neg_den]
theorem qt_int (n : Int) : qt (n : Rat) = (n, 1) := by
  unfold qt
  rw [Rat.num_intCast, Rat.den_intCast]
  rfl
@[simp] theorem qt_1 (q : Rat) : (qt q).1 = q.num := rfl
@[simp] theorem qt_2 (q : Rat) : (qt q).2 = (q.den : Int) := rfl
theorem qt_inj {p q : Rat} (h : qt p = qt q) : p = q := by
  have h1 := congrArg Prod.fst h
  have h2 := congrArg Prod.snd h
  rw [qt_2, qt_2] at h2
  exact Rat.ext h1 (by omega)
theorem bq_divInt {n : Nat} {a b : Int} (ha : Sz n a) (hb : Sz n b) (h : b ≠ 0) : bq n (Rat.divInt a b) := by
  refine ⟨?_, ?_⟩
  · refine Sz.abs_le (b := a) ?_ ha
    rw [Rat.num_divInt]
    have h1 : (b.sign * a / (Int.gcd b a : Int)).natAbs ≤ (b.sign * a).natAbs := Int.natAbs_ediv_le_natAbs ..
    rw [Int.natAbs_mul, Int.natAbs_sign_of_ne_zero h, Nat.one_mul] at h1
    exact h1
  · rw [Rat.den_divInt, if_neg h]
    refine Sz.abs_le (b := b) ?_ hb
    rw [Int.natAbs_natCast]
    exact Nat.div_le_self _ _
theorem bq_mono {m n : Nat} {q : Rat} (h : bq m q) (l : m ≤ n) : bq n q := ⟨h.1.mono l, h.2.mono l⟩
theorem bq_neg {n : Nat} {q : Rat} (h : bq n q) : bq n (-q) := ⟨by rw [Rat.neg_num]; exact h.1.neg, by rw [Rat.neg_den]; exact h.2⟩
theorem den_ne (q : Rat) : (q.den : Int) ≠ 0 := by have := q.den_pos; omega
theorem num_ne {q : Rat} (h : q ≠ 0) : q.num ≠ 0 := fun z => h (Rat.num_eq_zero.mp z)
theorem add_divInt (p q : Rat) : p + q = Rat.divInt (p.num * q.den + q.num * p.den) (p.den * q.den) := by
  conv => lhs; rw [← Rat.num_divInt_den p, ← Rat.num_divInt_den q]
  rw [Rat.divInt_add_divInt _ _ (den_ne p) (den_ne q)]
theorem mul_divInt (p q : Rat) : p * q = Rat.divInt (p.num * q.num) (p.den * q.den) := by
  conv => lhs; rw [← Rat.num_divInt_den p, ← Rat.num_divInt_den q]
  rw [Rat.divInt_mul_divInt]
theorem div_divInt (p q : Rat) : p / q = Rat.divInt (p.num * q.den) (p.den * q.num) := by
  rw [Rat.div_def, Rat.inv_def]
  conv => lhs; rw [← Rat.num_divInt_den p]
  rw [Rat.divInt_mul_divInt]
theorem sub_divInt (p q : Rat) : p - q = Rat.divInt (p.num * q.den - q.num * p.den) (p.den * q.den) := by
  rw [Rat.sub_eq_add_neg, add_divInt, Rat.neg_num, Rat.neg_den, Int.neg_mul, ← Int.sub_eq_add_neg]
theorem bq_add {m n : Nat} {p q : Rat} (hp : bq m p) (hq : bq n q) : bq (m + n + 1) (p + q) := by
  rw [add_divInt]
  exact bq_divInt ((Sz.add (hp.1.mul hq.2) (hq.1.mul hp.2)).mono (by omega)) ((hp.2.mul hq.2).mono (by omega)) (Int.mul_ne_zero (den_ne p) (den_ne q))
theorem bq_sub {m n : Nat} {p q : Rat} (hp : bq m p) (hq : bq n q) : bq (m + n + 1) (p - q) := by
  rw [Rat.sub_eq_add_neg]
  exact bq_add hp (bq_neg hq)
theorem bq_mul {m n : Nat} {p q : Rat} (hp : bq m p) (hq : bq n q) : bq (m + n) (p * q) := by
  rw [mul_divInt]
  exact bq_divInt (hp.1.mul hq.1) (hp.2.mul hq.2) (Int.mul_ne_zero (den_ne p) (den_ne q))
theorem bq_div {m n : Nat} {p q : Rat} (hp : bq m p) (hq : bq n q) (h : q ≠ 0) : bq (m + n) (p / q) := by
  rw [div_divInt]
  exact bq_divInt (hp.1.mul hq.2) (hp.2.mul hq.1) (Int.mul_ne_zero (den_ne p) (num_ne h))

/-! partly reckoned operators -/
theorem cmul_s {a b : Int} (ha : a.natAbs < 18446744073709551616) (hb : b.natAbs < 18446744073709551616) : CMulB a b := (Sz.small ha).cmul (Sz.small hb) (by omega) (by omega) (by omega)
theorem cdiv_s {a b : Int} (h0 : b ≠ 0) (hb : b.natAbs < 18446744073709551616) : CDivB a b := (Sz.small hb).cdiv (by omega) (by omega) h0
section
variable {α β σ : Type}
theorem forO_app {body : α → List β → Option (List β)} (v : α → β) : ∀ (xs : List α) (st : List β), st.length + xs.length ≤ 16777216 → (∀ x ∈ xs, ∀ st : List β, st.length < 16777216 → body x st = some (st ++ [v x])) → forO body xs st = some (st ++ xs.map v)
  | [], st, _, _ => by simp [forO]
  | x :: xs, st, hl, h => by
    rw [List.length_cons] at hl
    rw [forO, h x List.mem_cons_self st (by omega), b1_some, forO_app v xs (st ++ [v x]) (by simp; omega) fun y hy => h y (List.mem_cons_of_mem _ hy)]
    simp
theorem forO_appF {body : α → List β → Option (List β)} (k : α → Bool) (v : α → β) : ∀ (xs : List α) (st : List β), st.length + xs.length ≤ 16777216 → (∀ x ∈ xs, ∀ st : List β, st.length < 16777216 → body x st = some (if k x = true then st ++ [v x] else st)) → forO body xs st = some (st ++ (xs.filter k).map v)
  | [], st, _, _ => by simp [forO]
  | x :: xs, st, hl, h => by
    rw [List.length_cons] at hl
    rw [forO, h x List.mem_cons_self st (by omega), b1_some]
    cases e : k x with
    | true =>
      rw [if_pos rfl, forO_appF k v xs (st ++ [v x]) (by simp; omega) fun y hy => h y (List.mem_cons_of_mem _ hy), List.filter_cons_of_pos e]
      simp
    | false => rw [if_neg (by decide), forO_appF k v xs st (by omega) (fun y hy => h y (List.mem_cons_of_mem _ hy)), List.filter_cons_of_neg (by rw [e]; decide)]
theorem forO_ext {body : α → List β → Option (List β)} (v : α → List β) : ∀ (xs : List α) (st : List β), st.length + (xs.flatMap v).length ≤ 16777216 → (∀ x ∈ xs, ∀ st : List β, st.length + (v x).length ≤ 16777216 → body x st = some (st ++ v x)) → forO body xs st = some (st ++ xs.flatMap v)
  | [], st, _, _ => by simp [forO]
  | x :: xs, st, hl, h => by
    rw [List.flatMap_cons, List.length_append] at hl
    rw [forO, h x List.mem_cons_self st (by omega), b1_some, forO_ext v xs (st ++ v x) (by rw [List.length_append]; omega) fun y hy => h y (List.mem_cons_of_mem _ hy), List.flatMap_cons, List.append_assoc]
theorem forO_fold {body : α → σ → Option σ} (f : σ → α → σ) : ∀ (xs : List α) (st : σ), (∀ x ∈ xs, ∀ st, body x st = some (f st x)) → forO body xs st = some (xs.foldl f st)
  | [], st, _ => rfl
  | x :: xs, st, h => by
    rw [forO, h x List.mem_cons_self st, b1_some, forO_fold f xs _ fun y hy => h y (List.mem_cons_of_mem _ hy)]; rfl
theorem forC_any {ρ : Type} {body : α → Unit → Option (Ctl Unit ρ)} (p : α → Bool) (r : ρ) : ∀ (xs : List α), (∀ x ∈ xs, body x () = some (if p x = true then .rt r else .nx ())) → forC body xs () = some (if xs.any p = true then .rt r else .nx ())
  | [], _ => rfl
  | x :: xs, h => by
    rw [forC, h x List.mem_cons_self, b1_some, List.any_cons]
    cases e : p x with
    | true => rfl
    | false =>
      show forC body xs () = _
      rw [forC_any p r xs fun y hy => h y (List.mem_cons_of_mem _ hy), Bool.false_or]
theorem ctl_if {σ ρ γ : Type} {c : Bool} {r : ρ} {s : σ} {t : σ → Option γ} {u : ρ → Option γ} : b1 (some (if c = true then Ctl.rt r else .nx s)) (fun c => ctl c t u) = if c = true then u r else t s := by cases c <;> rfl
/-- an item of a written list -/
theorem gs_pick {xs : List α} {i : Int} (h0 : 0 ≤ i) (h1 : i < xs.length) : Gs (atI xs i) fun x => x ∈ xs := by
  obtain ⟨x, hx, e⟩ := atI_lt xs i h0 h1
  exact ⟨x, e, hx⟩
theorem atI_nat {xs : List α} {i : Int} {k : Nat} (h : i = k) (hk : k < xs.length) : atI xs i = some xs[k] := by
  subst h
  rw [atI_ofNat, List.getElem?_eq_getElem hk]
theorem cut_from (xs : List α) (k : Nat) : cutL xs (some (k : Int)) none = xs.drop k := by
  unfold cutL
  rw [HT.sIx_nat]
  show (xs.drop _).take (xs.length - _) = _
  by_cases h : k ≤ xs.length
  · rw [Nat.min_eq_left h, List.take_of_length_le (by rw [List.length_drop]; omega)]
  · rw [Nat.min_eq_right (by omega), List.drop_eq_nil_of_le (show xs.length ≤ k by omega), List.drop_eq_nil_of_le (by omega), List.take_nil]
theorem atI_last' (xs : List α) (x : α) : atI (xs ++ [x]) (-(1 : Int)) = some x := atI_last xs x
theorem enI_snoc (xs : List α) (x : α) : enI (xs ++ [x]) = enI xs ++ [((xs.length : Int), x)] := by
  unfold enI
  rw [List.zipIdx_append]
  simp
theorem enI_length (xs : List α) : (enI xs).length = xs.length := by unfold enI; simp
theorem enI_split {xs : List α} {pre : List (Int × α)} {x : Int × α} (h : ∃ post, enI xs = pre ++ x :: post) : x.1 = pre.length ∧ (∃ post, xs = pre.map (·.2) ++ x.2 :: post) := by
  obtain ⟨post, h⟩ := h
  have h1 : (enI xs)[pre.length]? = some x := by rw [h]; simp
  have h2 : (enI xs).map (·.2) = xs := by
    unfold enI
    rw [List.map_map]
    exact List.zipIdx_map_fst 0 xs
  constructor
  · unfold enI at h1
    rw [List.getElem?_map, List.getElem?_zipIdx] at h1
    obtain ⟨a, ha, e⟩ := Option.map_eq_some_iff.mp h1
    obtain ⟨b, hb, e2⟩ := Option.map_eq_some_iff.mp ha
    rw [← e, ← e2]
    simp
  · rw [h] at h2
    exact ⟨post.map (·.2), by rw [← h2]; simp⟩
end
end BK
namespace BK
open PySem PySem.Spec L2
set_option autoImplicit false
/-! ### moments by 27720th parts -/
def gr (z : Int) : Rat := Rat.divInt z 27720
/-- a moment as a fraction -/
def gq (z : Int) : Fr := qt (gr z)
/-- parts of a minute for a length, by a speed -/
def stp (sp : Int) : Int := 27720 / sp
theorem gr_eq (z : Int) : gr z * 27720 = z := by
  unfold gr
  rw [Rat.divInt_eq_div]
  exact Rat.div_mul_cancel (by decide)
theorem gr_of {q : Rat} {z : Int} (h : q * 27720 = z) : q = gr z := by
  have h2 := gr_eq z
  have h3 : q * 27720 = gr z * 27720 := by rw [h, h2]
  have := congrArg (· / 27720) h3
  simpa [Rat.mul_div_cancel (show (27720 : Rat) ≠ 0 by decide)] using this
theorem gr_add (a b : Int) : gr a + gr b = gr (a + b) := gr_of (by rw [Rat.add_mul, gr_eq, gr_eq, Rat.intCast_add])
theorem gr_sub (a b : Int) : gr a - gr b = gr (a - b) := gr_of (by rw [Rat.sub_eq_add_neg, Rat.add_mul, Rat.neg_mul, gr_eq, gr_eq, Int.sub_eq_add_neg, Rat.intCast_add, Rat.intCast_neg])
theorem gr_lt (a b : Int) : gr a < gr b ↔ a < b := by
  have h1 := gr_eq a
  have h2 := gr_eq b
  rw [← Rat.intCast_lt_intCast, ← h1, ← h2]
  constructor <;> intro h <;> grind
theorem gr_le (a b : Int) : gr a ≤ gr b ↔ a ≤ b := by
  have := gr_lt b a
  rw [← Rat.not_lt, this]
  omega
theorem gr_inj {a b : Int} (h : gr a = gr b) : a = b := by
  have h1 := gr_eq a
  have h2 := gr_eq b
  rw [h] at h1
  exact Rat.intCast_inj.mp (h1.symm.trans h2)
theorem gr_whole (n : Int) : gr (27720 * n) = n := by
  symm
  apply gr_of
  rw [Rat.intCast_mul, Rat.mul_comm]
  rfl
theorem gr_made {o sp : Int} (h : sp ∣ 27720) (h0 : 0 < sp) : Rat.divInt o sp = gr (o * stp sp) := by
  obtain ⟨k, hk⟩ := h
  have e : stp sp = k := by unfold stp; rw [hk]; exact Int.mul_ediv_cancel_left _ (by omega)
  have k0 : k ≠ 0 := by rintro rfl; simp at hk
  rw [e]
  unfold gr
  rw [hk, Rat.divInt_mul_right k0]
theorem gq_inj {a b : Int} (h : gq a = gq b) : a = b := gr_inj (qt_inj h)
theorem gq_eq {a b : Int} : (gq a = gq b) = (a = b) := propext ⟨gq_inj, congrArg gq⟩
theorem gr_bq {z : Int} (h : z.natAbs < 18446744073709551616) : bq 64 (gr z) := bq_divInt (Sz.small h) (Sz.small (by decide)) (by decide)
theorem gq_whole (n : Int) : gq (27720 * n) = (n, 1) := by
  unfold gq
  rw [gr_whole, qt_int]
/-- the parts of a moment -/
theorem gq_part (z : Int) : ∃ d : Int, 0 < d ∧ (gq z).2 = d ∧ d ∣ 27720 ∧ (gq z).1 * (27720 / d) = z := by
  have hd : ((gr z).den : Int) ∣ 27720 := by
    unfold gr
    rw [Rat.den_divInt, if_neg (by decide)]
    show (((27720 : Int).natAbs / Int.gcd 27720 z : Nat) : Int) ∣ 27720
    have h1 : Int.gcd 27720 z ∣ 27720 := by
      have : (Int.gcd 27720 z : Int) ∣ 27720 := Int.gcd_dvd_left ..
      exact Int.natCast_dvd_natCast.mp this
    exact Int.natCast_dvd_natCast.mpr (Nat.div_dvd_of_dvd h1)
  have h0 := (gr z).den_pos
  refine ⟨(gr z).den, by omega, rfl, hd, ?_⟩
  have e1 : Rat.divInt (gr z).num (gr z).den = gr z := Rat.num_divInt_den _
  have e2 := gr_made (o := (gr z).num) hd (by omega)
  rw [e1] at e2
  exact (gr_inj e2).symm
theorem stp_pos {sp : Int} (h0 : 1 ≤ sp) (h1 : sp ≤ 12) : 2310 ≤ stp sp ∧ stp sp ≤ 27720 ∧ sp ∣ 27720 := by
  unfold stp
  rcases (by omega : sp = 1 ∨ sp = 2 ∨ sp = 3 ∨ sp = 4 ∨ sp = 5 ∨ sp = 6 ∨ sp = 7 ∨ sp = 8 ∨ sp = 9 ∨ sp = 10 ∨ sp = 11 ∨ sp = 12) with rfl | rfl | rfl | rfl | rfl | rfl | rfl | rfl | rfl | rfl | rfl | rfl <;> decide
theorem gr_mul_bound {o k : Int} (h : o.natAbs ≤ 1000000000) (h0 : 0 ≤ k) (hk : k ≤ 27720) : (o * k).natAbs ≤ 27720000000000 := by
  rw [Int.natAbs_mul]
  calc o.natAbs * k.natAbs ≤ 1000000000 * 27720 := Nat.mul_le_mul h (by omega)
    _ = _ := by decide
/-! wheels -/
def farW (ws : List Wh) : Int := ((ws.drop 1).map (·.1)).sum
def offs (ws : List Wh) : List Int := (List.range ws.length).map fun i => farW (ws.take (i + 1))
theorem offs_len (ws : List Wh) : (offs ws).length = ws.length := by simp [offs]
theorem offs_snoc (ws : List Wh) (x : Wh) : offs (ws ++ [x]) = offs ws ++ [farW (ws ++ [x])] := by
  unfold offs
  rw [List.length_append, List.length_singleton, List.range_succ, List.map_append, List.map_singleton]
  congr 1
  · apply List.map_congr_left
    intro i hi
    rw [List.mem_range] at hi
    rw [List.take_append_of_le_length (by omega)]
  · rw [List.take_of_length_le (by simp)]
theorem farW_snoc (ws : List Wh) (x : Wh) (h : ws ≠ []) : farW (ws ++ [x]) = farW ws + x.1 := by
  cases ws with
  | nil => exact absurd rfl h
  | cons w ws => simp [farW]
theorem farW_bound (G : Int) (hG : 0 ≤ G) : ∀ ws : List Wh, (∀ w ∈ ws, 0 ≤ w.1 ∧ w.1 ≤ G) → 0 ≤ farW ws ∧ farW ws ≤ G * ws.length := by
  intro ws h
  unfold farW
  have key : ∀ l : List Wh, (∀ w ∈ l, 0 ≤ w.1 ∧ w.1 ≤ G) → 0 ≤ (l.map (·.1)).sum ∧ (l.map (·.1)).sum ≤ G * l.length := by
    intro l
    induction l with
    | nil => intro _; simp
    | cons w l ih =>
      intro h
      have h1 := h w List.mem_cons_self
      have h2 := ih fun v hv => h v (List.mem_cons_of_mem _ hv)
      rw [List.map_cons, List.sum_cons, List.length_cons]
      push_cast
      rw [Int.mul_add]
      omega
  have h1 := key (ws.drop 1) fun w hw => h w (List.mem_of_mem_drop hw)
  have h2 : ((ws.drop 1).length : Int) ≤ ws.length := by rw [List.length_drop]; omega
  have h3 : G * ((ws.drop 1).length : Int) ≤ G * ws.length := Int.mul_le_mul_of_nonneg_left h2 hG
  omega
theorem offs_bound (G : Int) (hG : 0 ≤ G) (ws : List Wh) (h : ∀ w ∈ ws, 0 ≤ w.1 ∧ w.1 ≤ G) : ∀ o ∈ offs ws, 0 ≤ o ∧ o ≤ G * ws.length := by
  intro o ho
  unfold offs at ho
  obtain ⟨i, hi, rfl⟩ := List.mem_map.mp ho
  rw [List.mem_range] at hi
  have h1 := farW_bound G hG (ws.take (i + 1)) fun w hw => h w (List.mem_of_mem_take hw)
  have h2 : ((ws.take (i + 1)).length : Int) ≤ ws.length := by rw [List.length_take]; omega
  have h3 : G * ((ws.take (i + 1)).length : Int) ≤ G * ws.length := Int.mul_le_mul_of_nonneg_left h2 hG
  omega
/-- a crossing by parts of a minute -/
structure XZ where
  name : Str
  at_ : Int
  speed : Int
  wheels : List Wh
def XZ.cr (x : XZ) : Cr := (x.name, gq x.at_, x.speed, x.wheels)
/-- when each wheel is on a bridge of a length -/
def timesZ (len : Int) (x : XZ) : List (Int × Int) := (offs x.wheels).map fun o => (x.at_ + o * stp x.speed, x.at_ + o * stp x.speed + len * stp x.speed)
def gTm (t : Int × Int) : Fr × Fr := (gq t.1, gq t.2)
abbrev SpZ := Int × Int × Int × Int
def gS (s : SpZ) : Fr × Fr × Int × Int := (gq s.1, gq s.2.1, s.2.2.1, s.2.2.2)
def spanZ (len : Int) (x : XZ) : List SpZ := ((timesZ len x).zip x.wheels).map fun p => (p.1.1, p.1.2, p.2.2.1, p.2.2.2)
def spansZ (len : Int) (name : Str) (xs : List XZ) : List SpZ := (xs.filter fun x => decide (x.name = name)).flatMap (spanZ len)
def onZ (m : Int) (s : SpZ) : Bool := decide (s.1 ≤ m) && decide (m < s.2.1)
def sumsZ (ss : List SpZ) (m : Int) : Int × Int := (((ss.filter (onZ m)).map (·.2.2.1)).sum, ((ss.filter (onZ m)).map (·.2.2.2)).sum)
/-- a crossing of sizes that are reckoned with -/
structure XOk (x : XZ) : Prop where
  a0 : -1000000000000000 ≤ x.at_ ∧ x.at_ ≤ 1000000000000000
  sp : 1 ≤ x.speed ∧ x.speed ≤ 12
  wl : x.wheels.length ≤ 64
  wg : ∀ w ∈ x.wheels, 0 ≤ w.1 ∧ w.1 ≤ 1000
theorem XOk.off {x : XZ} (h : XOk x) : ∀ o ∈ offs x.wheels, 0 ≤ o ∧ o ≤ 64000 := by
  intro o ho
  have h1 := offs_bound 1000 (by omega) x.wheels h.wg o ho
  have := h.wl
  omega
theorem XOk.step {x : XZ} (h : XOk x) {o : Int} (h0 : 0 ≤ o) (h1 : o ≤ 1000000) : 0 ≤ o * stp x.speed ∧ o * stp x.speed ≤ 27720000000 := by
  have hs := stp_pos h.sp.1 h.sp.2
  constructor
  · exact Int.mul_nonneg h0 (by omega)
  · have := Int.mul_le_mul h1 hs.2.1 (by omega) (by omega)
    omega
theorem timesZ_len (len : Int) (x : XZ) : (timesZ len x).length = x.wheels.length := by simp [timesZ, offs_len]
theorem timesZ_mem {len : Int} {x : XZ} {t : Int × Int} (h : t ∈ timesZ len x) : ∃ o ∈ offs x.wheels, t = (x.at_ + o * stp x.speed, x.at_ + o * stp x.speed + len * stp x.speed) := by
  unfold timesZ at h
  obtain ⟨o, ho, rfl⟩ := List.mem_map.mp h
  exact ⟨o, ho, rfl⟩
theorem spanZ_mem {len : Int} {x : XZ} {s : SpZ} (h : s ∈ spanZ len x) : ∃ t ∈ timesZ len x, ∃ w ∈ x.wheels, s = (t.1, t.2, w.2.1, w.2.2) := by
  unfold spanZ at h
  obtain ⟨p, hp, rfl⟩ := List.mem_map.mp h
  have := List.of_mem_zip hp
  exact ⟨p.1, this.1, p.2, this.2, rfl⟩
theorem spanZ_len (len : Int) (x : XZ) : (spanZ len x).length = x.wheels.length := by simp [spanZ, timesZ_len]
theorem spansZ_append (len : Int) (name : Str) (xs ys : List XZ) : spansZ len name (xs ++ ys) = spansZ len name xs ++ spansZ len name ys := by
  unfold spansZ
  rw [List.filter_append, List.flatMap_append]
theorem spansZ_len (len : Int) (name : Str) (M : Nat) : ∀ (xs : List XZ), (∀ x ∈ xs, x.wheels.length ≤ M) → (spansZ len name xs).length ≤ M * xs.length
  | [], _ => by simp [spansZ]
  | x :: xs, h => by
    have ih := spansZ_len len name M xs fun y hy => h y (List.mem_cons_of_mem _ hy)
    have h1 := h x List.mem_cons_self
    unfold spansZ at ih ⊢
    rw [List.length_cons, Nat.mul_add]
    by_cases e : x.name = name
    · rw [List.filter_cons_of_pos (by simpa using e), List.flatMap_cons, List.length_append, spanZ_len]
      omega
    · rw [List.filter_cons_of_neg (by simpa using e)]
      omega
theorem spansZ_mem {len : Int} {name : Str} {xs : List XZ} {s : SpZ} (h : s ∈ spansZ len name xs) : ∃ x ∈ xs, x.name = name ∧ s ∈ spanZ len x := by
  unfold spansZ at h
  obtain ⟨x, hx, hs⟩ := List.mem_flatMap.mp h
  obtain ⟨h1, h2⟩ := List.mem_filter.mp hx
  exact ⟨x, h1, by simpa using h2, hs⟩
def SpOk (s : SpZ) : Prop := s.1.natAbs < 18446744073709551616 ∧ s.2.1.natAbs < 18446744073709551616
theorem XOk.times {x : XZ} (h : XOk x) {len : Int} (hL : 0 ≤ len ∧ len ≤ 1000) {t : Int × Int} (ht : t ∈ timesZ len x) : x.at_ ≤ t.1 ∧ t.1 ≤ x.at_ + 27720000000 ∧ t.1 ≤ t.2 ∧ t.2 ≤ x.at_ + 55440000000 := by
  obtain ⟨o, ho, rfl⟩ := timesZ_mem ht
  have h1 := h.off o ho
  have h2 := h.step h1.1 (by omega)
  have h3 := h.step (o := len) hL.1 (by omega)
  dsimp only
  omega
theorem XOk.sp2 {x : XZ} (h : XOk x) {len : Int} (hL : 0 ≤ len ∧ len ≤ 1000) {s : SpZ} (hs : s ∈ spanZ len x) : SpOk s := by
  obtain ⟨t, ht, w, _, rfl⟩ := spanZ_mem hs
  have h1 := h.times hL ht
  have h2 := h.a0
  constructor <;> dsimp only <;> omega
theorem spans_ok {xs : List XZ} (h : ∀ x ∈ xs, XOk x) {len : Int} (hL : 0 ≤ len ∧ len ≤ 1000) {name : Str} : ∀ s ∈ spansZ len name xs, SpOk s := by
  intro s hs
  obtain ⟨x, hx, _, h2⟩ := spansZ_mem hs
  exact (h x hx).sp2 hL h2
end BK
namespace BK
open PySem PySem.Spec L2
set_option autoImplicit false
/-! ### drawn bridges, roads, wheels -/
abbrev P5 := Str × Int × Int × Int × Int
def toBg (b : P5) : Bg := ⟨b.1, b.2.1, b.2.2.1, b.2.2.2.1, b.2.2.2.2⟩
/-- the pieces of a drawn road -/
def pcsOf (n : Nat) (bs : List P5) : List Pc := .inl (200 + (n : Int)) :: bs.flatMap fun b => [.inr (toBg b), .inl (200 + b.2.1 / 7)]
theorem pcsOf_len (n : Nat) (bs : List P5) : (pcsOf n bs).length = 1 + 2 * bs.length := by
  show (bs.flatMap fun b : P5 => ([.inr (toBg b), .inl (200 + b.2.1 / 7)] : List Pc)).length + 1 = _
  induction bs with
  | nil => rfl
  | cons b bs ih =>
    rw [List.flatMap_cons, List.length_append]
    simp at ih ⊢
    omega
theorem atI_mod {α : Type} (xs : List α) (i : Int) (h : xs ≠ []) : Gs (atI xs (Int.fmod i (xs.length : Int))) fun x => x ∈ xs := by
  have hl : 0 < xs.length := List.length_pos_iff.mpr h
  rw [fmod_nn (by omega)]
  exact gs_pick (Int.emod_nonneg _ (by omega)) (Int.emod_lt_of_pos _ (by omega))
def LET : Str := "abcdefghijklmnopqrstuvwxyz"
theorem LET_len : LET.length = 26 := by decide +kernel
theorem LET_at {i : Int} (h0 : 0 ≤ i) (h1 : i < 26) : sgAt LET i = some ⟨#[97 + i.toNat]⟩ := by
  obtain ⟨k, rfl⟩ := Int.eq_ofNat_of_zero_le h0
  unfold sgAt
  rw [atI_ofNat]
  have hk : k < 26 := by omega
  have key : ∀ k : Fin 26, LET.cps.toList[k.val]? = some (97 + k.val) := by decide +kernel
  rw [key ⟨k, hk⟩]
  rfl
theorem strRep_one (c : Nat) (n : Int) : (strRep ⟨#[c]⟩ n).cps = (List.replicate n.toNat c).toArray := by
  unfold strRep
  simp
theorem strRep_one_len (c : Nat) (n : Int) : (strRep ⟨#[c]⟩ n).length = n.toNat := by
  unfold Str.length
  rw [strRep_one]
  simp
theorem strRep_inj {c d : Nat} {n : Int} (h0 : 0 < n) (h : strRep ⟨#[c]⟩ n = strRep ⟨#[d]⟩ n) : c = d := by
  have h1 := congrArg Str.cps h
  rw [strRep_one, strRep_one] at h1
  have h2 := congrArg Array.toList h1
  simp at h2
  rcases h2 with h2 | h2
  · omega
  · exact h2
theorem strOk_rep {c : Nat} (h : c < 1114112) (n : Int) : PyData.strOk (strRep ⟨#[c]⟩ n) = true := by
  show (strRep ⟨#[c]⟩ n).cps.all (fun x => decide (x < 1114112)) = true
  rw [strRep_one, List.all_toArray, List.all_eq_true]
  intro x hx
  have := List.eq_of_mem_replicate hx
  subst this
  simpa using h
/-- a drawn bridge -/
structure BOk (b : P5) : Prop where
  l : 1 ≤ b.2.1 ∧ b.2.1 ≤ 1000
  br : 10 ≤ b.2.2.1 ∧ b.2.2.1 < 200
  w : 1 ≤ b.2.2.2.1 ∧ b.2.2.2.1 ≤ 200
  m : b.2.2.2.2 = 10000000
  n1 : 1 ≤ b.1.length ∧ b.1.length ≤ 12
  n2 : PyData.strOk b.1 = true
/-- a drawn shut hour, of one of the bridges -/
structure HOk (bs : List P5) (s : Str × Int × Int) : Prop where
  b : s.1 ∈ bs.map (·.1)
  h : 0 ≤ s.2.1 ∧ s.2.1 < s.2.2 ∧ s.2.2 ≤ 1000
/-- drawn wheels -/
structure WsOk (M : Int) (ws : List Wh) : Prop where
  l : 1 ≤ ws.length ∧ ws.length ≤ 4
  w : ∀ w ∈ ws, 1 ≤ w.1 ∧ w.1 ≤ 40 ∧ 0 ≤ w.2.1 ∧ w.2.1 ≤ w.2.2 ∧ w.2.2 * ws.length ≤ M
theorem cut_len {α : Type} (xs : List α) (a b : Option Int) : (cutL xs a b).length ≤ xs.length := by
  unfold cutL
  rw [List.length_take, List.length_drop]
  omega
theorem rgI_mem {a b x : Int} (h : x ∈ rgI a b) : a ≤ x ∧ x < b := by
  unfold rgI at h
  obtain ⟨i, hi, rfl⟩ := List.mem_map.mp h
  rw [List.mem_range] at hi
  omega
end BK
namespace BK
open PySem PySem.Spec L2
set_option autoImplicit false
/-! ### sorted(some, key=lambda fraction: fraction[0] * (bottom // fraction[1])) -/
abbrev ioScope : Scope := { kind := .function, names := [("fraction", .local), ("bottom", .free)], isGenerator := false, isCoroutine := false, more := [] }
abbrev ioBody (j1 j2 : Nat) (p1 p2 p3 p4 p5 p6 p7 p8 p9 : Pos) : Expr := .BinOp (.Subscript (.Name "fraction" p1) (.Constant (.int 0) j1 p2) p3) .Mult (.BinOp (.Name "bottom" p4) .FloorDiv (.Subscript (.Name "fraction" p5) (.Constant (.int 1) j2 p6) p7) p8) p9
abbrev ioArgs (p : Pos) : Arguments := { posonlyargs := [], args := [{ arg := "fraction", annotation := none, pos := p }], vararg := none, kwonlyargs := [], kw_defaults := [], kwarg := none, defaults := [] }
section
variable {prog : Program} {w : World} {A : Around} {s : Shared} {E : Value → Shared → Prop} {Q : Value → Shared → Prop} {env : Env}
theorem io_frac {p : Pos} {v : Value} (hs : env.scope = ioScope) (hn : s.heap.Ns env.locals fun y => ([(("fraction" : Str), v)] : List (Str × Value)).reverse.lookup y) (h : Q v s) : wpAny (model prog w) A (eval (.Name "fraction" p) env) Q E s :=
  wpAny_Name (wpAny_loadName_local (by rw [hs]) (by show env.scope.names.lookup _ = _; rw [hs]; decide) hn (v := v) (by rfl) h)
theorem io_item {p1 p2 p3 : Pos} {j k : Nat} {i : Int} {v x : Value} {a : Addr} {its : Array Value} (hs : env.scope = ioScope) (hn : s.heap.Ns env.locals fun y => ([(("fraction" : Str), v)] : List (Str × Value)).reverse.lookup y) (hv : v = .ref a) (ht : PyProof.Rows.IsTup s.heap a its) (hi : i = (k : Int)) (hk : k < 5) (hx : its[k]? = some x)
    (h : ∀ tk, Q x { s with toks := tk }) : wpAny (model prog w) A (eval (.Subscript (.Name "fraction" p1) (.Constant (.int i) j p2) p3) env) Q E s := by
  refine PyProof.Rows.Subscript_ (io_frac hs hn (wpAny_Constant_int ?_))
  subst hv
  subst hi
  have hl : k < its.size := by
    by_cases z : k < its.size
    · exact z
    · rw [Array.getElem?_eq_none (by omega)] at hx; cases hx
  refine PyProof.Rows.subscriptTail_builtinR (x := x) (s := { s with toks := s.toks + 1 }) (show PySem.Shared.TypeIs _ _ _ from ht.typeIs) PyProof.Rows.slot_tuple_getitem.lookup (PyProof.Rows.getItem_tuple (s := { s with toks := s.toks + 1 }) (j := k) ht (by omega) (by omega) (by unfold seqIndex?; simp; omega) hx ⟨rfl, h _⟩)
theorem io_body {j1 j2 : Nat} {p1 p2 p3 p4 p5 p6 p7 p8 p9 : Pos} {v : Value} {a c : Addr} {x y b : Int} {tx ty tb : Tok} {its : Array Value} (hs : env.scope = ioScope) (hn : s.heap.Ns env.locals fun y => ([(("fraction" : Str), v)] : List (Str × Value)).reverse.lookup y) (hv : v = .ref a) (ht : PyProof.Rows.IsTup s.heap a its) (h0 : its[0]? = some (.int x tx)) (h1 : its[1]? = some (.int y ty))
    (hc : env.cells.lookup ("bottom" : Str) = some c) (hb : s.heap.IsCell c (some (.int b tb))) (hy : CDivB b y) (hm : CMulB x (b.fdiv y)) (h : ∀ t tk, Q (.int (x * b.fdiv y) t) { s with toks := tk }) : wpAny (model prog w) A (eval (ioBody j1 j2 p1 p2 p3 p4 p5 p6 p7 p8 p9) env) Q E s := by
  refine wpAny_BinOp (io_item (k := 0) hs hn hv ht rfl (by decide) h0 fun tk => ?_)
  refine wpAny_BinOp (wpAny_Name (wpAny_loadName_free (by rw [hs]) (by show env.scope.names.lookup _ = _; rw [hs]; decide) hc (s := { s with toks := tk }) hb ?_))
  refine io_item (k := 1) (s := { s with toks := tk }) hs hn hv ht rfl (by decide) h1 fun tk2 => ?_
  refine PyProof.Rows.floordiv_int hy.1 ?_ (.inl (PyProof.noPylong_of_log2 hy.2))
  exact PyProof.Rows.mul_int (h _ _) hm.ok
/-- the call -/
theorem io_call {f c c' : Addr} {q : Str} {p0 : Pos} {clos : List (Str × Addr)} {pm ctv : Value} {j1 j2 : Nat} {p1 p2 p3 p4 p5 p6 p7 p8 p9 : Pos} {v : Value} {a : Addr} {x y b : Int} {tx ty tb : Tok} {its : Array Value} (hd : A.depth < recursionLimit) (hl : s.heap.NoLimit)
    (hf : s.heap.get? f = some (PySem.W.kla_obj "<lambda>" q (ioArgs p0) (ioBody j1 j2 p1 p2 p3 p4 p5 p6 p7 p8 p9) ioScope clos pm c' ctv)) (hcd : s.heap.CodeRec (.ref c') q) (hv : v = .ref a) (ht : PyProof.Rows.IsTup s.heap a its) (h0 : its[0]? = some (.int x tx)) (h1 : its[1]? = some (.int y ty))
    (hc : clos.lookup ("bottom" : Str) = some c) (hb : s.heap.IsCell c (some (.int b tb))) (hy : CDivB b y) (hm : CMulB x (b.fdiv y)) :
    wpAny (model prog w) A (call (.ref f) [v]) (PySem.W.KeyPure (.int (x * b.fdiv y)) s) (fun _ _ => False) s := by
  have rc : codeAny (model prog w) A (.call (.ref f) ⟨[v], []⟩) (fun r s' => match r with | .ok (.ret u) => PySem.W.KeyPure (.int (x * b.fdiv y)) s u s' | .ok _ => False | .error _ => False) s := by
    refine PySem.W.kla_callFunE hd hf rfl rfl rfl rfl hcd ?_
    refine wpAny_pure (a := [(("fraction" : Str), v)]) ?_
    refine wpAny_newFunctionEnv (show ∀ z ∈ ioScope.names, z.2 ≠ .cell by decide) (fun z hz => ?_) (fun h₁ hns hsb => ⟨hl.fresh _ hsb, ?_⟩) rfl
    · rw [List.mem_singleton] at hz
      subst hz
      exact (by decide : ioScope.names.lookup ("fraction" : Str) = some .local)
    have kp : ∀ b o, s.heap.get? b = some o → h₁.get? b = some o := fun b o e => hsb.extBut b o (Nat.ne_of_lt (Heap.lt_size e)) (Heap.get?_push_of_some _ e)
    refine PySem.W.kla_codeExpr ?_
    obtain ⟨o, ho, hoc, n, hon⟩ := id ht
    obtain ⟨oc, hoc1, hoc2⟩ := id hb
    exact io_body (s := { s with heap := h₁, toks := s.toks + 1 }) rfl hns hv ⟨o, kp _ _ ho, hoc, n, hon⟩ h0 h1 hc ⟨oc, kp _ _ hoc1, hoc2⟩ hy hm fun t tk => ⟨h₁, tk, rfl, kp, .int _ _⟩
  exact wpAny_call (codeAny_mono rc fun r s' h => by
    cases r with
    | error e => exact h
    | ok fl => cases fl <;> exact h)
end
end BK

namespace BK
open PySem PySem.Spec L2
set_option autoImplicit false
/-- the pair of a datum -/
def frD : D → Option (Int × Int)
  | .tup [.int x, .int y] => some (x, y)
  | _ => none
def ioOk (b : Int) (d : D) : Bool := match frD d with
  | some (x, y) => decide (CDivB b y) && decide (CMulB x (b.fdiv y))
  | none => false
def ioKey (b : Int) (d : D) : Int := match frD d with
  | some (x, y) => x * b.fdiv y
  | none => 0
def ioLe (b : Int) (d e : D) : Bool := decide (ioKey b d ≤ ioKey b e)
/-- sorted by that key; jb: where bottom stands -/
def eSo (jb : Nat) (m : Gm → Option R) : Gm → Option R := fun g => (m g).bind fun r => match r.d, g[jb]? with
  | .lst ds, some (.va (.int b)) => if ds.all (ioOk b) = true then some (.tm (ds.mergeSort (ioLe b))) else none
  | _, _ => none
theorem frD_some {d : D} {p : Int × Int} (h : frD d = some p) : d = .tup [.int p.1, .int p.2] := by
  unfold frD at h
  split at h
  · cases h; rfl
  · cases h
/-- a value and its datum -/
def IoV (K : PySem.W.Frag) (ca : Nat → Addr) (F : Hp) (v : Value) (b : V × D) : Prop := RelV b.1 v ∧ Den K ca F b.1 b.2
theorem eachIs_of {K : PySem.W.Frag} {ca : Nat → Addr} {F : Hp} {vs : List V} {us : List Value} (r : Vals vs us) : ∀ {ds : List D}, Dens K ca F vs ds → PySem.W.EachIs (IoV K ca F) us (vs.zip ds) := by
  induction r with
  | nil => intro ds h; cases h; exact .nil
  | cons r rs ih =>
    intro ds h
    cases h with
    | cons h hs => exact .cons ⟨r, h⟩ (ih hs)
theorem eachIs_back {K : PySem.W.Frag} {ca : Nat → Addr} {F : Hp} {us : List Value} {bs : List (V × D)} (h : PySem.W.EachIs (IoV K ca F) us bs) : Vals (bs.map (·.1)) us ∧ Dens K ca F (bs.map (·.1)) (bs.map (·.2)) := by
  induction h with
  | nil => exact ⟨.nil, .nil⟩
  | cons h hs ih => exact ⟨.cons h.1 ih.1, .cons h.2 ih.2⟩
theorem ioLe_zip {b : Int} {vs : List V} {ds : List D} (hl : vs.length = ds.length) (le : V × D → V × D → Bool) (h : ∀ x y : V × D, le x y = ioLe b x.2 y.2) : ((vs.zip ds).mergeSort le).map (·.2) = ds.mergeSort (ioLe b) := by
  rw [PySem.W.sort_maps (s := ioLe b) (·.2) fun x _ y _ => h x y]
  rw [List.map_snd_zip (by omega)]
section
variable {X : Cx} {ca : Nat → Addr} {e : Expr} {m : Gm → Option R}
theorem ev_so {c : Addr} {jb j1 j2 : Nat} {p p0 p1 p2 p3 p4 p5 p6 p7 p8 p9 lp kp pos : Pos} (hg : Gl X "sorted") (hmg : X.mg "sorted" = none) (hv : bootBuiltins "sorted" = some (.builtin "sorted")) (he : EV X ca e m) (hN : X.N[jb]? = some ("bottom" : Str)) (hcl : X.env.scope.names.lookup ("bottom" : Str) = some .cell)
    (hc1 : ca 20 = 1) (TB : LamX.TabB X.base X.mg c (ca 21)) (hne : ca 22 = 1 → ca 23 ≠ ca 21) (hcode : X.env.code = .ref c) (hq : X.env.qual ++ "<lambda>" = ("in_order.<locals>.<lambda>" : Str)) (hr : Room 2 X.A)
    (hs1 : starEach [e] X.env = (false, eval e X.env) :: starEach [] X.env := by rfl) (hs2 : backTo pos (starEach [e] X.env) = (false, eval e X.env) :: backTo pos (starEach [] X.env) := by rfl) (hpl : (backTo pos (starEach [e] X.env)).any (·.1) = false := by rfl) : EV X ca (.Call (.Name "sorted" p) [e] [⟨some "key", .Lambda (ioArgs p0) (ioBody j1 j2 p1 p2 p3 p4 p5 p6 p7 p8 p9) ioScope lp, kp⟩] pos) (eSo jb m) := by
  refine ⟨fun pins s σ H Q I h => ?_⟩
  obtain ⟨H0, F0, F, Γ, z, S, e0, q⟩ := h
  unfold eSo at e0
  obtain ⟨r, er, e0⟩ := Option.bind_eq_some_iff.mp e0
  split at e0
  rotate_left
  · cases e0
  rename_i ds b hd hb
  split at e0
  rotate_left
  · cases e0
  rename_i hok
  cases e0
  refine wpAny_Call_Name_kw (ld_blt I hg hmg hv ?_ (by decide) (by decide))
  refine PyProof.Rows.callWith_kw (thn ((av_cons he av_nil hs1).run pos pins s σ H (fun vs H1 => ∃ F1, Ext ca H F H1 F1 ∧ RVs X.K ca (BB σ Γ) H F1 H1 vs [r.fz]) I ⟨H0, F0, F, Γ, [r.fz], S, by
    rw [aC_def, er]; rfl, fun vs H1 F1 x1 r1 => ⟨F1, x1, r1⟩⟩) fun us s1 ⟨vs, H1, I1, r1, F1, x1, q1⟩ => ?_) hs2 hpl (by rfl) (by rfl)
  -- bottom
  obtain ⟨mloc, hns, hlk⟩ := I1.loc
  obtain ⟨vb, sb, db⟩ := S.va jb _ hb
  cases db
  obtain ⟨ub, rub, lb⟩ := hlk jb _ _ hN sb (.inr (.inl hcl))
  obtain ⟨tb, rfl⟩ := rub
  obtain ⟨cb, hcb, hcell⟩ : ∃ cb, X.env.cells.lookup ("bottom" : Str) = some cb ∧ s1.heap.IsCell cb (some (.int b tb)) := by
    rcases lb with ⟨k, _⟩ | ⟨_, cb, h1, h2⟩
    · have k : X.env.scope.names.lookup ("bottom" : Str) = some .local := k
      rw [hcl] at k; cases k
    · exact ⟨cb, h1, h2⟩
  have hTb : LamX.TabS H1 (ca 21) "in_order.<locals>.<lambda>" := (S.tc0.mono (S.mono x1).ext.hh).a hc1
  show wpAny _ _ (evalAll ((do let v ← eval (.Lambda (ioArgs p0) (ioBody j1 j2 p1 p2 p3 p4 p5 p6 p7 p8 p9) ioScope lp) X.env; standAt pos; pure v) :: [])) _ _ s1
  have hT0 := S.tc0.mono (S.mono x1).ext.hh
  obtain ⟨T, hT1, hT2, hT3, hT4⟩ : ∃ T : List (Addr × Str), (ca 21, X.env.qual ++ "<lambda>") ∈ T ∧ (∀ p ∈ T, p.1 = ca 21 → p.2 = X.env.qual ++ "<lambda>") ∧ LamX.Tabs T H1 ∧ (ca 22 = 1 → (ca 23, ("log_of.<locals>.<lambda>" : Str)) ∈ T) := by
    by_cases k : ca 22 = 1
    · refine ⟨[(ca 21, X.env.qual ++ "<lambda>"), (ca 23, "log_of.<locals>.<lambda>")], List.mem_cons_self, fun p hp e => ?_, fun p hp => ?_, fun _ => by simp⟩
      · rw [List.mem_cons, List.mem_singleton] at hp
        rcases hp with rfl | rfl
        · rfl
        · exact absurd e (hne k)
      · rw [List.mem_cons, List.mem_singleton] at hp
        rcases hp with rfl | rfl
        · show LamX.TabS H1 (ca 21) (X.env.qual ++ "<lambda>")
          rw [hq]; exact hTb
        · exact hT0.b k
    · refine ⟨[(ca 21, X.env.qual ++ "<lambda>")], List.mem_cons_self, fun p hp e => ?_, fun p hp => ?_, fun z => absurd z k⟩
      · rw [List.mem_singleton] at hp; rw [hp]
      · rw [List.mem_singleton] at hp
        rw [hp]
        show LamX.TabS H1 (ca 21) (X.env.qual ++ "<lambda>")
        rw [hq]; exact hTb
  refine wpAny_evalAll_cons (wpAny_bind (LamX.lam_make2 (T := T) I1 TB hcode hT1 hT2 hT3 rfl (fun y hy hf => by
    have hy : y = (("fraction" : Str), NameKind.local) ∨ y = (("bottom" : Str), NameKind.free) := by simpa using hy
    rcases hy with rfl | rfl
    · cases hf
    · exact ⟨cb, hcb⟩) fun f c' pm ctv H2 s2 I2 eN T2 hf hfn hfr hco => wpAny_bind (wpAny_standAt (wpAny_pure ?_))))
  refine wpAny_evalAll_nil ?_
  obtain ⟨mloc2, hns2, hlk2⟩ := I2.loc
  obtain ⟨ub2, rub2, lb2⟩ := hlk2 jb _ _ hN sb (.inr (.inl hcl))
  obtain ⟨tb2, rfl⟩ := rub2
  have hcell2 : s2.heap.IsCell cb (some (.int b tb2)) := by
    rcases lb2 with ⟨k, _⟩ | ⟨_, cb2, h1, h2⟩
    · have k : X.env.scope.names.lookup ("bottom" : Str) = some .local := k
      rw [hcl] at k; cases k
    · have h1 : X.env.cells.lookup ("bottom" : Str) = some cb2 := h1
      rw [hcb] at h1
      cases h1
      exact h2
  have nt1 : NT F1 := x1.nt (S.ext.nt S.nt0)
  have s12 : Same F1 H2 := fun a o h => eN a o (x1.fh a o h) (fun ps z => nt1 a ps (by rw [h, z]))
  have x2 : Ext ca H1 F1 H2 F1 := by
    refine ⟨⟨fun a o h n => eN a o h n, fun t => ⟨fun _ => ?_, fun k => T2 _ (hT4 k)⟩⟩, Same.refl _, s12, fun a h => .inl h, fun n => n⟩
    have := T2 _ hT1
    rw [hq] at this
    exact this
  -- the list
  obtain ⟨v1, rfl, q2⟩ : ∃ v1, vs = [v1] ∧ RV X.K ca (BB σ Γ) H F1 H1 v1 r.fz := by
    cases q1 with
    | cons h hs => cases hs; exact ⟨_, rfl, h⟩
  have hfz : r.fz.d = .lst ds := by
    cases r with
    | va d => exact hd
    | tm es => exact hd
    | bw j es => exact hd
  obtain ⟨l, ws, rfl, hrd, hds⟩ := RV.lst x1.fh q2 hfz
  have hrd2 : Rd H2 l (.lst ws) := by
    rcases hrd with h | ⟨u, h⟩
    · exact .inl (eN _ _ h fun ps z => nomatch z)
    · exact .inr ⟨u, eN _ _ h fun ps z => nomatch z⟩
  obtain ⟨its, rv, hpl2, hlen⟩ := I2.list (rd_l hrd2)
  obtain rfl := Vals.ref1 r1
  have hwl : ws.length = ds.length := hds.length
  have hx : ∀ x ∈ ws.zip ds, ∃ y z : Int, x.2 = .tup [.int y, .int z] ∧ CDivB b z ∧ CMulB y (b.fdiv z) ∧ ioKey b x.2 = y * b.fdiv z := fun x hx => by
    have h1 := (List.all_eq_true.mp hok) x.2 (List.of_mem_zip hx).2
    unfold ioOk at h1
    split at h1
    · rename_i y z hf
      rw [Bool.and_eq_true, decide_eq_true_eq, decide_eq_true_eq] at h1
      exact ⟨y, z, frD_some hf, h1.1, h1.2, by unfold ioKey; rw [hf]⟩
    · cases h1
  have hcl2 : (cloFrom X.env.cells ioScope.names []).lookup ("bottom" : Str) = some cb := by
    show ([(("bottom" : Str), (X.env.cells.lookup ("bottom" : Str)).getD 0)] : List (Str × Addr)).lookup ("bottom" : Str) = some cb
    rw [hcb]
    rfl
  refine PySem.W.sorted_key_data (b := false) (R := IoV X.K ca F1) (bs := ws.zip ds) (fun x : V × D => .int (ioKey b x.2)) hpl2.isList (eachIs_of rv hds) (PySem.W.AllAlike.of fun _ _ => by simp [PySem.W.alike]) (.inr fun d hd => by
    obtain ⟨x, _, rfl⟩ := List.mem_map.mp hd
    exact ⟨(fun z => nomatch z), (fun xs z => nomatch z)⟩) (by rw [List.length_zip]; omega) (fun x _ => by
    have := hr.un
    show X.A.units + 2 + 0 < cLine
    omega) (PyProof.Rows.ksk_s1 _ _) (fun _ => PyProof.Rows.ksk_l1 _ _) (fun _ => PyProof.Rows.ksk_t1 _ _) (fun v x hR hxm h tk kp => ?_) fun out cc h' tk kp hfr2 hD hol eo => ?_
  · obtain ⟨y, z, hxe, hy, hm, hk⟩ := hx x hxm
    obtain ⟨rx, dx⟩ := hR
    rw [hxe] at dx
    rw [hk]
    cases hx1 : x.1 with
    | ref a =>
      rw [hx1] at rx dx
      obtain rfl := rx
      cases dx with
      | tup t dd =>
        obtain ⟨tits, trv, tt, _⟩ := I2.tuple (Same.seqT s12 t)
        cases dd with
        | cons d1 dd =>
          cases dd with
          | cons d2 dd =>
            cases dd
            cases d1
            cases d2
            cases trv with
            | cons r1 rr =>
              cases rr with
              | cons r2 rr =>
                cases rr
                obtain ⟨ta, rfl⟩ := r1
                obtain ⟨tc, rfl⟩ := r2
                obtain ⟨o, ho, hoc, n, hon⟩ := tt
                obtain ⟨oc, hoc1, hoc2⟩ := id hcell2
                obtain ⟨⟨oc3, vs3, t3, hoc3, hdc3, hvc3⟩, _, _⟩ := I2.hok c' _ hco
                exact io_call (s := { s2 with heap := h, toks := tk }) (A := X.A.in1.in1) (by
                  have := hr.dp
                  show X.A.depth < recursionLimit
                  omega) (I2.nolimit.keeps kp) (kp _ _ hf) ⟨c', oc3, vs3, t3, rfl, kp _ _ hoc3, hdc3, hvc3⟩ rfl ⟨o, kp _ _ ho, hoc, n, hon⟩ (by rfl) (by rfl) hcl2 ⟨oc, kp _ _ hoc1, hoc2⟩ hy hm
    | _ => rw [hx1] at dx; cases dx
  · have hle : PySem.W.dataLe false (fun x : V × D => PyData.int (ioKey b x.2)) = fun x y : V × D => ioLe b x.2 y.2 := PySem.W.dataLe_int _
    rw [hle] at eo
    obtain ⟨k1, k2⟩ := eachIs_back eo
    have hbs := ioLe_zip (b := b) hwl (fun x y : V × D => ioLe b x.2 y.2) fun _ _ => rfl
    rw [hbs] at k2
    obtain ⟨vs4, hvs4⟩ : ∃ vs4, (((ws.zip ds).mergeSort fun x y : V × D => ioLe b x.2 y.2).map (·.1)) = vs4 := ⟨_, rfl⟩
    rw [hvs4] at k1 k2
    have hl4 : vs4.length ≤ sizeLine := by
      rw [k2.length, List.length_mergeSort, ← hwl]
      exact hlen
    have hfr3 := I2.hok.fresh (Nat.le_succ s2.heap.objs.size)
    have x3 : Ext ca H2 F1 (upd H2 (s2.heap.objs.size + 1) (.lst vs4)) F1 := Ext.newO s12 _ hfr3
    refine ⟨.ref _, upd H2 (s2.heap.objs.size + 1) (.lst vs4), I2.laid (t' := tk) kp (Nat.le_succ _) ⟨hl4, out, cc, k1, hD⟩, rfl, q _ _ F1 ((x1.trans x2).trans x3) ⟨_, vs4, rfl, (x1.trans x2).hh.free (noT_none hfr3), s12.free hfr3, upd_same, k2⟩⟩
end
end BK
namespace BK
open PySem PySem.Spec L2
set_option autoImplicit false
/-! ### texts -/
abbrev S' (l : List Nat) : Str := ⟨l.toArray⟩
theorem str_len (x : Str) : x.length = x.cps.toList.length := by simp [Str.length]
theorem str_ext {x y : Str} (h : x.cps.toList = y.cps.toList) : x = y := by
  obtain ⟨⟨a⟩⟩ := x
  obtain ⟨⟨b⟩⟩ := y
  exact congrArg (fun l : List Nat => (⟨⟨l⟩⟩ : Str)) h
theorem str_cases (x : Str) : ∃ l : List Nat, x = S' l := ⟨x.cps.toList, str_ext rfl⟩
theorem S'_inj {a b : List Nat} (h : S' a = S' b) : a = b := congrArg (fun x : Str => x.cps.toList) h
theorem S'_eq {a b : List Nat} : S' a = S' b ↔ a = b := ⟨S'_inj, fun h => by rw [h]⟩
theorem S'_len (l : List Nat) : (S' l).length = l.length := by rw [str_len]
theorem S'_cps (l : List Nat) : (S' l).cps.toList = l := rfl
theorem S'_add (a b : List Nat) : S' a ++ S' b = S' (a ++ b) := str_ext (TL.tl_append (S' a) (S' b))
theorem add_len (a b : Str) : (a ++ b).length = a.length + b.length := by
  obtain ⟨a, rfl⟩ := str_cases a
  obtain ⟨b, rfl⟩ := str_cases b
  rw [S'_add, S'_len, S'_len, S'_len, List.length_append]
theorem cutS_S (a : List Nat) (lo hi : Option Int) : cutS (S' a) lo hi = S' (cutL a lo hi) := rfl
theorem cutS_len (a : Str) (lo hi : Option Int) : (cutS a lo hi).length ≤ a.length := by
  obtain ⟨a, rfl⟩ := str_cases a
  rw [cutS_S, S'_len, S'_len]
  exact cut_len a lo hi
theorem join_le (sep : Str) (zs : List Str) : (Txt.join sep zs).length ≤ (zs.map (·.length)).sum + zs.length * sep.length := by
  rw [show Txt.join sep zs = Str.join sep zs from TL.join_eq sep zs]
  exact StrLaws.join_length_le sep zs
theorem sum_ones (zs : List Str) (h : ∀ z ∈ zs, z.length = 1) : (zs.map Str.length).sum = zs.length := by
  induction zs with
  | nil => rfl
  | cons z zs ih =>
    rw [List.map_cons, List.sum_cons, ih (fun x hx => h x (List.mem_cons_of_mem _ hx)), h z List.mem_cons_self, List.length_cons]
    omega
/-- numbers as texts -/
theorem num_nat (n : Nat) : (toString (n : Int) : Str) = S' (TL.numL n) := SX.num_S n
theorem num_len {i : Int} {k : Nat} (h0 : 0 ≤ i) (hk : 0 < k) (h : i < 10 ^ k) : (toString i : Str).length ≤ k ∧ 1 ≤ (toString i : Str).length := by
  obtain ⟨n, rfl⟩ := Int.eq_ofNat_of_zero_le h0
  rw [num_nat, S'_len]
  have e : ((10 : Int) ^ k) = ((10 ^ k : Nat) : Int) := by simp
  rw [e] at h
  exact ⟨TL.numL_len hk (Int.ofNat_lt.mp h), List.length_pos_iff.mpr (TL.numL_ne n)⟩
/-- one sign -/
theorem sgAt_one (z : Str) (i : Int) (h0 : 0 ≤ i) (h1 : i < z.length) : Gs (sgAt z i) fun x => x.length = 1 := by
  unfold sgAt
  obtain ⟨c, e, _⟩ := gs_pick (xs := z.cps.toList) h0 (by rw [str_len] at h1; exact h1)
  rw [e]
  exact ⟨_, rfl, rfl⟩
theorem sgs_S (l : List Nat) : sgs (S' l) = l.map fun c => S' [c] := rfl
theorem sgs_len (z : Str) : (sgs z).length = z.length := by
  unfold sgs
  rw [List.length_map, str_len]
theorem find_none {a : List Nat} {c : Nat} (h : c ∉ a) : Txt.find (S' a) (S' [c]) = -1 := by
  rcases PyProof.Rows.find_whole (S' a) (S' [c]) with h1 | ⟨i, _, h2, _⟩
  · exact h1.1
  · exact absurd (List.mem_of_getElem? ((StrLaws.subAt_one (S' a) c i).mp h2)) h
theorem find_at {a : List Nat} {c i : Nat} (h : a[i]? = some c) (hn : ∀ k, k < i → a[k]? ≠ some c) : Txt.find (S' a) (S' [c]) = (i : Int) := by
  rcases PyProof.Rows.find_whole (S' a) (S' [c]) with h1 | ⟨j, e, h2, h3⟩
  · exact absurd ((StrLaws.subAt_one (S' a) c i).mpr h) (h1.2 i)
  · rw [e]
    have hj := (StrLaws.subAt_one (S' a) c j).mp h2
    rcases Nat.lt_trichotomy i j with hh | hh | hh
    · exact absurd ((StrLaws.subAt_one (S' a) c i).mpr h) (h3 i hh)
    · rw [hh]
    · exact absurd hj (hn j hh)
theorem find_mem {a : List Nat} {c : Nat} (h : c ∈ a) : 0 ≤ Txt.find (S' a) (S' [c]) := by
  rcases PyProof.Rows.find_whole (S' a) (S' [c]) with h1 | ⟨j, e, _, _⟩
  · obtain ⟨i, hi, e⟩ := List.getElem_of_mem h
    exact absurd ((StrLaws.subAt_one (S' a) c i).mpr (by rw [S'_cps, List.getElem?_eq_getElem hi, e])) (h1.2 i)
  · rw [e]; omega
theorem starts_one (a : List Nat) (c : Nat) : Txt.startswith (S' a) (S' [c]) = decide (a.head? = some c) := by
  have h := StrLaws.subAt_one (S' a) c 0
  unfold Txt.startswith
  rw [Bool.eq_iff_iff, Bool.and_eq_true, decide_eq_true_iff, decide_eq_true_iff]
  rw [show a.head? = (S' a).cps.toList[0]? from List.head?_eq_getElem?]
  exact h
/-- figures -/
def FIG : Str := "0123456789"
theorem FIG_eq : FIG = S' [48, 49, 50, 51, 52, 53, 54, 55, 56, 57] := by decide +kernel
abbrev isFig (c : Nat) : Prop := 48 ≤ c ∧ c ≤ 57
theorem fig_mem (c : Nat) : c ∈ ([48, 49, 50, 51, 52, 53, 54, 55, 56, 57] : List Nat) ↔ isFig c := by
  simp only [List.mem_cons, List.not_mem_nil, or_false]
  unfold isFig
  omega
theorem FIG_find (c : Nat) : Txt.find FIG (S' [c]) = if isFig c then (c : Int) - 48 else -1 := by
  rw [FIG_eq]
  split
  · rename_i h
    have key : ∀ k : Fin 10, Txt.find (S' [48, 49, 50, 51, 52, 53, 54, 55, 56, 57]) (S' [48 + k.val]) = (k.val : Int) := by
      intro k
      exact find_at (i := k.val) (by revert k; decide) (by revert k; decide)
    have := key ⟨c - 48, by unfold isFig at h; omega⟩
    have e : 48 + (c - 48) = c := by unfold isFig at h; omega
    rw [e] at this
    rw [this]
    unfold isFig at h
    show ((c - 48 : Nat) : Int) = _
    omega
  · rename_i h
    exact find_none (fun h' => h ((fig_mem c).mp h'))
def LETl : List Nat := (List.range 26).map (97 + ·)
theorem LET_eq : LET = S' LETl := by decide +kernel
theorem LET_mem (c : Nat) : c ∈ LETl ↔ 97 ≤ c ∧ c ≤ 122 := by
  unfold LETl
  rw [List.mem_map]
  constructor
  · rintro ⟨k, hk, rfl⟩
    rw [List.mem_range] at hk
    omega
  · intro h
    exact ⟨c - 97, by rw [List.mem_range]; omega, by omega⟩
/-- the value of a text of figures -/
abbrev valF (l : List Nat) : Nat := NumText.digitsVal l
def numOk (l : List Nat) : Prop := (∀ c ∈ l, isFig c) ∧ l ≠ [] ∧ l.length ≤ 60 ∧ ¬ (1 < l.length ∧ l.head? = some 48)
instance (l : List Nat) : Decidable (numOk l) := by unfold numOk; infer_instance
def numV (l : List Nat) : Option Int := if numOk l then some (valF l : Int) else none
theorem numV_no {l : List Nat} (h : ¬ numOk l) : numV l = none := if_neg h
theorem numV_yes {l : List Nat} (h : numOk l) : numV l = some (valF l : Int) := if_pos h
theorem valF_lt (l : List Nat) (h : ∀ c ∈ l, isFig c) : valF l < 10 ^ l.length := by
  have key : ∀ (l : List Nat) (a k : Nat), (∀ c ∈ l, isFig c) → a < 10 ^ k → l.foldl (fun acc c => acc * 10 + (c - 48)) a < 10 ^ (k + l.length) := by
    intro l
    induction l with
    | nil => intro a k _ h; exact h
    | cons c l ih =>
      intro a k hc ha
      rw [List.foldl_cons, List.length_cons]
      have hcc := hc c List.mem_cons_self
      have := ih (a * 10 + (c - 48)) (k + 1) (fun x hx => hc x (List.mem_cons_of_mem _ hx)) (by
        rw [Nat.pow_succ]
        unfold isFig at hcc
        omega)
      rw [show k + (l.length + 1) = k + 1 + l.length from by omega]
      exact this
  have := key l 0 0 h (by simp)
  rw [Nat.zero_add] at this
  exact this
theorem intS_fig (l : List Nat) (h : ∀ c ∈ l, isFig c) (hn : l ≠ []) (hl : l.length ≤ 640) : intS (S' l) = some (valF l : Int) := by
  unfold intS
  rw [if_pos (by rw [S'_len]; exact hl)]
  exact intText_digits (x := S' l) h hn (by rw [S'_len]; omega)
end BK
namespace BK
open PySem PySem.Spec L2
set_option autoImplicit false
/-! ### numbers and fractions as texts -/
theorem numL_of {l : List Nat} (h : numOk l) : TL.numL (valF l) = l := by
  obtain ⟨h1, h2, h3, h4⟩ := h
  have hl : l.length = (l.length - 1) + 1 := by
    have := List.length_pos_iff.mpr h2
    omega
  unfold TL.numL
  rw [NumText.toDigits_digitsVal (l.length - 1) l hl h1 ?_, List.map_map]
  · have : ∀ c ∈ l, (Char.toNat ∘ Char.ofNat) c = id c := by
      intro c hc
      have hcc := h1 c hc
      have key : ∀ k : Fin 10, (Char.ofNat (48 + k.val)).toNat = 48 + k.val := by decide
      have := key ⟨c - 48, by unfold isFig at hcc; omega⟩
      have e : 48 + (c - 48) = c := by unfold isFig at hcc; omega
      simpa [e] using this
    rw [List.map_congr_left this, List.map_id]
  · match l, h2, h4 with
    | [c], _, _ => exact .inl rfl
    | c :: d :: l, _, h4 =>
      refine .inr ⟨c, d :: l, rfl, ?_⟩
      have hc := h1 c List.mem_cons_self
      have : c ≠ 48 := fun e => h4 ⟨by simp, by simp [e]⟩
      unfold isFig at hc
      omega
theorem numL_head : ∀ (n : Nat), 0 < n → (TL.numL n).head? ≠ some 48 := by
  intro n
  induction n using Nat.strongRecOn with
  | _ n ih =>
    intro h0
    by_cases h : n < 10
    · rw [TL.numL_lt h]
      simp
      omega
    · rw [TL.numL_step (by omega)]
      have h1 := ih (n / 10) (by omega) (by omega)
      have hne := TL.numL_ne (n / 10)
      match hl : TL.numL (n / 10), hne with
      | a :: l, _ =>
        rw [hl] at h1
        simpa using h1
theorem numOk_numL {n : Nat} (h : (TL.numL n).length ≤ 60) : numOk (TL.numL n) := by
  refine ⟨TL.numL_digits n, TL.numL_ne n, h, fun q => ?_⟩
  by_cases h0 : n = 0
  · subst h0
    exact absurd q.1 (by decide)
  · exact numL_head n (by omega) q.2
theorem numV_numL {n : Nat} (h : (TL.numL n).length ≤ 60) : numV (TL.numL n) = some (n : Int) := by
  rw [numV_yes (numOk_numL h)]
  rw [show valF (TL.numL n) = n from TL.numL_val n]
theorem numV_inv {l : List Nat} {v : Int} (h : numV l = some v) : 0 ≤ v ∧ l = TL.numL v.toNat ∧ l.length ≤ 60 := by
  unfold numV at h
  split at h
  · rename_i hk
    cases h
    refine ⟨by omega, ?_, hk.2.2.1⟩
    rw [Int.toNat_natCast, numL_of hk]
  · cases h
def txtI (z : Int) : List Nat := if z < 0 then 45 :: TL.numL z.natAbs else TL.numL z.natAbs
theorem str_int (z : Int) : (toString z : Str) = S' (txtI z) := by
  unfold txtI
  cases z with
  | ofNat n =>
    rw [if_neg (by simp)]
    exact num_nat n
  | negSucc n =>
    rw [if_pos (by omega)]
    have e1 : (toString (Int.negSucc n) : Str) = Str.ofString (toString (Int.negSucc n)) := rfl
    have e2 : toString (Int.negSucc n) = "-" ++ toString (((n + 1 : Nat)) : Int) := rfl
    rw [e1, e2]
    have e3 : (Str.ofString (toString (((n + 1 : Nat)) : Int))) = S' (TL.numL (n + 1)) := num_nat (n + 1)
    refine str_ext ?_
    have h3 := congrArg (fun x : Str => x.cps.toList) e3
    rw [Str.ofString_eq_toList] at h3 ⊢
    simp only [String.toList_append, List.map_append] at h3 ⊢
    simp at h3 ⊢
    exact h3
theorem txtI_len {z : Int} {k : Nat} (hk : 0 < k) (h : z.natAbs < 10 ^ k) : (txtI z).length ≤ k + 1 ∧ 1 ≤ (txtI z).length := by
  have h1 := TL.numL_len hk h
  have h2 := List.length_pos_iff.mpr (TL.numL_ne z.natAbs)
  unfold txtI
  split
  · rw [List.length_cons]; omega
  · omega
def frL (f : Fr) : List Nat := if f.2 = 1 then txtI f.1 else txtI f.1 ++ 47 :: txtI f.2
end BK
namespace BK
open PySem PySem.Spec L2
set_option autoImplicit false
/-! ### more block rules -/
/-- xs[k] = v -/
def setI {α : Type} (xs : List α) (k : Int) (v : α) : Option (List α) := (ixN xs.length k).map fun t => xs.set t v
section
variable {α γ : Type} {b n : Gm → Option Out} {g g1 : Gm} {P : α → Out → Prop} {s : Option α} {t : γ → Option α} {i : Nat}
theorem j_store {β : Type} {e : β → D} {xs ys : List β} {mk mv : Gm → Option R} {k : Int} {r : R} {v : β} (h0 : g[i]? = some (.ow (xs.map e))) (hv : mv g = some r) (hb : r.isBw = false) (hd : r.d = e v) (hk : mk g = some (.va (.int k))) (hs : setI xs k v = some ys) (h1 : g.set i (.ow (ys.map e)) = g1) (K : J b n g1 s P) : J (sCons (sSt i mk mv) b) n g s P :=
  j_seq (a := sSt i mk mv) (g1 := g1) (by
    unfold setI at hs
    obtain ⟨t, ht, rfl⟩ := Option.map_eq_some_iff.mp hs
    unfold sSt
    rw [h0]
    show (mv g).bind _ = _
    rw [hv]
    show (if r.isBw = true then none else (mk g).bind _) = _
    rw [hb, if_neg (by decide), hk]
    show (ixN (xs.map e).length k).map _ = _
    rw [List.length_map, ht]
    show some (Out.nx (g.set i (.ow ((xs.map e).set t r.d)))) = _
    rw [hd, ← List.map_set, h1]) K
end
end BK
namespace BK
open PySem PySem.Spec L2
set_option autoImplicit false
/-! ### the greatest of some, sums over some, bits -/
/-- r is the greatest of the v x of the x of l with c x, and 0 -/
def Mx {α : Type} (l : List α) (c : α → Prop) (v : α → Int) (r : Int) : Prop := 0 ≤ r ∧ (∀ x ∈ l, c x → v x ≤ r) ∧ (r = 0 ∨ ∃ x ∈ l, c x ∧ r = v x)
section
variable {α β : Type} {l : List α} {c : α → Prop} {v : α → Int} {r : Int}
theorem Mx.nil : Mx ([] : List α) c v 0 := ⟨Int.le_refl _, (fun _ h => by cases h), .inl rfl⟩
theorem Mx.yes {x : α} (h : Mx l c v r) (hc : c x) : Mx (l ++ [x]) c v (max r (v x)) := by
  obtain ⟨h0, h1, h2⟩ := h
  refine ⟨by omega, ?_, ?_⟩
  · intro y hy hcy
    rw [List.mem_append, List.mem_singleton] at hy
    rcases hy with hy | rfl
    · have := h1 y hy hcy
      omega
    · omega
  · by_cases hle : v x ≤ r
    · rw [show max r (v x) = r from by omega]
      rcases h2 with h2 | ⟨y, hy, hcy, e⟩
      · exact .inl h2
      · exact .inr ⟨y, List.mem_append_left _ hy, hcy, e⟩
    · exact .inr ⟨x, by simp, hc, by omega⟩
theorem Mx.no {x : α} (h : Mx l c v r) (hc : ¬ c x) : Mx (l ++ [x]) c v r := by
  obtain ⟨h0, h1, h2⟩ := h
  refine ⟨h0, ?_, ?_⟩
  · intro y hy hcy
    rw [List.mem_append, List.mem_singleton] at hy
    rcases hy with hy | rfl
    · exact h1 y hy hcy
    · exact absurd hcy hc
  · rcases h2 with h2 | ⟨y, hy, hcy, e⟩
    · exact .inl h2
    · exact .inr ⟨y, List.mem_append_left _ hy, hcy, e⟩
theorem Mx.le {l' : List β} {c' : β → Prop} {v' : β → Int} {r' : Int} (h : Mx l c v r) (h' : Mx l' c' v' r') (k : ∀ x ∈ l, c x → ∃ y ∈ l', c' y ∧ v x ≤ v' y) : r ≤ r' := by
  rcases h.2.2 with e | ⟨x, hx, hc, e⟩
  · rw [e]; exact h'.1
  · obtain ⟨y, hy, hc', hle⟩ := k x hx hc
    have := h'.2.1 y hy hc'
    omega
end
/-- the sum of w over the places below n with q -/
def sumP (n : Nat) (q : Nat → Bool) (w : Nat → Int) : Int := ((List.range n).map fun p => if q p = true then w p else 0).sum
theorem sumP_succ (n : Nat) (q : Nat → Bool) (w : Nat → Int) : sumP (n + 1) q w = sumP n q w + if q n = true then w n else 0 := by
  unfold sumP
  rw [List.range_succ, List.map_append, List.sum_append]
  simp
theorem sumP_le {n : Nat} {q q' : Nat → Bool} {w : Nat → Int} (hw : ∀ p, p < n → 0 ≤ w p) (h : ∀ p, p < n → q p = true → q' p = true) : sumP n q w ≤ sumP n q' w := by
  induction n with
  | zero => exact Int.le_refl _
  | succ n ih =>
    rw [sumP_succ, sumP_succ]
    have h1 := ih (fun p hp => hw p (by omega)) (fun p hp => h p (by omega))
    have h2 := hw n (by omega)
    have h3 := h n (by omega)
    by_cases a : q n = true
    · rw [if_pos a, if_pos (h3 a)]; omega
    · rw [if_neg a]
      split <;> omega
theorem sumP_congr {n : Nat} {q q' : Nat → Bool} {w : Nat → Int} (h : ∀ p, p < n → q p = q' p) : sumP n q w = sumP n q' w := by
  unfold sumP
  congr 1
  apply List.map_congr_left
  intro p hp
  rw [h p (List.mem_range.mp hp)]
theorem sum_filter (l : List Nat) (q : Nat → Bool) (w : Nat → Int) : ((l.filter q).map w).sum = (l.map fun p => if q p = true then w p else 0).sum := by
  induction l with
  | nil => rfl
  | cons a l ih =>
    rw [List.map_cons, List.sum_cons, ← ih]
    by_cases h : q a = true
    · rw [List.filter_cons_of_pos h, if_pos h, List.map_cons, List.sum_cons]
    · rw [List.filter_cons_of_neg h, if_neg h]
      omega
theorem sumP_from (i n : Nat) (hi : i ≤ n) (q : Nat → Bool) (w : Nat → Int) : ((List.range (n - i)).map fun k => if q (i + k) = true then w (i + k) else 0).sum = sumP n (fun p => decide (i ≤ p) && q p) w := by
  have e : List.range n = List.range i ++ (List.range (n - i)).map (i + ·) := by
    rw [← List.range_add, show i + (n - i) = n from by omega]
  unfold sumP
  rw [e, List.map_append, List.sum_append, List.map_map]
  have h0 : ((List.range i).map fun p => if (decide (i ≤ p) && q p) = true then w p else 0).sum = 0 := by
    have : ∀ l : List Nat, (∀ x ∈ l, x < i) → (l.map fun p => if (decide (i ≤ p) && q p) = true then w p else 0).sum = 0 := by
      intro l
      induction l with
      | nil => intro _; rfl
      | cons a l ih =>
        intro h
        rw [List.map_cons, List.sum_cons, ih fun x hx => h x (List.mem_cons_of_mem _ hx)]
        have := h a List.mem_cons_self
        rw [if_neg (by simp; omega)]
        rfl
    exact this _ fun x hx => List.mem_range.mp hx
  rw [h0, Int.zero_add]
  congr 1
  apply List.map_congr_left
  intro k _
  simp
/-- a number by its bits -/
theorem bits_ex (q : Nat → Bool) (n : Nat) : ∃ b, b < 2 ^ n ∧ ∀ k, k < n → b.testBit k = q k := by
  induction n with
  | zero => exact ⟨0, by simp, fun k h => absurd h (by omega)⟩
  | succ n ih =>
    obtain ⟨b, hb, h⟩ := ih
    by_cases hq : q n = true
    · refine ⟨2 ^ n + b, by rw [Nat.pow_succ]; omega, fun k hk => ?_⟩
      by_cases e : k = n
      · subst e
        rw [Nat.testBit_two_pow_add_eq, Nat.testBit_lt_two_pow hb, hq]
        rfl
      · rw [Nat.testBit_two_pow_add_gt (by omega)]
        exact h k (by omega)
    · refine ⟨b, by rw [Nat.pow_succ]; omega, fun k hk => ?_⟩
      by_cases e : k = n
      · subst e
        rw [Nat.testBit_lt_two_pow hb]
        simpa using hq
      · exact h k (by omega)
theorem bits_pos {b n : Nat} (h0 : 0 < b) (h : b < 2 ^ n) : ∃ k, k < n ∧ b.testBit k = true := by
  obtain ⟨k, hk⟩ : ∃ k, b.testBit k = true := by
    refine Classical.byContradiction fun hn => ?_
    have : b = 0 := Nat.eq_of_testBit_eq fun k => by
      rw [Nat.zero_testBit]
      cases e : b.testBit k with
      | false => rfl
      | true => exact absurd ⟨k, e⟩ hn
    omega
  refine ⟨k, ?_, hk⟩
  rcases Nat.lt_or_ge k n with h1 | h1
  · exact h1
  · have : b < 2 ^ k := Nat.lt_of_lt_of_le h (Nat.pow_le_pow_right (by omega) h1)
    rw [Nat.testBit_lt_two_pow this] at hk
    cases hk
theorem bit_int (b k : Nat) : decide (Builtin.bitAnd ((b : Int) / 2 ^ k) 1 = 1) = b.testBit k := by
  have h := Bits.bit_at (x := (b : Int)) k
  rw [Int.fdiv_eq_ediv_of_nonneg _ (by exact Int.le_of_lt (Int.pow_pos (by omega)))] at h
  rw [h, Nat.testBit_eq_decide_div_mod_eq]
  have : (b : Int) / 2 ^ k % 2 = ((b / 2 ^ k % 2 : Nat) : Int) := by simp
  rw [this]
  rw [Bool.eq_iff_iff, decide_eq_true_iff, decide_eq_true_iff]
  omega
theorem range_lt (n : Nat) (q : Nat → Bool) : ((List.range n).filter q).Pairwise (· < ·) := List.Pairwise.filter _ List.pairwise_lt_range
theorem head_min {l : List Nat} (h : l.Pairwise (· < ·)) {a : Nat} {t : List Nat} (e : l = a :: t) : ∀ x ∈ l, a ≤ x := by
  subst e
  intro x hx
  rcases List.mem_cons.mp hx with rfl | hx
  · exact Nat.le_refl _
  · exact Nat.le_of_lt ((List.pairwise_cons.mp h).1 x hx)
theorem last_max {l : List Nat} (h : l.Pairwise (· < ·)) {a : Nat} {t : List Nat} (e : l = t ++ [a]) : ∀ x ∈ l, x ≤ a := by
  subst e
  intro x hx
  rcases List.mem_append.mp hx with hx | hx
  · exact Nat.le_of_lt ((List.pairwise_append.mp h).2.2 x hx a (by simp))
  · rw [List.mem_singleton.mp hx]
    exact Nat.le_refl _
theorem pl_mono : ∀ (n : Nat) (d : D), pl n d = true → pl (n + 1) d = true := by
  intro n
  induction n with
  | zero =>
    intro d h
    cases d with
    | lst xs => cases h
    | tup xs => cases h
    | ins c fs => cases h
    | rol xs => cases h
    | dic ks xs => cases h
    | exc ks xs => cases h
    | _ => rfl
  | succ n ih =>
    intro d h
    cases d with
    | lst xs =>
      rw [pl_lst, Bool.and_eq_true, List.all_eq_true] at h ⊢
      exact ⟨h.1, fun x hx => ih x (h.2 x hx)⟩
    | tup xs =>
      rw [pl_tup, Bool.and_eq_true, List.all_eq_true] at h ⊢
      exact ⟨h.1, fun x hx => ih x (h.2 x hx)⟩
    | ins c fs => cases h
    | rol xs => cases h
    | dic ks xs => cases h
    | exc ks xs => cases h
    | _ => rfl
theorem getLastD_mem {l : List Nat} (h : l ≠ []) : l.getLastD 0 ∈ l := by
  obtain ⟨ini, x, rfl⟩ : ∃ ini x, l = ini ++ [x] := ⟨l.dropLast, l.getLast h, (List.dropLast_concat_getLast h).symm⟩
  simp
end BK
namespace BK
open PySem PySem.Spec L2
set_option autoImplicit false
/-! ### drawn roads of six bridges at most -/
/-- a name: one to twelve small letters -/
def NmOk (x : Str) : Prop := ∃ l : List Nat, x = S' l ∧ 1 ≤ l.length ∧ l.length ≤ 12 ∧ ∀ c ∈ l, 97 ≤ c ∧ c ≤ 122
theorem NmOk.sok {x : Str} (h : NmOk x) : PyData.strOk x = true := by
  obtain ⟨l, rfl, _, _, h⟩ := h
  show (S' l).cps.all (fun x => decide (x < 1114112)) = true
  rw [List.all_toArray, List.all_eq_true]
  intro c hc
  have := h c hc
  exact decide_eq_true (by omega)
theorem NmOk.len {x : Str} (h : NmOk x) : 1 ≤ x.length ∧ x.length ≤ 12 := by
  obtain ⟨l, rfl, h1, h2, _⟩ := h
  rw [S'_len]
  exact ⟨h1, h2⟩
def tellB (b : Bg) : D := eP6 D.str D.str D.int D.int D.int D.int ("bridge", b.name, b.length, b.bears, b.wide, b.most)
def tellO (n : Int) : D := eP2 D.str D.int ("open", n)
def tellP : Pc → D
  | .inl n => tellO n
  | .inr b => tellB b
def pcs (o0 : Int) (qs : List (Bg × Int)) : List Pc := .inl o0 :: qs.flatMap fun q => [.inr q.1, .inl q.2]
theorem pcs_snoc (o0 : Int) (qs : List (Bg × Int)) (q : Bg × Int) : pcs o0 (qs ++ [q]) = pcs o0 qs ++ [.inr q.1, .inl q.2] := by
  unfold pcs
  rw [List.flatMap_append]
  simp
theorem pcs_len (o0 : Int) (qs : List (Bg × Int)) : (pcs o0 qs).length = 1 + 2 * qs.length := by
  unfold pcs
  induction qs with
  | nil => rfl
  | cons q qs ih =>
    rw [List.flatMap_cons]
    simp at ih ⊢
    omega
structure BgOk (b : Bg) : Prop where
  l : 1 ≤ b.length ∧ b.length ≤ 1000
  br : 1 ≤ b.bears ∧ b.bears ≤ 10000000
  w : 1 ≤ b.wide ∧ b.wide ≤ 200
  m : 1 ≤ b.most ∧ b.most ≤ 10000000
structure NsOk (names : List Str) : Prop where
  l : names.length = 8
  d : names.Nodup
  n : ∀ x ∈ names, NmOk x
structure RnOk (N : List Str) (rounds : List (Str × Int)) : Prop where
  l : rounds.length ≤ N.length
  d : (rounds.map (·.1)).Nodup
  n : ∀ r ∈ rounds, r.1 ∈ N ∧ 1 ≤ r.2 ∧ r.2 ≤ 1000
structure QsOk (N : List Str) (qs : List (Bg × Int)) : Prop where
  n : qs.map (·.1.name) = N
  q : ∀ q ∈ qs, BgOk q.1 ∧ 200 ≤ q.2 ∧ q.2 ≤ 1000
structure ShOk (N : List Str) (shuts : List (Str × Int × Int)) : Prop where
  l : shuts.length ≤ 7
  n : ∀ s ∈ shuts, s.1 ∈ N ∧ 0 ≤ s.2.1 ∧ s.2.1 < s.2.2 ∧ s.2.2 ≤ 10000
/-- a drawn road -/
structure RwOk (names : List Str) (o0 : Int) (qs : List (Bg × Int)) (rounds : List (Str × Int)) (shuts : List (Str × Int × Int)) : Prop where
  nm : NsOk names
  n : 1 ≤ qs.length ∧ qs.length ≤ 6
  o : 200 ≤ o0 ∧ o0 ≤ 1000
  q : QsOk (names.take qs.length) qs
  r : RnOk (names.take qs.length) rounds
  s : ShOk (names.take qs.length) shuts
theorem RnOk.rev {N : List Str} {rs : List (Str × Int)} (h : RnOk N rs) : RnOk N rs.reverse :=
  ⟨by rw [List.length_reverse]; exact h.l, by rw [List.map_reverse]; unfold List.Nodup; rw [List.pairwise_reverse]; exact h.d.imp fun h => h.symm, fun r hr => h.n r (List.mem_reverse.mp hr)⟩
theorem take_snoc {names : List Str} {k : Nat} (h : k < names.length) : names.take (k + 1) = names.take k ++ [names[k]] := List.take_succ_eq_append_getElem h
theorem not_in_take {names : List Str} (hd : names.Nodup) {k : Nat} (h : k < names.length) : names[k] ∉ names.take k := by
  have h1 := take_snoc h
  have h2 : (names.take (k + 1)).Nodup := hd.sublist (List.take_sublist _ _)
  rw [h1, List.nodup_append] at h2
  intro hm
  exact h2.2.2 _ hm _ (by simp) rfl
theorem pl_tellP (p : Pc) : pl 8 (tellP p) = true := by
  cases p <;> rfl
end BK
namespace BK
open PySem PySem.Spec L2
set_option autoImplicit false
/-! ### pop -/
def popI {α : Type} (xs : List α) (k : Int) : Option (α × List α) := if -(2 ^ 63) ≤ k ∧ k < 2 ^ 63 then (seqIndex? k xs.length).bind fun t => xs[t]?.map fun d => (d, xs.eraseIdx t) else none
theorem popI_zero {α : Type} (x : α) (xs : List α) : popI (x :: xs) 0 = some (x, xs) := by
  unfold popI
  rw [if_pos (by omega)]
  have : seqIndex? 0 (x :: xs).length = some 0 := by
    unfold seqIndex?
    simp
  rw [this]
  rfl
section
variable {α γ : Type} {b n : Gm → Option Out} {g g1 : Gm} {P : α → Out → Prop} {s : Option α} {t : γ → Option α} {i j : Nat}
theorem popI_D {β : Type} {e : β → D} {xs : List β} {k : Int} {p : β × List β} (h : popI xs k = some p) : ∃ q : Nat, ixD (xs.map e) (.va (.int k)) = some q ∧ (xs.map e)[q]? = some (e p.1) ∧ (xs.map e).eraseIdx q = p.2.map e := by
  unfold popI at h
  split at h
  · rename_i hb
    obtain ⟨q, hq, h2⟩ := Option.bind_eq_some_iff.mp h
    obtain ⟨d, hd, rfl⟩ := Option.map_eq_some_iff.mp h2
    refine ⟨q, ?_, ?_, ?_⟩
    · unfold ixD
      rw [List.length_map]
      exact (if_pos hb).trans hq
    · rw [List.getElem?_map, hd]
      rfl
    · rw [List.eraseIdx_eq_take_drop_succ, List.eraseIdx_eq_take_drop_succ, List.map_append, List.map_take, List.map_drop]
  · cases h
theorem j_popS {β : Type} {e : β → D} {xs : List β} {mk : Gm → Option R} {k : Int} {p : β × List β} (h0 : g[i]? = some (.ow (xs.map e))) (hk : mk g = some (.va (.int k))) (hp : popI xs k = some p) (h1 : (g.set i (.ow (p.2.map e))).set j (.va (e p.1)) = g1) (K : J b n g1 s P) : J (sCons (sPopS j i mk) b) n g s P :=
  j_seq (a := sPopS j i mk) (g1 := g1) (by
    obtain ⟨q, h2, h3, h4⟩ := popI_D (e := e) hp
    unfold sPopS
    rw [h0]
    show (mk g).bind _ = _
    rw [hk]
    show (ixD (xs.map e) (.va (.int k))).bind _ = _
    rw [h2]
    show ((xs.map e)[q]?).map _ = _
    rw [h3]
    show some (Out.nx ((g.set i (.ow ((xs.map e).eraseIdx q))).set j (.va (e p.1)))) = _
    rw [h4, h1]) K
theorem j_popX {β : Type} {e : β → D} {xs : List β} {mk : Gm → Option R} {k : Int} {p : β × List β} (h0 : g[i]? = some (.ow (xs.map e))) (hk : mk g = some (.va (.int k))) (hp : popI xs k = some p) (h1 : g.set i (.ow (p.2.map e)) = g1) (K : J b n g1 s P) : J (sCons (sPopX i mk) b) n g s P :=
  j_seq (a := sPopX i mk) (g1 := g1) (by
    obtain ⟨q, h2, h3, h4⟩ := popI_D (e := e) hp
    unfold sPopX
    rw [h0]
    show (mk g).bind _ = _
    rw [hk]
    show (ixD (xs.map e) (.va (.int k))).bind _ = _
    rw [h2]
    show ((xs.map e)[q]?).map _ = _
    rw [h3]
    show some (Out.nx (g.set i (.ow ((xs.map e).eraseIdx q)))) = _
    rw [h4, h1]) K
end
end BK
namespace BK
open PySem PySem.Spec L2
set_option autoImplicit false
/-! ### list(range(n)) -/
def rgD (n : Int) : Option R := if 0 ≤ n ∧ n ≤ 16777216 then some (.tm ((List.range n.toNat).map fun i : Nat => D.int (i : Int))) else none
def fLR (r : R) : Option R := match r with
  | .va (.int n) => rgD n
  | _ => none
def eLR (m : Gm → Option R) : Gm → Option R := fun g => (m g).bind fLR
section
variable {X : Cx} {ca : Nat → Addr} {m : Gm → Option R}
theorem dens_rg {K : PySem.W.Frag} {F : Hp} {n : Int} : Dens K ca F (rgV 0 n) ((List.range n.toNat).map fun i : Nat => D.int (i : Int)) := by
  have key : ∀ l : List Nat, Dens K ca F (l.map fun i => V.int (0 + (i : Nat))) (l.map fun i : Nat => D.int (i : Int)) := by
    intro l
    induction l with
    | nil => exact .nil
    | cons a l ih =>
      refine .cons ?_ ih
      show Den K ca F (V.int (0 + (a : Int))) (D.int (a : Int))
      rw [Int.zero_add]
      exact .int _
  have := key (List.range (n - 0).toNat)
  unfold rgV
  rw [Int.sub_zero] at *
  exact this
theorem ev_listRg {a : Expr} {p p2 pos pos2 : Pos} (hc : X.calm = true) (hg : Gl X "list") (hm : X.mg "list" = none) (hg2 : Gl X "range") (hm2 : X.mg "range" = none) (ha : EV X ca a m)
    (na : starEach [a] X.env = (false, eval a X.env) :: starEach [] X.env := by rfl) (na2 : starEach [.Call (.Name "range" p2) [a] [] pos2] X.env = (false, eval (.Call (.Name "range" p2) [a] [] pos2) X.env) :: starEach [] X.env := by rfl) :
    EV X ca (.Call (.Name "list" p) [.Call (.Name "range" p2) [a] [] pos2] [] pos) (eLR m) := by
  refine pe_imp (pe_listRg hc hg hm (prg_1 hg2 hm2 ha na) na2) ?_
  rintro σ H Q ⟨H0, F0, F, Γ, z, S, e, q⟩
  unfold eLR at e
  obtain ⟨r, er, e⟩ := Option.bind_eq_some_iff.mp e
  refine ⟨H0, F0, F, Γ, r, S, er, fun v H1 F1 x1 r1 => ?_⟩
  unfold fLR at e
  split at e
  · unfold rgD at e
    split at e
    · rename_i n hn
      cases e
      cases r1
      refine ⟨n, rfl, RgOk.of_le (by omega) hn.2 (by omega) hn.1, fun p hp => ?_⟩
      exact q _ _ F1 (x1.trans (.newO x1.fh _ hp)) ⟨p, _, rfl, x1.hh.free (noT_none hp), x1.fh.free hp, upd_same, dens_rg⟩
    · cases e
  · cases e
end
end BK
/-! ### list(reversed(a list)) -/
namespace LRV
open PySem PySem.Spec PyProof.Rows L2 RT PySem.Builtin
section
variable {prog : Program} {w : World} {A : Around} {E : Value → Shared → Prop} {s : Shared}
theorem extend_rev {R : Result → Shared → Prop} {it l : Addr} {items : Array Value} (hh : A.handled = none) (hit : s.heap.IsRevIter it l ((items.size : Int) - 1)) (hl : s.heap.IsList l items) (hne : l ≠ it) (hn : items.size ≤ sizeLine)
    (S : Addr) (res : Value) (c₀ : Nat) (hS : s.heap.get? S = some { cls := .type "list", data := .seq #[] c₀ }) (hSi : S ≠ it) (hSl : S ≠ l)
    (hR : ∀ h' tk acc' c', (∀ b o, b ≠ S → b ≠ it → s.heap.get? b = some o → h'.get? b = some o) → h'.get? S = some { cls := .type "list", dict := none, data := .seq acc' c', slots := #[] } →
      ItemsOf (fun i v => items[items.size - 1 - i]? = some v) acc' items.size → R (.ok (.ret res)) { s with heap := h', toks := tk }) :
    wpAny (model prog w) A.in1 (Builtin.List.listExtendWith (.ref S) (.ref it) res)
      (fun fin s' => match fin with | .done f => R (.ok f) s' | .again c' => c'.quiet = true ∧ codeAny (model prog w) A c' R s') (fun e s' => R (.error e) s') s := by
  have W := (Walks.listRev (prog := prog) (w := w) (A := A.in1) hh it l hne items).toS
  have hSf : S ∉ [it, l] := by simp only [List.mem_cons, List.not_mem_nil, or_false, not_or]; exact ⟨hSi, hSl⟩
  have hT : s.TypeIs (.ref it) "list_reverseiterator" := hit.typeIs
  have h1 : Builtin.List.listSameRef (.ref S) (.ref it) = false := by simp [Builtin.List.listSameRef, hSi]
  unfold Builtin.List.listExtendWith
  refine wpAny_bind (wpAny_typeOf hT ?_)
  rw [if_neg (by rw [h1]; decide)]
  refine wpAny_bind (wpAny_pyIter_revIter hit ?_)
  refine wpAny_bind (wpAny_holding ?_)
  unfold Builtin.List.listLengthHint
  refine wpAny_bind (wpAny_specialOf hT nolen_lri ?_)
  show wpAny _ A.in1 (specialOf (Value.ref it) (Str.ofString "__length_hint__") >>= _) _ _ _
  refine wpAny_bind (wpAny_specialOf hT hint_lri ?_)
  generalize hid : ("list_reverseiterator.__length_hint__" : String) = id0
  wp_delta
  rw [show splitId id0 = some ("list_reverseiterator", "__length_hint__") from by subst hid; decide +kernel]
  subst hid
  refine wpAny_bind (wpAny_isInstance (b := true) hT (by rw [isSubtype_type]; kernel_rfl) ?_)
  refine wpAny_pure ?_
  rw [if_neg (by decide)]
  have e0 : ((items.size : Nat) : Int) - 1 - ((0 : Nat) : Int) = (items.size : Int) - 1 := by omega
  refine wpAny_pure ⟨plainId_quiet F.plain_extend_loop _, codeAny_extend_loopS W hn _ hSf _ items.size 0 _ _ _ rfl (Nat.zero_le _) ⟨Nat.zero_le _, by rw [e0]; exact hit, hl⟩ hS (ItemsOf.nil _) fun s' acc' c' hm hS' hacc => ?_⟩
  rw [Moved.eq_with hm]
  refine hR s'.heap s'.toks acc' c' (fun b o hb hb2 e => hm.heap b o (fun hmem => ?_) e) hS' hacc
  rcases List.mem_cons.mp hmem with e' | hmem
  · exact hb e'
  · exact hb2 (List.mem_singleton.mp hmem)
theorem init_rev {R : Result → Shared → Prop} {it l : Addr} {items : Array Value} (hh : A.handled = none) (hit : s.heap.IsRevIter it l ((items.size : Int) - 1)) (hl : s.heap.IsList l items) (hne : l ≠ it) (hn : items.size ≤ sizeLine)
    (S : Addr) (hS : s.heap.get? S = some { cls := .type "list", data := .seq #[] }) (hSi : S ≠ it) (hSl : S ≠ l)
    (hR : ∀ h' tk acc' c', (∀ b o, b ≠ S → b ≠ it → s.heap.get? b = some o → h'.get? b = some o) → h'.get? S = some { cls := .type "list", dict := none, data := .seq acc' c', slots := #[] } →
      ItemsOf (fun i v => items[items.size - 1 - i]? = some v) acc' items.size → R (.ok (.ret .none)) { s with heap := h', toks := tk }) :
    wpAny (model prog w) A.in1 (Builtin.«list.__init__» ⟨[.ref S, .ref it], []⟩)
      (fun fin s' => match fin with | .done f => R (.ok f) s' | .again c' => c'.quiet = true ∧ codeAny (model prog w) A c' R s') (fun e s' => R (.error e) s') s := by
  show wpAny _ _ (do let old ← Builtin.List.listItems (.ref S); Builtin.List.listUpdate (.ref S) (fun _ => #[]); letGo old.toList.reverse; Builtin.List.listExtendWith (.ref S) (.ref it) .none) _ _ s
  refine wpAny_bind ?_
  unfold Builtin.List.listItems
  refine wpAny_bind (wpAny_seqItems hS rfl (wpAny_pure ?_))
  show wpAny _ _ (updateSeq S (fun _ => #[]) >>= fun _ => letGo (#[] : Array Value).toList.reverse >>= fun _ => Builtin.List.listExtendWith (.ref S) (.ref it) .none) _ _ s
  refine wpAny_bind (wpAny_updateSeq hS rfl ?_)
  have hS₂ := Heap.get?_update_self (Obj.mapSeq (fun _ => (#[] : Array Value))) hS rfl
  have oth : ∀ b o, b ≠ S → s.heap.get? b = some o → (s.heap.update S (Obj.mapSeq (fun _ => (#[] : Array Value)))).get? b = some o :=
    fun b o hb e => (Heap.get?_update_other _ _ (Ne.symm hb)).trans e
  refine wpAny_bind (wpAny_letGo ?_)
  have hit2 : (s.heap.update S (Obj.mapSeq (fun _ => (#[] : Array Value)))).IsRevIter it l ((items.size : Int) - 1) := hit.at fun o e => oth it o (Ne.symm hSi) e
  have hl2 : (s.heap.update S (Obj.mapSeq (fun _ => (#[] : Array Value)))).IsList l items := by
    obtain ⟨o, ho, r⟩ := hl
    exact ⟨o, oth l o (Ne.symm hSl) ho, r⟩
  refine extend_rev hh hit2 hl2 hne hn S .none _ hS₂ hSi hSl fun h' tk acc' c' hk hS' hacc => ?_
  exact hR h' tk acc' c' (fun b o hb hb2 e => hk b o hb hb2 (oth b o hb e)) hS' hacc
theorem call_list_rev {it l : Addr} {items : Array Value} {Q : Value → Shared → Prop} (hh : A.handled = none) (hit : s.heap.IsRevIter it l ((items.size : Int) - 1)) (hl : s.heap.IsList l items) (hne : l ≠ it) (hn : items.size ≤ sizeLine)
    (hQ : ∀ h' tk acc' c', (∀ b o, b ≠ it → s.heap.get? b = some o → h'.get? b = some o) →
      h'.get? s.heap.objs.size = some { cls := .type "list", dict := none, data := .seq acc' c', slots := #[] } → ItemsOf (fun i v => items[items.size - 1 - i]? = some v) acc' items.size → Q (.ref s.heap.objs.size) { s with heap := h', toks := tk }) :
    wpAny (model prog w) A (call (.type "list") [.ref it]) Q E s := by
  refine callType_codes (Q₁ := fun obj s₁ => obj = .ref s.heap.objs.size ∧ s₁ = { s with heap := s.heap.push { cls := .type "list", data := .seq #[] } }) F.called_list (F.typeCall_list_1 _) F.entry_list_init
    (code_list_new _ ⟨rfl, rfl⟩) fun obj s₁ h₁ => ?_
  obtain ⟨rfl, rfl⟩ := h₁
  have hS : (s.heap.push { cls := .type "list", data := .seq #[] }).get? s.heap.objs.size = some { cls := .type "list", data := .seq #[] } := Heap.get?_push_size _ rfl
  obtain ⟨oi, hoi, _⟩ := id hit
  obtain ⟨ol, hol, _⟩ := id hl
  have hSi : s.heap.objs.size ≠ it := Nat.ne_of_gt (Heap.lt_size hoi)
  have hSl : s.heap.objs.size ≠ l := Nat.ne_of_gt (Heap.lt_size hol)
  have hit1 : (s.heap.push { cls := .type "list", data := .seq #[] }).IsRevIter it l ((items.size : Int) - 1) := hit.at fun o e => Heap.get?_push_of_some _ e
  refine ⟨⟨_, hS, rfl⟩, F.args_list_init_2 _ _, init_rev (s := { s with heap := s.heap.push { cls := .type "list", data := .seq #[] } }) (A := A.in1) hh hit1 (hl.push _) hne hn _ hS hSi hSl fun h' tk acc' c' hk hS' hacc => ?_⟩
  exact ⟨rfl, hQ h' tk acc' c' (fun b o hb e => hk b o (Nat.ne_of_lt (Heap.lt_size e)) hb (Heap.get?_push_of_some _ e)) hS' hacc⟩
end
def tLstRev (K : PySem.W.Frag) (te : TE) : TE := fun σ H Q => te σ H fun v H1 => ∃ (a : Addr) (xs : List V), v = .ref a ∧ SqL K H1 a xs ∧ ∀ q, H1 q = none → Q (.ref q) (upd H1 q (.lst xs.reverse))
section
variable {X : Cx}
theorem pe_listRev {e : Expr} {te : TE} {p p2 pos pos2 : Pos} (hc : X.calm = true) (hg : Gl X "list") (hm : X.mg "list" = none) (hg2 : Gl X "reversed") (hm2 : X.mg "reversed" = none) (he : PE X e te)
    (hs : starEach [e] X.env = (false, eval e X.env) :: starEach [] X.env := by rfl)
    (hs2 : starEach [.Call (.Name "reversed" p2) [e] [] pos2] X.env = (false, eval (.Call (.Name "reversed" p2) [e] [] pos2) X.env) :: starEach [] X.env := by rfl) :
    PE X (.Call (.Name "list" p) [.Call (.Name "reversed" p2) [e] [] pos2] [] pos) (tLstRev X.K te) := by
  refine ⟨fun pins s σ H Q I h => ?_⟩
  refine Call_ (ld_blt I hg hm boot_list (PyProof.Rows.callWith_type1 (args_cons (Call_ (ld_blt I hg2 hm2 PyProof.Rows.boot_reversed (PyProof.Rows.callWith_type1 (args_cons (thn (he.run pins s σ H _ I h) fun u s1 ⟨v, H1, I1, r1, q1⟩ => args_nil ?_) hs) hs rfl))) hs2) hs2 rfl))
  obtain ⟨a, xs, ev, hq, q⟩ := q1
  subst ev
  obtain rfl : u = Value.ref a := r1
  obtain ⟨its, rv, p', hz⟩ := I1.list hq
  refine call_reversed_list p'.isList (args_nil ?_)
  have k0 : ∀ b o, s1.heap.get? b = some o → (s1.heap.push (revObj a ((its.toArray.size : Int) - 1))).get? b = some o := fun b o e => Heap.get?_push_of_some _ e
  have I2 : Inv X pins σ H1 { s1 with heap := s1.heap.push (revObj a ((its.toArray.size : Int) - 1)) } := I1.kept (t' := s1.toks) k0
  obtain ⟨f0, f1, f2, f3, f4, f5⟩ := I1.fpOk (H' := H1) (b := s1.heap.objs.size) (Nat.le_refl _) (I1.hok.fresh (Nat.le_refl _))
  have hl := p'.isList
  obtain ⟨ol, hol, _⟩ := id hl
  have hne : a ≠ s1.heap.objs.size := Nat.ne_of_lt (Heap.lt_size hol)
  have hn : its.toArray.size ≤ sizeLine := by rw [List.size_toArray, ← rv.length]; exact hz
  refine call_list_rev (s := { s1 with heap := s1.heap.push (revObj a ((its.toArray.size : Int) - 1)) }) (I1.ok.hd hc) ⟨_, Heap.get?_push_size _ rfl, rfl, rfl⟩ (hl.push _) hne hn fun h' tk acc c' hk e' hi => ?_
  have hsz : s1.heap.objs.size ≤ (s1.heap.push (revObj a ((its.toArray.size : Int) - 1))).objs.size := by
    show _ ≤ (s1.heap.objs.push _).size
    rw [Array.size_push]
    omega
  refine ⟨.ref (s1.heap.push (revObj a ((its.toArray.size : Int) - 1))).objs.size, upd H1 (s1.heap.push (revObj a ((its.toArray.size : Int) - 1))).objs.size (.lst xs.reverse), I1.laid (t' := tk) (fun b o e => hk b o (Nat.ne_of_lt (Heap.lt_size e)) (Heap.get?_push_of_some _ e)) hsz (show ObjOk X.prog X.w _ _ _ (.lst xs.reverse) from ⟨by rw [List.length_reverse]; exact hz, acc.toList, c', vals_rev rv hi, ?_⟩), rfl, q _ (I1.hok.fresh hsz)⟩
  rw [Array.toArray_toList]
  exact e'
end
end LRV
namespace BK
open PySem PySem.Spec L2
set_option autoImplicit false
def fLV (r : R) : Option R := match r.d with
  | .lst ds => some (.tm ds.reverse)
  | _ => none
def eLV (m : Gm → Option R) : Gm → Option R := fun g => (m g).bind fLV
section
variable {X : Cx} {ca : Nat → Addr} {m : Gm → Option R}
theorem dens_rev {K : PySem.W.Frag} {F : Hp} : ∀ {vs : List V} {ds : List D}, Dens K ca F vs ds → Dens K ca F vs.reverse ds.reverse := by
  have app : ∀ {vs : List V} {ds : List D} {v : V} {d : D}, Dens K ca F vs ds → Den K ca F v d → Dens K ca F (vs ++ [v]) (ds ++ [d]) := by
    intro vs
    induction vs with
    | nil => intro ds v d h h2; cases h; exact .cons h2 .nil
    | cons a vs ih => intro ds v d h h2; cases h with | cons h hs => exact .cons h (ih hs h2)
  intro vs
  induction vs with
  | nil => intro ds h; cases h; exact .nil
  | cons a vs ih =>
    intro ds h
    cases h with
    | cons h hs =>
      rw [List.reverse_cons, List.reverse_cons]
      exact app (ih hs) h
theorem ev_listRev {a : Expr} {p p2 pos pos2 : Pos} (hc : X.calm = true) (hg : Gl X "list") (hm : X.mg "list" = none) (hg2 : Gl X "reversed") (hm2 : X.mg "reversed" = none) (ha : EV X ca a m)
    (na : starEach [a] X.env = (false, eval a X.env) :: starEach [] X.env := by rfl) (na2 : starEach [.Call (.Name "reversed" p2) [a] [] pos2] X.env = (false, eval (.Call (.Name "reversed" p2) [a] [] pos2) X.env) :: starEach [] X.env := by rfl) :
    EV X ca (.Call (.Name "list" p) [.Call (.Name "reversed" p2) [a] [] pos2] [] pos) (eLV m) := by
  refine pe_imp (LRV.pe_listRev hc hg hm hg2 hm2 ha na na2) ?_
  rintro σ H Q ⟨H0, F0, F, Γ, z, S, e, q⟩
  unfold eLV at e
  obtain ⟨r, er, e⟩ := Option.bind_eq_some_iff.mp e
  refine ⟨H0, F0, F, Γ, r, S, er, fun v H1 F1 x1 r1 => ?_⟩
  unfold fLV at e
  split at e
  · rename_i ds hd
    cases e
    obtain ⟨a, us, rfl, r2, d1⟩ := RV.lst x1.fh r1 hd
    refine ⟨a, us, rfl, rd_l r2, fun p hp => ?_⟩
    exact q _ _ F1 (x1.trans (.newO x1.fh _ hp)) ⟨p, _, rfl, x1.hh.free (noT_none hp), x1.fh.free hp, upd_same, dens_rev d1⟩
  · cases e
end
end BK
namespace BK
open PySem PySem.Spec L2
set_option autoImplicit false
theorem x_lr {m : Gm → Option R} {g : Gm} {n : Int} (h : m g = some (.va (.int n))) (hn : 0 ≤ n ∧ n ≤ 16777216) : eLR m g = some (.tm (List.map D.int (rgI 0 n))) := by
  unfold eLR
  rw [h]
  show rgD n = _
  unfold rgD
  rw [if_pos hn]
  unfold rgI
  rw [List.map_map, Int.sub_zero]
  congr 2
  apply List.map_congr_left
  intro i _
  show D.int (i : Int) = D.int (0 + (i : Int))
  rw [Int.zero_add]
theorem x_lv {α : Type} {m : Gm → Option R} {g : Gm} {r : R} {e : α → D} {xs : List α} (h : m g = some r) (hr : r.d = .lst (xs.map e)) : eLV m g = some (.tm (List.map e xs.reverse)) := by
  unfold eLV
  rw [h]
  show fLV r = _
  unfold fLV
  rw [hr]
  show some (R.tm (xs.map e).reverse) = _
  rw [List.map_reverse]
theorem x_tmD {α : Type} {m : Gm → Option R} {g : Gm} {e : α → D} {xs : List α} (h : m g = some (R.tm (xs.map e))) : m g = some (R.tm (List.map eD (xs.map e))) := by
  rw [h, List.map_map]
  rfl
theorem x_vaD {α : Type} {m : Gm → Option R} {g : Gm} {e : α → D} {xs : List α} (h : m g = some (R.va (eL e xs))) : m g = some (R.va (eL eD (xs.map e))) := by
  rw [h]
  show _ = some (R.va (D.lst (List.map eD (xs.map e))))
  rw [List.map_map]
  rfl
end BK
namespace BK
open PySem PySem.Spec L2
set_option autoImplicit false
/-- fractions by what they are worth, over b -/
def frKey (b : Int) (p : Int × Int) : Int := p.1 * b.fdiv p.2
def frLe (b : Int) (p q : Int × Int) : Bool := decide (frKey b p ≤ frKey b q)
theorem x_so {m : Gm → Option R} {g : Gm} {r : R} {jb : Nat} {b : Int} {xs : List (Int × Int)} (h : m g = some r) (hr : r.d = .lst (xs.map (eP2 D.int D.int))) (hb : g[jb]? = some (.va (.int b))) (hok : ∀ p ∈ xs, CDivB b p.2 ∧ CMulB p.1 (b.fdiv p.2)) : eSo jb m g = some (.tm (List.map (eP2 D.int D.int) (xs.mergeSort (frLe b)))) := by
  unfold eSo
  rw [h]
  show (match r.d, g[jb]? with
    | .lst ds, some (.va (.int b)) => if ds.all (ioOk b) = true then some (R.tm (ds.mergeSort (ioLe b))) else none
    | _, _ => none) = _
  rw [hr, hb]
  show (if (xs.map (eP2 D.int D.int)).all (ioOk b) = true then some (R.tm ((xs.map (eP2 D.int D.int)).mergeSort (ioLe b))) else none) = _
  rw [if_pos]
  · rw [PySem.W.sort_maps (r := frLe b) (s := ioLe b) (eP2 D.int D.int) fun x _ y _ => rfl]
  · rw [List.all_map, List.all_eq_true]
    intro p hp
    have := hok p hp
    show (decide (CDivB b p.2) && decide (CMulB p.1 (b.fdiv p.2))) = true
    rw [decide_eq_true this.1, decide_eq_true this.2]
    rfl
theorem f_slP {us vs : List D} {lo hi : Option Int} (h : cutL us lo hi = vs) : oSl (.va (.tup us)) lo hi = some (.va (.tup vs)) := by
  subst h
  rfl
end BK
namespace BK
open PySem PySem.Spec L2
set_option autoImplicit false
/-! ### the end over a head's facts, with one table -/
section
variable {K : PySem.W.Frag} {x qual : Str} {st : Stmt} {dvs : List V} {kws : List (Str × V)} {f : Addr} {fd : FuncData}
theorem funA_ofD (F : FunD K x qual (defArgs st) (defBody st) (defScope st) dvs kws f fd) : FunA K x qual st f fd := by
  obtain ⟨oc, od, dV, kV, doc, pm, an, cdv, ct, osl, e, lk, hcd, _, _⟩ := F.ex
  exact ⟨⟨oc, od, dV, kV, doc, pm, an, cdv, ct, osl, e, lk, hcd⟩, F.kp⟩
theorem fun_ofD (F : FunD K x qual (defArgs st) (defBody st) (defScope st) [] kws f fd) : Fun K x qual st f fd := by
  obtain ⟨oc, od, dV, kV, doc, pm, an, cdv, ct, osl, e, lk, hcd, hD, _⟩ := F.ex
  rcases hD with ⟨_, rfl⟩ | ⟨h, _⟩
  · exact ⟨⟨oc, od, kV, doc, pm, an, cdv, ct, osl, e, lk, hcd⟩, F.kp⟩
  · exact absurd rfl h
theorem code_ofD {p : Str × Option Str} (F : FunD K x qual (defArgs st) (defBody st) (defScope st) dvs kws (He.fAd K p) fd) : fd.code = .ref (He.codeOf K p) := by
  obtain ⟨oc, od, dV, kV, doc, pm, an, cdv, ct, osl, e, lk, hcd, _, _⟩ := F.ex
  obtain ⟨c, hc⟩ := He.codeIn_ref hcd
  have h : fd.code = .ref c := by rw [e]; exact hc
  rw [He.codeOf_eq lk h]
  exact h
end
theorem tabsC1 {ca : Nat → Addr} {H : Hp} (h : H (ca 21) = some (.tbl #[])) (h22 : ca 22 = 0) : TabsC ca H := by
  exact ⟨fun _ => LamX.TabS.nil h, fun z => (by rw [h22] at z; cases z)⟩
end BK
namespace BK
open PySem PySem.Spec L2
set_option autoImplicit false
/-! ### what is asked of entries -/
def shutsQ (ss : List (Str × Int × Int)) (x : Str) : List (Int × Int) := (ss.filter fun s => decide (s.1 = x)).map fun s => (s.2.1, s.2.2)
def meetsZ (ts : List (Int × Int)) (ss : List (Int × Int)) : Bool := ss.any fun s => ts.any fun t => decide (t.1 < 27720 * s.2) && decide (27720 * s.1 < t.2)
def mayZ (len bears : Int) (shuts : List (Int × Int)) (xs : List XZ) (x : XZ) : Bool := !meetsZ (timesZ len x) shuts && (spansZ len x.name (xs ++ [x])).all fun s => decide ((sumsZ (spansZ len x.name (xs ++ [x])) s.1).2 ≤ bears)
end BK
namespace BK
open PySem PySem.Spec L2
set_option autoImplicit false
theorem forO_appG {α β : Type} {body : α → List β → Option (List β)} (k : α → Bool) (v : α → β) : ∀ (xs : List α) (st : List β), st.length + (xs.filter k).length ≤ 16777216 → (∀ x ∈ xs, ∀ st : List β, (k x = true → st.length < 16777216) → body x st = some (if k x = true then st ++ [v x] else st)) → forO body xs st = some (st ++ (xs.filter k).map v)
  | [], st, _, _ => by simp [forO]
  | x :: xs, st, hl, h => by
    cases e : k x with
    | true =>
      rw [List.filter_cons_of_pos e, List.length_cons] at hl
      rw [forO, h x List.mem_cons_self st (fun _ => by omega), b1_some, e, if_pos rfl, forO_appG k v xs (st ++ [v x]) (by simp; omega) fun y hy => h y (List.mem_cons_of_mem _ hy), List.filter_cons_of_pos e]
      simp
    | false =>
      rw [List.filter_cons_of_neg (by rw [e]; decide)] at hl
      rw [forO, h x List.mem_cons_self st (fun z => by rw [e] at z; cases z), b1_some, e, if_neg (by decide), forO_appG k v xs st hl (fun y hy => h y (List.mem_cons_of_mem _ hy)), List.filter_cons_of_neg (by rw [e]; decide)]
/-! ### the moments at which an entry is forbidden, on the grid -/
def sortZ (zs : List Int) : List Int := zs.mergeSort fun a b => decide (a ≤ b)
theorem sortZ_perm (zs : List Int) : (sortZ zs).Perm zs := List.mergeSort_perm ..
theorem sortZ_sorted (zs : List Int) : (sortZ zs).Pairwise (· ≤ ·) := by
  have h := List.pairwise_mergeSort (le := fun a b : Int => decide (a ≤ b)) (fun a b c h1 h2 => by simp at *; omega) (fun a b => by simp; omega) zs
  exact h.imp fun h => of_decide_eq_true h
/-- the steps of a sum on the grid -/
def mAt (ms : List Int) (i : Nat) : Int := ms.getD i 0
def momZ (ss : List SpZ) : List Int := sortZ (ss.map (·.1) ++ ss.map (·.2.1))
def stepsZ (ss : List SpZ) : List (Int × Int × Int) := ((List.range ((momZ ss).length - 1)).filter fun i => !decide (mAt (momZ ss) i = mAt (momZ ss) (i + 1))).map fun i => (mAt (momZ ss) i, mAt (momZ ss) (i + 1), (sumsZ ss (mAt (momZ ss) i)).2)
theorem mAt_eq {ms : List Int} {i : Nat} (h : i < ms.length) : mAt ms i = ms[i] := by
  unfold mAt
  rw [List.getD_eq_getElem?_getD, List.getElem?_eq_getElem h]
  rfl
theorem gap_find {m : Int} : ∀ (ms : List Int), ms.Pairwise (· ≤ ·) → ∀ x ∈ ms, x ≤ m → ∀ y ∈ ms, m < y → ∃ i, i + 1 < ms.length ∧ mAt ms i ≤ m ∧ m < mAt ms (i + 1)
  | [], _, _, hx, _, _, _, _ => by simp at hx
  | [z], _, x, hx, hxm, y, hy, hym => by
    rw [List.mem_singleton] at hx hy
    omega
  | z :: w :: t, hp, x, hx, hxm, y, hy, hym => by
    rcases Int.lt_or_le m w with h | h
    · rcases Int.lt_or_le m z with h2 | h2
      · exfalso
        rw [List.pairwise_cons] at hp
        rcases List.mem_cons.mp hx with rfl | hx
        · omega
        · have := hp.1 x hx
          omega
      · exact ⟨0, by simp, h2, h⟩
    · rw [List.pairwise_cons] at hp
      have hyt : y ∈ w :: t := by
        rcases List.mem_cons.mp hy with rfl | hy
        · have := hp.1 w List.mem_cons_self
          omega
        · exact hy
      obtain ⟨i, h1, h2, h3⟩ := gap_find (w :: t) hp.2 w List.mem_cons_self h y hyt hym
      refine ⟨i + 1, by simp at h1 ⊢; omega, ?_, ?_⟩
      · show (z :: w :: t).getD (i + 1) 0 ≤ m
        rw [List.getD_cons_succ]; exact h2
      · show m < (z :: w :: t).getD (i + 1 + 1) 0
        rw [List.getD_cons_succ]; exact h3
theorem mom_no {ms : List Int} (hp : ms.Pairwise (· ≤ ·)) {i : Nat} (hi : i + 1 < ms.length) {x m : Int} (hx : x ∈ ms) (h1 : mAt ms i ≤ m) (h2 : m < mAt ms (i + 1)) : x ≤ m ↔ x ≤ mAt ms i := by
  rw [mAt_eq (show i < ms.length by omega)] at h1 ⊢
  rw [mAt_eq hi] at h2
  obtain ⟨j, hj, rfl⟩ := List.getElem_of_mem hx
  rw [List.pairwise_iff_getElem] at hp
  constructor
  · intro h
    rcases Nat.lt_or_ge i j with h3 | h3
    · exfalso
      rcases Nat.eq_or_lt_of_le (show i + 1 ≤ j from h3) with h4 | h4
      · subst h4; omega
      · have := hp (i + 1) j hi hj h4
        omega
    · rcases Nat.eq_or_lt_of_le h3 with h4 | h4
      · subst h4; omega
      · exact hp j i hj (by omega) h4
  · intro h; omega
theorem momZ_mem1 {ss : List SpZ} {s : SpZ} (h : s ∈ ss) : s.1 ∈ momZ ss := by
  unfold momZ
  rw [(sortZ_perm _).mem_iff, List.mem_append]
  exact .inl (List.mem_map_of_mem h)
theorem momZ_mem2 {ss : List SpZ} {s : SpZ} (h : s ∈ ss) : s.2.1 ∈ momZ ss := by
  unfold momZ
  rw [(sortZ_perm _).mem_iff, List.mem_append]
  exact .inr (List.mem_map_of_mem (f := fun s : SpZ => s.2.1) h)
theorem sumsZ_between {ss : List SpZ} {i : Nat} (hi : i + 1 < (momZ ss).length) {m : Int} (h1 : mAt (momZ ss) i ≤ m) (h2 : m < mAt (momZ ss) (i + 1)) : sumsZ ss m = sumsZ ss (mAt (momZ ss) i) := by
  have hp : (momZ ss).Pairwise (· ≤ ·) := sortZ_sorted _
  have e : ss.filter (onZ m) = ss.filter (onZ (mAt (momZ ss) i)) := by
    apply List.filter_congr
    intro s hs
    have a := mom_no hp hi (momZ_mem1 hs) h1 h2
    have b := mom_no hp hi (momZ_mem2 hs) h1 h2
    unfold onZ
    rw [Bool.eq_iff_iff]
    simp only [Bool.and_eq_true, decide_eq_true_eq]
    omega
  unfold sumsZ
  rw [e]
theorem stepsZ_mem {ss : List SpZ} {s : Int × Int × Int} : s ∈ stepsZ ss ↔ ∃ i, i + 1 < (momZ ss).length ∧ mAt (momZ ss) i ≠ mAt (momZ ss) (i + 1) ∧ s = (mAt (momZ ss) i, mAt (momZ ss) (i + 1), (sumsZ ss (mAt (momZ ss) i)).2) := by
  unfold stepsZ
  rw [List.mem_map]
  constructor
  · rintro ⟨i, hi, rfl⟩
    rw [List.mem_filter, List.mem_range] at hi
    exact ⟨i, by omega, by simpa using hi.2, rfl⟩
  · rintro ⟨i, h1, h2, rfl⟩
    exact ⟨i, by rw [List.mem_filter, List.mem_range]; exact ⟨by omega, by simpa using h2⟩, rfl⟩
theorem stepsZ_sound {ss : List SpZ} {s : Int × Int × Int} (h : s ∈ stepsZ ss) : s.1 < s.2.1 ∧ ∀ m, s.1 ≤ m → m < s.2.1 → (sumsZ ss m).2 = s.2.2 := by
  obtain ⟨i, h1, h2, rfl⟩ := stepsZ_mem.mp h
  constructor
  · have hp : (momZ ss).Pairwise (· ≤ ·) := sortZ_sorted _
    rw [mAt_eq (by omega), mAt_eq h1] at h2
    show mAt _ _ < mAt _ _
    rw [mAt_eq (by omega), mAt_eq h1]
    rw [List.pairwise_iff_getElem] at hp
    have := hp i (i + 1) (by omega) h1 (by omega)
    omega
  · intro m a b
    rw [sumsZ_between h1 a b]
theorem sum_nn : ∀ {l : List Int}, (∀ x ∈ l, 0 ≤ x) → 0 ≤ l.sum
  | [], _ => by simp
  | x :: l, h => by
    rw [List.sum_cons]
    have := h x List.mem_cons_self
    have := sum_nn (l := l) fun y hy => h y (List.mem_cons_of_mem _ hy)
    omega
theorem stepsZ_cover {ss : List SpZ} {m : Int} (h : (sumsZ ss m).2 ≠ 0) : ∃ s ∈ stepsZ ss, s.1 ≤ m ∧ m < s.2.1 ∧ s.2.2 = (sumsZ ss m).2 := by
  have hne : ss.filter (onZ m) ≠ [] := by
    intro z
    apply h
    unfold sumsZ
    rw [z]; rfl
  obtain ⟨s, hs⟩ := List.exists_mem_of_ne_nil _ hne
  rw [List.mem_filter] at hs
  have ho : s.1 ≤ m ∧ m < s.2.1 := by simpa [onZ] using hs.2
  obtain ⟨i, h1, h2, h3⟩ := gap_find (momZ ss) (sortZ_sorted _) s.1 (momZ_mem1 hs.1) ho.1 s.2.1 (momZ_mem2 hs.1) ho.2
  refine ⟨(mAt (momZ ss) i, mAt (momZ ss) (i + 1), (sumsZ ss (mAt (momZ ss) i)).2), stepsZ_mem.mpr ⟨i, h1, by omega, rfl⟩, h2, h3, ?_⟩
  rw [sumsZ_between h1 h2 h3]
theorem stepsZ_bd {ss : List SpZ} (P : Int → Prop) (h : ∀ s ∈ ss, P s.1 ∧ P s.2.1) : ∀ s ∈ stepsZ ss, P s.1 ∧ P s.2.1 := by
  have key : ∀ i, i < (momZ ss).length → P (mAt (momZ ss) i) := by
    intro i hi
    rw [mAt_eq hi]
    have hm : (momZ ss)[i] ∈ momZ ss := List.getElem_mem hi
    generalize (momZ ss)[i] = z at *
    unfold momZ at hm
    rw [(sortZ_perm _).mem_iff, List.mem_append, List.mem_map, List.mem_map] at hm
    rcases hm with ⟨s, hs, rfl⟩ | ⟨s, hs, rfl⟩
    · exact (h s hs).1
    · exact (h s hs).2
  intro s hs
  obtain ⟨i, h1, _, rfl⟩ := stepsZ_mem.mp hs
  exact ⟨key i (by omega), key (i + 1) h1⟩
theorem stepsZ_len (ss : List SpZ) : (stepsZ ss).length ≤ 2 * ss.length := by
  unfold stepsZ
  rw [List.length_map]
  refine Nat.le_trans (List.length_filter_le ..) ?_
  rw [List.length_range]
  unfold momZ
  rw [(sortZ_perm _).length_eq, List.length_append, List.length_map, List.length_map]
  omega
theorem sumsZ_append (a b : List SpZ) (m : Int) : sumsZ (a ++ b) m = ((sumsZ a m).1 + (sumsZ b m).1, (sumsZ a m).2 + (sumsZ b m).2) := by
  unfold sumsZ
  rw [List.filter_append, List.map_append, List.map_append, List.sum_append, List.sum_append]
/-- a crossing, entered at a moment -/
def XZ.to (x : XZ) (t : Int) : XZ := { x with at_ := t }
theorem timesZ_to (len : Int) (x : XZ) (t : Int) : timesZ len (x.to t) = (timesZ len (x.to 0)).map fun p => (p.1 + t, p.2 + t) := by
  unfold timesZ XZ.to
  rw [List.map_map]
  apply List.map_congr_left
  intro o _
  show (_, _) = (_, _)
  dsimp only
  congr 1 <;> omega
theorem spanZ_to (len : Int) (x : XZ) (t : Int) : spanZ len (x.to t) = (spanZ len (x.to 0)).map fun s => (s.1 + t, s.2.1 + t, s.2.2) := by
  unfold spanZ
  rw [timesZ_to, List.zip_map_left, List.map_map, List.map_map]
  rfl
theorem sumsZ_to (len : Int) (x : XZ) (t m : Int) : sumsZ (spanZ len (x.to t)) m = sumsZ (spanZ len (x.to 0)) (m - t) := by
  rw [spanZ_to]
  generalize spanZ len (x.to 0) = ss
  unfold sumsZ
  rw [List.filter_map, List.map_map, List.map_map]
  have e : (onZ m ∘ fun s : SpZ => ((s.1 + t, s.2.1 + t, s.2.2) : SpZ)) = onZ (m - t) := by
    funext s
    unfold onZ
    show (decide (s.1 + t ≤ m) && decide (m < s.2.1 + t)) = _
    rw [Bool.eq_iff_iff]
    simp only [Bool.and_eq_true, decide_eq_true_eq]
    omega
  rw [e]
  rfl
/-- sums are greatest where a wheel comes on -/
theorem sums_on_max {tt : List SpZ} (hn : ∀ s ∈ tt, 0 ≤ s.2.2.2) {B : Int} (hB : 0 ≤ B) (h : ∀ s ∈ tt, (sumsZ tt s.1).2 ≤ B) (m : Int) : (sumsZ tt m).2 ≤ B := by
  by_cases hne : tt.filter (onZ m) = []
  · unfold sumsZ
    rw [hne]
    exact hB
  have key : ∀ l : List SpZ, l ≠ [] → ∃ s ∈ l, ∀ u ∈ l, u.1 ≤ s.1 := by
    intro l
    induction l with
    | nil => intro z; exact absurd rfl z
    | cons a l ih =>
      intro _
      by_cases hl : l = []
      · subst hl
        exact ⟨a, by simp, fun u hu => by rw [List.mem_singleton] at hu; subst hu; omega⟩
      · obtain ⟨s, h1, h2⟩ := ih hl
        rcases Int.lt_or_le a.1 s.1 with h3 | h3
        · exact ⟨s, List.mem_cons_of_mem _ h1, fun u hu => by
            rcases List.mem_cons.mp hu with rfl | hu
            · omega
            · exact h2 u hu⟩
        · exact ⟨a, List.mem_cons_self, fun u hu => by
            rcases List.mem_cons.mp hu with rfl | hu
            · omega
            · have := h2 u hu; omega⟩
  obtain ⟨s, h1, h2⟩ := key _ hne
  have hs := List.mem_filter.mp h1
  have ho : s.1 ≤ m ∧ m < s.2.1 := by simpa [onZ] using hs.2
  have h3 := h s hs.1
  refine Int.le_trans ?_ h3
  -- all that are on at m are on at s.1
  have imp : ∀ u ∈ tt, onZ m u = true → onZ s.1 u = true := by
    intro u hu ou
    have h4 := h2 u (List.mem_filter.mpr ⟨hu, ou⟩)
    have : u.1 ≤ m ∧ m < u.2.1 := by simpa [onZ] using ou
    unfold onZ
    simp only [Bool.and_eq_true, decide_eq_true_eq]
    omega
  have mono : ∀ l : List SpZ, (∀ u ∈ l, 0 ≤ u.2.2.2) → (∀ u ∈ l, onZ m u = true → onZ s.1 u = true) → ((l.filter (onZ m)).map (·.2.2.2)).sum ≤ ((l.filter (onZ s.1)).map (·.2.2.2)).sum := by
    intro l
    induction l with
    | nil => intro _ _; exact Int.le_refl _
    | cons a l ih =>
      intro g1 g2
      have ih := ih (fun u hu => g1 u (List.mem_cons_of_mem _ hu)) fun u hu => g2 u (List.mem_cons_of_mem _ hu)
      have ga := g1 a List.mem_cons_self
      cases e1 : onZ m a with
      | true =>
        rw [List.filter_cons_of_pos e1, List.filter_cons_of_pos (g2 a List.mem_cons_self e1), List.map_cons, List.map_cons, List.sum_cons, List.sum_cons]
        omega
      | false =>
        rw [List.filter_cons_of_neg (by rw [e1]; decide)]
        cases e2 : onZ s.1 a with
        | true =>
          rw [List.filter_cons_of_pos e2, List.map_cons, List.sum_cons]
          omega
        | false =>
          rw [List.filter_cons_of_neg (by rw [e2]; decide)]
          exact ih
  exact mono tt hn imp
/-- the spans forbidden by what others weigh, by shut hours -/
def forbL (B : Int) (ss os : List SpZ) : List (Int × Int) := (stepsZ ss).flatMap fun s => ((stepsZ os).filter fun o => decide (B < s.2.2 + o.2.2)).map fun o => (s.1 - o.2.1, s.2.1 - o.1)
def forbH (shuts : List (Int × Int)) (ts : List (Int × Int)) : List (Int × Int) := shuts.flatMap fun s => ts.map fun t => (27720 * s.1 - t.2, 27720 * s.2 - t.1)
def forbZ (len B : Int) (shuts : List (Int × Int)) (xs : List XZ) (x : XZ) : List (Int × Int) := forbL B (spansZ len x.name xs) (spanZ len (x.to 0)) ++ forbH shuts (timesZ len (x.to 0))
theorem forbL_iff {B : Int} {ss os : List SpZ} (h1 : ∀ m, (sumsZ ss m).2 ≤ B) (h2 : ∀ m, (sumsZ os m).2 ≤ B) (t : Int) : (∃ f ∈ forbL B ss os, f.1 < t ∧ t < f.2) ↔ ∃ m, B < (sumsZ ss m).2 + (sumsZ os (m - t)).2 := by
  constructor
  · rintro ⟨f, hf, a, b⟩
    unfold forbL at hf
    obtain ⟨s, hs, hf⟩ := List.mem_flatMap.mp hf
    obtain ⟨o, ho, rfl⟩ := List.mem_map.mp hf
    rw [List.mem_filter, decide_eq_true_iff] at ho
    dsimp only at a b
    obtain ⟨s1, s2⟩ := stepsZ_sound hs
    obtain ⟨o1, o2⟩ := stepsZ_sound ho.1
    rcases Int.lt_or_le s.1 (o.1 + t) with c | c
    · refine ⟨o.1 + t, ?_⟩
      rw [s2 _ (by omega) (by omega), o2 _ (by omega) (by omega)]
      exact ho.2
    · refine ⟨s.1, ?_⟩
      rw [s2 _ (by omega) (by omega), o2 _ (by omega) (by omega)]
      exact ho.2
  · rintro ⟨m, hm⟩
    have a1 := h1 m
    have a2 := h2 (m - t)
    obtain ⟨s, hs, s1, s2, s3⟩ := stepsZ_cover (ss := ss) (m := m) (by omega)
    obtain ⟨o, ho, o1, o2, o3⟩ := stepsZ_cover (ss := os) (m := m - t) (by omega)
    refine ⟨(s.1 - o.2.1, s.2.1 - o.1), ?_, by dsimp only; omega, by dsimp only; omega⟩
    unfold forbL
    refine List.mem_flatMap.mpr ⟨s, hs, List.mem_map.mpr ⟨o, ?_, rfl⟩⟩
    rw [List.mem_filter, decide_eq_true_iff]
    exact ⟨ho, by omega⟩
theorem forbH_iff (len : Int) (shuts : List (Int × Int)) (x : XZ) (t : Int) : (∃ f ∈ forbH shuts (timesZ len (x.to 0)), f.1 < t ∧ t < f.2) ↔ meetsZ (timesZ len (x.to t)) shuts = true := by
  unfold meetsZ
  rw [timesZ_to len x t, List.any_eq_true]
  constructor
  · rintro ⟨f, hf, a, b⟩
    unfold forbH at hf
    obtain ⟨s, hs, hf⟩ := List.mem_flatMap.mp hf
    obtain ⟨p, hp, rfl⟩ := List.mem_map.mp hf
    dsimp only at a b
    refine ⟨s, hs, ?_⟩
    rw [List.any_eq_true]
    refine ⟨_, List.mem_map_of_mem hp, ?_⟩
    simp only [Bool.and_eq_true, decide_eq_true_eq]
    omega
  · rintro ⟨s, hs, h⟩
    rw [List.any_eq_true] at h
    obtain ⟨q, hq, h⟩ := h
    obtain ⟨p, hp, rfl⟩ := List.mem_map.mp hq
    simp only [Bool.and_eq_true, decide_eq_true_eq] at h
    refine ⟨(27720 * s.1 - p.2, 27720 * s.2 - p.1), ?_, by dsimp only; omega, by dsimp only; omega⟩
    unfold forbH
    exact List.mem_flatMap.mpr ⟨s, hs, List.mem_map.mpr ⟨p, hp, rfl⟩⟩
/-- nothing is too much at any moment -/
def Fine (B : Int) (ss : List SpZ) : Prop := ∀ m, (sumsZ ss m).2 ≤ B
def HiNn (ws : List Wh) : Prop := ∀ w ∈ ws, 0 ≤ w.2.2
theorem spanZ_nn {len : Int} {x : XZ} (h : HiNn x.wheels) : ∀ s ∈ spanZ len x, 0 ≤ s.2.2.2 := by
  intro s hs
  obtain ⟨t, _, w, hw, rfl⟩ := spanZ_mem hs
  exact h w hw
theorem spansZ_nn {len : Int} {name : Str} {xs : List XZ} (h : ∀ x ∈ xs, HiNn x.wheels) : ∀ s ∈ spansZ len name xs, 0 ≤ s.2.2.2 := by
  intro s hs
  obtain ⟨x, hx, _, h2⟩ := spansZ_mem hs
  exact spanZ_nn (h x hx) s h2
theorem spansZ_one {len : Int} (x : XZ) : spansZ len x.name [x] = spanZ len x := by
  unfold spansZ
  rw [List.filter_cons_of_pos (by simp)]
  simp
/-- .. when a load may enter: nothing is too much, no shut hour is met -/
theorem mayZ_iff {len B : Int} (hB : 0 ≤ B) {shuts : List (Int × Int)} {xs : List XZ} {x : XZ} (hx : ∀ x ∈ xs, HiNn x.wheels) (h : HiNn x.wheels) : mayZ len B shuts xs x = true ↔ meetsZ (timesZ len x) shuts = false ∧ Fine B (spansZ len x.name (xs ++ [x])) := by
  unfold mayZ
  rw [Bool.and_eq_true, List.all_eq_true, Bool.not_eq_true']
  constructor
  · rintro ⟨a, b⟩
    refine ⟨a, fun m => sums_on_max ?_ hB (fun s hs => by simpa using b s hs) m⟩
    exact spansZ_nn fun y hy => by
      rw [List.mem_append, List.mem_singleton] at hy
      rcases hy with hy | rfl
      · exact hx y hy
      · exact h
  · rintro ⟨a, b⟩
    exact ⟨a, fun s _ => by simpa using b s.1⟩
theorem mayZ_forb {len B : Int} (hB : 0 ≤ B) {shuts : List (Int × Int)} {xs : List XZ} {x : XZ} (hx : ∀ x ∈ xs, HiNn x.wheels) (h : HiNn x.wheels) (f1 : Fine B (spansZ len x.name xs)) (f2 : Fine B (spanZ len (x.to 0))) (t : Int) : mayZ len B shuts xs (x.to t) = true ↔ ∀ f ∈ forbZ len B shuts xs x, ¬ (f.1 < t ∧ t < f.2) := by
  rw [mayZ_iff hB hx (show HiNn (x.to t).wheels from h)]
  have e1 := forbL_iff f1 f2 t
  have e2 := forbH_iff len shuts x t
  have e3 : Fine B (spansZ len (x.to t).name (xs ++ [x.to t])) ↔ ¬ ∃ m, B < (sumsZ (spansZ len x.name xs) m).2 + (sumsZ (spanZ len (x.to 0)) (m - t)).2 := by
    rw [spansZ_append, spansZ_one]
    show (∀ m, _) ↔ _
    constructor
    · rintro a ⟨m, hm⟩
      have := a m
      rw [sumsZ_append, sumsZ_to] at this
      have h2 : (sumsZ (spansZ len x.name xs) m).2 + (sumsZ (spanZ len (x.to 0)) (m - t)).2 ≤ B := this
      omega
    · intro a m
      rw [sumsZ_append, sumsZ_to]
      show (sumsZ (spansZ len x.name xs) m).2 + (sumsZ (spanZ len (x.to 0)) (m - t)).2 ≤ B
      rcases Int.lt_or_le B ((sumsZ (spansZ len x.name xs) m).2 + (sumsZ (spanZ len (x.to 0)) (m - t)).2) with c | c
      · exact absurd ⟨m, c⟩ a
      · exact c
  rw [e3, ← e1]
  unfold forbZ
  constructor
  · rintro ⟨a, b⟩ f hf c
    rw [List.mem_append] at hf
    rcases hf with hf | hf
    · exact b ⟨f, hf, c⟩
    · rw [e2.mp ⟨f, hf, c⟩] at a
      cases a
  · intro a
    constructor
    · cases c : meetsZ (timesZ len (x.to t)) shuts with
      | false => rfl
      | true =>
        obtain ⟨f, hf, c⟩ := e2.mpr c
        exact absurd c (a f (List.mem_append_right _ hf))
    · rintro ⟨f, hf, c⟩
      exact a f (List.mem_append_left _ hf) c
/-- the least moment from c on at which a crossing may enter -/
structure Least (len B : Int) (shuts : List (Int × Int)) (xs : List XZ) (x : XZ) (c m : Int) : Prop where
  ge : c ≤ m
  ok : mayZ len B shuts xs (x.to m) = true
  no : ∀ t, c ≤ t → t < m → mayZ len B shuts xs (x.to t) = false
theorem Least.uniq {len B : Int} {shuts : List (Int × Int)} {xs : List XZ} {x : XZ} {c m n : Int} (h : Least len B shuts xs x c m) (h' : Least len B shuts xs x c n) : m = n := by
  rcases Int.lt_trichotomy m n with a | a | a
  · have := h'.no m h.ge a
    rw [h.ok] at this; cases this
  · exact a
  · have := h.no n h'.ge a
    rw [h'.ok] at this; cases this
noncomputable def entZ (len B : Int) (shuts : List (Int × Int)) (xs : List XZ) (x : XZ) (c : Int) : Int := Classical.epsilon (Least len B shuts xs x c)
theorem Least.eq {len B : Int} {shuts : List (Int × Int)} {xs : List XZ} {x : XZ} {c m : Int} (h : Least len B shuts xs x c m) : entZ len B shuts xs x c = m := (Classical.epsilon_spec (p := Least len B shuts xs x c) ⟨m, h⟩).uniq h
end BK
namespace BK
open PySem PySem.Spec L2
set_option autoImplicit false
/-! ### what stands close, and what is on at one moment -/
def atZ (l : List Int) (p : Nat) : Int := l.getD p 0
theorem atZ_at {l : List Int} {p : Nat} (h : p < l.length) : atI l (p : Int) = some (atZ l p) := by
  rw [atI_ofNat]
  unfold atZ
  rw [List.getElem?_eq_getElem h, List.getD_eq_getElem?_getD, List.getElem?_eq_getElem h]
  rfl
theorem atZ_eq {l : List Int} {p : Nat} (h : p < l.length) : atZ l p = l[p] := by
  unfold atZ
  rw [List.getD_eq_getElem?_getD, List.getElem?_eq_getElem h]
  rfl
/-- the weights of what is close to place i, from it on -/
def closeW (o w : List Int) (width : Int) (i : Nat) : Int := sumP o.length (fun p => decide (i ≤ p) && decide (atZ o p - atZ o i < width)) (atZ w)
theorem spanZ_range (len : Int) (x : XZ) : spanZ len x = (List.range x.wheels.length).map fun p => (x.at_ + atZ (offs x.wheels) p * stp x.speed, x.at_ + atZ (offs x.wheels) p * stp x.speed + len * stp x.speed, atZ (x.wheels.map (·.2.1)) p, atZ (x.wheels.map (·.2.2)) p) := by
  have hl := spanZ_len len x
  unfold spanZ timesZ at hl ⊢
  apply List.ext_getElem
  · rw [hl, List.length_map, List.length_range]
  · intro p h1 h2
    have h3 : p < x.wheels.length := by rw [← hl]; exact h1
    rw [List.getElem_map, List.getElem_zip, List.getElem_map, List.getElem_map, List.getElem_range]
    rw [atZ_eq (by rw [offs_len]; exact h3), atZ_eq (by rw [List.length_map]; exact h3), atZ_eq (by rw [List.length_map]; exact h3), List.getElem_map, List.getElem_map]
theorem sums_range (len : Int) (x : XZ) (m : Int) : (sumsZ (spanZ len x) m).2 = sumP x.wheels.length (fun p => decide (x.at_ + atZ (offs x.wheels) p * stp x.speed ≤ m) && decide (m < x.at_ + atZ (offs x.wheels) p * stp x.speed + len * stp x.speed)) (atZ (x.wheels.map (·.2.2))) := by
  unfold sumP
  rw [← sum_filter, spanZ_range]
  unfold sumsZ
  dsimp only
  rw [List.filter_map, List.map_map]
  rfl
theorem sumP_none {n : Nat} {q : Nat → Bool} {w : Nat → Int} (h : ∀ p, p < n → q p = false) : sumP n q w = 0 := by
  induction n with
  | zero => rfl
  | succ n ih => rw [sumP_succ, ih fun p hp => h p (by omega), h n (by omega)]; rfl
theorem sumP_one {n : Nat} {q : Nat → Bool} {w : Nat → Int} {i : Nat} (h : ∀ p, p < n → q p = true → p = i) (h0 : 0 ≤ w i) : sumP n q w ≤ w i := by
  induction n with
  | zero => exact h0
  | succ n ih =>
    rw [sumP_succ]
    cases e : q n with
    | false =>
      rw [if_neg (by decide)]
      have := ih fun p hp => h p (by omega)
      omega
    | true =>
      have hi := h n (by omega) e
      subst hi
      rw [if_pos rfl, sumP_none fun p hp => ?_]
      · omega
      · cases e2 : q p with
        | false => rfl
        | true => have := h p (by omega) e2; omega
theorem sumP_part {n : Nat} {M : Int} {q : Nat → Bool} {w : Nat → Int} (hn : 0 < n) (hM : 0 ≤ M) (h : ∀ p, p < n → w p * n ≤ M) : sumP n q w ≤ M := by
  have key : ∀ k, k ≤ n → sumP k q w * n ≤ k * M := by
    intro k
    induction k with
    | zero => intro _; simp [sumP]
    | succ k ih =>
      intro hk
      have h1 := ih (by omega)
      have h2 := h k (by omega)
      rw [sumP_succ, Int.add_mul]
      have e : ((k + 1 : Nat) : Int) * M = (k : Int) * M + M := by rw [Int.natCast_add, Int.add_mul]; simp
      rw [e]
      cases q k with
      | true => rw [if_pos rfl]; omega
      | false => rw [if_neg (by decide)]; omega
  have := key n (Nat.le_refl _)
  rw [Int.mul_comm] at this
  exact Int.le_of_mul_le_mul_left this (by omega)
theorem own_fine {len B : Int} (hB : 0 ≤ B) {x : XZ} (hn : HiNn x.wheels) (hs : 0 < stp x.speed) (h : ∀ i, i < x.wheels.length → closeW (offs x.wheels) (x.wheels.map (·.2.2)) len i ≤ B) : Fine B (spanZ len x) := by
  intro m
  rw [sums_range]
  by_cases hq : ∃ p, p < x.wheels.length ∧ (decide (x.at_ + atZ (offs x.wheels) p * stp x.speed ≤ m) && decide (m < x.at_ + atZ (offs x.wheels) p * stp x.speed + len * stp x.speed)) = true
  · obtain ⟨i, hi, hq, hmin⟩ : ∃ i, i < x.wheels.length ∧ (decide (x.at_ + atZ (offs x.wheels) i * stp x.speed ≤ m) && decide (m < x.at_ + atZ (offs x.wheels) i * stp x.speed + len * stp x.speed)) = true ∧ ∀ p, p < i → ¬ (decide (x.at_ + atZ (offs x.wheels) p * stp x.speed ≤ m) && decide (m < x.at_ + atZ (offs x.wheels) p * stp x.speed + len * stp x.speed)) = true := by
      have key : ∀ n p, p ≤ n → p < x.wheels.length → (decide (x.at_ + atZ (offs x.wheels) p * stp x.speed ≤ m) && decide (m < x.at_ + atZ (offs x.wheels) p * stp x.speed + len * stp x.speed)) = true → ∃ i, i < x.wheels.length ∧ (decide (x.at_ + atZ (offs x.wheels) i * stp x.speed ≤ m) && decide (m < x.at_ + atZ (offs x.wheels) i * stp x.speed + len * stp x.speed)) = true ∧ ∀ p, p < i → ¬ (decide (x.at_ + atZ (offs x.wheels) p * stp x.speed ≤ m) && decide (m < x.at_ + atZ (offs x.wheels) p * stp x.speed + len * stp x.speed)) = true := by
        intro n
        induction n with
        | zero => intro p h1 h2 h3; exact ⟨p, h2, h3, fun k hk => by omega⟩
        | succ n ih =>
          intro p h1 h2 h3
          by_cases c : ∃ k, k < p ∧ (decide (x.at_ + atZ (offs x.wheels) k * stp x.speed ≤ m) && decide (m < x.at_ + atZ (offs x.wheels) k * stp x.speed + len * stp x.speed)) = true
          · obtain ⟨k, hk, c⟩ := c
            exact ih k (by omega) (by omega) c
          · exact ⟨p, h2, h3, fun k hk e => c ⟨k, hk, e⟩⟩
      obtain ⟨p, h1, h2⟩ := hq
      exact key p p (Nat.le_refl _) h1 h2
    refine Int.le_trans ?_ (h i hi)
    unfold closeW
    rw [offs_len]
    apply sumP_le
    · intro p hp
      rw [atZ_eq (by rw [List.length_map]; exact hp), List.getElem_map]
      exact hn _ (List.getElem_mem hp)
    · intro p hp hq2
      have hip : i ≤ p := by
        rcases Nat.lt_or_ge p i with c | c
        · exact absurd hq2 (hmin p c)
        · exact c
      simp only [Bool.and_eq_true, decide_eq_true_eq] at hq hq2 ⊢
      refine ⟨hip, ?_⟩
      have h1 : atZ (offs x.wheels) p * stp x.speed < (atZ (offs x.wheels) i + len) * stp x.speed := by
        rw [Int.add_mul]; omega
      have := Int.lt_of_mul_lt_mul_right h1 (by omega)
      omega
  · rw [sumP_none fun p hp => by
      cases e : (decide (x.at_ + atZ (offs x.wheels) p * stp x.speed ≤ m) && decide (m < x.at_ + atZ (offs x.wheels) p * stp x.speed + len * stp x.speed)) with
      | false => rfl
      | true => exact absurd ⟨p, hp, e⟩ hq]
    exact hB
theorem offs_at {ws : List Wh} {p : Nat} (h : p < ws.length) : atZ (offs ws) p = farW (ws.take (p + 1)) := by
  rw [atZ_eq (by rw [offs_len]; exact h)]
  unfold offs
  rw [List.getElem_map, List.getElem_range]
theorem offs_0 {ws : List Wh} (h : 0 < ws.length) : atZ (offs ws) 0 = 0 := by
  rw [offs_at h]
  cases ws with
  | nil => simp at h
  | cons w ws => rfl
theorem offs_step {ws : List Wh} {p : Nat} (h : p + 1 < ws.length) : atZ (offs ws) (p + 1) = atZ (offs ws) p + ws[p + 1].1 := by
  rw [offs_at h, offs_at (by omega), List.take_succ_eq_append_getElem h]
  exact farW_snoc _ _ (by intro z; have h2 := congrArg List.length z; rw [List.length_take, List.length_nil] at h2; omega)
theorem offs_apart {ws : List Wh} {g : Int} (hg : ∀ w ∈ ws, g ≤ w.1) (h0 : 0 ≤ g) {i p : Nat} (hi : i < p) (hp : p < ws.length) : atZ (offs ws) i + g ≤ atZ (offs ws) p := by
  induction p with
  | zero => omega
  | succ p ih =>
    rw [offs_step hp]
    have h1 := hg _ (List.getElem_mem hp)
    rcases Nat.eq_or_lt_of_le (show i ≤ p by omega) with c | c
    · subst c; omega
    · have := ih c (by omega)
      omega
theorem close_total {ws : List Wh} {B len : Int} (hB : 0 ≤ B) (h : ∀ w ∈ ws, w.2.2 * ws.length ≤ B) (i : Nat) (hi : i < ws.length) : closeW (offs ws) (ws.map (·.2.2)) len i ≤ B := by
  unfold closeW
  rw [offs_len]
  apply sumP_part (by omega) hB
  intro p hp
  rw [atZ_eq (by rw [List.length_map]; exact hp), List.getElem_map]
  exact h _ (List.getElem_mem hp)
theorem close_apart {ws : List Wh} {B len : Int} (h0 : 0 ≤ len) (hg : ∀ w ∈ ws, len ≤ w.1) (h : ∀ w ∈ ws, 0 ≤ w.2.2 ∧ w.2.2 ≤ B) (i : Nat) (hi : i < ws.length) : closeW (offs ws) (ws.map (·.2.2)) len i ≤ B := by
  unfold closeW
  rw [offs_len]
  have e : atZ (ws.map (·.2.2)) i = ws[i].2.2 := by rw [atZ_eq (by rw [List.length_map]; exact hi), List.getElem_map]
  have hw := h _ (List.getElem_mem hi)
  refine Int.le_trans (sumP_one (i := i) ?_ (by rw [e]; exact hw.1)) (by rw [e]; exact hw.2)
  intro p hp hq
  simp only [Bool.and_eq_true, decide_eq_true_eq] at hq
  rcases Nat.eq_or_lt_of_le hq.1 with c | c
  · exact c.symm
  · have := offs_apart hg h0 c hp
    omega
theorem XOk.to {x : XZ} (h : XOk x) {t : Int} (ht : -1000000000000000 ≤ t ∧ t ≤ 1000000000000000) : XOk (x.to t) := ⟨ht, h.sp, h.wl, h.wg⟩
theorem okn_crs {xs : List XZ} (h : ∀ x ∈ xs, PyData.strOk x.name = true) : okn 8 (eL eCr (xs.map XZ.cr)) = true := by
  show ((xs.map XZ.cr).map eCr).all (okn 7) = true
  rw [List.map_map, List.all_map, List.all_eq_true]
  intro x hx
  show okn 7 (eCr x.cr) = true
  simp [XZ.cr, h x hx]
theorem XZ.to_cr (x : XZ) (t : Int) : (x.to t).cr = (x.name, gq t, x.speed, x.wheels) := rfl
theorem XZ.to_self (x : XZ) : x.to x.at_ = x := rfl
theorem XZ.to_to (x : XZ) (s t : Int) : (x.to s).to t = x.to t := rfl
theorem spanZ_move (len : Int) (x : XZ) (s t : Int) : (spanZ len (x.to s)).map (fun e => (e.1 + (t - s), e.2.1 + (t - s), e.2.2.1, e.2.2.2)) = spanZ len (x.to t) := by
  rw [spanZ_to len x s, spanZ_to len x t, List.map_map]
  apply List.map_congr_left
  intro e _
  show (_, _, _) = (_, _, _)
  dsimp only
  congr 1
  · omega
  · congr 1
    omega
theorem spanZ_head {len : Int} {x : XZ} (h : x.wheels ≠ []) : ∃ s l, spanZ len x = s :: l ∧ s.1 = x.at_ := by
  have hl : 0 < x.wheels.length := List.length_pos_iff.mpr h
  rw [spanZ_range]
  obtain ⟨n, hn⟩ : ∃ n, x.wheels.length = n + 1 := ⟨x.wheels.length - 1, by omega⟩
  rw [hn, List.range_succ_eq_map, List.map_cons]
  refine ⟨_, _, rfl, ?_⟩
  dsimp only
  rw [offs_0 hl]
  omega
theorem atI_filter {α : Type} {bs : List α} {p : α → Bool} {b : α} (hf : bs.find? p = some b) : atI (List.filter p bs) 0 = some b := by
  have h2 := List.head?_filter (p := p) (l := bs)
  rw [hf] at h2
  cases hc : List.filter p bs with
  | nil => rw [hc] at h2; simp at h2
  | cons q qs =>
    rw [hc, List.head?_cons] at h2
    rw [atI_zero]
    exact h2
theorem find_name {bs : List P5} {n : Str} (h : ∃ b ∈ bs, n = b.1) : ∃ b, bs.find? (fun b => decide (b.1 = n)) = some b ∧ b ∈ bs ∧ n = b.1 := by
  obtain ⟨b0, h1, h2⟩ := h
  cases e : bs.find? (fun b => decide (b.1 = n)) with
  | none =>
    rw [List.find?_eq_none] at e
    exact absurd h2.symm (by simpa using e b0 h1)
  | some b => exact ⟨b, rfl, List.mem_of_find?_eq_some e, by have := List.find?_some e; simp at this; exact this.symm⟩
theorem name_inj {bs : List P5} (hd : (bs.map (·.1)).Nodup) {b c : P5} (hb : b ∈ bs) (hc : c ∈ bs) (h : b.1 = c.1) : b = c := by
  induction bs with
  | nil => simp at hb
  | cons a bs ih =>
    rw [List.map_cons, List.nodup_cons] at hd
    rcases List.mem_cons.mp hb with rfl | hb' <;> rcases List.mem_cons.mp hc with rfl | hc'
    · rfl
    · have h3 : c.1 ∈ bs.map (·.1) := List.mem_map_of_mem hc'
      rw [← h] at h3
      exact absurd h3 hd.1
    · have h3 : b.1 ∈ bs.map (·.1) := List.mem_map_of_mem hb'
      rw [h] at h3
      exact absurd h3 hd.1
    · exact ih hd.2 hb' hc'
end BK
namespace BK
open PySem PySem.Spec L2
set_option autoImplicit false
/-! ### ways -/
def roundQ (rs : List (Str × Int)) (x : Str) : Option Int := (rs.find? fun r => decide (r.1 = x)).map (·.2)
theorem roundQ_some (rs : List (Str × Int)) (x : Str) : (roundQ rs x).isSome = decide (x ∈ rs.map (·.1)) := by
  unfold roundQ
  rw [Option.isSome_map, Bool.eq_iff_iff, List.find?_isSome, decide_eq_true_iff]
  constructor
  · rintro ⟨r, hr, e⟩
    exact List.mem_map.mpr ⟨r, hr, of_decide_eq_true e⟩
  · intro h
    obtain ⟨r, hr, e⟩ := List.mem_map.mp h
    exact ⟨r, hr, decide_eq_true e⟩
/-- the ways by what is free to be left out -/
def chL (f : Bool) : List Bool := if f = true then [true, false] else [true]
def waysL (fs : List Bool) : List (List Bool) := fs.foldl (fun ws f => ws.flatMap fun w => (chL f).map fun c => w ++ [c]) [[]]
theorem waysL_snoc (fs : List Bool) (f : Bool) : waysL (fs ++ [f]) = (waysL fs).flatMap fun w => (chL f).map fun c => w ++ [c] := by
  unfold waysL
  rw [List.foldl_append]
  rfl
theorem waysL_len (fs : List Bool) : ∀ w ∈ waysL fs, w.length = fs.length := by
  generalize hn : fs.length = n
  induction n generalizing fs with
  | zero =>
    rw [List.length_eq_zero_iff.mp hn]
    intro w hw
    have : w ∈ ([[]] : List (List Bool)) := hw
    rw [List.mem_singleton] at this
    rw [this]
    rfl
  | succ n ih =>
    have hne : fs ≠ [] := by intro e; rw [e] at hn; cases hn
    obtain ⟨ini, x, rfl⟩ : ∃ ini x, fs = ini ++ [x] := ⟨fs.dropLast, fs.getLast hne, (List.dropLast_concat_getLast hne).symm⟩
    intro w hw
    rw [waysL_snoc, List.mem_flatMap] at hw
    obtain ⟨v, hv, hw⟩ := hw
    obtain ⟨c, _, rfl⟩ := List.mem_map.mp hw
    rw [List.length_append, List.length_singleton] at hn ⊢
    rw [ih ini (by omega) v hv]
theorem waysL_size (fs : List Bool) : (waysL fs).length ≤ 2 ^ fs.length := by
  generalize hn : fs.length = n
  induction n generalizing fs with
  | zero =>
    rw [List.length_eq_zero_iff.mp hn]
    decide
  | succ n ih =>
    have hne : fs ≠ [] := by intro e; rw [e] at hn; cases hn
    obtain ⟨ini, x, rfl⟩ : ∃ ini x, fs = ini ++ [x] := ⟨fs.dropLast, fs.getLast hne, (List.dropLast_concat_getLast hne).symm⟩
    rw [List.length_append, List.length_singleton] at hn
    have h := ih ini (by omega)
    rw [waysL_snoc]
    have : ∀ l : List (List Bool), (l.flatMap fun w => (chL x).map fun c => w ++ [c]).length ≤ 2 * l.length := by
      intro l
      induction l with
      | nil => simp
      | cons a l ih2 =>
        rw [List.flatMap_cons, List.length_append, List.length_map, List.length_cons]
        have : (chL x).length ≤ 2 := by unfold chL; split <;> simp
        omega
    have := this (waysL ini)
    rw [Nat.pow_succ]
    omega
def freeQ (rs : List (Str × Int)) (bs : List Bg) : List Bool := bs.map fun b => (roundQ rs b.name).isSome
/-- the ways by the bits of numbers -/
def wayB (n b : Nat) : List Bool := (List.range n).map fun k => !b.testBit (n - 1 - k)
def okW : List Bool → List Bool → Bool
  | f :: fs, w :: ws => (f || w) && okW fs ws
  | _, _ => true
theorem okW_snoc : ∀ (fs ws : List Bool) (f w : Bool), fs.length = ws.length → okW (fs ++ [f]) (ws ++ [w]) = (okW fs ws && (f || w))
  | [], [], f, w, _ => by simp [okW]
  | a :: fs, b :: ws, f, w, h => by
    rw [List.cons_append, List.cons_append]
    show ((a || b) && okW (fs ++ [f]) (ws ++ [w])) = _
    rw [okW_snoc fs ws f w (by simpa using h)]
    show _ = (((a || b) && okW fs ws) && (f || w))
    rw [Bool.and_assoc]
theorem wayB_len (n b : Nat) : (wayB n b).length = n := by unfold wayB; simp
theorem wayB_snoc (n b : Nat) (c : Bool) : wayB (n + 1) (2 * b + (if c = true then 0 else 1)) = wayB n b ++ [c] := by
  unfold wayB
  rw [List.range_succ, List.map_append, List.map_singleton]
  congr 1
  · apply List.map_congr_left
    intro k hk
    have := List.mem_range.mp hk
    rw [show n + 1 - 1 - k = (n - 1 - k) + 1 from by omega, Nat.testBit_succ]
    congr 2
    split <;> omega
  · rw [show n + 1 - 1 - n = 0 from by omega, Nat.testBit_zero]
    cases c <;> simp <;> omega
theorem range_double (n : Nat) : List.range (2 * n) = (List.range n).flatMap fun b => [2 * b, 2 * b + 1] := by
  induction n with
  | zero => rfl
  | succ n ih =>
    rw [List.range_succ, List.flatMap_append, ← ih, show 2 * (n + 1) = 2 * n + 1 + 1 from by omega, List.range_succ, List.range_succ]
    simp
def dueL (fs : List Bool) : List (List Bool) := ((List.range (2 ^ fs.length)).map (wayB fs.length)).filter (okW fs)
theorem dueL_eq (fs : List Bool) : dueL fs = waysL fs := by
  generalize hn : fs.length = n
  induction n generalizing fs with
  | zero =>
    rw [List.length_eq_zero_iff.mp hn]
    rfl
  | succ n ih =>
    have hne : fs ≠ [] := by intro e; rw [e] at hn; cases hn
    obtain ⟨ini, x, rfl⟩ : ∃ ini x, fs = ini ++ [x] := ⟨fs.dropLast, fs.getLast hne, (List.dropLast_concat_getLast hne).symm⟩
    rw [List.length_append, List.length_singleton] at hn
    have hn2 : ini.length = n := by omega
    rw [waysL_snoc, ← ih ini hn2]
    unfold dueL
    rw [List.length_append, List.length_singleton, hn2, show 2 ^ (n + 1) = 2 * 2 ^ n from by rw [Nat.pow_succ]; omega, range_double]
    generalize List.range (2 ^ n) = l
    induction l with
    | nil => rfl
    | cons b l ih2 =>
      have e1 := wayB_snoc n b true
      have e2 := wayB_snoc n b false
      rw [if_pos rfl] at e1
      have e1 : wayB (n + 1) (2 * b) = wayB n b ++ [true] := e1
      rw [if_neg (by decide)] at e2
      have e3 : ([2 * b, 2 * b + 1].map (wayB (n + 1))) = [wayB n b ++ [true], wayB n b ++ [false]] := by
        rw [List.map_cons, List.map_cons, List.map_nil, e1, e2]
      rw [List.flatMap_cons, List.map_append, List.filter_append, ih2, e3, List.map_cons]
      have o1 := okW_snoc ini (wayB n b) x true (by rw [wayB_len, hn2])
      have o2 := okW_snoc ini (wayB n b) x false (by rw [wayB_len, hn2])
      by_cases c : okW ini (wayB n b) = true
      · rw [List.filter_cons_of_pos c, List.flatMap_cons]
        congr 1
        rw [List.filter_cons_of_pos (by rw [o1, c]; simp)]
        unfold chL
        cases x with
        | true => rw [List.filter_cons_of_pos (by rw [o2, c]; rfl)]; rfl
        | false => rw [List.filter_cons_of_neg (by rw [o2, c]; simp)]; rfl
      · rw [List.filter_cons_of_neg c, List.filter_cons_of_neg (by rw [o1]; simp [c]), List.filter_cons_of_neg (by rw [o2]; simp [c])]
        rfl
/-- the last way leads round where it can -/
theorem waysL_last (fs : List Bool) : ∃ ini, waysL fs = ini ++ [fs.map (!·)] := by
  generalize hn : fs.length = n
  induction n generalizing fs with
  | zero =>
    rw [List.length_eq_zero_iff.mp hn]
    exact ⟨[], rfl⟩
  | succ n ih =>
    have hne : fs ≠ [] := by intro e; rw [e] at hn; cases hn
    obtain ⟨i2, x, rfl⟩ : ∃ ini x, fs = ini ++ [x] := ⟨fs.dropLast, fs.getLast hne, (List.dropLast_concat_getLast hne).symm⟩
    rw [List.length_append, List.length_singleton] at hn
    obtain ⟨ini, e⟩ := ih i2 (by omega)
    rw [waysL_snoc, e, List.flatMap_append, List.map_append, List.map_singleton]
    cases x with
    | true => exact ⟨(ini.flatMap fun w => (chL true).map fun c => w ++ [c]) ++ [i2.map (!·) ++ [true]], by simp [chL]⟩
    | false => exact ⟨(ini.flatMap fun w => (chL false).map fun c => w ++ [c]), by simp [chL]⟩
theorem okW_all : ∀ (fs ws : List Bool), fs.length = ws.length → okW fs ws = ((List.range fs.length).map fun k => fs.getD k false || ws.getD k false).all id
  | [], [], _ => rfl
  | f :: fs, w :: ws, h => by
    rw [List.length_cons, List.range_succ_eq_map, List.map_cons, List.all_cons, List.map_map]
    show ((f || w) && okW fs ws) = _
    rw [okW_all fs ws (by simpa using h)]
    rfl
theorem bit_int0 (b k : Nat) : decide (Builtin.bitAnd ((b : Int) / 2 ^ k) 1 = 0) = !b.testBit k := by
  have h := Bits.bit_at (x := (b : Int)) k
  rw [Int.fdiv_eq_ediv_of_nonneg _ (by exact Int.le_of_lt (Int.pow_pos (by omega)))] at h
  rw [h, Nat.testBit_eq_decide_div_mod_eq]
  have : (b : Int) / 2 ^ k % 2 = ((b / 2 ^ k % 2 : Nat) : Int) := by simp
  rw [this, Bool.eq_iff_iff, Bool.not_eq_true', decide_eq_true_iff, decide_eq_false_iff_not]
  omega
theorem cut_midlen {α : Type} (xs : List α) (a b : Nat) : (cutL xs (some (a : Int)) (some (b : Int))).length ≤ b - a := by
  unfold cutL
  rw [HT.sIx_nat, HT.sIx_nat, List.length_take, List.length_drop]
  omega
end BK
namespace BK
open PySem PySem.Spec L2
set_option autoImplicit false
/-- who is on at a moment of any part -/
def onQ (q : Rat) (s : SpZ) : Bool := !decide (q < gr s.1) && decide (q < gr s.2.1)
def sumsQ (ss : List SpZ) (q : Rat) : Int × Int := (((ss.filter (onQ q)).map (·.2.2.1)).sum, ((ss.filter (onQ q)).map (·.2.2.2)).sum)
def stepQ (q : Rat) (st : Int × Int) (s : SpZ) : Int × Int := if onQ q s = true then (st.1 + s.2.2.1, st.2 + s.2.2.2) else st
theorem fold_sumsQ (q : Rat) : ∀ (ss : List SpZ) (st : Int × Int), ss.foldl (stepQ q) st = (st.1 + (sumsQ ss q).1, st.2 + (sumsQ ss q).2) := by
  intro ss
  induction ss with
  | nil => intro st; simp [sumsQ]
  | cons s ss ih =>
    intro st
    rw [List.foldl_cons, ih]
    unfold sumsQ stepQ
    cases e : onQ q s with
    | true => rw [if_pos rfl, List.filter_cons_of_pos e]; simp; constructor <;> omega
    | false => rw [if_neg (by decide), List.filter_cons_of_neg (by rw [e]; decide)]

theorem sumsQ_grid (ss : List SpZ) (m : Int) : sumsQ ss (gr m) = sumsZ ss m := by
  have e : onQ (gr m) = onZ m := by
    funext s
    unfold onQ onZ
    rw [Bool.eq_iff_iff]
    simp only [Bool.and_eq_true, Bool.not_eq_true', decide_eq_true_eq, decide_eq_false_iff_not, gr_lt]
    omega
  unfold sumsQ sumsZ
  rw [e]
/-! ### the moments at which wheels come on, each once; the first of the greatest -/
def dedZ : List Int → List Int
  | [] => []
  | [x] => [x]
  | x :: y :: t => if x = y then dedZ (y :: t) else x :: dedZ (y :: t)
theorem dedZ_mem : ∀ (l : List Int) (z : Int), z ∈ dedZ l ↔ z ∈ l
  | [], z => Iff.rfl
  | [x], z => Iff.rfl
  | x :: y :: t, z => by
    have ih := dedZ_mem (y :: t) z
    unfold dedZ
    by_cases e : x = y
    · rw [if_pos e, ih, e]
      simp
    · rw [if_neg e, List.mem_cons, ih, List.mem_cons (a := z) (b := x)]
theorem dedZ_lt : ∀ (l : List Int), l.Pairwise (· ≤ ·) → (dedZ l).Pairwise (· < ·)
  | [], _ => .nil
  | [x], _ => by simp [dedZ]
  | x :: y :: t, h => by
    rw [List.pairwise_cons] at h
    have ih := dedZ_lt (y :: t) h.2
    unfold dedZ
    by_cases e : x = y
    · rw [if_pos e]; exact ih
    · rw [if_neg e, List.pairwise_cons]
      refine ⟨fun z hz => ?_, ih⟩
      rw [dedZ_mem] at hz
      have h1 := h.1 y List.mem_cons_self
      have h2 := h.1 z hz
      rcases List.mem_cons.mp hz with rfl | hz
      · omega
      · have := (List.pairwise_cons.mp h.2).1 z hz
        omega
theorem lt_uniq : ∀ (a b : List Int), a.Pairwise (· < ·) → b.Pairwise (· < ·) → (∀ z, z ∈ a ↔ z ∈ b) → a = b
  | [], [], _, _, _ => rfl
  | [], y :: b, _, _, h => by have := (h y).mpr List.mem_cons_self; simp at this
  | x :: a, [], _, _, h => by have := (h x).mp List.mem_cons_self; simp at this
  | x :: a, y :: b, ha, hb, h => by
    rw [List.pairwise_cons] at ha hb
    have hxy : x = y := by
      have h1 := (h x).mp List.mem_cons_self
      have h2 := (h y).mpr List.mem_cons_self
      rcases List.mem_cons.mp h1 with e | h1
      · exact e
      · rcases List.mem_cons.mp h2 with e | h2
        · exact e.symm
        · have := hb.1 x h1
          have := ha.1 y h2
          omega
    subst hxy
    congr 1
    refine lt_uniq a b ha.2 hb.2 fun z => ?_
    constructor
    · intro hz
      have h1 := (h z).mp (List.mem_cons_of_mem _ hz)
      have := ha.1 z hz
      rcases List.mem_cons.mp h1 with e | h1
      · omega
      · exact h1
    · intro hz
      have h1 := (h z).mpr (List.mem_cons_of_mem _ hz)
      have := hb.1 z hz
      rcases List.mem_cons.mp h1 with e | h1
      · omega
      · exact h1
def onsZ (zs : List Int) : List Int := dedZ (sortZ zs)
theorem onsZ_mem (zs : List Int) (z : Int) : z ∈ onsZ zs ↔ z ∈ zs := by
  unfold onsZ
  rw [dedZ_mem, (sortZ_perm zs).mem_iff]
theorem onsZ_lt (zs : List Int) : (onsZ zs).Pairwise (· < ·) := dedZ_lt _ (sortZ_sorted zs)
theorem onsZ_eq {zs l : List Int} (h : l.Pairwise (· < ·)) (k : ∀ z, z ∈ l ↔ z ∈ zs) : l = onsZ zs := lt_uniq _ _ h (onsZ_lt zs) fun z => by rw [onsZ_mem]; exact k z
theorem onsZ_len (zs : List Int) : (onsZ zs).length ≤ zs.length := by
  have key : ∀ l : List Int, (dedZ l).length ≤ l.length := by
    intro l
    induction l with
    | nil => exact Nat.le_refl _
    | cons x l ih =>
      cases l with
      | nil => exact Nat.le_refl _
      | cons y t =>
        unfold dedZ
        by_cases e : x = y
        · rw [if_pos e]; simp at ih ⊢; omega
        · rw [if_neg e]; simp at ih ⊢; omega
  unfold onsZ
  have := key (sortZ zs)
  rw [(sortZ_perm zs).length_eq] at this
  exact this
def betZ (f : Int → Int) (o : Option Int) (m : Int) : Option Int := match o with
  | none => some m
  | some b => if f b < f m then some m else some b
def firstZ (f : Int → Int) (l : List Int) : Option Int := l.foldl (betZ f) none
theorem firstZ_snoc (f : Int → Int) (l : List Int) (m : Int) : firstZ f (l ++ [m]) = betZ f (firstZ f l) m := by
  unfold firstZ
  rw [List.foldl_append]
  rfl
theorem betZ_some (f : Int → Int) (o : Option Int) (m : Int) : ∃ b, betZ f o m = some b := by
  cases o with
  | none => exact ⟨m, rfl⟩
  | some b =>
    by_cases h : f b < f m
    · exact ⟨m, by simp [betZ, h]⟩
    · exact ⟨b, by simp [betZ, h]⟩
/-- the first with the greatest -/
theorem firstZ_spec (f : Int → Int) (l : List Int) : (l = [] ∧ firstZ f l = none) ∨ ∃ b, firstZ f l = some b ∧ b ∈ l ∧ ∀ m ∈ l, f m ≤ f b := by
  generalize hn : l.length = n
  induction n generalizing l with
  | zero => exact .inl ⟨List.length_eq_zero_iff.mp hn, by rw [List.length_eq_zero_iff.mp hn]; rfl⟩
  | succ n ih =>
    have hne : l ≠ [] := by intro e; rw [e] at hn; cases hn
    obtain ⟨q, z, rfl⟩ : ∃ q z, l = q ++ [z] := ⟨l.dropLast, l.getLast hne, (List.dropLast_concat_getLast hne).symm⟩
    right
    rw [firstZ_snoc]
    rcases ih q (by simpa using hn) with ⟨rfl, h⟩ | ⟨b, h, hb, hm⟩
    · rw [h]
      exact ⟨z, rfl, by simp, fun m hm => by simp at hm; subst hm; omega⟩
    · rw [h]
      by_cases c : f b < f z
      · refine ⟨z, by simp [betZ, c], by simp, fun m hm2 => ?_⟩
        rw [List.mem_append, List.mem_singleton] at hm2
        rcases hm2 with hm2 | rfl
        · have := hm m hm2; omega
        · omega
      · refine ⟨b, by simp [betZ, c], by simp [hb], fun m hm2 => ?_⟩
        rw [List.mem_append, List.mem_singleton] at hm2
        rcases hm2 with hm2 | rfl
        · exact hm m hm2
        · omega
/-- what is told of the first of the greatest -/
def tellW (ss : List SpZ) (o : Option Int) : Option (Fr × Int × Int) := o.map fun m => (gq m, (sumsZ ss m).1, (sumsZ ss m).2)
def whichZ (ss : List SpZ) (w : Bool) (m : Int) : Int := if w = true then (sumsZ ss m).2 else (sumsZ ss m).1
def worstZ (ss : List SpZ) (w : Bool) : Option Int := firstZ (whichZ ss w) (onsZ (ss.map (·.1)))
theorem worstZ_none {ss : List SpZ} {w : Bool} : worstZ ss w = none ↔ ss = [] := by
  unfold worstZ
  constructor
  · intro h
    rcases firstZ_spec (whichZ ss w) (onsZ (ss.map (·.1))) with ⟨h1, _⟩ | ⟨b, h1, _⟩
    · cases ss with
      | nil => rfl
      | cons s ss =>
        have : s.1 ∈ onsZ ((s :: ss).map (·.1)) := (onsZ_mem _ _).mpr (by simp)
        rw [h1] at this
        simp at this
    · rw [h] at h1; cases h1
  · rintro rfl
    simp [onsZ, sortZ, dedZ, firstZ]
theorem worstZ_some {ss : List SpZ} {w : Bool} {m : Int} (h : worstZ ss w = some m) : (∃ s ∈ ss, m = s.1) ∧ ∀ s ∈ ss, whichZ ss w s.1 ≤ whichZ ss w m := by
  unfold worstZ at h
  rcases firstZ_spec (whichZ ss w) (onsZ (ss.map (·.1))) with ⟨_, h1⟩ | ⟨b, h1, h2, h3⟩
  · rw [h] at h1; cases h1
  · rw [h] at h1
    cases h1
    rw [onsZ_mem, List.mem_map] at h2
    obtain ⟨s, hs, e⟩ := h2
    exact ⟨⟨s, hs, e.symm⟩, fun s hs => h3 s.1 ((onsZ_mem _ _).mpr (List.mem_map_of_mem hs))⟩
/-- a turn of the loops over moments -/
theorem bet_turn (ss : List SpZ) (w : Bool) (W : Int) (hw : W = if w = true then 1 else 0) (o : Option Int) (m : Int) : (b1 (if (Option.isNone (tellW ss o)) = true then some true else b1 (atI ([(sumsZ ss m).1, (sumsZ ss m).2] : List Int) W) fun t4 => b1 (tellW ss o) fun t5 => b1 (atI ([(eP2 D.int D.int) t5.1, D.int t5.2.1, D.int t5.2.2] : List D) ((1 : Int) + W)) fun t6 => b1 (dInt t6) fun t7 => some (decide (t7 < t4))) fun t8 =>
      b1 (if t8 = true then
          lt (some (gq m, (sumsZ ss m).1, (sumsZ ss m).2)) fun (found' : (Option ((Int × Int) × Int × Int))) =>
          some found'
        else
          some (tellW ss o)) fun found'2 =>
      some found'2) = some (tellW ss (betZ (whichZ ss w) o m)) := by
  cases o with
  | none => rfl
  | some b =>
    have e0 : tellW ss (some b) = some (gq b, (sumsZ ss b).1, (sumsZ ss b).2) := rfl
    rw [e0, if_neg (by simp)]
    subst hw
    cases w with
    | true =>
      rw [if_pos rfl]
      show b1 (b1 (some (sumsZ ss m).2) fun t4 => b1 (some (gq b, (sumsZ ss b).1, (sumsZ ss b).2)) fun (t5 : Fr × Int × Int) => b1 (some (D.int t5.2.2)) _) _ = _
      rw [b1_some, b1_some, b1_some]
      show b1 (b1 (some (sumsZ ss b).2) _) _ = _
      rw [b1_some, b1_some]
      unfold betZ whichZ
      by_cases c : (sumsZ ss b).2 < (sumsZ ss m).2
      · rw [if_pos (decide_eq_true c), lt_def, b1_some]; simp [c]; rfl
      · rw [if_neg (by simpa using c), b1_some]; simp [c]; rfl
    | false =>
      rw [if_neg (by decide)]
      show b1 (b1 (some (sumsZ ss m).1) fun t4 => b1 (some (gq b, (sumsZ ss b).1, (sumsZ ss b).2)) fun (t5 : Fr × Int × Int) => b1 (some (D.int t5.2.1)) _) _ = _
      rw [b1_some, b1_some, b1_some]
      show b1 (b1 (some (sumsZ ss b).1) _) _ = _
      rw [b1_some, b1_some]
      unfold betZ whichZ
      by_cases c : (sumsZ ss b).1 < (sumsZ ss m).1
      · rw [if_pos (decide_eq_true c), lt_def, b1_some]; simp [c]; rfl
      · rw [if_neg (by simpa using c), b1_some]; simp [c]; rfl
theorem pl_tellW (ss : List SpZ) (o : Option Int) : pl 9 ((eO (eP3 (eP2 D.int D.int) D.int D.int)) (tellW ss o)) = true := by
  refine pl_O fun x _ => ?_
  simp
theorem pl_moms (ms : List Int) (h : ms.length ≤ 1000000) : pl 9 (eL (eP2 D.int D.int) (ms.map gq)) = true := by
  refine pl_L (by rw [List.length_map]; exact h) fun x _ => ?_
  simp
end BK
namespace BK
open PySem PySem.Spec L2 PyProof.Rows
set_option autoImplicit false
/-! ### chains of three -/
section
variable {X : Cx} {a b c d : Expr} {ta tb tc td : TE} {pos : Pos}
def tChain3 (r r' r'' : R2) (ta tb tc td : TE) : TE := fun σ H Q => ta σ H fun x H1 => tb σ H1 fun y H2 => r x y H2 fun z H3 => ∃ k, z = .bl k ∧
  (if k = true then tc σ H3 fun w H4 => r' y w H4 fun z' H5 => ∃ k', z' = .bl k' ∧ (if k' = true then td σ H5 fun v H6 => r'' w v H6 Q else Q (.bl false) H5) else Q (.bl false) H3)
theorem pe_chain3 {op op' op'' : CmpOp} {r r' r'' : R2} (ho : OpR X (compareOp op) r) (ho' : OpR X (compareOp op') r') (ho'' : OpR X (compareOp op'') r'') (ha : PE X a ta) (hb : PE X b tb) (hc : PE X c tc) (hd : PE X d td)
    (hm : lastMarks [op, op', op''] [b, c, d] = false := by with_unfolding_all rfl) : PE X (.Compare a [op, op', op''] [b, c, d] pos) (tChain3 r r' r'' ta tb tc td) := by
  refine ⟨fun pins s σ H Q I h => ?_⟩
  refine Compare_chain (thn (ha.run pins s σ H _ I h) fun v s1 ⟨x, H1, I1, r1, q1⟩ => chain_link (thn (hb.run pins s1 σ H1 _ I1 q1) fun u s2 ⟨y, H2, I2, r2, q2⟩ =>
    thn (ho pins s2 σ H2 x y v u _ I2 r1 r2 q2) fun d s3 ⟨z, H3, I3, r3, k, e, q3⟩ => ?_)) hm
  subst e
  cases r3
  refine wpAny_truthy_bool ?_
  cases k with
  | false => exact ite_ff ⟨.bl false, H3, I3, rfl, q3⟩
  | true =>
    refine ite_tt (chain_link (thn (hc.run pins s3 σ H3 _ I3 q3) fun w s4 ⟨z, H4, I4, r4, q4⟩ => thn (ho' pins s4 σ H4 y z u w _ I4 r2 r4 q4) fun d s5 ⟨z5, H5, I5, r5, k5, e5, q5⟩ => ?_))
    subst e5
    cases r5
    refine wpAny_truthy_bool ?_
    cases k5 with
    | false => exact ite_ff ⟨.bl false, H5, I5, rfl, q5⟩
    | true => exact ite_tt (chain_last (thn (hd.run pins s5 σ H5 _ I5 q5) fun w' s6 ⟨z', H6, I6, r6, q6⟩ => ho'' pins s6 σ H6 z z' w w' Q I6 r4 r6 q6))
end
/-- a < b < c < d -/
def eCh3 (f f' f'' : R → R → Option R) (a b c d : Gm → Option R) : Gm → Option R := fun g => (a g).bind fun x => (b g).bind fun y => (f x y).bind fun z => match z with
  | .va (.bl true) => (c g).bind fun w => (f' y.fz w).bind fun z' => match z' with
    | .va (.bl true) => (d g).bind fun v => f'' w.fz v
    | .va (.bl false) => some (.va (.bl false))
    | _ => none
  | .va (.bl false) => some (.va (.bl false))
  | _ => none
section
variable {X : Cx} {ca : Nat → Addr} {a b c d : Expr} {m n k l : Gm → Option R} {pos apos p : Pos}
theorem t_chain3 {r r' r'' : R2} {f f' f'' : R → R → Option R} (o : OpD X.K ca r f) (o' : OpD X.K ca r' f') (o'' : OpD X.K ca r'' f'') : ∀ σ H Q, tEV X.K ca (eCh3 f f' f'' m n k l) σ H Q → tChain3 r r' r'' (tEV X.K ca m) (tEV X.K ca n) (tEV X.K ca k) (tEV X.K ca l) σ H Q := by
  rintro σ H Q ⟨H0, F0, F, Γ, z, S, e, q⟩
  unfold eCh3 at e
  obtain ⟨x, ex, e⟩ := Option.bind_eq_some_iff.mp e
  obtain ⟨y, ey, e⟩ := Option.bind_eq_some_iff.mp e
  obtain ⟨t, et, e⟩ := Option.bind_eq_some_iff.mp e
  refine ⟨H0, F0, F, Γ, x, S, ex, fun v H1 F1 x1 r1 => ⟨H0, F0, F1, Γ, y, S.mono x1, ey, fun w H2 F2 x2 r2 => ?_⟩⟩
  refine o x2.fh (r1.mono x2) (r2.back x1.hh) et fun u H3 F3 x3 r3 => ?_
  split at e
  · cases r3
    refine ⟨true, rfl, ?_⟩
    rw [if_pos rfl]
    obtain ⟨cw, ec, e⟩ := Option.bind_eq_some_iff.mp e
    obtain ⟨t', et', e⟩ := Option.bind_eq_some_iff.mp e
    have x23 := (x1.trans x2).trans x3
    obtain ⟨F4, x4, r4⟩ := RV.fz (x2.trans x3) (r2.mono x3)
    have x14 := x1.trans x4
    refine ⟨H0, F0, F4, Γ, cw, S.mono x14, ec, fun w' H5 F5 x5 r5 => ?_⟩
    refine o' x5.fh ((r4.back x1.hh).mono x5) (r5.back x14.hh) et' fun u H6 F6 x6 r6 => ?_
    split at e
    · cases r6
      refine ⟨true, rfl, ?_⟩
      rw [if_pos rfl]
      obtain ⟨dw, ed, e⟩ := Option.bind_eq_some_iff.mp e
      obtain ⟨F7, x7, r7⟩ := RV.fz (x5.trans x6) (r5.mono x6)
      have x17 := x14.trans x7
      refine ⟨H0, F0, F7, Γ, dw, S.mono x17, ed, fun w7 H8 F8 x8 r8 => ?_⟩
      refine o'' x8.fh ((r7.back x14.hh).mono x8) (r8.back x17.hh) e fun u H9 F9 x9 r9 => ?_
      exact q u H9 F9 ((x17.trans x8).trans x9) (r9.back (x17.trans x8).hh)
    · cases r6
      refine ⟨false, rfl, ?_⟩
      rw [if_neg (by decide)]
      cases e
      exact q _ H6 F6 ((x14.trans x5).trans x6) (.bl false)
    · cases e
  · cases r3
    refine ⟨false, rfl, ?_⟩
    rw [if_neg (by decide)]
    cases e
    exact q _ H3 F3 ((x1.trans x2).trans x3) (.bl false)
  · cases e
theorem ev_chain3 {op op' op'' : CmpOp} {r r' r'' : R2} {f f' f'' : R → R → Option R} (ho : OpR X (compareOp op) r) (o : OpD X.K ca r f) (ho' : OpR X (compareOp op') r') (o' : OpD X.K ca r' f') (ho'' : OpR X (compareOp op'') r'') (o'' : OpD X.K ca r'' f'') (ha : EV X ca a m) (hb : EV X ca b n) (hc : EV X ca c k) (hd : EV X ca d l) (hl : lastMarks [op, op', op''] [b, c, d] = false := by rfl) : EV X ca (.Compare a [op, op', op''] [b, c, d] pos) (eCh3 f f' f'' m n k l) := pe_imp (pe_chain3 ho ho' ho'' ha hb hc hd hl) (t_chain3 o o' o'')
theorem v_chain3 {g : Gm} {f f' f'' : R → R → Option R} {a b c d : Gm → Option R} {x y w v : R} {k l q : Bool} (h : a g = some x) (h' : b g = some y) (h'' : c g = some w) (h3 : d g = some v) (e1 : f x y = some (.va (.bl k))) (e2 : f' y.fz w = some (.va (.bl l))) (e3 : f'' w.fz v = some (.va (.bl q))) : eCh3 f f' f'' a b c d g = some (.va (.bl (k && l && q))) := by
  unfold eCh3
  rw [h]
  show (b g).bind _ = _
  rw [h']
  show (f x y).bind _ = _
  rw [e1]
  cases k with
  | false => rfl
  | true =>
    show (c g).bind _ = _
    rw [h'']
    show (f' y.fz w).bind _ = _
    rw [e2]
    cases l with
    | false => rfl
    | true =>
      show (d g).bind _ = _
      rw [h3]
      show f'' w.fz v = _
      rw [e3]
      rfl
end
/-! ### xs.append(ys.pop(k)) -/
def sAppPop (i j : Nat) (m : Gm → Option R) : Gm → Option Out := fun g => match g[i]?, g[j]? with
  | some (.ow ds), some (.ow es) => (m g).bind fun r => (ixD es r).bind fun t => es[t]?.bind fun d => if (i != j && decide (ds.length < LIM)) = true then some (.nx ((g.set j (.ow (es.eraseIdx t))).set i (.ow (ds ++ [d])))) else none
  | _, _ => none
section
variable {X : Cx} {ca : Nat → Addr} {e : Expr} {m : Gm → Option R} {pos p1 p2 p3 q1 q2 q3 : Pos} {i j : Nat} {x y : Str}
theorem sv_appPop (hx : PE X (.Name x p1) (tVar i)) (hy : PE X (.Name y q1) (tVar j)) (he : EV X ca e m)
    (h : PE X (.Call (.Attribute (.Name x p1) "append" p2) [.Call (.Attribute (.Name y q1) "pop" q2) [e] [] q3] [] p3) (tBM X.K "list" rAppend (tVar i) (tCons (tBM X.K "list" rPopAt (tVar j) (tCons (tEV X.K ca m) tNil)) tNil)))
    (hs : swapsWith (.Call (.Attribute (.Name x p1) "append" p2) [.Call (.Attribute (.Name y q1) "pop" q2) [e] [] q3] [] p3) none pos.line X.env = pure false := by rfl) : SV X ca (.Expr (.Call (.Attribute (.Name x p1) "append" p2) [.Call (.Attribute (.Name y q1) "pop" q2) [e] [] q3] [] p3) pos) (sAppPop i j m) [j, i] := by
  refine ⟨ps_imp (ps_expr h hs) ?_, fun g o e => ?_⟩
  · rintro D σ H ⟨H0, F0, F, Γ, o, S, e, p⟩
    unfold sAppPop at e
    split at e
    · rename_i ds es hg hg'
      obtain ⟨r, er, e⟩ := Option.bind_eq_some_iff.mp e
      obtain ⟨t, et, e⟩ := Option.bind_eq_some_iff.mp e
      obtain ⟨d, ed, e⟩ := Option.bind_eq_some_iff.mp e
      split at e
      · rename_i hc
        cases e
        rw [Bool.and_eq_true, decide_eq_true_eq, bne_iff_ne] at hc
        obtain ⟨k, rfl, k1, k2, k3⟩ := ixD_some et
        obtain ⟨a, vs, s, h1, h2, h3, h4⟩ := S.ow i ds hg
        obtain ⟨a', vs', s', h1', h2', h3', h4'⟩ := S.ow j es hg'
        refine ⟨_, s, .inl ⟨rfl, vs, SqL.of h3⟩, _, s', .inl ⟨rfl, vs', SqL.of h3'⟩, H0, F0, F, Γ, _, S, er, fun v H1 F1 x1 r1 => ?_⟩
        cases r1
        have h5 := h4'.mono x1.ff
        obtain ⟨w, hw, hd⟩ := h5.getV ed
        refine ⟨a', vs', k, t, w, rfl, rfl, x1.hh.l h3', k1, k2, by rw [h4'.length]; exact k3, hw, ?_⟩
        have S2 := (S.mono x1).upd hg' s' (h5.eraseIdx t)
        have hne : a ≠ a' := fun z => by subst z; exact S.ap i j ds es a hc.1 hg hg' s s'
        have hg2 : (Γ.set j (.ow (es.eraseIdx t)))[i]? = some (.ow ds) := by rw [List.getElem?_set_ne (fun z => hc.1 z.symm)]; exact hg
        refine ⟨a, vs, w, rfl, rfl, by rw [upd_ne hne]; exact x1.hh.l h3, by rw [lim_eq, h4.length]; exact hc.2, ?_⟩
        exact p σ _ F1 (S2.upd hg2 s ((h4.mono x1.ff).append (.one hd))) x1.ff .refl
      · cases e
    · cases e
  · unfold sAppPop at e
    split at e
    · obtain ⟨r, er, e⟩ := Option.bind_eq_some_iff.mp e
      obtain ⟨t, et, e⟩ := Option.bind_eq_some_iff.mp e
      obtain ⟨d, ed, e⟩ := Option.bind_eq_some_iff.mp e
      split at e
      · cases e
        exact kpg_set2
      · cases e
    · cases e
end
section
variable {α γ : Type} {b n : Gm → Option Out} {g g1 : Gm} {P : α → Out → Prop} {s : Option α} {t : γ → Option α} {i j : Nat}
theorem j_appPop {β : Type} {e : β → D} {ys xs : List β} {mk : Gm → Option R} {k : Int} {p : β × List β} (h0 : g[i]? = some (.ow (ys.map e))) (h0' : g[j]? = some (.ow (xs.map e))) (hk : mk g = some (.va (.int k))) (hp : popI xs k = some p) (hl : ys.length < 16777216) (hij : (i != j) = true) (h1 : (g.set j (.ow (p.2.map e))).set i (.ow ((ys ++ [p.1]).map e)) = g1) (K : J b n g1 s P) : J (sCons (sAppPop i j mk) b) n g s P :=
  j_seq (a := sAppPop i j mk) (g1 := g1) (by
    obtain ⟨q, h2, h3, h4⟩ := popI_D (e := e) hp
    unfold sAppPop
    rw [h0, h0']
    show (mk g).bind _ = _
    rw [hk]
    show (ixD (xs.map e) (.va (.int k))).bind _ = _
    rw [h2]
    show ((xs.map e)[q]?).bind _ = _
    rw [h3]
    show (if (i != j && decide ((ys.map e).length < LIM)) = true then some (Out.nx ((g.set j (.ow ((xs.map e).eraseIdx q))).set i (.ow (ys.map e ++ [e p.1])))) else none) = _
    rw [if_pos (by rw [hij, List.length_map, Bool.true_and, decide_eq_true_eq]; exact hl), h4, ← h1, List.map_append]
    rfl) K
end
/-! ### xs.count(x), xs.index(x), x in xs, of items of any depth -/
def rCountD (K : PySem.W.Frag) : V → List V → Hp → VK → Prop := fun x xs H Q => ∃ (a : Addr) (y : V) (d : PyData) (ds : List PyData), x = V.ref a ∧ xs = [y] ∧ Dp K H (V.ref a) (.list ds) ∧ Dp K H y d ∧
  SeqAt.shaped (.list ds) = true ∧ SeqAt.shaped d = true ∧ Q (.int ((ds.countP fun z => PyData.eqv z d : Nat) : Int)) H
theorem mt_countD {X : Cx} (hu : X.A.units + 65 < cLine) : MtR X "list.count" (rCountD X.K) := by
  intro pins s σ H x xs v us Q I rx rxs h
  obtain ⟨a, y, d, ds, rfl, rfl, hl, hy, sl, sd, q⟩ := h
  cases rx
  cases rxs with
  | cons ry rt =>
    rename_i uy ut
    cases rt
    obtain ⟨bs, r1⟩ := Dp.reads I d y uy hy ry
    have hxs : PyData.canLayAll0 ds = true := SeqAt.canLay_of_shaped sl
    have hroom : X.A.units + 1 + min (PyData.depthAll ds) d.depth < cLine := room_in_shaped sd hu
    cases hl with
    | lst hs ha =>
      obtain ⟨its, rv, ⟨⟨cls, dd, data, sls⟩, n, ho, hc, hdn, hdt⟩, hlen⟩ := I.list hs
      simp only at hc hdt
      subst hc hdt
      obtain ⟨as, h4⟩ := Dp.readsAll I ds _ its ha rv
      have hmap : its.map (SeqAt.readOf s.heap) = ds := SeqAt.readsAll_map ds its as hxs h4
      refine call_meets PySem.F.slot_list_count ⟨_, ho, rfl⟩ PySem.F.entry_list_count (PySem.F.args_list_count_2 _ _)
        (SeqAt.list_countAt a its.toArray n dd sls uy (fun u => PyData.eqv (SeqAt.readOf s.heap u) d)) ⟨ho, SeqAt.items_eqAt (vs := its.toArray) (show ReadsAll s.heap its.toArray.toList ds as from h4) r1 hxs (SeqAt.canLay_of_shaped sd) hroom, ?_⟩
      have ec : its.toArray.toList.countP (fun u => PyData.eqv (SeqAt.readOf s.heap u) d) = ds.countP fun z => PyData.eqv z d := by
        rw [← hmap, List.countP_map]
        rfl
      refine ⟨.int ((ds.countP fun z => PyData.eqv z d : Nat) : Int), H, I.tok _, ⟨s.toks, ?_⟩, q⟩
      rw [ec]
/-- the items of a list, to a depth -/
def cntR (a b : R) : Option Nat := match a.d with
  | .lst ds => if (okn 8 (.lst ds) && okn 7 b.d) = true then some (ds.countP fun e => eqn 7 e b.d) else none
  | _ => none
def fCnt (a b : R) : Option R := (cntR a b).map fun k : Nat => R.va (D.int (k : Int))
def idxR (a b : R) : Option Nat := match a.d with
  | .lst ds => if (okn 8 (.lst ds) && okn 7 b.d) = true then ds.findIdx? fun e => eqn 7 e b.d else none
  | _ => none
def fIdx (a b : R) : Option R := (idxR a b).map fun k : Nat => R.va (D.int (k : Int))
theorem toPys_map (ds : List D) : toPys ds = ds.map toPy := by
  induction ds with
  | nil => rfl
  | cons d ds ih => rw [toPys, ih]; rfl
theorem okn_mono1 : ∀ (n : Nat) (d : D), okn n d = true → okn (n + 1) d = true := by
  intro n
  induction n with
  | zero => intro d h; cases d <;> simp_all [okn]
  | succ n ih =>
    intro d h
    cases d with
    | lst xs => simp only [okn, List.all_eq_true] at h ⊢; exact fun x hx => ih x (h x hx)
    | tup xs => simp only [okn, List.all_eq_true] at h ⊢; exact fun x hx => ih x (h x hx)
    | _ => simp_all [okn]
section
variable {X : Cx} {ca : Nat → Addr} {a b : Expr} {m n : Gm → Option R} {pos apos : Pos}
/-- a method of a list with one argument, by values -/
def LMD (K : PySem.W.Frag) (ca : Nat → Addr) (r : V → List V → Hp → VK → Prop) (f : R → R → Option R) : Prop :=
  ∀ {B : BT} {Hs F H : Hp} {v w : V} {x y z : R} {Q : VK}, Same F H → RV K ca B Hs F H v x → RV K ca B Hs F H w y → f x y = some z → (∀ u H' F', Ext ca H F H' F' → RV K ca B H F' H' u z → Q u H') → r v [w] H Q
theorem t_lm {r : V → List V → Hp → VK → Prop} {f : R → R → Option R} (o : LMD X.K ca r f) (hf : ∀ x y z, f x y = some z → ∃ ds, x.d = .lst ds) : ∀ σ H Q, tEV X.K ca (e2 f m n) σ H Q → tBM X.K "list" r (tEV X.K ca m) (tCons (tEV X.K ca n) tNil) σ H Q := by
  rintro σ H Q ⟨H0, F0, F, Γ, z, S, e, q⟩
  unfold e2 at e
  obtain ⟨x, ex, e⟩ := Option.bind_eq_some_iff.mp e
  obtain ⟨y, ey, e⟩ := Option.bind_eq_some_iff.mp e
  obtain ⟨ds, hd⟩ := hf x y z e
  refine ⟨H0, F0, F, Γ, _, S, ex, fun v H1 F1 x1 r1 => ?_⟩
  obtain ⟨p, vs, rfl, h1, h2⟩ := RV.lst x1.fh r1 hd
  refine ⟨.inl ⟨rfl, vs, rd_l h1⟩, H0, F0, F1, Γ, y, S.mono x1, ey, fun w H2 F2 x2 r2 => ?_⟩
  exact o x2.fh (r1.mono x2) (r2.back x1.hh) e fun u H3 F3 x3 r3 => q u H3 F3 ((x1.trans x2).trans x3) (r3.back (x1.hh.trans x2.hh))
theorem lm_cnt {K : PySem.W.Frag} : LMD K ca (rCountD K) fCnt := by
  intro B H0 F H v w x y z Q s rx ry e q
  unfold fCnt at e
  obtain ⟨k, ek, rfl⟩ := Option.map_eq_some_iff.mp e
  unfold cntR at ek
  split at ek
  · rename_i ds hd
    split at ek
    · rename_i hc
      cases ek
      rw [Bool.and_eq_true] at hc
      have h1 : okn 8 x.d = true := by rw [hd]; exact hc.1
      have h2 := hc.2
      have px := RV.dp s rx h1
      have py := RV.dp s ry h2
      rw [hd] at px
      obtain ⟨p, vs, rfl, _, _⟩ := RV.lst s rx hd
      have sx := okn_shaped hc.1 (by decide)
      refine ⟨p, w, _, _, rfl, rfl, px, py, sx, okn_shaped h2 (by decide), ?_⟩
      have e1 : (toPys ds).countP (fun z => PyData.eqv z (toPy y.d)) = ds.countP fun e => eqn 7 e y.d := by
        rw [toPys_map, List.countP_map]
        apply List.countP_congr
        intro d hdm
        have hall : ∀ e ∈ ds, okn 7 e = true := by simpa only [okn, List.all_eq_true] using hc.1
        show PyData.eqv (toPy d) (toPy y.d) = true ↔ _
        rw [eqn_py 7 d y.d (hall d hdm) h2]
      rw [e1]
      exact q _ H F (.refl s) (.int _)
    · cases ek
  · cases ek
theorem lm_idx {K : PySem.W.Frag} : LMD K ca (rIndexD K) fIdx := by
  intro B H0 F H v w x y z Q s rx ry e q
  unfold fIdx at e
  obtain ⟨k, ek, rfl⟩ := Option.map_eq_some_iff.mp e
  unfold idxR at ek
  split at ek
  · rename_i ds hd
    split at ek
    · rename_i hc
      rw [Bool.and_eq_true] at hc
      have h1 : okn 8 x.d = true := by rw [hd]; exact hc.1
      have h2 := hc.2
      have px := RV.dp s rx h1
      have py := RV.dp s ry h2
      rw [hd] at px
      obtain ⟨p, vs, rfl, _, _⟩ := RV.lst s rx hd
      have sx := okn_shaped hc.1 (by decide)
      have hall : ∀ e ∈ ds, okn 7 e = true := by simpa only [okn, List.all_eq_true] using hc.1
      obtain ⟨hk, hk1, hk2⟩ := List.findIdx?_eq_some_iff_getElem.mp ek
      refine ⟨p, w, _, _, k, toPy ds[k], rfl, rfl, px, py, sx, okn_shaped h2 (by decide), ?_, ?_, ?_, ?_⟩
      · rw [toPys_map, List.getElem?_map, List.getElem?_eq_getElem hk]; rfl
      · rw [eqn_py 7 _ _ (hall _ (List.getElem_mem hk)) h2]; exact hk1
      · intro j z' hj hz'
        rw [toPys_map, List.getElem?_map, List.getElem?_eq_getElem (show j < ds.length by omega)] at hz'
        cases hz'
        rw [eqn_py 7 _ _ (hall _ (List.getElem_mem _)) h2]
        have := hk2 j hj
        simpa using this
      · exact q _ H F (.refl s) (.int _)
    · cases ek
  · cases ek
theorem fCnt_lst (x y z : R) (h : fCnt x y = some z) : ∃ ds, x.d = .lst ds := by
  unfold fCnt cntR at h
  cases hd : x.d <;> rw [hd] at h <;> first | exact ⟨_, rfl⟩ | cases h
theorem fIdx_lst (x y z : R) (h : fIdx x y = some z) : ∃ ds, x.d = .lst ds := by
  unfold fIdx idxR at h
  cases hd : x.d <;> rw [hd] at h <;> first | exact ⟨_, rfl⟩ | cases h
theorem room65 {k : Nat} {A : Around} (r : Room k A) : A.units + 65 < cLine := by have := r.un; omega
theorem ev_cnt (hu : X.A.units + 65 < cLine) (ha : EV X ca a m) (hb : EV X ca b n)
    (hbase : attributeBase a "count" X.env (eval a X.env) = eval a X.env := by rfl)
    (hfew : ((backTo pos (starEach [b] X.env)).all (fun x => !x.1) && (backToKw pos (keywordEach [] X.env)).all (fun x => x.1.isSome)
      && decide ([b].length + ([] : List Keyword).length + (if ([] : List Keyword).isEmpty then 0 else 1) < 30)) = true := by rfl)
    (hline : (apos.endLine == pos.line) = true := by rfl) (hs : starEach [b] X.env = (false, eval b X.env) :: starEach [] X.env := by rfl) : EV X ca (.Call (.Attribute a "count" apos) [b] [] pos) (e2 fCnt m n) :=
  pe_imp (pe_bm PySem.F.plainAttrs_list PySem.F.slot_list_count PySem.F.type_list_count (mt_countD hu) ha (pa_cons hb pa_nil hs) hbase hfew hline hs) (t_lm lm_cnt fCnt_lst)
theorem ev_idx (hu : X.A.units + 65 < cLine) (ha : EV X ca a m) (hb : EV X ca b n)
    (hbase : attributeBase a "index" X.env (eval a X.env) = eval a X.env := by rfl)
    (hfew : ((backTo pos (starEach [b] X.env)).all (fun x => !x.1) && (backToKw pos (keywordEach [] X.env)).all (fun x => x.1.isSome)
      && decide ([b].length + ([] : List Keyword).length + (if ([] : List Keyword).isEmpty then 0 else 1) < 30)) = true := by rfl)
    (hline : (apos.endLine == pos.line) = true := by rfl) (hs : starEach [b] X.env = (false, eval b X.env) :: starEach [] X.env := by rfl) : EV X ca (.Call (.Attribute a "index" apos) [b] [] pos) (e2 fIdx m n) :=
  pe_imp (pe_bm PySem.F.plainAttrs_list PySem.F.slot_list_index PySem.F.type_list_index (mt_indexD hu) ha (pa_cons hb pa_nil hs) hbase hfew hline hs) (t_lm lm_idx fIdx_lst)
end
/-! in plain types -/
def cntO {α : Type} [DecidableEq α] (xs : List α) (v : α) : Int := ((xs.countP fun a => decide (a = v) : Nat) : Int)
theorem f_cnt {α : Type} [DecidableEq α] {e : α → D} {x y : R} {xs : List α} {v : α} (he : EQ 7 e) (hx : x.d = .lst (xs.map e)) (hy : y.d = e v) (h : okn 8 (eL e xs) = true ∧ okn 7 (e v) = true) : fCnt x y = some (.va (.int (cntO xs v))) := by
  unfold fCnt cntR
  rw [hx, hy]
  show Option.map _ (if (okn 8 (D.lst (xs.map e)) && okn 7 (e v)) = true then some ((xs.map e).countP fun d => eqn 7 d (e v)) else none) = _
  rw [if_pos (by rw [h.2, Bool.and_true]; exact h.1), List.countP_map]
  unfold cntO
  show some (R.va (.int ((xs.countP _ : Nat) : Int))) = _
  congr 4
  apply List.countP_congr
  intro a _
  show eqn 7 (e a) (e v) = true ↔ _
  rw [he.eq]
def idxO {α : Type} [DecidableEq α] (xs : List α) (v : α) : Option Int := (xs.findIdx? fun a => decide (a = v)).map fun k : Nat => (k : Int)
theorem f_idx {α : Type} [DecidableEq α] {e : α → D} {x y : R} {xs : List α} {v : α} {k : Int} (he : EQ 7 e) (hx : x.d = .lst (xs.map e)) (hy : y.d = e v) (h : okn 8 (eL e xs) = true ∧ okn 7 (e v) = true) (hk : idxO xs v = some k) : fIdx x y = some (.va (.int k)) := by
  unfold fIdx idxR
  rw [hx, hy]
  show Option.map _ (if (okn 8 (D.lst (xs.map e)) && okn 7 (e v)) = true then (xs.map e).findIdx? fun d => eqn 7 d (e v) else none) = _
  rw [if_pos (by rw [h.2, Bool.and_true]; exact h.1), List.findIdx?_map]
  unfold idxO at hk
  obtain ⟨q, hq, rfl⟩ := Option.map_eq_some_iff.mp hk
  have e1 : ((fun d => eqn 7 d (e v)) ∘ e) = fun a => decide (a = v) := by
    funext a
    show eqn 7 (e a) (e v) = _
    rw [he.eq]
  rw [e1, hq]
  rfl
end BK
namespace BK
open PySem PySem.Spec L2
set_option autoImplicit false
/-! ### walks and texts of data of any kind -/
def seqD : D → Option (List D)
  | .tup ds => some ds
  | .lst ds => some ds
  | _ => none
theorem f_seqD {d : D} {ds : List D} (h : seqD d = some ds) : seqR (.va d) = some ([], ds) := by
  cases d with
  | tup xs => cases h; rfl
  | lst xs => cases h; rfl
  | _ => cases h
theorem f_seqDe {d : D} {ds : List D} (h : seqD d = some ds) : seqR (.va (eD d)) = some ([], ds.map eD) := by
  have e : ds.map eD = ds := List.map_id ds
  rw [e]
  exact f_seqD h
def strD (d : D) : Option Str := (cStrI [.va d]).bind fun r => match r with
  | .va (.str s) => some s
  | _ => none
theorem f_strD {d : D} {s : Str} (h : strD d = some s) : cStrI [.va d] = some (.va (.str s)) := by
  unfold strD at h
  obtain ⟨r, e1, e2⟩ := Option.bind_eq_some_iff.mp h
  split at e2
  · cases e2; exact e1
  · cases e2
theorem f_strS (s : Str) : cStrI [.va (.str s)] = some (.va (.str s)) := rfl
theorem strD_str (s : Str) : strD (.str s) = some s := rfl
theorem strD_int {i : Int} (h : i.natAbs.log2 < 1920) : strD (.int i) = some (toString i) := by
  unfold strD
  rw [cStrI_def, if_pos h]
  rfl
end BK
namespace BK
open PySem PySem.Spec L2
set_option autoImplicit false
/-! ### rows of words -/
theorem sp_eq : (" " : Str) = S' [32] := by decide +kernel
theorem nl_eq : ("\n" : Str) = S' [10] := by decide +kernel
/-- a word: no blank, no line end -/
structure Wd (x : Str) : Prop where
  b : 32 ∉ x.cps.toList
  n : 10 ∉ x.cps.toList
  l : x.length ≤ 20
  k : ∀ c ∈ x.cps.toList, c < 1114112
theorem sok_iff {x : Str} : PyData.strOk x = true ↔ ∀ c ∈ x.cps.toList, c < 1114112 := by
  obtain ⟨l, rfl⟩ := str_cases x
  show (S' l).cps.all (fun x => decide (x < 1114112)) = true ↔ _
  rw [List.all_toArray, List.all_eq_true]
  simp
theorem sok_add {a b : Str} (ha : PyData.strOk a = true) (hb : PyData.strOk b = true) : PyData.strOk (a ++ b) = true := by
  rw [sok_iff] at *
  intro c hc
  rw [show (a ++ b).cps.toList = a.cps.toList ++ b.cps.toList from TL.tl_append a b, List.mem_append] at hc
  rcases hc with hc | hc
  · exact ha c hc
  · exact hb c hc
theorem NmOk.wd {x : Str} (h : NmOk x) : Wd x := by
  have hl := h.len
  obtain ⟨l, rfl, _, _, h⟩ := h
  refine ⟨fun q => ?_, fun q => ?_, by omega, fun c hc => ?_⟩
  · have := h 32 q; omega
  · have := h 10 q; omega
  · have := h c hc; omega
theorem num_wd {i : Int} (h0 : 0 ≤ i) (h1 : i ≤ 1000000000) : Wd (toString i : Str) := by
  have hn := num_len (i := i) (k := 10) h0 (by omega) (by omega)
  obtain ⟨n, rfl⟩ := Int.eq_ofNat_of_zero_le h0
  rw [num_nat] at hn ⊢
  have hd := TL.numL_digits n
  refine ⟨fun q => ?_, fun q => ?_, by omega, fun c hc => ?_⟩
  · have := hd 32 q; omega
  · have := hd 10 q; omega
  · have := hd c hc; omega
theorem num_log {i : Int} (h0 : 0 ≤ i) (h1 : i ≤ 1000000000) : Nat.log2 (Int.natAbs i) < 1920 := by
  by_cases hz : i.natAbs = 0
  · rw [hz]; decide
  · have : i.natAbs < 2 ^ 30 := by
      have : (2 : Nat) ^ 30 = 1073741824 := by decide
      omega
    have := (Nat.log2_lt hz).mpr this
    omega
theorem joinL_mem {c : Nat} {s : List Nat} : ∀ {ps : List (List Nat)}, c ∈ TL.joinL s ps → c ∈ s ∨ ∃ p ∈ ps, c ∈ p
  | [], h => by cases h
  | [p], h => .inr ⟨p, by simp, h⟩
  | p :: q :: r, h => by
    unfold TL.joinL at h
    rw [List.mem_append, List.mem_append] at h
    rcases h with h | h | h
    · exact .inr ⟨p, by simp, h⟩
    · exact .inl h
    · rcases joinL_mem h with h | ⟨x, hx, h⟩
      · exact .inl h
      · exact .inr ⟨x, List.mem_cons_of_mem _ hx, h⟩
theorem join_cps (y : Str) (ps : List Str) : (Txt.join y ps).cps.toList = TL.joinL y.cps.toList (ps.map fun p => p.cps.toList) := by
  rw [TL.join_eq]
  exact TL.tl_join y ps
theorem sum_len {n : Nat} : ∀ {ws : List Str}, (∀ w ∈ ws, w.length ≤ n) → (ws.map Str.length).sum ≤ n * ws.length
  | [], _ => by simp
  | w :: ws, h => by
    have h1 := h w List.mem_cons_self
    have h2 := sum_len fun x hx => h x (List.mem_cons_of_mem _ hx)
    rw [List.map_cons, List.sum_cons, List.length_cons, Nat.mul_add]
    omega
/-- words as a row -/
def rowW (ws : List Str) : Str := Txt.join " " ws
theorem rowW_split {ws : List Str} (hn : ws ≠ []) (h : ∀ w ∈ ws, Wd w) : Txt.split (rowW ws) " " = ws :=
  TL.split_join (s := 32) (S := []) (by rw [sp_eq]) (by decide +kernel) hn fun p hp => (h p hp).b
theorem rowW_nl {ws : List Str} (h : ∀ w ∈ ws, Wd w) : 10 ∉ (rowW ws).cps.toList := by
  unfold rowW
  rw [join_cps, sp_eq]
  intro q
  rcases joinL_mem q with q | ⟨p, hp, q⟩
  · simp at q
  · obtain ⟨w, hw, rfl⟩ := List.mem_map.mp hp
    exact (h w hw).n q
theorem rowW_sok {ws : List Str} (h : ∀ w ∈ ws, Wd w) : PyData.strOk (rowW ws) = true := by
  rw [sok_iff]
  unfold rowW
  rw [join_cps, sp_eq]
  intro c q
  rcases joinL_mem q with q | ⟨p, hp, q⟩
  · simp at q; omega
  · obtain ⟨w, hw, rfl⟩ := List.mem_map.mp hp
    exact (h w hw).k c q
theorem rowW_len {ws : List Str} (h : ∀ w ∈ ws, Wd w) : (rowW ws).length ≤ 21 * ws.length := by
  have h1 : (Txt.join " " ws).length ≤ (ws.map Str.length).sum + ws.length * (" " : Str).length := join_le " " ws
  have h2 := sum_len (n := 20) fun w hw => (h w hw).l
  have h3 : (" " : Str).length = 1 := by decide +kernel
  rw [h3] at h1
  unfold rowW
  omega
/-- a text of rows -/
def textR (rows : List Str) : Str := Txt.join "\n" rows
theorem textR_split {rows : List Str} (hn : rows ≠ []) (h : ∀ r ∈ rows, 10 ∉ r.cps.toList) : Txt.split (textR rows) "\n" = rows :=
  TL.split_join (s := 10) (S := []) (by rw [nl_eq]) (by decide +kernel) hn h
theorem textR_len {n : Nat} {rows : List Str} (h : ∀ r ∈ rows, r.length ≤ n) : (textR rows).length ≤ (n + 1) * rows.length := by
  have h1 : (Txt.join "\n" rows).length ≤ (rows.map Str.length).sum + rows.length * ("\n" : Str).length := join_le "\n" rows
  have h2 := sum_len h
  have h3 : ("\n" : Str).length = 1 := by decide +kernel
  rw [h3] at h1
  unfold textR
  rw [Nat.add_mul]
  omega
theorem row2 (a b : Str) : rowW [a, b] = a ++ " " ++ b := by
  unfold rowW
  refine str_ext ?_
  rw [join_cps]
  show _ = TL.tl _
  rw [TL.tl_append, TL.tl_append, List.append_assoc]
  rfl
theorem row3 (a b c : Str) : rowW [a, b, c] = a ++ " " ++ b ++ " " ++ c := by
  unfold rowW
  refine str_ext ?_
  rw [join_cps]
  show _ = TL.tl _
  simp only [TL.tl_append, List.append_assoc]
  rfl
theorem row4 (a b c d : Str) : rowW [a, b, c, d] = a ++ " " ++ b ++ " " ++ c ++ " " ++ d := by
  unfold rowW
  refine str_ext ?_
  rw [join_cps]
  show _ = TL.tl _
  simp only [TL.tl_append, List.append_assoc]
  rfl
theorem cat_assoc (a b c : Str) : a ++ b ++ c = a ++ (b ++ c) := by
  refine str_ext ?_
  show TL.tl _ = TL.tl _
  simp only [TL.tl_append, List.append_assoc]
/-! ### rows of roads -/
inductive Rw where
  | op (n : Int) | br (b : Bg) | rd (r : Str × Int) | sh (s : Str × Int × Int)
def Rw.ws : Rw → List Str
  | .op n => ["open", toString n]
  | .br b => ["bridge", b.name, toString b.length, toString b.bears, toString b.wide, toString b.most]
  | .rd r => ["round", r.1, toString r.2]
  | .sh s => ["shut", s.1, toString s.2.1, toString s.2.2]
def Rw.tx (r : Rw) : Str := rowW r.ws
def Rw.Ok : Rw → Prop
  | .op n => 200 ≤ n ∧ n ≤ 1000
  | .br b => NmOk b.name ∧ BgOk b
  | .rd r => NmOk r.1 ∧ 1 ≤ r.2 ∧ r.2 ≤ 1000
  | .sh s => NmOk s.1 ∧ 0 ≤ s.2.1 ∧ s.2.1 < s.2.2 ∧ s.2.2 ≤ 10000
theorem lit_wd {x : Str} (l : List Nat) (e : x = S' l) (h : 32 ∉ l ∧ 10 ∉ l ∧ l.length ≤ 20 ∧ ∀ c ∈ l, c < 1114112) : Wd x := by
  subst e
  exact ⟨h.1, h.2.1, by rw [S'_len]; exact h.2.2.1, h.2.2.2⟩
theorem open_wd : Wd "open" := lit_wd [111, 112, 101, 110] (by decide +kernel) (by decide)
theorem bridge_wd : Wd "bridge" := lit_wd [98, 114, 105, 100, 103, 101] (by decide +kernel) (by decide)
theorem round_wd : Wd "round" := lit_wd [114, 111, 117, 110, 100] (by decide +kernel) (by decide)
theorem shut_wd : Wd "shut" := lit_wd [115, 104, 117, 116] (by decide +kernel) (by decide)
theorem Rw.wd {r : Rw} (h : r.Ok) : ∀ w ∈ r.ws, Wd w := by
  intro w hw
  cases r with
  | op n =>
    obtain ⟨h1, h2⟩ := h
    simp only [Rw.ws, List.mem_cons, List.not_mem_nil, or_false] at hw
    rcases hw with rfl | rfl
    · exact open_wd
    · exact num_wd (by omega) (by omega)
  | br b =>
    obtain ⟨h1, h2, h3, h4, h5⟩ := h
    simp only [Rw.ws, List.mem_cons, List.not_mem_nil, or_false] at hw
    rcases hw with rfl | rfl | rfl | rfl | rfl | rfl
    · exact bridge_wd
    · exact h1.wd
    · exact num_wd (by omega) (by omega)
    · exact num_wd (by omega) (by omega)
    · exact num_wd (by omega) (by omega)
    · exact num_wd (by omega) (by omega)
  | rd r =>
    obtain ⟨h1, h2, h3⟩ := h
    simp only [Rw.ws, List.mem_cons, List.not_mem_nil, or_false] at hw
    rcases hw with rfl | rfl | rfl
    · exact round_wd
    · exact h1.wd
    · exact num_wd (by omega) (by omega)
  | sh s =>
    obtain ⟨h1, h2, h3, h4⟩ := h
    simp only [Rw.ws, List.mem_cons, List.not_mem_nil, or_false] at hw
    rcases hw with rfl | rfl | rfl | rfl
    · exact shut_wd
    · exact h1.wd
    · exact num_wd (by omega) (by omega)
    · exact num_wd (by omega) (by omega)
theorem Rw.ne (r : Rw) : r.ws ≠ [] := by cases r <;> simp [Rw.ws]
theorem Rw.wl (r : Rw) : r.ws.length ≤ 6 := by cases r <;> simp [Rw.ws]
theorem Rw.len {r : Rw} (h : r.Ok) : r.tx.length ≤ 126 := by
  have h1 := rowW_len (Rw.wd h)
  have h2 := r.wl
  unfold Rw.tx
  omega
theorem Rw.nl {r : Rw} (h : r.Ok) : 10 ∉ r.tx.cps.toList := rowW_nl (Rw.wd h)
def pcRw : Pc → Rw
  | .inl n => .op n
  | .inr b => .br b
def rdsOf (m : List Rw) : List (Str × Int) := m.filterMap fun r => match r with
  | .rd r => some r
  | _ => none
def shsOf (m : List Rw) : List (Str × Int × Int) := m.filterMap fun r => match r with
  | .sh s => some s
  | _ => none
def Rw.tail : Rw → Prop
  | .rd _ => True
  | .sh _ => True
  | _ => False
theorem Rw.sok {r : Rw} (h : r.Ok) : PyData.strOk r.tx = true := rowW_sok (Rw.wd h)
theorem pcs_mid (o0 : Int) (a b : List (Bg × Int)) (q : Bg × Int) : pcs o0 (a ++ q :: b) = pcs o0 a ++ .inr q.1 :: .inl q.2 :: b.flatMap fun q => [.inr q.1, .inl q.2] := by
  unfold pcs
  rw [List.flatMap_append, List.flatMap_cons]
  simp
theorem atI_mid {α : Type} (pre post : List α) (x : α) {i : Int} (h : i = pre.length) : atI (pre ++ x :: post) i = some x := by
  subst h
  rw [atI_ofNat]
  simp
theorem okn_strs {xs : List Str} (h : ∀ x ∈ xs, PyData.strOk x = true) : okn 8 (eL D.str xs) = true := by
  show (xs.map D.str).all (okn 7) = true
  rw [List.all_map, List.all_eq_true]
  intro x hx
  show okn 7 (D.str x) = true
  rw [okn_str]
  exact h x hx
/-- what is behind a road: no row, or one that begins otherwise -/
def Behind : List Str → Prop
  | [] => True
  | r :: _ => ∃ w ws, r = rowW (w :: ws) ∧ (∀ x ∈ w :: ws, Wd x) ∧ ws.length ≤ 20 ∧ PyData.strOk w = true ∧ w ≠ "bridge" ∧ w ≠ "round" ∧ w ≠ "shut"
/-- a told road has no list of texts within -/
theorem hk_no {α : Type} {e : α → D} (xs : List α) (h : ∀ x s, e x ≠ .str s) : hk (xs.map e) ≠ 1 := by
  cases xs with
  | nil => show 0 ≠ 1; decide
  | cons x xs =>
    rw [List.map_cons]
    have := h x
    generalize e x = d at *
    cases d <;> first | (exact absurd rfl (this _)) | (show 2 ≠ 1; decide)
theorem lfk_lst {α : Type} {e : α → D} (n : Nat) (xs : List α) (h : ∀ x s, e x ≠ .str s) (k : ∀ x, lfk n [1] (e x) = true) : lfk (n + 1) [1] (.lst (xs.map e)) = true := by
  have h1 := hk_no xs h
  unfold lfk
  rw [Bool.and_eq_true, List.all_map, List.all_eq_true]
  refine ⟨?_, fun x _ => k x⟩
  simp
  exact h1
theorem lfk_Ro (n : Nat) (r : Rd') : lfk (n + 3) [1] (eRo r) = true := by
  show lfk (n + 3) [1] (.ins 2 [.lst (r.pieces.map insP), .lst (r.rounds.map (eP2 D.str D.int)), .lst (r.shuts.map (eP3 D.str D.int D.int))]) = true
  unfold lfk
  have h1 := lfk_lst (n + 1) r.pieces (e := insP) (fun x s => by cases x <;> exact fun q => by cases q) (fun x => by cases x <;> simp [insP, lfk])
  have h2 := lfk_lst (n + 1) r.rounds (e := eP2 D.str D.int) (fun x s q => by cases q) (fun x => by simp [lfk])
  have h3 := lfk_lst (n + 1) r.shuts (e := eP3 D.str D.int D.int) (fun x s q => by cases q) (fun x => by simp [lfk])
  simp [h1, h2, h3]
end BK
namespace BK
open PySem PySem.Spec L2
set_option autoImplicit false
/-! ### own trees: read for a while, frozen for good -/
section
variable {K : PySem.W.Frag} {ca : Nat → Addr} {H0 F0 H F H' F' : Hp} {σ : L2.St} {Γ : Gm}
theorem SR.thaw (S : SR K ca H0 F0 σ H F Γ) {i : Nat} {t : T} (h : Γ[i]? = some (Slot.ot t)) : ∃ F2, Same F F2 ∧ SR K ca H0 F0 σ H F2 (Γ.set i (.va t.d)) ∧ ∀ H' F', Ext ca H F2 H' F' → Ext ca H F H' F := by
  classical
  obtain ⟨A, ⟨o1, o2, o3⟩⟩ := S.own
  obtain ⟨⟨v, hv, ht⟩, hd, hf⟩ := o1 i t h
  let F2 : Hp := fun b => if b ∈ A i then H b else F b
  have sf : Same F F2 := fun b u e => by
    show (if b ∈ A i then H b else F b) = some u
    by_cases hb : b ∈ A i
    · rw [(hf b hb).2] at e; cases e
    · rw [if_neg hb]; exact e
  have s2 : Same F2 H := fun b u e => by
    have e : (if b ∈ A i then H b else F b) = some u := e
    by_cases hb : b ∈ A i
    · rw [if_pos hb] at e; exact e
    · rw [if_neg hb] at e; exact S.ext.fh b u e
  have no : ∀ b, b ∉ A i → F b = none → F2 b = none := fun b hb e => by
    show (if b ∈ A i then H b else F b) = none
    rw [if_neg hb]; exact e
  have x : Ext ca H0 F0 H F2 := ⟨S.ext.hh, S.ext.ff.trans sf, s2, fun b e => by
    by_cases hb : b ∈ A i
    · exact .inr (hf b hb).1
    · have e : (if b ∈ A i then H b else F b) ≠ none := e
      rw [if_neg hb] at e
      exact S.ext.nw b e, fun n b ps e => by
    have e : (if b ∈ A i then H b else F b) = some (.tbl ps) := e
    by_cases hb : b ∈ A i
    · rw [if_pos hb] at e
      obtain ⟨u, hu, hn⟩ := ht.at b hb
      rw [hu] at e
      exact hn ps (Option.some.inj e)
    · rw [if_neg hb] at e
      exact S.ext.nt n b ps e⟩
  refine ⟨F2, sf, ⟨x, S.nt0, S.tc0, by rw [List.length_set]; exact S.len, fun j e hj => ?_, fun j es hj => ?_, fun j k es fs b n hj hk sj sk => ?_, A, fun j u e => ?_, fun j k u w n e e' => ?_, fun j k u es b e g s => ?_⟩, fun H' F' y => ⟨y.hh, Same.refl _, sf.trans (y.ff.trans y.fh), fun _ z => .inl z, fun n => n⟩⟩
  · rcases get_set hj with ⟨rfl, e1, hl⟩ | ⟨n, hj⟩
    · injection e1 with e1; subst e1
      exact ⟨v, hv, ht.den sf fun b hb => if_pos hb⟩
    · obtain ⟨w, g1, g2⟩ := S.va j e hj
      exact ⟨w, g1, g2.mono sf⟩
  · rcases get_set hj with ⟨rfl, e1, hl⟩ | ⟨n, hj⟩
    · cases e1
    · obtain ⟨b, ws, g1, g2, g3, g4, g5⟩ := S.ow j es hj
      exact ⟨b, ws, g1, g2, no b (o3 i j t es b h hj g1) g3, g4, g5.mono sf⟩
  · rcases get_set hj with ⟨_, e1, _⟩ | ⟨_, hj⟩
    · cases e1
    · rcases get_set hk with ⟨_, e1, _⟩ | ⟨_, hk⟩
      · cases e1
      · exact S.ap j k es fs b n hj hk sj sk
  · rcases get_set e with ⟨_, e1, _⟩ | ⟨n, e⟩
    · cases e1
    · obtain ⟨⟨w, hw, hu⟩, hd', hf'⟩ := o1 j u e
      exact ⟨⟨w, hw, hu.mono sf fun _ _ => rfl⟩, hd', fun b hb => ⟨(hf' b hb).1, no b (o2 j i u t (fun z => n z.symm) e h b hb) (hf' b hb).2⟩⟩
  · rcases get_set e with ⟨_, e1, _⟩ | ⟨_, e⟩
    · cases e1
    · rcases get_set e' with ⟨_, e1, _⟩ | ⟨_, e'⟩
      · cases e1
      · exact o2 j k u w n e e'
  · rcases get_set e with ⟨_, e1, _⟩ | ⟨_, e⟩
    · cases e1
    · rcases get_set g with ⟨_, e1, _⟩ | ⟨_, g⟩
      · cases e1
      · exact o3 j k u es b e g s
def putA (A : Nat → List Addr) (i : Nat) (as : List Addr) : Nat → List Addr := fun j => if j = i then as else A j
theorem putA_same {A : Nat → List Addr} {i : Nat} {as : List Addr} : putA A i as i = as := if_pos rfl
theorem putA_ne {A : Nat → List Addr} {i j : Nat} {as : List Addr} (h : j ≠ i) : putA A i as j = A j := if_neg h
/-- an own list becomes an own tree -/
theorem SR.tree (S : SR K ca H0 F0 σ H F Γ) {i : Nat} {ds : List D} (h : Γ[i]? = some (Slot.ow ds)) : SR K ca H0 F0 σ H F (Γ.set i (.ot (.lst (ds.map .fz)))) := by
  obtain ⟨a, vs, s, h1, h2, h3, h4⟩ := S.ow i ds h
  obtain ⟨A, ⟨o1, o2, o3⟩⟩ := S.own
  refine ⟨S.ext, S.nt0, S.tc0, by rw [List.length_set]; exact S.len, fun j e hj => ?_, fun j es hj => ?_, fun j k es fs b n hj hk sj sk => ?_, putA A i [a], fun j u e => ?_, fun j k u w n e e' b hb => ?_, fun j k u es b e g s' => ?_⟩
  · rcases get_set hj with ⟨_, e1, _⟩ | ⟨_, hj⟩
    · cases e1
    · exact S.va j e hj
  · rcases get_set hj with ⟨_, e1, _⟩ | ⟨_, hj⟩
    · cases e1
    · exact S.ow j es hj
  · rcases get_set hj with ⟨_, e1, _⟩ | ⟨_, hj⟩
    · cases e1
    · rcases get_set hk with ⟨_, e1, _⟩ | ⟨_, hk⟩
      · cases e1
      · exact S.ap j k es fs b n hj hk sj sk
  · rcases get_set e with ⟨e0, e1, _⟩ | ⟨n, e⟩
    · subst e0
      injection e1 with e1; subst e1
      refine ⟨⟨_, s, ?_⟩, ?_, fun b hb => ?_⟩
      · rw [putA_same]; exact .lst h3 (OTs.fzs h4)
      · rw [putA_same]; simp
      · rw [putA_same, List.mem_singleton] at hb
        subst hb
        exact ⟨h1, h2⟩
    · rw [putA_ne fun z => n z.symm]
      exact o1 j u e
  · rcases get_set e with ⟨e0, _, _⟩ | ⟨n1, e⟩
    · rcases get_set e' with ⟨e0', _, _⟩ | ⟨n2, e'⟩
      · exact absurd (e0.symm.trans e0') n
      · subst e0
        rw [putA_same, List.mem_singleton] at hb
        subst hb
        rw [putA_ne fun z => n2 z.symm]
        exact o3 k i w ds b e' h s
    · rw [putA_ne fun z => n1 z.symm] at hb
      rcases get_set e' with ⟨e0', _, _⟩ | ⟨n2, e'⟩
      · subst e0'
        rw [putA_same, List.mem_singleton]
        intro z
        subst z
        exact o3 j i u ds b e h s hb
      · rw [putA_ne fun z => n2 z.symm]
        exact o2 j k u w n e e' b hb
  · rcases get_set g with ⟨_, e1, _⟩ | ⟨n2, g⟩
    · cases e1
    · rcases get_set e with ⟨e0, _, _⟩ | ⟨n1, e⟩
      · subst e0
        rw [putA_same, List.mem_singleton]
        intro z
        subst z
        exact S.ap k i es ds b (fun z => n2 z.symm) g h s' s
      · rw [putA_ne fun z => n1 z.symm]
        exact o3 j k u es b e g s'
/-- a list of an own tree is changed -/
theorem sr_updT (S : SR K ca H0 F0 σ H F Γ) {i : Nat} {t t' : T} {v : V} {A : Nat → List Addr} {p : Addr} {vs ws : List V} {as' : List Addr}
    (oA : OwnA K ca H0 F σ H Γ A)
    (h : Γ[i]? = some (Slot.ot t)) (hv : σ[i]? = some (some v)) (hp : p ∈ A i) (hl : H p = some (.lst vs)) (ht : OT K ca F (L2.upd H p (.lst ws)) v t' as') (nd : as'.Nodup)
    (hn : ∀ b ∈ as', b ∈ A i ∨ (noT H0 b = none ∧ F b = none ∧ ∀ u, H b = some u → (∀ (j : Nat) (w : BK.T), Γ[j]? = some (Slot.ot w) → b ∉ A j) ∧ ∀ (j : Nat) (ds : List D), Γ[j]? = some (Slot.ow ds) → σ[j]? ≠ some (some (V.ref b)))) (hN : ∀ b ∈ as', H b ≠ none) :
    SR K ca H0 F0 σ (L2.upd H p (.lst ws)) F (Γ.set i (.ot t')) := by
  obtain ⟨o1, o2, o3⟩ := oA
  have hp0 := ((o1 i t h).2.2 p hp).1
  have hpF := ((o1 i t h).2.2 p hp).2
  have keep : ∀ b, b ≠ p → L2.upd H p (.lst ws) b = H b := fun b hb => upd_ne hb
  refine ⟨⟨S.ext.hh.updO hp0 (Pl.lst hl), S.ext.ff, fun b o e => ?_, S.ext.nw, S.ext.nt⟩, S.nt0, S.tc0, by rw [List.length_set]; exact S.len, fun j e hj => ?_, fun j es hj => ?_, fun j k es fs b n hj hk sj sk => ?_, putA A i as', fun j u e => ?_, fun j k u w n e e' b hb => ?_, fun j k u es b e g s' => ?_⟩
  · rw [upd_ne (ne_of_none e hpF)]; exact S.ext.fh b o e
  · rcases get_set hj with ⟨_, e1, _⟩ | ⟨_, hj⟩
    · cases e1
    · exact S.va j e hj
  · rcases get_set hj with ⟨_, e1, _⟩ | ⟨_, hj⟩
    · cases e1
    · obtain ⟨b, us, g1, g2, g3, g4, g5⟩ := S.ow j es hj
      exact ⟨b, us, g1, g2, g3, by rw [keep b fun z => o3 i j t es b h hj g1 (z ▸ hp)]; exact g4, g5⟩
  · rcases get_set hj with ⟨_, e1, _⟩ | ⟨_, hj⟩
    · cases e1
    · rcases get_set hk with ⟨_, e1, _⟩ | ⟨_, hk⟩
      · cases e1
      · exact S.ap j k es fs b n hj hk sj sk
  · rcases get_set e with ⟨e0, e1, _⟩ | ⟨n, e⟩
    · subst e0
      injection e1 with e1; subst e1
      refine ⟨⟨v, hv, by rw [putA_same]; exact ht⟩, by rw [putA_same]; exact nd, fun b hb => ?_⟩
      rw [putA_same] at hb
      rcases hn b hb with z | z
      · exact (o1 i t h).2.2 b z
      · exact ⟨z.1, z.2.1⟩
    · rw [putA_ne fun z => n z.symm]
      obtain ⟨⟨w, hw, hu⟩, hd, hf⟩ := o1 j u e
      exact ⟨⟨w, hw, hu.mono (Same.refl _) fun b hb => keep b fun z => o2 i j t u n h e p hp (z ▸ hb)⟩, hd, hf⟩
  · have key : ∀ m x, Γ[m]? = some (Slot.ot x) → i ≠ m → ∀ b ∈ as', b ∉ A m := fun m x g ne b hb => by
      rcases hn b hb with z | z
      · exact o2 i m t x ne h g b z
      · cases q : H b with
        | none => exact absurd q (hN b hb)
        | some u => exact (z.2.2 u q).1 m x g
    rcases get_set e with ⟨e0, _, _⟩ | ⟨n1, e⟩
    · rcases get_set e' with ⟨e0', _, _⟩ | ⟨n2, e'⟩
      · exact absurd (e0.symm.trans e0') n
      · subst e0
        rw [putA_same] at hb
        rw [putA_ne fun z => n2 z.symm]
        exact key k w e' n2 b hb
    · rw [putA_ne fun z => n1 z.symm] at hb
      rcases get_set e' with ⟨e0', _, _⟩ | ⟨n2, e'⟩
      · subst e0'
        rw [putA_same]
        exact fun z => key j u e n1 b z hb
      · rw [putA_ne fun z => n2 z.symm]
        exact o2 j k u w n e e' b hb
  · rcases get_set g with ⟨_, e1, _⟩ | ⟨n2, g⟩
    · cases e1
    · rcases get_set e with ⟨e0, _, _⟩ | ⟨n1, e⟩
      · subst e0
        rw [putA_same]
        intro hb
        rcases hn b hb with z | z
        · exact o3 i k t es b h g s' z
        · cases q : H b with
          | none => exact absurd q (hN b hb)
          | some x => exact (z.2.2 x q).2 k es g s'
      · rw [putA_ne fun z => n1 z.symm]
        exact o3 j k u es b e g s'
end
def bTh (i : Nat) (c : Gm → Option Bool) : Gm → Option Bool := fun g => match g[i]? with
  | some (.ot t) => c (g.set i (.va t.d))
  | _ => none
def R.sc : R → Bool
  | .va .non => true
  | .va (.bl _) => true
  | .va (.int _) => true
  | .va (.str _) => true
  | _ => false
def eTh (i : Nat) (m : Gm → Option R) : Gm → Option R := fun g => match g[i]? with
  | some (.ot t) => (m (g.set i (.va t.d))).bind fun r => if r.sc = true then some r else none
  | _ => none
/-- an own list is from here on an own tree -/
def sOT (i : Nat) (m : Gm → Option Out) : Gm → Option Out := fun g => match g[i]? with
  | some (.ow ds) => m (g.set i (.ot (.lst (ds.map .fz))))
  | _ => none
/-- an own tree is frozen -/
def sFzT (i : Nat) (m : Gm → Option Out) : Gm → Option Out := fun g => match g[i]? with
  | some (.ot t) => m (g.set i (.va t.d))
  | _ => none
section
variable {X : Cx} {ca : Nat → Addr} {e : Expr} {st : Stmt} {m : Gm → Option R} {b : Gm → Option Out} {c : Gm → Option Bool} {i : Nat} {T : List Nat}
theorem tv_th (h : TV X ca e c) : TV X ca e (bTh i c) := by
  refine pt_imp h ?_
  rintro σ H Q ⟨H0, F0, F, Γ, k, S, e, q⟩
  unfold bTh at e
  split at e
  · rename_i t ht
    obtain ⟨F2, _, S2, back⟩ := S.thaw ht
    exact ⟨H0, F0, F2, _, k, S2, e, fun H' F' x => q H' F (back H' F' x)⟩
  · cases e
theorem ev_th (h : EV X ca e m) : EV X ca e (eTh i m) := by
  refine pe_imp h ?_
  rintro σ H Q ⟨H0, F0, F, Γ, r, S, e, q⟩
  unfold eTh at e
  split at e
  · rename_i t ht
    obtain ⟨r', er, e⟩ := Option.bind_eq_some_iff.mp e
    split at e
    · rename_i hs
      cases e
      obtain ⟨F2, _, S2, back⟩ := S.thaw ht
      refine ⟨H0, F0, F2, _, r, S2, er, fun v H' F' x rv => q v H' F (back H' F' x) ?_⟩
      cases r with
      | va d =>
        cases d <;> first | (cases hs; done) | skip
        all_goals (cases rv; first | exact Den.non | exact Den.bl _ | exact Den.int _ | exact Den.str _)
      | tm ds => cases hs
      | bw j ds => cases hs
    · cases e
  · cases e
theorem sv_oT (h : SV X ca st b T) : SV X ca st (sOT i b) (i :: T) := by
  have i2 : ∀ j ∈ T, j ∈ i :: T := fun j h => List.mem_cons_of_mem _ h
  refine ⟨ps_imp h.ps ?_, fun g o e => ?_⟩
  · rintro D σ H ⟨H0, F0, F, Γ, o, S, e, p⟩
    unfold sOT at e
    split at e
    · rename_i ds hg
      exact ⟨H0, F0, F, _, o, S.tree hg, e, PostO.mono (T := []) (Same.refl _) .refl (fun _ z => nomatch z) i2 p⟩
    · cases e
  · unfold sOT at e
    split at e
    · exact KpG.after (g' := g.set i _) (T := [i]) kpg_set (h.kp _ _ e) (by simp) i2
    · cases e
theorem sv_fzT (h : SV X ca st b T) : SV X ca st (sFzT i b) (i :: T) := by
  have i2 : ∀ j ∈ T, j ∈ i :: T := fun j h => List.mem_cons_of_mem _ h
  refine ⟨ps_imp h.ps ?_, fun g o e => ?_⟩
  · rintro D σ H ⟨H0, F0, F, Γ, o, S, e, p⟩
    unfold sFzT at e
    split at e
    · rename_i t ht
      obtain ⟨F2, sf, S2, _⟩ := S.thaw ht
      exact ⟨H0, F0, F2, _, o, S2, e, PostO.mono (T := []) sf .refl (fun _ z => nomatch z) i2 p⟩
    · cases e
  · unfold sFzT at e
    split at e
    · exact KpG.after (g' := g.set i _) (T := [i]) kpg_set (h.kp _ _ e) (by simp) i2
    · cases e
end
/-! ### lists of own trees are changed -/
section
variable {K : PySem.W.Frag} {ca : Nat → Addr} {F H : Hp}
theorem OTs.snoc_inv {t : T} : ∀ {ts : List T} {vs : List V} {as : List Addr}, OTs K ca F H vs (ts ++ [t]) as → ∃ ws w as1 as2, vs = ws ++ [w] ∧ as = as1 ++ as2 ∧ OTs K ca F H ws ts as1 ∧ OT K ca F H w t as2
  | [], vs, as, h => by
    cases h with
    | cons h hs =>
      rename_i v vs as bs
      cases hs
      exact ⟨[], v, [], as, rfl, by simp, .nil, h⟩
  | u :: ts, vs, as, h => by
    cases h with
    | cons h hs =>
      rename_i v vs as bs
      obtain ⟨ws, w, as1, as2, rfl, rfl, h1, h2⟩ := OTs.snoc_inv hs
      exact ⟨v :: ws, w, as ++ as1, as2, rfl, by rw [List.append_assoc], .cons h h1, h2⟩
end
/-- x.append(e): a new list of frozen data, or frozen data -/
def apT (ts : List T) : R → Option (List T)
  | .tm ds => some (ts ++ [.lst (ds.map .fz)])
  | .va d => some (ts ++ [.fz d])
  | _ => none
def sAppT (i : Nat) (m : Gm → Option R) : Gm → Option Out := fun g => match g[i]? with
  | some (.ot (.lst ts)) => (m g).bind fun r => if ts.length < LIM then (apT ts r).map fun us => .nx (g.set i (.ot (.lst us))) else none
  | _ => none
/-- x[-1].append(e) -/
def lastL (ts : List T) : Option (List T × List T) := match ts.getLast? with
  | some (.lst us) => some (ts.dropLast, us)
  | _ => none
theorem lastL_inv {ts init us : List T} (h : lastL ts = some (init, us)) : ts = init ++ [.lst us] := by
  unfold lastL at h
  split at h
  · rename_i us' e
    cases h
    obtain ⟨l, rfl⟩ := List.getLast?_eq_some_iff.mp e
    rw [List.dropLast_concat]
  · cases h
def sAppL (i : Nat) (k m : Gm → Option R) : Gm → Option Out := fun g => match g[i]? with
  | some (.ot (.lst ts)) => (lastL ts).bind fun p => (k g).bind fun r => match r with
    | .va (.int j) => if j = -1 then (m g).bind fun r => match r with
      | .va d => if p.2.length < LIM then some (.nx (g.set i (.ot (.lst (p.1 ++ [.lst (p.2 ++ [.fz d])]))))) else none
      | _ => none
      else none
    | _ => none
  | _ => none
section
variable {X : Cx} {ca : Nat → Addr} {e e2 : Expr} {m k : Gm → Option R} {i : Nat}
theorem sv_appT {x : Str} {pos p1 p2 p3 : Pos} (h : PE X (.Call (.Attribute (.Name x p1) "append" p2) [e] [] p3) (tBM X.K "list" rAppend (tVar i) (tCons (tEV X.K ca m) tNil)))
    (hs : swapsWith (.Call (.Attribute (.Name x p1) "append" p2) [e] [] p3) none pos.line X.env = pure false := by rfl) : SV X ca (.Expr (.Call (.Attribute (.Name x p1) "append" p2) [e] [] p3) pos) (sAppT i m) [i] := by
  refine ⟨ps_imp (ps_expr h hs) ?_, fun g o e => ?_⟩
  · rintro D σ H ⟨H0, F0, F, Γ, o, S, e, p⟩
    unfold sAppT at e
    split at e
    · rename_i ts hg
      obtain ⟨r, er, e⟩ := Option.bind_eq_some_iff.mp e
      split at e
      rotate_left
      · cases e
      rename_i hlen
      obtain ⟨us, eu, rfl⟩ := Option.map_eq_some_iff.mp e
      obtain ⟨A, oA⟩ := S.own
      obtain ⟨⟨v, sv, ht⟩, _, _⟩ := oA.a i _ hg
      generalize hAi : A i = Ai at ht
      cases ht with
      | lst hl hts =>
        rename_i a vs as0
        refine ⟨_, sv, .inl ⟨rfl, vs, SqL.of hl⟩, H0, F0, F, Γ, r, S, er, fun w H1 F1 x1 r1 => ?_⟩
        have o1 := oA.mono x1
        have S1 := S.mono x1
        obtain ⟨⟨v', sv', ht'⟩, nd, hf⟩ := o1.a i _ hg
        rw [sv] at sv'
        cases sv'
        rw [hAi] at ht' nd hf
        cases ht' with
        | lst hl' hts' =>
          rename_i vs'
          rw [x1.hh.l hl] at hl'
          cases hl'
          rw [List.nodup_cons] at nd
          refine ⟨a, vs, w, rfl, rfl, x1.hh.l hl, by rw [lim_eq, hts.length]; exact hlen, ?_⟩
          have hne : ∀ c ∈ as0, (L2.upd H1 a (.lst (vs ++ [w]))) c = H1 c := fun c hc => upd_ne fun z => nd.1 (z ▸ hc)
          cases r with
          | bw j ds => cases eu
          | va d =>
            cases eu
            have r1 : Den X.K ca F1 w d := r1
            have ht2 : OT X.K ca F1 (L2.upd H1 a (.lst (vs ++ [w]))) (.ref a) (.lst (ts ++ [.fz d])) (a :: (as0 ++ ([] ++ []))) := .lst upd_same (OTs.append (OTs.mono (Same.refl _) hts' hne) (.cons (.fz r1) .nil))
            refine p σ _ F1 (sr_updT S1 o1 hg sv (by rw [hAi]; exact List.mem_cons_self) (x1.hh.l hl) ht2 (by simpa using nd) (fun b hb => .inl ?_) fun b hb => ?_) x1.ff .refl
            · rw [hAi]; simpa using hb
            · obtain ⟨u, hu, _⟩ := (OT.lst (x1.hh.l hl) hts').at b (by simpa using hb)
              rw [hu]; exact fun z => nomatch z
          | tm ds =>
            cases eu
            obtain ⟨b, ws, rfl, n1, f1, h1, d1⟩ := r1
            have hbA : ∀ j u, Γ[j]? = some (Slot.ot u) → b ∉ A j := fun j u g hb => by
              obtain ⟨⟨_, _, hh⟩, _⟩ := oA.a j u g
              obtain ⟨z, hz, hn⟩ := hh.at b hb
              rw [noT_get hz hn] at n1
              cases n1
            have hbi := hbA i _ hg
            rw [hAi, List.mem_cons, not_or] at hbi
            have ht2 : OT X.K ca F1 (L2.upd H1 a (.lst (vs ++ [.ref b]))) (.ref a) (.lst (ts ++ [.lst (ds.map .fz)])) (a :: (as0 ++ ((b :: []) ++ []))) := .lst upd_same (OTs.append (OTs.mono (Same.refl _) hts' hne) (.cons (.lst (by rw [upd_ne hbi.1]; exact h1) (OTs.fzs d1)) .nil))
            refine p σ _ F1 (sr_updT S1 o1 hg sv (by rw [hAi]; exact List.mem_cons_self) (x1.hh.l hl) ht2 ?_ (fun c hc => ?_) fun c hc => ?_) x1.ff .refl
            · rw [List.nodup_cons]
              simp only [List.append_nil, List.mem_append, List.mem_singleton, not_or]
              refine ⟨⟨nd.1, fun z => hbi.1 z.symm⟩, ?_⟩
              rw [List.nodup_append]
              refine ⟨nd.2, by simp, fun c hc d hd => ?_⟩
              rw [List.mem_singleton] at hd
              subst hd
              exact fun z => hbi.2 (z ▸ hc)
            · simp only [List.append_nil, List.mem_cons, List.mem_append, List.not_mem_nil, or_false] at hc
              rcases hc with rfl | hc | rfl
              · left; rw [hAi]; exact List.mem_cons_self
              · left; rw [hAi]; exact List.mem_cons_of_mem _ hc
              · right
                refine ⟨S.ext.hh.free n1, f1, fun u hu => ⟨fun j w' g => hbA j w' g, fun j es g s => ?_⟩⟩
                obtain ⟨a2, _, s2, _, _, h2, _⟩ := S.ow j es g
                rw [s] at s2
                cases s2
                rw [noT_get h2 fun _ z => nomatch z] at n1
                cases n1
            · simp only [List.append_nil, List.mem_cons, List.mem_append, List.not_mem_nil, or_false] at hc
              rcases hc with rfl | hc | rfl
              · rw [x1.hh.l hl]; exact fun z => nomatch z
              · obtain ⟨u, hu, _⟩ := hts'.at c hc
                rw [hu]; exact fun z => nomatch z
              · rw [h1]; exact fun z => nomatch z
    · cases e
  · unfold sAppT at e
    split at e
    · obtain ⟨r, er, e⟩ := Option.bind_eq_some_iff.mp e
      split at e
      · obtain ⟨us, eu, rfl⟩ := Option.map_eq_some_iff.mp e
        exact kpg_set
      · cases e
    · cases e
theorem sv_appL {pos p2 p3 : Pos} (h : PE X (.Call (.Attribute e2 "append" p2) [e] [] p3) (tBM X.K "list" rAppend (tOp (rIx X.K) (tVar i) (tEV X.K ca k)) (tCons (tEV X.K ca m) tNil)))
    (hs : swapsWith (.Call (.Attribute e2 "append" p2) [e] [] p3) none pos.line X.env = pure false := by rfl) : SV X ca (.Expr (.Call (.Attribute e2 "append" p2) [e] [] p3) pos) (sAppL i k m) [i] := by
  refine ⟨ps_imp (ps_expr h hs) ?_, fun g o e => ?_⟩
  · rintro D σ H ⟨H0, F0, F, Γ, o, S, e, p⟩
    unfold sAppL at e
    split at e
    · rename_i ts hg
      obtain ⟨⟨init, us⟩, el, e⟩ := Option.bind_eq_some_iff.mp e
      obtain ⟨rk, ek, e⟩ := Option.bind_eq_some_iff.mp e
      split at e
      rotate_left
      · cases e
      split at e
      rotate_left
      · cases e
      rename_i hj
      subst hj
      obtain ⟨r, er, e⟩ := Option.bind_eq_some_iff.mp e
      split at e
      rotate_left
      · cases e
      rename_i d
      split at e
      rotate_left
      · cases e
      rename_i hlen
      cases e
      have hts := lastL_inv el
      subst hts
      obtain ⟨A, oA⟩ := S.own
      obtain ⟨⟨v, sv, ht⟩, _, _⟩ := oA.a i _ hg
      generalize hAi : A i = Ai at ht
      cases ht with
      | lst hl hts =>
        rename_i a vs as0
        refine ⟨_, sv, H0, F0, F, Γ, _, S, ek, fun y H1 F1 x1 r1 => ?_⟩
        cases r1
        obtain ⟨ws, w, as1, as2, rfl, rfl, hi, hw⟩ := hts.snoc_inv
        cases hw with
        | lst hp hus =>
          rename_i q xs as3
          refine .inl ⟨a, ws ++ [.ref q], -1, .ref q, rfl, rfl, SqL.of (x1.hh.l hl), atI_last ws (.ref q), .inl ⟨rfl, xs, SqL.of (x1.hh.l hp)⟩, ?_⟩
          refine ⟨H0, F0, F1, Γ, _, S.mono x1, er, fun z H2 F2 x2 r2 => ?_⟩
          have x12 := x1.trans x2
          have o2 := oA.mono x12
          have S2 := S.mono x12
          obtain ⟨⟨v', sv', ht'⟩, nd, hf⟩ := o2.a i _ hg
          rw [sv] at sv'
          cases sv'
          rw [hAi] at ht' nd hf
          have hi2 := OTs.mono (F' := F2) (H' := H2) x12.ff hi fun b hb => by
            obtain ⟨u, hu, hn⟩ := hi.at b hb
            rw [hu, x12.hh.st b u hu hn]
          have hus2 := OTs.mono (F' := F2) (H' := H2) x12.ff hus fun b hb => by
            obtain ⟨u, hu, hn⟩ := hus.at b hb
            rw [hu, x12.hh.st b u hu hn]
          refine ⟨q, xs, z, rfl, rfl, x12.hh.l hp, by rw [lim_eq, hus.length]; exact hlen, ?_⟩
          have r2 : Den X.K ca F2 z d := r2
          rw [List.nodup_cons] at nd
          have hqa : a ≠ q := fun z => nd.1 (by rw [z]; exact List.mem_append_right _ List.mem_cons_self)
          have hnd := List.nodup_append.mp nd.2
          have hq1 : ∀ c ∈ as1, c ≠ q := fun c hc => hnd.2.2 c hc q List.mem_cons_self
          have hq3 : ∀ c ∈ as3, c ≠ q := fun c hc z => (List.nodup_cons.mp hnd.2.1).1 (z ▸ hc)
          have ht2 : OT X.K ca F2 (L2.upd H2 q (.lst (xs ++ [z]))) (.ref a) (.lst (init ++ [.lst (us ++ [.fz d])])) (a :: (as1 ++ ((q :: (as3 ++ ([] ++ []))) ++ []))) :=
            .lst (by rw [upd_ne hqa]; exact x12.hh.l hl) (OTs.append (OTs.mono (Same.refl _) hi2 fun c hc => upd_ne (hq1 c hc)) (.cons (.lst upd_same (OTs.append (OTs.mono (Same.refl _) hus2 fun c hc => upd_ne (hq3 c hc)) (.cons (.fz r2) .nil))) .nil))
          have eas : (a :: (as1 ++ ((q :: (as3 ++ ([] ++ []))) ++ []))) = a :: (as1 ++ q :: as3) := by simp
          rw [eas] at ht2
          refine p σ _ F2 (sr_updT S2 o2 hg sv (by rw [hAi]; exact List.mem_cons_of_mem _ (List.mem_append_right _ List.mem_cons_self)) (x12.hh.l hp) ht2 (List.nodup_cons.mpr nd) (fun b hb => .inl (by rw [hAi]; exact hb)) fun b hb => ?_) x12.ff .refl
          obtain ⟨u, hu, hn⟩ := ht'.at b hb
          rw [hu]
          exact fun z => nomatch z
    · cases e
  · unfold sAppL at e
    split at e
    · obtain ⟨_, _, e⟩ := Option.bind_eq_some_iff.mp e
      obtain ⟨_, _, e⟩ := Option.bind_eq_some_iff.mp e
      split at e
      · split at e
        · obtain ⟨_, _, e⟩ := Option.bind_eq_some_iff.mp e
          split at e
          · split at e
            · cases e
              exact kpg_set
            · cases e
          · cases e
        · cases e
      · cases e
    · cases e
end
end BK
namespace BK
open PySem PySem.Spec L2
set_option autoImplicit false
/-! ### own trees in plain types -/
section
variable {α γ : Type} {b n : Gm → Option Out} {g g1 : Gm} {P : α → Out → Prop} {s : Option α} {i : Nat}
/-- lists of lists -/
def tL2 {β : Type} (e : β → D) (xs : List (List β)) : T := .lst (xs.map fun ys => .lst ((ys.map e).map .fz))
theorem d_tL2 {β : Type} (e : β → D) (xs : List (List β)) : (tL2 e xs).d = eL (eL e) xs := by
  show D.lst (T.ds (xs.map fun ys => .lst ((ys.map e).map .fz))) = .lst (xs.map (eL e))
  rw [T.ds_map, List.map_map]
  congr 1
  apply List.map_congr_left
  intro ys _
  show D.lst (T.ds ((ys.map e).map .fz)) = .lst (ys.map e)
  rw [T.ds_fz]
theorem x_bTh {c : Gm → Option Bool} {t : T} {d : D} {k : Bool} (h0 : g[i]? = some (.ot t)) (hd : t.d = d) (h1 : g.set i (.va d) = g1) (h : c g1 = some k) : bTh i c g = some k := by
  subst hd
  unfold bTh
  rw [h0]
  show c (g.set i (.va t.d)) = _
  rw [h1, h]
theorem j_oT {m : Gm → Option Out} {ds : List D} (h0 : g[i]? = some (.ow ds)) (h1 : g.set i (.ot (.lst (ds.map .fz))) = g1) (k : J (sCons m b) n g1 s P) : J (sCons (sOT i m) b) n g s P := by
  unfold J at k ⊢
  have e : sCons (sOT i m) b g = sCons m b g1 := by
    unfold sCons sOT
    rw [h0]
    show (m (g.set i (.ot (.lst (ds.map .fz))))).bind _ = _
    rw [h1]
  rw [e]
  exact k
theorem j_fzT {m : Gm → Option Out} {t : T} {d : D} (h0 : g[i]? = some (.ot t)) (hd : t.d = d) (h1 : g.set i (.va d) = g1) (k : J (sCons m b) n g1 s P) : J (sCons (sFzT i m) b) n g s P := by
  subst hd
  unfold J at k ⊢
  have e : sCons (sFzT i m) b g = sCons m b g1 := by
    unfold sCons sFzT
    rw [h0]
    show (m (g.set i (.va t.d))).bind _ = _
    rw [h1]
  rw [e]
  exact k
theorem j_appT {β : Type} {e : β → D} {xs : List (List β)} {ys : List β} {m : Gm → Option R} (h0 : g[i]? = some (.ot (tL2 e xs))) (h : m g = some (.tm (ys.map e))) (hl : xs.length < 16777216) (h1 : g.set i (.ot (tL2 e (xs ++ [ys]))) = g1) (k : J b n g1 s P) : J (sCons (sAppT i m) b) n g s P :=
  j_seq (a := sAppT i m) (g1 := g1) (by
    unfold sAppT
    rw [h0]
    show ((m g).bind _) = _
    rw [h]
    show (if (xs.map _).length < LIM then _ else none) = _
    rw [if_pos (by rw [List.length_map]; exact hl), ← h1]
    show some (Out.nx (g.set i (.ot (.lst (xs.map _ ++ [.lst ((ys.map e).map .fz)]))))) = _
    unfold tL2
    rw [List.map_append]
    rfl) k
/-- xs[-1].append(y) -/
def appL {β : Type} (xs : List (List β)) (y : β) : Option (List (List β)) := match xs.getLast? with
  | some ys => if ys.length < 16777216 then some (xs.dropLast ++ [ys ++ [y]]) else none
  | none => none
theorem j_appL {β : Type} {e : β → D} {xs zs : List (List β)} {y : β} {k m : Gm → Option R} (h0 : g[i]? = some (.ot (tL2 e xs))) (hk : k g = some (.va (.int (-1)))) (h : m g = some (.va (e y))) (hz : appL xs y = some zs) (h1 : g.set i (.ot (tL2 e zs)) = g1) (K : J b n g1 s P) : J (sCons (sAppL i k m) b) n g s P :=
  j_seq (a := sAppL i k m) (g1 := g1) (by
    unfold appL at hz
    split at hz
    rotate_left
    · cases hz
    rename_i ys hy
    split at hz
    rotate_left
    · cases hz
    rename_i hl
    cases hz
    obtain ⟨init, rfl⟩ := List.getLast?_eq_some_iff.mp hy
    rw [List.dropLast_concat] at h1
    have el : lastL ((init ++ [ys]).map fun ys => T.lst ((ys.map e).map .fz)) = some (init.map (fun ys => T.lst ((ys.map e).map .fz)), (ys.map e).map .fz) := by
      rw [List.map_append]
      unfold lastL
      rw [show (List.map (fun ys => T.lst ((ys.map e).map .fz)) [ys]) = [T.lst ((ys.map e).map .fz)] from rfl, List.getLast?_concat, List.dropLast_concat]
    unfold sAppL
    rw [h0]
    show (lastL ((init ++ [ys]).map fun ys => T.lst ((ys.map e).map .fz))).bind _ = _
    rw [el]
    show ((k g).bind _) = _
    rw [hk]
    show (if (-1 : Int) = -1 then ((m g).bind _) else none) = _
    rw [if_pos rfl, h]
    show (if ((ys.map e).map T.fz).length < LIM then _ else none) = _
    rw [if_pos (by rw [List.length_map, List.length_map]; exact hl), ← h1]
    unfold tL2
    rw [List.map_append]
    simp only [List.map_append, List.map_cons, List.map_nil]) K
end
end BK
namespace BK
open PySem PySem.Spec L2
open PyProof.Rows (envOfC)
set_option autoImplicit false
/-! ### defs that make trees, defs that change them -/
mutual
/-- frozen leaves that point nowhere -/
def T.scl : T → Bool
  | .fz .non => true
  | .fz (.bl _) => true
  | .fz (.int _) => true
  | .fz (.str _) => true
  | .fz _ => false
  | .lst ts => T.scls ts
  | .ins _ ts => T.scls ts
def T.scls : List T → Bool
  | [] => true
  | t :: ts => t.scl && T.scls ts
end
section
variable {K : PySem.W.Frag} {ca : Nat → Addr} {F F' H : Hp}
mutual
theorem OT.scal : ∀ {v : V} {t : T} {as : List Addr}, t.scl = true → OT K ca F H v t as → OT K ca F' H v t as
  | _, _, _, e, .fz h => by
    refine .fz ?_
    cases h <;> first
      | (cases e; done)
      | constructor
  | _, _, _, e, .lst h hs => .lst h (OTs.scal e hs)
  | _, _, _, e, .ins k h n hs => .ins k h n (OTs.scal e hs)
theorem OTs.scal : ∀ {vs : List V} {ts : List T} {as : List Addr}, T.scls ts = true → OTs K ca F H vs ts as → OTs K ca F' H vs ts as
  | _, _, _, _, .nil => .nil
  | _, _, _, e, .cons h hs => .cons (OT.scal (by unfold T.scls at e; rw [Bool.and_eq_true] at e; exact e.1) h) (OTs.scal (by unfold T.scls at e; rw [Bool.and_eq_true] at e; exact e.2) hs)
end
end
section
variable {X : Cx} {ca : Nat → Addr} {st : Stmt} {rest : List Stmt} {m n : Gm → Option Out} {T T' : List Nat}
theorem pss_tsv (h1 : PS X st (tSV X.K ca m T)) (h2 : PSs X rest (tSV X.K ca n T')) : PSs X (st :: rest) (tSV X.K ca (sCons m n) (T ++ T')) := by
  have i1 : ∀ j ∈ T, j ∈ T ++ T' := fun j h => List.mem_append_left _ h
  have i2 : ∀ j ∈ T', j ∈ T ++ T' := fun j h => List.mem_append_right _ h
  refine pss_imp (pss_cons h1 h2) ?_
  rintro D σ H ⟨H0, F0, F, Γ, o, S, e, p⟩
  unfold sCons at e
  obtain ⟨o1, e1, e⟩ := Option.bind_eq_some_iff.mp e
  refine ⟨H0, F0, F, Γ, o1, S, e1, ?_⟩
  cases o1 with
  | nx g1 =>
    intro σ1 H1 F1 S1 s1 k1
    exact ⟨H0, F0, F1, g1, o, S1, e, PostO.mono s1 k1 i1 i2 p⟩
  | rt r => cases e; exact p
  | bk g2 => cases e; exact fun σ2 H2 F2 S2 s2 k2 => p σ2 H2 F2 S2 s2 (k2.mono i1)
  | ct g2 => cases e; exact fun σ2 H2 F2 S2 s2 k2 => p σ2 H2 F2 S2 s2 (k2.mono i1)
  | ex x => cases e; exact p
end
/-- a def whose answer is a new tree -/
def spT (K : PySem.W.Frag) (ca : Nat → Addr) (φ : List D → Option T) : Sp := fun vs H Q _ => ∃ ds F t, Same F H ∧ NT F ∧ TabsC ca H ∧ Dens K ca F vs ds ∧ φ ds = some t ∧
  ∀ v H' F' bs, Ext ca H F H' F' → OT K ca F' H' v t bs → bs.Nodup → (∀ b ∈ bs, noT H b = none ∧ F' b = none) → Q v H'
/-- a block that ends by telling a new tree -/
def tSVT (K : PySem.W.Frag) (ca : Nat → Addr) (m : Gm → Option Out) (k : Gm → Option BK.T) : TS := fun D σ H => ∃ H0 F0 F Γ g t, SR K ca H0 F0 σ H F Γ ∧ m Γ = some (.nx g) ∧ k g = some t ∧
  ∀ v H' F' bs, Ext ca H0 F0 H' F' → OT K ca F' H' v t bs → bs.Nodup → (∀ b ∈ bs, noT H0 b = none ∧ F' b = none) → D.rt v H'
section
variable {X : Cx} {ca : Nat → Addr} {st : Stmt} {rest : List Stmt} {m n : Gm → Option Out} {T : List Nat} {k : Gm → Option BK.T} {e : Expr} {pos : Pos}
theorem svt_cons (h1 : SV X ca st m T) (h2 : PSs X rest (tSVT X.K ca n k)) : PSs X (st :: rest) (tSVT X.K ca (sCons m n) k) := by
  refine pss_imp (pss_cons h1.ps h2) ?_
  rintro D σ H ⟨H0, F0, F, Γ, g, t, S, e, ek, p⟩
  unfold sCons at e
  obtain ⟨o1, e1, e⟩ := Option.bind_eq_some_iff.mp e
  refine ⟨H0, F0, F, Γ, o1, S, e1, ?_⟩
  cases o1 with
  | nx g1 => exact fun σ1 H1 F1 S1 s1 k1 => ⟨H0, F0, F1, g1, g, t, S1, e, ek, p⟩
  | rt r => cases e
  | bk g2 => cases e
  | ct g2 => cases e
  | ex x => cases e
theorem svt_ret {f : List R → Option BK.T} {as : Gm → Option (List R)} (h : PE X e (tMkT X.K ca f as)) : PSs X [.Return (some e) pos] (tSVT X.K ca sNil fun g => (as g).bind f) := by
  refine pss_imp (pss_one (ps_ret h)) ?_
  rintro D σ H ⟨H0, F0, F, Γ, g, t, S, e, ek, p⟩
  cases e
  obtain ⟨rs, er, et⟩ := Option.bind_eq_some_iff.mp ek
  exact ⟨H0, F0, F, Γ, rs, t, S, er, et, fun v H' F' bs x h nd hf => p v H' F' bs (S.ext.trans x) h nd fun b hb => ⟨S.ext.hh.free (hf b hb).1, (hf b hb).2⟩⟩
end
def phiT (m : Gm → Option Out) (k : Gm → Option T) (N n : Nat) : List D → Option T := fun ds => if ds.length = n then match m (ds.map Slot.va ++ List.replicate (N - n) Slot.un) with
  | some (.nx g) => k g
  | _ => none
  else none
section
variable {P : Program} {w : World} {K : PySem.W.Frag} {mg : Str → Option Value} {base : Heap} {ca : Nat → Addr}
theorem fn_okT {x qual : Str} {st : Stmt} {f : Addr} {fd : FuncData} {N ps : List Str} {k n nN : Nat} {m : Gm → Option Out} {kt : Gm → Option BK.T} {φ : List D → Option BK.T} (F : FunA K x qual st f fd) (S : FnScope N ps (defScope st)) (hn : ps.length = n) (hN : N.length = nN) (hφ : φ = phiT m kt nN n)
    (hbody : ∀ (cdv : Value) (A : Around) (outer : List Env) (s : Shared) (H : Hp) (E : XK), Room k (A.deeper (envOfC qual (defScope st) s.heap.objs.size f cdv)) →
      PSs (cxOf CX0 P w K mg base N qual (defScope st) f cdv A outer s H E).nox (defBody st) (tSVT K ca m kt)) : FnOk P w K mg base CX0 (k + 1) f fd ps (spT K ca φ) := by
  subst hφ
  subst hn
  subst hN
  refine F.ok S (fun vs H Q E ⟨ds, F0, r, s, _, _, h, e, _⟩ => ?_) (fun cdv hcd A outer s H vs Q E hr ⟨ds, F0, t, sm, nt, tc, h, e, q⟩ => ?_)
  · unfold phiT at e
    split at e
    · rw [h.length]; assumption
    · cases e
  · have hb := hbody cdv A outer s H E hr
    refine ⟨_, hb, ?_⟩
    unfold phiT at e
    split at e
    · rename_i hl
      have S0 : SR K ca H F0 (L2.start N vs) H F0 (ds.map Slot.va ++ List.replicate (N.length - ps.length) Slot.un) := by
        rw [← hl]
        exact sr_start sm nt tc h
      split at e
      · rename_i g em
        exact ⟨H, F0, F0, _, g, t, S0, em, e, q⟩
      · cases e
    · cases e
end
/-- x.append(f(..)), x read in the arguments -/
def sAppC (i : Nat) (φ : List D → Option T) (as : Gm → Option (List R)) : Gm → Option Out := fun g => match g[i]? with
  | some (.ot (.lst ts)) => (as (g.set i (.va (T.lst ts).d))).bind fun rs => (allVa rs).bind fun ds => (φ ds).bind fun t => if (decide (ts.length < LIM) && t.scl) = true then some (.nx (g.set i (.ot (.lst (ts ++ [t]))))) else none
  | _ => none
/-- the heap without some addresses -/
def delT (H : Hp) (as : List Addr) : Hp := fun b => if b ∈ as then none else H b
theorem delT_same (H : Hp) (as : List Addr) : Same (delT H as) H := fun b o e => by
  have e : (if b ∈ as then none else H b) = some o := e
  by_cases h : b ∈ as
  · rw [if_pos h] at e; cases e
  · rw [if_neg h] at e; exact e
theorem delT_not {H : Hp} {as : List Addr} {b : Addr} (h : b ∉ as) : delT H as b = H b := if_neg h
theorem delT_tabs {H : Hp} {as : List Addr} {ca : Nat → Addr} (h : ∀ b ∈ as, Pl H b) (t : TabsC ca H) : TabsC ca (delT H as) := by
  have key : ∀ {P : Addr} {qn : Str}, LamX.TabS H P qn → LamX.TabS (delT H as) P qn := fun {P qn} t => by
    obtain ⟨ps, t1, t2, t3⟩ := t
    refine ⟨ps, by rw [delT_not fun z => (h P z).t ps t1]; exact t1, t2, fun pos cv hc => ?_⟩
    obtain ⟨b, e1, e2⟩ := t3 pos cv hc
    exact ⟨b, e1, by rw [delT_not fun z => (h b z).c qn e2]; exact e2⟩
  exact ⟨fun z => key (t.a z), fun z => key (t.b z)⟩
section
variable {K : PySem.W.Frag} {ca : Nat → Addr} {F H : Hp}
mutual
theorem OT.pl : ∀ {v : V} {t : T} {as : List Addr}, OT K ca F H v t as → ∀ b ∈ as, Pl H b
  | _, _, _, .fz _, b, m => by cases m
  | _, _, _, .lst h hs, b, m => by
    rcases List.mem_cons.mp m with e | m
    · subst e; exact Pl.lst h
    · exact OTs.pl hs b m
  | _, _, _, .ins k h n hs, b, m => by
    rcases List.mem_cons.mp m with e | m
    · subst e; exact Pl.ins h
    · exact OTs.pl hs b m
theorem OTs.pl : ∀ {vs : List V} {ts : List T} {as : List Addr}, OTs K ca F H vs ts as → ∀ b ∈ as, Pl H b
  | _, _, _, .nil, b, m => by cases m
  | _, _, _, .cons h hs, b, m => by
    rcases List.mem_append.mp m with m | m
    · exact OT.pl h b m
    · exact OTs.pl hs b m
end
end
/-- a def that changes its first argument, a tree; its answer None -/
def spM (K : PySem.W.Frag) (ca : Nat → Addr) (φ : T → List D → Option T) : Sp := fun vs H Q _ => ∃ v ws t ds F as t', vs = v :: ws ∧ Same F H ∧ NT F ∧ TabsC ca H ∧ OT K ca F H v t as ∧ as.Nodup ∧ (∀ b ∈ as, F b = none) ∧ Dens K ca F ws ds ∧ φ t ds = some t' ∧
  ∀ H' F' as', Ext ca (delT H as) F H' F' → OT K ca F' H' v t' as' → as'.Nodup → (∀ b ∈ as', F' b = none ∧ (b ∈ as ∨ noT H b = none)) → Q .non H'
def phiM (m : Gm → Option Out) (N n : Nat) : T → List D → Option T := fun t ds => if ds.length + 1 = n then match m (.ot t :: (ds.map Slot.va ++ List.replicate (N - n) Slot.un)) with
  | some (.nx g) => match (g[0]? : Option Slot) with
    | some (Slot.ot t') => some t'
    | _ => none
  | _ => none
  else none
section
variable {P : Program} {w : World} {K : PySem.W.Frag} {mg : Str → Option Value} {base : Heap} {ca : Nat → Addr}
theorem sr_startM {H F : Hp} {N : List Str} {v : V} {vs : List V} {t : BK.T} {ds : List D} {as : List Addr} (s : Same F H) (nt : NT F) (tc : TabsC ca H) (ht : OT K ca F H v t as) (nd : as.Nodup) (hf : ∀ b ∈ as, F b = none) (h : Dens K ca F vs ds) : SR K ca (delT H as) F (L2.start N (v :: vs)) H F (.ot t :: (ds.map Slot.va ++ List.replicate (N.length - (ds.length + 1)) Slot.un)) := by
  have key : ∀ (i : Nat) (x : Slot), (ds.map Slot.va ++ List.replicate (N.length - (ds.length + 1)) Slot.un)[i]? = some x → x = .un ∨ ∃ d, x = .va d ∧ ds[i]? = some d := by
    intro i x e
    by_cases hi : i < ds.length
    · rw [List.getElem?_append_left (by simpa using hi), List.getElem?_map] at e
      cases q : ds[i]? with
      | none => rw [q] at e; cases e
      | some d => rw [q] at e; cases e; exact .inr ⟨d, rfl, rfl⟩
    · rw [List.getElem?_append_right (by simpa using hi), List.getElem?_replicate] at e
      split at e
      · cases e; exact .inl rfl
      · cases e
  have notw : ∀ (i : Nat) (es : List D), (Slot.ot t :: (ds.map Slot.va ++ List.replicate (N.length - (ds.length + 1)) Slot.un))[i]? ≠ some (Slot.ow es) := fun i es e => by
    cases i with
    | zero => cases e
    | succ i =>
      rw [List.getElem?_cons_succ] at e
      rcases key i _ e with z | ⟨d', z, g⟩ <;> cases z
  have sd := delT_same H as
  have nF : ∀ b o, F b = some o → b ∉ as := fun b o e hb => by rw [hf b hb] at e; cases e
  refine ⟨⟨SameN.of sd, Same.refl _, s, fun b h => .inl h, fun n => n⟩, nt, delT_tabs ht.pl tc, ?_, fun i d e => ?_, fun i es e => absurd e (notw i es), fun i j es fs a n e1 => absurd e1 (notw i es), fun _ => as, fun i u e => ?_, fun i j u u' n e e' => ?_, fun i j u es a e e' => absurd e' (notw j es)⟩
  · unfold L2.start
    simp only [List.length_append, List.length_map, List.length_cons, List.length_replicate, h.length]
    omega
  · cases i with
    | zero => cases e
    | succ i =>
      rw [List.getElem?_cons_succ] at e
      rcases key i _ e with z | ⟨d', z, g⟩
      · cases z
      · cases z
        obtain ⟨w, h1, h2⟩ := h.getV g
        exact ⟨w, start_get (by rw [List.getElem?_cons_succ]; exact h1), h2⟩
  · cases i with
    | zero =>
      cases e
      refine ⟨⟨v, start_get rfl, ht⟩, nd, fun b hb => ⟨noT_none (if_pos hb), hf b hb⟩⟩
    | succ i =>
      rw [List.getElem?_cons_succ] at e
      rcases key i _ e with z | ⟨d', z, g⟩ <;> cases z
  · cases i with
    | zero =>
      cases j with
      | zero => exact absurd rfl n
      | succ j =>
        rw [List.getElem?_cons_succ] at e'
        rcases key j _ e' with z | ⟨d', z, g⟩ <;> cases z
    | succ i =>
      rw [List.getElem?_cons_succ] at e
      rcases key i _ e with z | ⟨d', z, g⟩ <;> cases z
theorem fn_okM {x qual : Str} {st : Stmt} {f : Addr} {fd : FuncData} {N ps : List Str} {k n nN : Nat} {m : Gm → Option Out} {φ : BK.T → List D → Option BK.T} (F : FunA K x qual st f fd) (S : FnScope N ps (defScope st)) (hn : ps.length = n) (hN : N.length = nN) (hφ : φ = phiM m nN n)
    (hbody : ∀ (cdv : Value) (A : Around) (outer : List Env) (s : Shared) (H : Hp) (E : XK), Room k (A.deeper (envOfC qual (defScope st) s.heap.objs.size f cdv)) →
      PSs (cxOf CX0 P w K mg base N qual (defScope st) f cdv A outer s H E).nox (defBody st) (tSV K ca m [])) : FnOk P w K mg base CX0 (k + 1) f fd ps (spM K ca φ) := by
  subst hφ
  subst hn
  subst hN
  refine F.ok S (fun vs H Q E ⟨v, ws, t, ds, F0, as, t', ev, s, _, _, _, _, _, h, e, _⟩ => ?_) (fun cdv hcd A outer s H vs Q E hr ⟨v, ws, t, ds, F0, as, t', ev, sm, nt, tc, ht, nd, hf, h, e, q⟩ => ?_)
  · unfold phiM at e
    split at e
    · rw [ev, List.length_cons, h.length]; assumption
    · cases e
  · have hb := hbody cdv A outer s H E hr
    refine ⟨_, hb, ?_⟩
    subst ev
    unfold phiM at e
    split at e
    · rename_i hl
      have S0 := sr_startM (N := N) sm nt tc ht nd hf h
      rw [hl] at S0
      split at e
      · rename_i g em
        split at e
        · rename_i t1 hg
          cases e
          refine ⟨delT H as, F0, F0, _, _, S0, em, fun σ' H' F' S' _ kk => ?_⟩
          obtain ⟨A', o⟩ := S'.own
          obtain ⟨⟨v', sv', h'⟩, nd', hf'⟩ := o.a 0 _ hg
          have e0 : σ'[0]? = some (some v) := by
            rw [kk 0 (by simp)]
            exact start_get rfl
          rw [e0] at sv'
          cases sv'
          refine q H' F' (A' 0) S'.ext h' nd' fun b hb => ⟨(hf' b hb).2, ?_⟩
          by_cases hba : b ∈ as
          · exact .inl hba
          · right
            have := (hf' b hb).1
            unfold noT at this ⊢
            rw [delT_not hba] at this
            exact this
        · cases e
      · cases e
    · cases e
end
/-! ### statements of such defs and calls of them -/
/-- the last field of a class is f -/
def lastF (c : Nat) (f : Str) : Bool := decide ((fldsOf c).getLast? = some f) && !decide (f ∈ (fldsOf c).dropLast)
theorem lookup_last {f : Str} {w : V} : ∀ {gs : List (Str × V)}, f ∉ gs.map (·.1) → (gs ++ [(f, w)]).lookup f = some w
  | [], _ => by simp [List.lookup]
  | (g, u) :: gs, h => by
    rw [List.map_cons, List.mem_cons, not_or] at h
    rw [List.cons_append, List.lookup_cons]
    have : (f == g) = false := by simpa using h.1
    rw [this]
    exact lookup_last h.2
/-- x.f.append(e), f the last field -/
def sAppF (i : Nat) (f : Str) (m : Gm → Option R) : Gm → Option Out := fun g => match g[i]? with
  | some (.ot (.ins c ts)) => (lastL ts).bind fun p => if lastF c f = true then (m g).bind fun r => match r with
      | .va d => if p.2.length < LIM then some (.nx (g.set i (.ot (.ins c (p.1 ++ [.lst (p.2 ++ [.fz d])]))))) else none
      | _ => none
    else none
  | _ => none
section
variable {X : Cx} {ca : Nat → Addr} {e e2 : Expr} {m k : Gm → Option R} {i : Nat}
theorem ps_appF {f : Str} {pos p2 p3 : Pos} (h : PE X (.Call (.Attribute e2 "append" p2) [e] [] p3) (tBM X.K "list" rAppend (tFld X.K (tVar i) f) (tCons (tEV X.K ca m) tNil)))
    (hs : swapsWith (.Call (.Attribute e2 "append" p2) [e] [] p3) none pos.line X.env = pure false := by rfl) : PS X (.Expr (.Call (.Attribute e2 "append" p2) [e] [] p3) pos) (tSV X.K ca (sAppF i f m) []) := by
  refine ps_imp (ps_expr h hs) ?_
  rintro D σ H ⟨H0, F0, F, Γ, o, S, e, p⟩
  unfold sAppF at e
  split at e
  rotate_left
  · cases e
  rename_i c ts hg
  obtain ⟨⟨init, us⟩, el, e⟩ := Option.bind_eq_some_iff.mp e
  split at e
  rotate_left
  · cases e
  rename_i hlf
  obtain ⟨r, er, e⟩ := Option.bind_eq_some_iff.mp e
  split at e
  rotate_left
  · cases e
  rename_i d
  split at e
  rotate_left
  · cases e
  rename_i hlen
  cases e
  have hts := lastL_inv el
  subst hts
  unfold lastF at hlf
  rw [Bool.and_eq_true, decide_eq_true_eq, Bool.not_eq_true', decide_eq_false_iff_not] at hlf
  obtain ⟨hl1, hl2⟩ := hlf
  obtain ⟨l, hl3⟩ := List.getLast?_eq_some_iff.mp hl1
  rw [hl3, List.dropLast_concat] at hl2
  obtain ⟨A, oA⟩ := S.own
  obtain ⟨⟨v, sv, ht⟩, _, _⟩ := oA.a i _ hg
  generalize hAi : A i = Ai at ht
  cases ht with
  | ins kl hl hn hts =>
    rename_i a dx fs as0
    obtain ⟨ws, w, as1, as2, ews, rfl, hi, hw⟩ := hts.snoc_inv
    obtain ⟨gs, fw, rfl, eg, efw⟩ : ∃ gs fw, fs = gs ++ [fw] ∧ gs.map (·.2) = ws ∧ fw.2 = w := by
      obtain ⟨gs, hs, rfl, e1, e2⟩ := List.map_eq_append_iff.mp ews
      obtain ⟨fw, fr, rfl, e3, e4⟩ := List.map_eq_cons_iff.mp e2
      cases List.map_eq_nil_iff.mp e4
      exact ⟨gs, fw, rfl, e1, e3⟩
    obtain ⟨fn, fv⟩ := fw
    have efw : fv = w := efw
    subst efw
    rw [hl3, List.map_append, List.map_singleton] at hn
    obtain ⟨hn1, hn2⟩ := List.append_inj' hn rfl
    cases hn2
    cases hw with
    | lst hp hus =>
      rename_i q xs as3
      refine ⟨_, sv, a, _, dx, _, .ref q, rfl, hl, kl.cl, kl.na _ (by rw [hl3]; simp), lookup_last (by rw [hn1]; exact hl2), .inl ⟨rfl, xs, SqL.of hp⟩, ?_⟩
      refine ⟨H0, F0, F, Γ, _, S, er, fun z H2 F2 x12 r2 => ?_⟩
      have o2 := oA.mono x12
      have S2 := S.mono x12
      obtain ⟨⟨v', sv', ht'⟩, nd, hf⟩ := o2.a i _ hg
      rw [sv] at sv'
      cases sv'
      rw [hAi] at ht' nd hf
      have hi2 := OTs.mono (F' := F2) (H' := H2) x12.ff hi fun b hb => by
        obtain ⟨u, hu, hn⟩ := hi.at b hb
        rw [hu, x12.hh.st b u hu hn]
      have hus2 := OTs.mono (F' := F2) (H' := H2) x12.ff hus fun b hb => by
        obtain ⟨u, hu, hn⟩ := hus.at b hb
        rw [hu, x12.hh.st b u hu hn]
      refine ⟨q, xs, z, rfl, rfl, x12.hh.l hp, by rw [lim_eq, hus.length]; exact hlen, ?_⟩
      have r2 : Den X.K ca F2 z d := r2
      rw [List.nodup_cons] at nd
      have hqa : a ≠ q := fun z => nd.1 (by rw [z]; exact List.mem_append_right _ List.mem_cons_self)
      have hnd := List.nodup_append.mp nd.2
      have hq1 : ∀ c ∈ as1, c ≠ q := fun c hc => hnd.2.2 c hc q List.mem_cons_self
      have hq3 : ∀ c ∈ as3, c ≠ q := fun c hc z => (List.nodup_cons.mp hnd.2.1).1 (z ▸ hc)
      have ht2 : OT X.K ca F2 (L2.upd H2 q (.lst (xs ++ [z]))) (.ref a) (.ins c (init ++ [.lst (us ++ [.fz d])])) (a :: (as1 ++ ((q :: (as3 ++ ([] ++ []))) ++ []))) := by
        refine .ins kl (by rw [upd_ne hqa]; exact x12.hh.i hl) (by rw [hl3, List.map_append, List.map_singleton, hn1]) ?_
        rw [List.map_append, List.map_singleton, eg]
        exact OTs.append (OTs.mono (Same.refl _) hi2 fun c hc => upd_ne (hq1 c hc)) (.cons (.lst upd_same (OTs.append (OTs.mono (Same.refl _) hus2 fun c hc => upd_ne (hq3 c hc)) (.cons (.fz r2) .nil))) .nil)
      have eas : (a :: (as1 ++ ((q :: (as3 ++ ([] ++ []))) ++ []))) = a :: (as1 ++ q :: as3) := by simp
      rw [eas] at ht2
      refine p σ _ F2 (sr_updT S2 o2 hg sv (by rw [hAi]; exact List.mem_cons_of_mem _ (List.mem_append_right _ List.mem_cons_self)) (x12.hh.l hp) ht2 (List.nodup_cons.mpr nd) (fun b hb => .inl (by rw [hAi]; exact hb)) fun b hb => ?_) x12.ff .refl
      obtain ⟨u, hu, hn⟩ := ht'.at b hb
      rw [hu]
      exact fun z => nomatch z
end
/-- a part of a tree was changed from within -/
theorem sr_hole {K : PySem.W.Frag} {ca : Nat → Addr} {H0 F0 H F H' F' : Hp} {σ : L2.St} {Γ : Gm} {i : Nat} {t t' : BK.T} {v : V} {A : Nat → List Addr} {as2 as' : List Addr} (S : SR K ca H0 F0 σ H F Γ) (oA : OwnA K ca H0 F σ H Γ A) (hg : Γ[i]? = some (Slot.ot t)) (sv : σ[i]? = some (some v)) (hs : ∀ b ∈ as2, b ∈ A i) (hp : ∀ b ∈ as2, Pl H b)
    (x : Ext ca (delT H as2) F H' F') (ht : OT K ca F' H' v t' as') (nd : as'.Nodup) (hf : ∀ b ∈ as', F' b = none ∧ (b ∈ A i ∨ noT H b = none)) : SR K ca H0 F0 σ H' F' (Γ.set i (.ot t')) := by
  obtain ⟨o1, o2, o3⟩ := oA
  have hi := (o1 i t hg).2.2
  have per : ∀ b u, H b = some u → (∀ ps, u ≠ .tbl ps) → b ∉ as2 → H' b = some u := fun b u e n hb => x.hh.st b u (by rw [delT_not hb]; exact e) n
  have kee : ∀ b u, H b = some u → (∀ ps, u ≠ .tbl ps) → b ∉ as2 → F b = none → F' b = none := fun b u e n hb f => x.keepN (by rw [delT_not hb]; exact e) f n
  have old : ∀ b, noT H0 b ≠ none → b ∉ as2 := fun b h hb => h (hi b (hs b hb)).1
  refine ⟨⟨⟨fun b o e n => per b o (S.ext.hh.st b o e n) n (old b (by rw [noT_get e n]; exact fun z => nomatch z)), fun tb => x.hh.tb (delT_tabs hp (S.ext.hh.tb tb))⟩, S.ext.ff.trans x.ff, x.fh, fun b h => ?_, fun n => x.nt (S.ext.nt n)⟩, S.nt0, S.tc0, by rw [List.length_set]; exact S.len, fun j e hj => ?_, fun j es hj => ?_, fun j k es fs b n hj hk sj sk => ?_, putA A i as', fun j u e => ?_, fun j k u w n e e' b hb => ?_, fun j k u es b e g s' => ?_⟩
  · rcases x.nw b h with z | z
    · exact S.ext.nw b z
    · right
      by_cases hb : b ∈ as2
      · exact (hi b (hs b hb)).1
      · refine S.ext.hh.free ?_
        unfold noT at z ⊢
        rw [delT_not hb] at z
        exact z
  · rcases get_set hj with ⟨_, e1, _⟩ | ⟨_, hj⟩
    · cases e1
    · obtain ⟨w, g1, g2⟩ := S.va j e hj
      exact ⟨w, g1, g2.mono x.ff⟩
  · rcases get_set hj with ⟨_, e1, _⟩ | ⟨_, hj⟩
    · cases e1
    · obtain ⟨b, us, g1, g2, g3, g4, g5⟩ := S.ow j es hj
      have hb : b ∉ as2 := fun z => o3 i j t es b hg hj g1 (hs b z)
      exact ⟨b, us, g1, g2, kee b _ g4 (fun _ z => nomatch z) hb g3, per b _ g4 (fun _ z => nomatch z) hb, g5.mono x.ff⟩
  · rcases get_set hj with ⟨_, e1, _⟩ | ⟨_, hj⟩
    · cases e1
    · rcases get_set hk with ⟨_, e1, _⟩ | ⟨_, hk⟩
      · cases e1
      · exact S.ap j k es fs b n hj hk sj sk
  · rcases get_set e with ⟨e0, e1, _⟩ | ⟨n, e⟩
    · subst e0
      injection e1 with e1; subst e1
      refine ⟨⟨v, sv, by rw [putA_same]; exact ht⟩, by rw [putA_same]; exact nd, fun b hb => ?_⟩
      rw [putA_same] at hb
      refine ⟨?_, (hf b hb).1⟩
      rcases (hf b hb).2 with z | z
      · exact (hi b z).1
      · exact S.ext.hh.free z
    · rw [putA_ne fun z => n z.symm]
      obtain ⟨⟨w, hw, hu⟩, hd, hf2⟩ := o1 j u e
      have hb2 : ∀ b ∈ A j, b ∉ as2 := fun b hb z => o2 i j t u n hg e b (hs b z) hb
      refine ⟨⟨w, hw, hu.mono x.ff fun b hb => ?_⟩, hd, fun b hb => ⟨(hf2 b hb).1, ?_⟩⟩
      · obtain ⟨y, hy, hn⟩ := hu.at b hb
        rw [per b y hy hn (hb2 b hb), hy]
      · obtain ⟨y, hy, hn⟩ := hu.at b hb
        exact kee b y hy hn (hb2 b hb) (hf2 b hb).2
  · have key : ∀ m y, Γ[m]? = some (Slot.ot y) → i ≠ m → ∀ b ∈ as', b ∉ A m := fun m y g ne b hb z => by
      rcases (hf b hb).2 with q | q
      · exact o2 i m t y ne hg g b q z
      · obtain ⟨⟨_, _, hu⟩, _, _⟩ := o1 m y g
        obtain ⟨u, hu2, hn⟩ := hu.at b z
        rw [noT_get hu2 hn] at q
        cases q
    rcases get_set e with ⟨e0, _, _⟩ | ⟨n1, e⟩
    · rcases get_set e' with ⟨e0', _, _⟩ | ⟨n2, e'⟩
      · exact absurd (e0.symm.trans e0') n
      · subst e0
        rw [putA_same] at hb
        rw [putA_ne fun z => n2 z.symm]
        exact key k w e' n2 b hb
    · rw [putA_ne fun z => n1 z.symm] at hb
      rcases get_set e' with ⟨e0', _, _⟩ | ⟨n2, e'⟩
      · subst e0'
        rw [putA_same]
        exact fun z => key j u e n1 b z hb
      · rw [putA_ne fun z => n2 z.symm]
        exact o2 j k u w n e e' b hb
  · rcases get_set g with ⟨_, e1, _⟩ | ⟨n2, g⟩
    · cases e1
    · rcases get_set e with ⟨e0, _, _⟩ | ⟨n1, e⟩
      · subst e0
        rw [putA_same]
        intro hb
        rcases (hf b hb).2 with q | q
        · exact o3 i k t es b hg g s' q
        · obtain ⟨b2, us, g1, _, _, g4, _⟩ := S.ow k es g
          rw [s'] at g1
          cases g1
          rw [noT_get g4 fun _ z => nomatch z] at q
          cases q
      · rw [putA_ne fun z => n1 z.symm]
        exact o3 j k u es b e g s'
/-- f(x[-1], ..), x a tree, f changes its first argument -/
def sCallM (i : Nat) (φ : T → List D → Option T) (k : Gm → Option R) (as : Gm → Option (List R)) : Gm → Option Out := fun g => match g[i]? with
  | some (.ot (.lst ts)) => (ts.getLast?).bind fun t => (k g).bind fun r => match r with
    | .va (.int j) => if j = -1 then (as g).bind fun rs => (allVa rs).bind fun ds => (φ t ds).map fun t' => .nx (g.set i (.ot (.lst (ts.dropLast ++ [t'])))) else none
    | _ => none
  | _ => none
section
variable {X : Cx} {ca : Nat → Addr} {e e2 : Expr} {k : Gm → Option R} {as : Gm → Option (List R)} {i : Nat} {E : XK}
theorem sv_callM {φ : BK.T → List D → Option BK.T} {pos : Pos} (h : PE X e (tCall (spM X.K ca φ) [] E (tCons (tOp (rIx X.K) (tVar i) (tEV X.K ca k)) (tAV X.K ca as)))) (hs : swapsWith e none pos.line X.env = pure false := by rfl) : SV X ca (.Expr e pos) (sCallM i φ k as) [i] := by
  refine ⟨ps_imp (ps_expr h hs) ?_, fun g o e => ?_⟩
  · rintro D σ H ⟨H0, F0, F, Γ, o, S, e, p⟩
    unfold sCallM at e
    split at e
    rotate_left
    · cases e
    rename_i ts hg
    obtain ⟨t, el, e⟩ := Option.bind_eq_some_iff.mp e
    obtain ⟨rk, ek, e⟩ := Option.bind_eq_some_iff.mp e
    split at e
    rotate_left
    · cases e
    split at e
    rotate_left
    · cases e
    rename_i hj
    subst hj
    obtain ⟨rs, er, e⟩ := Option.bind_eq_some_iff.mp e
    obtain ⟨ds, ed, e⟩ := Option.bind_eq_some_iff.mp e
    obtain ⟨t', et, rfl⟩ := Option.map_eq_some_iff.mp e
    obtain ⟨init, rfl⟩ := List.getLast?_eq_some_iff.mp el
    rw [List.dropLast_concat] at p
    obtain ⟨A, oA⟩ := S.own
    obtain ⟨⟨v, sv, ht⟩, _, _⟩ := oA.a i _ hg
    generalize hAi : A i = Ai at ht
    cases ht with
    | lst hl hts =>
      rename_i a vs as0
      obtain ⟨ws, w, as1, as2, rfl, rfl, hi, hw⟩ := hts.snoc_inv
      refine ⟨_, sv, H0, F0, F, Γ, _, S, ek, fun y H1 F1 x1 r1 => ?_⟩
      cases r1
      refine .inl ⟨a, ws ++ [w], -1, w, rfl, rfl, SqL.of (x1.hh.l hl), atI_last ws w, ?_⟩
      refine ⟨H0, F0, F1, Γ, rs, S.mono x1, er, fun us H2 F2 x2 r2 => ?_⟩
      have x12 := x1.trans x2
      have S2 := S.mono x12
      have o2 := oA.mono x12
      obtain ⟨⟨v', sv', ht'⟩, nd, hf⟩ := o2.a i _ hg
      rw [sv] at sv'
      cases sv'
      rw [hAi] at ht' nd hf
      have hi2 := OTs.mono (F' := F2) (H' := H2) x12.ff hi fun b hb => by
        obtain ⟨u, hu, hn⟩ := hi.at b hb
        rw [hu, x12.hh.st b u hu hn]
      have hw2 := OT.mono (F' := F2) (H' := H2) x12.ff hw fun b hb => by
        obtain ⟨u, hu, hn⟩ := hw.at b hb
        rw [hu, x12.hh.st b u hu hn]
      rw [List.nodup_cons] at nd
      have hnd := List.nodup_append.mp nd.2
      have hd := (allVa_den r2 ed).1
      show spM X.K ca φ ((w :: us) ++ []) H2 _ E
      rw [List.append_nil]
      refine ⟨w, us, t, ds, F2, as2, t', rfl, S2.ext.fh, S2.ext.nt S2.nt0, S2.tc0.mono S2.ext.hh, hw2, hnd.2.1, fun b hb => (hf b (List.mem_cons_of_mem _ (List.mem_append_right _ hb))).2, hd, et, fun H' F' as' x3 h3 nd3 hf3 => ?_⟩
      have ha2 : a ∉ as2 := fun z => nd.1 (List.mem_append_right _ z)
      have h12 : ∀ b ∈ as1, b ∉ as2 := fun b hb hb2 => hnd.2.2 b hb b hb2 rfl
      have per : ∀ b u, H2 b = some u → (∀ ps, u ≠ .tbl ps) → b ∉ as2 → H' b = some u := fun b u e n hb => x3.hh.st b u (by rw [delT_not hb]; exact e) n
      have hla : H' a = some (.lst (ws ++ [w])) := per a _ (x12.hh.l hl) (fun _ z => nomatch z) ha2
      have hi3 := OTs.mono (F' := F') (H' := H') x3.ff hi2 fun b hb => by
        obtain ⟨u, hu, hn⟩ := hi2.at b hb
        rw [hu, per b u hu hn (h12 b hb)]
      have ht3 : OT X.K ca F' H' (.ref a) (.lst (init ++ [t'])) (a :: (as1 ++ (as' ++ []))) := .lst hla (OTs.append hi3 (.cons h3 .nil))
      -- apart from one another
      have hab : ∀ b ∈ as', (b ∈ as2 ∨ noT H2 b = none) ∧ F' b = none := fun b hb => ⟨(hf3 b hb).2, (hf3 b hb).1⟩
      have hana : a ∉ as' := fun z => by
        rcases (hab a z).1 with q | q
        · exact ha2 q
        · rw [noT_get (x12.hh.l hl) fun _ z => nomatch z] at q; cases q
      have h1n : ∀ b ∈ as1, b ∉ as' := fun b hb z => by
        rcases (hab b z).1 with q | q
        · exact h12 b hb q
        · obtain ⟨u, hu, hn⟩ := hi2.at b hb
          rw [noT_get hu hn] at q; cases q
      refine p σ _ F' (sr_hole S2 o2 hg sv (as2 := as2) (fun b hb => by rw [hAi]; exact List.mem_cons_of_mem _ (List.mem_append_right _ hb)) hw2.pl x3 ht3 ?_ fun b hb => ?_) (x12.ff.trans x3.ff) .refl
      · rw [List.append_nil, List.nodup_cons, List.mem_append, not_or, List.nodup_append]
        exact ⟨⟨fun z => nd.1 (List.mem_append_left _ z), hana⟩, hnd.1, nd3, fun b hb c hc z => h1n b hb (z ▸ hc)⟩
      · rw [List.append_nil, List.mem_cons, List.mem_append] at hb
        rw [hAi]
        have kee : ∀ b u, H2 b = some u → (∀ ps, u ≠ .tbl ps) → b ∉ as2 → F2 b = none → F' b = none := fun b u e n hb f => x3.keepN (by rw [delT_not hb]; exact e) f n
        rcases hb with rfl | hb | hb
        · exact ⟨kee b _ (x12.hh.l hl) (fun _ z => nomatch z) ha2 (hf b List.mem_cons_self).2, .inl List.mem_cons_self⟩
        · obtain ⟨u, hu, hn⟩ := hi2.at b hb
          exact ⟨kee b u hu hn (h12 b hb) (hf b (List.mem_cons_of_mem _ (List.mem_append_left _ hb))).2, .inl (List.mem_cons_of_mem _ (List.mem_append_left _ hb))⟩
        · refine ⟨(hab b hb).2, ?_⟩
          rcases (hab b hb).1 with q | q
          · exact .inl (List.mem_cons_of_mem _ (List.mem_append_right _ q))
          · exact .inr q
  · unfold sCallM at e
    split at e
    · obtain ⟨_, _, e⟩ := Option.bind_eq_some_iff.mp e
      obtain ⟨_, _, e⟩ := Option.bind_eq_some_iff.mp e
      split at e
      · split at e
        · obtain ⟨_, _, e⟩ := Option.bind_eq_some_iff.mp e
          obtain ⟨_, _, e⟩ := Option.bind_eq_some_iff.mp e
          obtain ⟨_, _, rfl⟩ := Option.map_eq_some_iff.mp e
          exact kpg_set
        · cases e
      · cases e
    · cases e
theorem sv_appC {φ : List D → Option BK.T} {x : Str} {pos p1 p2 p3 : Pos} (h : PE X (.Call (.Attribute (.Name x p1) "append" p2) [e] [] p3) (tBM X.K "list" rAppend (tVar i) (tCons (tCall (spT X.K ca φ) [] E (tAV X.K ca as)) tNil)))
    (hs : swapsWith (.Call (.Attribute (.Name x p1) "append" p2) [e] [] p3) none pos.line X.env = pure false := by rfl) : SV X ca (.Expr (.Call (.Attribute (.Name x p1) "append" p2) [e] [] p3) pos) (sAppC i φ as) [i] := by
  refine ⟨ps_imp (ps_expr h hs) ?_, fun g o e => ?_⟩
  · rintro D σ H ⟨H0, F0, F, Γ, o, S, e, p⟩
    unfold sAppC at e
    split at e
    rotate_left
    · cases e
    rename_i ts hg
    obtain ⟨rs, er, e⟩ := Option.bind_eq_some_iff.mp e
    obtain ⟨ds, ed, e⟩ := Option.bind_eq_some_iff.mp e
    obtain ⟨t, et, e⟩ := Option.bind_eq_some_iff.mp e
    split at e
    rotate_left
    · cases e
    rename_i hc
    cases e
    rw [Bool.and_eq_true, decide_eq_true_eq] at hc
    obtain ⟨A, oA⟩ := S.own
    obtain ⟨⟨v, sv, ht⟩, nd, hf⟩ := oA.a i _ hg
    generalize hAi : A i = Ai at ht nd hf
    cases ht with
    | lst hl hts =>
      rename_i a vs as0
      obtain ⟨F2, sf, S2, back⟩ := S.thaw hg
      refine ⟨_, sv, .inl ⟨rfl, vs, SqL.of hl⟩, H0, F0, F2, _, rs, S2, er, fun us H1 F1 x1 r1 => ?_⟩
      show spT X.K ca φ (us ++ []) H1 _ E
      rw [List.append_nil]
      refine ⟨ds, F1, t, x1.fh, (S2.mono x1).ext.nt S2.nt0, S2.tc0.mono (S2.mono x1).ext.hh, (allVa_den r1 ed).1, et, fun w H' F' bs x2 hw nw hn => ?_⟩
      have x12 := x1.trans x2
      have xb := back H' F' x12
      have hw : OT X.K ca F H' w t bs := hw.scal hc.2
      have S3 := S.mono xb
      have o3 := oA.mono xb
      obtain ⟨⟨v', sv', ht'⟩, _, _⟩ := o3.a i _ hg
      rw [sv] at sv'
      cases sv'
      rw [hAi] at ht'
      have hts3 := OTs.mono (F' := F) (H' := H') (Same.refl _) hts fun b hb => by
        obtain ⟨u, hu, hn⟩ := hts.at b hb
        rw [hu, xb.hh.st b u hu hn]
      rw [List.nodup_cons] at nd
      refine ⟨a, vs, w, rfl, rfl, xb.hh.l hl, by rw [lim_eq, hts.length]; exact hc.1, ?_⟩
      have hnew : ∀ b ∈ bs, noT H b = none := fun b hb => x1.hh.free (hn b hb).1
      have hbA : ∀ b ∈ bs, ∀ j u, Γ[j]? = some (Slot.ot u) → b ∉ A j := fun b hb j u g z => by
        obtain ⟨⟨_, _, hh⟩, _⟩ := oA.a j u g
        obtain ⟨y, hy, hn⟩ := hh.at b z
        have := hnew b hb
        rw [noT_get hy hn] at this
        cases this
      have hba : ∀ b ∈ bs, b ≠ a ∧ b ∉ as0 := fun b hb => by
        have := hbA b hb i _ hg
        rw [hAi, List.mem_cons, not_or] at this
        exact this
      have ht2 : OT X.K ca F (L2.upd H' a (.lst (vs ++ [w]))) (.ref a) (.lst (ts ++ [t])) (a :: (as0 ++ (bs ++ []))) :=
        .lst upd_same (OTs.append (OTs.mono (Same.refl _) hts3 fun c hc => upd_ne fun z => nd.1 (z ▸ hc)) (.cons (OT.mono (Same.refl _) hw fun c hc => upd_ne (hba c hc).1) .nil))
      refine p σ _ F (sr_updT S3 o3 hg sv (by rw [hAi]; exact List.mem_cons_self) (xb.hh.l hl) ht2 ?_ (fun b hb => ?_) fun b hb => ?_) (Same.refl _) .refl
      · rw [List.append_nil, List.nodup_cons, List.mem_append, not_or, List.nodup_append]
        exact ⟨⟨nd.1, fun z => (hba a z).1 rfl⟩, nd.2, nw, fun b hb c hc z => (hba c hc).2 (z ▸ hb)⟩
      · rw [List.append_nil, List.mem_cons, List.mem_append] at hb
        rw [hAi]
        rcases hb with rfl | hb | hb
        · exact .inl List.mem_cons_self
        · exact .inl (List.mem_cons_of_mem _ hb)
        · refine .inr ⟨S.ext.hh.free (hnew b hb), ?_, fun u hu => ⟨fun j y g => hbA b hb j y g, fun j es g s => ?_⟩⟩
          · cases q : F b with
            | none => rfl
            | some y =>
              have hy := S.ext.fh b y q
              have := hnew b hb
              rw [noT_get hy fun ps z => S.ext.nt S.nt0 b ps (by rw [q, z])] at this
              cases this
          · obtain ⟨b2, us2, g1, _, _, g4, _⟩ := S.ow j es g
            rw [s] at g1
            cases g1
            have := hnew b hb
            rw [noT_get g4 fun _ z => nomatch z] at this
            cases this
      · rw [List.append_nil, List.mem_cons, List.mem_append] at hb
        rcases hb with rfl | hb | hb
        · rw [xb.hh.l hl]; exact fun z => nomatch z
        · obtain ⟨u, hu, _⟩ := hts3.at b hb
          rw [hu]; exact fun z => nomatch z
        · obtain ⟨u, hu, _⟩ := hw.at b hb
          rw [hu]; exact fun z => nomatch z
  · unfold sAppC at e
    split at e
    · obtain ⟨_, _, e⟩ := Option.bind_eq_some_iff.mp e
      obtain ⟨_, _, e⟩ := Option.bind_eq_some_iff.mp e
      obtain ⟨_, _, e⟩ := Option.bind_eq_some_iff.mp e
      split at e
      · cases e
        exact kpg_set
      · cases e
    · cases e
end
section
variable {P : Program} {w : World} {K : PySem.W.Frag} {mg : Str → Option Value} {base : Heap} {ca : Nat → Addr}
/-- such defs as their callers see them -/
structure CalleeT (P : Program) (w : World) (K : PySem.W.Frag) (mg : Str → Option Value) (base : Heap) (ca : Nat → Addr) (k : Nat) (x : Str) (φ : List D → Option BK.T) : Prop where
  ex : ∃ (f : Addr) (fd : FuncData) (ps : List Str), FnOk P w K mg base CX0 k f fd ps (spT K ca φ) ∧ mg x = some (.ref f) ∧ PySem.W.keepIn K (.ref f) = true ∧ Binds K fd ps []
structure CalleeM (P : Program) (w : World) (K : PySem.W.Frag) (mg : Str → Option Value) (base : Heap) (ca : Nat → Addr) (k : Nat) (x : Str) (φ : BK.T → List D → Option BK.T) : Prop where
  ex : ∃ (f : Addr) (fd : FuncData) (ps : List Str), FnOk P w K mg base CX0 k f fd ps (spM K ca φ) ∧ mg x = some (.ref f) ∧ PySem.W.keepIn K (.ref f) = true ∧ Binds K fd ps []
end
section
variable {X : Cx} {ca : Nat → Addr} {j : Nat} {x : Str} {e : Expr} {es : List Expr} {t : TA} {p pos : Pos}
theorem pe_fnT {φ : List D → Option BK.T} (C : CalleeT X.prog X.w X.K X.mg X.base ca j x φ) (hr : Room j X.A) (hg : Gl X x) (ha : PA X (e :: es) t) (hdb : (x == ("__debug__" : Str)) = false := by decide)
    (he : starEach (e :: es) X.env = (false, eval e X.env) :: starEach es X.env := by rfl) (hpl : (backTo pos (starEach es X.env)).any (·.1) = false := by rfl) : PE X (.Call (.Name x p) (e :: es) [] pos) (tCall (spT X.K ca φ) [] E0 t) := by
  obtain ⟨f, fd, ps, G, hm, hk, hb⟩ := C.ex
  exact pe_call G hr hg hm hk hb .nil pass0 ha hdb he hpl
theorem pe_fnM {φ : BK.T → List D → Option BK.T} (C : CalleeM X.prog X.w X.K X.mg X.base ca j x φ) (hr : Room j X.A) (hg : Gl X x) (ha : PA X (e :: es) t) (hdb : (x == ("__debug__" : Str)) = false := by decide)
    (he : starEach (e :: es) X.env = (false, eval e X.env) :: starEach es X.env := by rfl) (hpl : (backTo pos (starEach es X.env)).any (·.1) = false := by rfl) : PE X (.Call (.Name x p) (e :: es) [] pos) (tCall (spM X.K ca φ) [] E0 t) := by
  obtain ⟨f, fd, ps, G, hm, hk, hb⟩ := C.ex
  exact pe_call G hr hg hm hk hb .nil pass0 ha hdb he hpl
end
end BK
namespace BK
open PySem PySem.Spec L2
set_option autoImplicit false
/-! ### data taken apart; lists seen as other lists; in, deep -/
def un2 : D → Option (D × D)
  | .tup [a, b] => some (a, b)
  | _ => none
def un3 : D → Option (D × D × D)
  | .tup [a, b, c] => some (a, b, c)
  | _ => none
def un4 : D → Option (D × D × D × D)
  | .tup [a, b, c, d] => some (a, b, c, d)
  | _ => none
def un5 : D → Option (D × D × D × D × D)
  | .tup [a, b, c, d, e] => some (a, b, c, d, e)
  | _ => none
section
variable {m : Gm → Option R} {g : Gm} {d : D}
theorem x_un2 {q : D × D} (h : m g = some (.va d)) (k : un2 d = some q) : m g = some (.va (eP2 eD eD q)) := by
  unfold un2 at k
  split at k
  · cases k; exact h
  · cases k
theorem x_un3 {q : D × D × D} (h : m g = some (.va d)) (k : un3 d = some q) : m g = some (.va (eP3 eD eD eD q)) := by
  unfold un3 at k
  split at k
  · cases k; exact h
  · cases k
theorem x_un4 {q : D × D × D × D} (h : m g = some (.va d)) (k : un4 d = some q) : m g = some (.va (eP4 eD eD eD eD q)) := by
  unfold un4 at k
  split at k
  · cases k; exact h
  · cases k
theorem x_un5 {q : D × D × D × D × D} (h : m g = some (.va d)) (k : un5 d = some q) : m g = some (.va (eP5 eD eD eD eD eD q)) := by
  unfold un5 at k
  split at k
  · cases k; exact h
  · cases k
theorem x_tmC {α β : Type} {e : α → D} {e' : β → D} {f : α → β} {xs : List α} (h : m g = some (R.tm (xs.map e))) (k : ∀ x, e' (f x) = e x := by exact fun _ => rfl) : m g = some (R.tm ((xs.map f).map e')) := by
  rw [h, List.map_map]
  congr 3
  funext x
  exact (k x).symm
theorem x_vaC {α β : Type} {e : α → D} {e' : β → D} {f : α → β} {xs : List α} (h : m g = some (R.va (eL e xs))) (k : ∀ x, e' (f x) = e x := by exact fun _ => rfl) : m g = some (R.va (eL e' (xs.map f))) := by
  rw [h]
  show _ = some (R.va (D.lst ((xs.map f).map e')))
  rw [List.map_map]
  congr 4
  funext x
  exact (k x).symm
end
def inD (a b : R) : Option Bool := match b.d with
  | .lst ds => if (okn 8 (.lst ds) && okn 7 a.d) = true then some (ds.any fun e => eqn 7 e a.d) else none
  | _ => none
def inR2 (a b : R) : Option Bool := match inR a b with
  | some k => some k
  | none => inD a b
def oIn2 : R → R → Option R := fun a b => (inR2 a b).map fun k => .va (.bl k)
def oNin2 : R → R → Option R := fun a b => (inR2 a b).map fun k => .va (.bl (!k))
section
variable {K : PySem.W.Frag} {ca : Nat → Addr}
theorem op_in2 {X : Cx} (hu : X.A.units + 65 < cLine) : OpR X (compareOp .In) (fun x y H Q => rInA X.K x y H Q ∨ rInD X.K x y H Q) := op_inA.or (op_inD hu)
theorem op_nin2 {X : Cx} (hu : X.A.units + 65 < cLine) : OpR X (compareOp .NotIn) (fun x y H Q => rNinA X.K x y H Q ∨ rNotInD X.K x y H Q) := op_ninA.or (op_notInD hu)
theorem inD_cases {B : BT} {Hs F H : Hp} {v w : V} {x y : R} {k : Bool} (s : Same F H) (rx : RV K ca B Hs F H v x) (ry : RV K ca B Hs F H w y) (e : inD x y = some k) :
    ∃ d ds, Dp K H v d ∧ Dp K H w (.list ds) ∧ SeqAt.shaped d = true ∧ SeqAt.shaped (.list ds) = true ∧ k = ds.any fun z => PyData.eqv z d := by
  unfold inD at e
  split at e
  · rename_i ds hd
    split at e
    · rename_i hc
      cases e
      rw [Bool.and_eq_true] at hc
      have h1 : okn 8 y.d = true := by rw [hd]; exact hc.1
      have px := RV.dp s rx (n := 7) hc.2
      have py := RV.dp s ry h1
      rw [hd] at py
      refine ⟨_, _, px, py, okn_shaped hc.2 (by decide), okn_shaped hc.1 (by decide), ?_⟩
      have hall : ∀ e ∈ ds, okn 7 e = true := by simpa only [okn, List.all_eq_true] using hc.1
      rw [toPys_map, List.any_map]
      rw [Bool.eq_iff_iff, List.any_eq_true, List.any_eq_true]
      constructor
      · rintro ⟨z, h, q⟩; exact ⟨z, h, by show PyData.eqv (toPy z) (toPy x.d) = true; rw [eqn_py 7 _ _ (hall z h) hc.2]; exact q⟩
      · rintro ⟨z, h, q⟩
        refine ⟨z, h, ?_⟩
        have q : PyData.eqv (toPy z) (toPy x.d) = true := q
        rw [eqn_py 7 _ _ (hall z h) hc.2] at q; exact q
    · cases e
  · cases e
theorem od_in2 : OpD K ca (fun x y H Q => rInA K x y H Q ∨ rInD K x y H Q) oIn2 := by
  intro B H0 F H v w x y z Q s rx ry e q
  unfold oIn2 inR2 at e
  split at e
  · rename_i k hk
    exact .inl (od_in s rx ry (show oIn x y = some z by unfold oIn; rw [hk]; exact e) q)
  · obtain ⟨k, ek, rfl⟩ := Option.map_eq_some_iff.mp e
    obtain ⟨d, ds, h1, h2, h3, h4, h5⟩ := inD_cases s rx ry ek
    exact .inr ⟨d, ds, h1, h2, h3, h4, by rw [← h5]; exact q _ H F (.refl s) (.bl _)⟩
theorem od_nin2 : OpD K ca (fun x y H Q => rNinA K x y H Q ∨ rNotInD K x y H Q) oNin2 := by
  intro B H0 F H v w x y z Q s rx ry e q
  unfold oNin2 inR2 at e
  split at e
  · rename_i k hk
    exact .inl (od_nin s rx ry (show oNin x y = some z by unfold oNin; rw [hk]; exact e) q)
  · obtain ⟨k, ek, rfl⟩ := Option.map_eq_some_iff.mp e
    obtain ⟨d, ds, h1, h2, h3, h4, h5⟩ := inD_cases s rx ry ek
    exact .inr ⟨d, ds, h1, h2, h3, h4, by rw [← h5]; exact q _ H F (.refl s) (.bl _)⟩
end
theorem f_in2 {a b : R} {k : Bool} (h : inR a b = some k) : oIn2 a b = some (.va (.bl k)) := by unfold oIn2 inR2; rw [h]; rfl
theorem f_nin2 {a b : R} {k : Bool} (h : inR a b = some k) : oNin2 a b = some (.va (.bl (!k))) := by unfold oNin2 inR2; rw [h]; rfl
/-- items that are no flat data -/
structure NF {α : Type} (e : α → D) : Prop where
  nf : ∀ x, okn 0 (e x) = false ∧ ∀ s, e x ≠ .str s
theorem NF_P2 {α β : Type} {a : α → D} {b : β → D} : NF (eP2 a b) := ⟨fun _ => ⟨rfl, fun _ z => nomatch z⟩⟩
theorem NF_P3 {α β γ : Type} {a : α → D} {b : β → D} {c : γ → D} : NF (eP3 a b c) := ⟨fun _ => ⟨rfl, fun _ z => nomatch z⟩⟩
theorem NF_P4 {α β γ δ : Type} {a : α → D} {b : β → D} {c : γ → D} {d : δ → D} : NF (eP4 a b c d) := ⟨fun _ => ⟨rfl, fun _ z => nomatch z⟩⟩
theorem NF_T {α : Type} {a : α → D} : NF (eT a) := ⟨fun _ => ⟨rfl, fun _ z => nomatch z⟩⟩
def memD {α : Type} [DecidableEq α] (v : α) (xs : List α) : Bool := decide (v ∈ xs)
theorem memD_iff {α : Type} [DecidableEq α] {v : α} {xs : List α} : memD v xs = true ↔ v ∈ xs := decide_eq_true_iff
theorem inR2_deep {α : Type} [DecidableEq α] {e : α → D} {x y : R} {xs : List α} {v : α} (he : EQ 7 e) (hn : NF e) (hx : x.d = e v) (hy : y.d = .lst (xs.map e)) (h : okn 8 (eL e xs) = true ∧ okn 7 (e v) = true) : inR2 x y = some (memD v xs) := by
  have e1 : inR x y = none := by
    unfold inR
    have n0 := (hn.nf v).1
    have ns := (hn.nf v).2
    rw [hx, hy]
    split
    · rename_i h1 h2; cases h2
    · rw [if_neg]
      rw [Bool.and_eq_true, not_and]
      intro z
      rw [n0] at z; cases z
    · rename_i h2; cases h2
    · rfl
  unfold inR2
  rw [e1]
  unfold inD
  rw [hy, hx]
  show (if (okn 8 (D.lst (xs.map e)) && okn 7 (e v)) = true then some ((xs.map e).any fun d => eqn 7 d (e v)) else none) = _
  rw [if_pos (by rw [h.2, Bool.and_true]; exact h.1), List.any_map]
  congr 1
  rw [Bool.eq_iff_iff, List.any_eq_true, memD_iff]
  constructor
  · rintro ⟨z, hz, q⟩
    have q : eqn 7 (e z) (e v) = true := q
    rw [he.eq, decide_eq_true_eq] at q
    exact q ▸ hz
  · intro hz
    exact ⟨v, hz, by show eqn 7 (e v) (e v) = true; rw [he.eq, decide_eq_true_eq]⟩
theorem f_inB {a b : R} {k : Bool} (h : inR2 a b = some k) : oIn2 a b = some (.va (.bl k)) := by unfold oIn2; rw [h]; rfl
theorem f_ninB {a b : R} {k : Bool} (h : inR2 a b = some k) : oNin2 a b = some (.va (.bl (!k))) := by unfold oNin2; rw [h]; rfl
theorem j_appE {α β : Type} {b n : Gm → Option Out} {g g1 : Gm} {P : α → Out → Prop} {s : Option α} {i : Nat} {e : Gm → Option R} {r : R} (en : β → D) (xs : List β) (v : β) (h0 : g[i]? = some (.ow (xs.map en))) (h : e g = some r) (hd : r.d = en v) (hb : r.isBw = false) (hl : xs.length < 16777216) (h1 : g.set i (.ow ((xs ++ [v]).map en)) = g1) (k : J b n g1 s P) : J (sCons (sApp i e) b) n g s P :=
  j_app h0 h hb (by rw [List.length_map]; exact hl) (by rw [← h1, List.map_append, hd]; rfl) k
end BK
namespace BK
open PySem PySem.Spec L2
set_option autoImplicit false
/-! ### for the mathematics of days of shapes -/
theorem eqL_rfl {f : D → D → Bool} : ∀ (xs : List D), (∀ x ∈ xs, f x x = true) → eqL f xs xs = true
  | [], _ => rfl
  | x :: xs, h => by
    unfold eqL
    rw [h x List.mem_cons_self, eqL_rfl xs fun y hy => h y (List.mem_cons_of_mem _ hy)]
    rfl
theorem eqn_refl : ∀ (n : Nat) (d : D), okn n d = true → eqn n d d = true := by
  intro n
  induction n with
  | zero => intro d h; cases d <;> simp_all [okn, eqn]
  | succ n ih =>
    intro d h
    cases d with
    | lst xs =>
      simp only [okn, List.all_eq_true] at h
      exact eqL_rfl xs fun x hx => ih x (h x hx)
    | tup xs =>
      simp only [okn, List.all_eq_true] at h
      exact eqL_rfl xs fun x hx => ih x (h x hx)
    | _ => simp_all [okn, eqn]
theorem eqD_refl {d : D} (h : okn 8 d = true) : eqD d d = some true := by
  unfold eqD eqR
  split
  · rename_i x y h1 h2
    rw [show (R.va d).d = d from rfl] at h1 h2
    rw [h1] at h2
    injection h2 with h2
    simp [h2]
  · rename_i a b h1
    show (if (okn 8 d && okn 8 d) = true then some (eqn 8 d d) else none) = _
    rw [h, if_pos (by rfl), eqn_refl 8 d h]
theorem gq_nought : gq 0 = (0, 1) := gq_whole 0
end BK
namespace BK
open PySem PySem.Spec L2
set_option autoImplicit false
/-! ### dict(pairs) with texts as keys, read alone -/
def pairsD : List D → Option (List Str × List D)
  | [] => some ([], [])
  | .tup [.str k, v] :: ds => (pairsD ds).map fun p => (k :: p.1, v :: p.2)
  | _ => none
def cDict (rs : List R) : Option R := match rs with
  | [r] => match r.d with
    | .lst ds => (pairsD ds).bind fun p => if p.1.Nodup then some (.va (.dic p.1 p.2)) else none
    | _ => none
  | _ => none
section
variable {K : PySem.W.Frag} {ca : Nat → Addr}
theorem merge_nodup : ∀ (kvs acc : List (Key × V)), ((acc ++ kvs).map (·.1)).Nodup → mergeK acc kvs = acc ++ kvs
  | [], acc, _ => by rw [List.append_nil]; rfl
  | kv :: kvs, acc, h => by
    have e : putK acc kv.1 kv.2 = acc ++ [kv] := by
      unfold putK
      rw [if_neg]
      rw [List.any_eq_true]
      rintro ⟨p, hp, hk⟩
      have hk := of_decide_eq_true hk
      rw [List.map_append, List.map_cons, List.nodup_append] at h
      exact h.2.2 p.1 (List.mem_map_of_mem hp) kv.1 List.mem_cons_self hk
    show mergeK (putK acc kv.1 kv.2) kvs = _
    rw [e, merge_nodup kvs (acc ++ [kv]) (by rw [List.append_assoc]; exact h), List.append_assoc]
    rfl
theorem pairs_den {F : Hp} : ∀ {ds : List D} {p : List Str × List D} {vs : List V}, pairsD ds = some p → Dens K ca F vs ds → ∃ (ps : List Addr) (kvs : List (Key × V)), vs = ps.map V.ref ∧ Paired (fun p kv => SqT K F p [kV kv.1, kv.2]) ps kvs ∧ kvs.map (·.1) = p.1.map Sum.inr ∧ Dens K ca F (kvs.map (·.2)) p.2
  | [], p, vs, e, h => by
    cases e
    cases h
    exact ⟨[], [], rfl, .nil, rfl, .nil⟩
  | d :: ds, p, vs, e, h => by
    unfold pairsD at e
    split at e
    · rename_i he; cases he
    · rename_i k v ds' he
      injection he with h1 h2
      subst h1 h2
      obtain ⟨q, hq, rfl⟩ := Option.map_eq_some_iff.mp e
      cases h with
      | cons h hs =>
        obtain ⟨ps, kvs, rfl, h3, h4, h5⟩ := pairs_den hq hs
        cases h with
        | tup t d1 =>
          cases d1 with
          | cons a1 d1 =>
            cases d1 with
            | cons a2 d1 =>
              cases d1
              cases a1
              rename_i a w
              exact ⟨a :: ps, (.inr k, w) :: kvs, rfl, .cons t h3, by rw [List.map_cons, List.map_cons, h4], .cons a2 h5⟩
    · cases e
theorem cd_dict : CallD K ca (fun xs H Q => ∃ (a : Addr) (ps : List Addr) (kvs : List (Key × V)), xs = [.ref a] ∧ SqL K H a (ps.map V.ref) ∧ Paired (fun p kv => SqT K H p [kV kv.1, kv.2]) ps kvs ∧ ∀ p, H p = none → Q (.ref p) (upd H p (.dK (mergeK [] kvs)))) cDict := by
  intro B Hs F H vs xs z Q s hr e q
  unfold cDict at e
  split at e
  · rename_i r
    split at e
    · rename_i ds hd
      obtain ⟨p, hp, e⟩ := Option.bind_eq_some_iff.mp e
      split at e
      · rename_i hn
        cases e
        cases hr with
        | cons h hs =>
          cases hs
          obtain ⟨a, us, rfl, r1, d1⟩ := RV.lst s h hd
          obtain ⟨ps, kvs, rfl, h3, h4, h5⟩ := pairs_den hp d1
          have h6 : Paired (fun p kv => SqT K H p [kV kv.1, kv.2]) ps kvs := by
            clear h4 h5 r1 d1
            induction h3 with
            | nil => exact .nil
            | cons x _ ih => exact .cons (Same.seqT s x) ih
          refine ⟨a, ps, kvs, rfl, rd_l r1, h6, fun l hl => ?_⟩
          rw [merge_nodup kvs [] (by
            rw [List.nil_append, h4]
            unfold List.Nodup
            rw [List.pairwise_map]
            exact hn.imp fun h z => h (by injection z)), List.nil_append]
          exact q _ _ _ (.new s (.dK kvs) hl) (.dic upd_same h4 (h5.mono (same_upd (s.free hl))))
      · cases e
    · cases e
  · cases e
/-- d[k] -/
def lkD : List Str → List D → Str → Option D
  | k :: ks, v :: vs, x => if k = x then some v else lkD ks vs x
  | _, _, _ => none
def oDix (a b : R) : Option R := match a.d, b.d with
  | .dic ks vs, .str x => (lkD ks vs x).map .va
  | _, _ => none
theorem lk_den {F : Hp} : ∀ {ks : List Str} {vs : List D} {kvs : List (Key × V)} {x : Str} {d : D}, kvs.map (·.1) = ks.map Sum.inr → Dens K ca F (kvs.map (·.2)) vs → lkD ks vs x = some d → ∃ v, valV kvs (Sum.inr x) = some v ∧ Den K ca F v d
  | [], vs, kvs, x, d, _, _, e => by cases vs <;> cases e
  | k :: ks, [], kvs, x, d, _, _, e => by cases e
  | k :: ks, w :: vs, [], x, d, e1, _, _ => by cases e1
  | k :: ks, w :: vs, kv :: kvs, x, d, e1, h, e => by
    rw [List.map_cons, List.map_cons] at e1
    injection e1 with e2 e3
    cases h with
    | cons h hs =>
      unfold lkD at e
      unfold valV
      rw [List.find?_cons]
      split at e
      · rename_i hk
        subst hk
        cases e
        rw [decide_eq_true e2]
        exact ⟨_, rfl, h⟩
      · rename_i hk
        rw [decide_eq_false (by rw [e2]; intro z; injection z with z; exact hk z)]
        exact lk_den e3 hs e
end
section
variable {X : Cx} {ca : Nat → Addr} {o i : Expr} {m n : Gm → Option R} {pos : Pos}
theorem ev_dix (hu : X.A.units + 1 < cLine) (ha : EV X ca o m) (hb : EV X ca i n) (hs : NoSl i := by exact fun _ _ => rfl) : EV X ca (.Subscript o i pos) (e2 oDix m n) := by
  refine pe_imp (pe_dget hu ha hb hs) ?_
  rintro σ H Q ⟨H0, F0, F, Γ, z, S, e, q⟩
  unfold e2 at e
  obtain ⟨x, ex, e⟩ := Option.bind_eq_some_iff.mp e
  obtain ⟨y, ey, e⟩ := Option.bind_eq_some_iff.mp e
  refine ⟨H0, F0, F, Γ, x, S, ex, fun v H1 F1 x1 r1 => ⟨H0, F0, F1, Γ, y, S.mono x1, ey, fun w H2 F2 x2 r2 => ?_⟩⟩
  unfold oDix at e
  split at e
  · rename_i ks vs k h1 h2
    obtain ⟨d, hd, rfl⟩ := Option.map_eq_some_iff.mp e
    have d1 := RV.den (r1.mono x2) h1 rfl
    cases RV.den r2 h2 rfl
    cases d1 with
    | dic t h3 h4 =>
      obtain ⟨u, hu2, hd2⟩ := lk_den h3 h4 hd
      exact ⟨_, u, rfl, .inl ⟨_, _, .inl (x2.fh _ _ t), rfl, hu2.symm⟩, q u H2 F2 (x1.trans x2) hd2⟩
  · cases e
end
/-! in plain types -/
abbrev eDc {α : Type} (e : α → D) (kvs : List (Str × α)) : D := .dic (kvs.map (·.1)) (kvs.map fun p => e p.2)
theorem pairs_map {α : Type} (e : α → D) : ∀ (kvs : List (Str × α)), pairsD (kvs.map (eP2 D.str e)) = some (kvs.map (·.1), kvs.map fun p => e p.2)
  | [] => rfl
  | kv :: kvs => by
    rw [List.map_cons]
    show (pairsD (kvs.map (eP2 D.str e))).map _ = _
    rw [pairs_map e kvs]
    rfl
theorem f_dict {α : Type} {e : α → D} {kvs : List (Str × α)} {r : R} (hr : r.d = .lst (kvs.map (eP2 D.str e))) (h : (kvs.map (·.1)).Nodup) : cDict [r] = some (.va (eDc e kvs)) := by
  show (match r.d with
    | .lst ds => (pairsD ds).bind fun p => if p.1.Nodup then some (R.va (.dic p.1 p.2)) else none
    | _ => none) = _
  rw [hr]
  show ((pairsD (kvs.map (eP2 D.str e))).bind fun p => if p.1.Nodup then some (R.va (.dic p.1 p.2)) else none) = _
  rw [pairs_map]
  exact if_pos h
def lookD {α : Type} : List (Str × α) → Str → Option α
  | [], _ => none
  | kv :: kvs, x => if kv.1 = x then some kv.2 else lookD kvs x
theorem lk_map {α : Type} (e : α → D) : ∀ (kvs : List (Str × α)) (x : Str), lkD (kvs.map (·.1)) (kvs.map fun p => e p.2) x = (lookD kvs x).map e
  | [], _ => rfl
  | kv :: kvs, x => by
    rw [List.map_cons, List.map_cons]
    show (if kv.1 = x then some (e kv.2) else lkD (kvs.map (·.1)) (kvs.map fun p => e p.2) x) = (if kv.1 = x then some kv.2 else lookD kvs x).map e
    split
    · rfl
    · exact lk_map e kvs x
theorem f_dix {α : Type} {e : α → D} {kvs : List (Str × α)} {x : Str} {v : α} (h : lookD kvs x = some v) : oDix (.va (eDc e kvs)) (.va (.str x)) = some (.va (e v)) := by
  show (lkD (kvs.map (·.1)) (kvs.map fun p => e p.2) x).map R.va = _
  rw [lk_map, h]
  rfl
end BK
namespace BK
open PySem PySem.Spec L2
set_option autoImplicit false
/-! ### tests that take an item out of an own list -/
def tTVe (K : PySem.W.Frag) (ca : Nat → Addr) (m : Gm → Option (Bool × Gm)) : TT := fun σ H Q => ∃ H0 F0 F Γ b g', SR K ca H0 F0 σ H F Γ ∧ m Γ = some (b, g') ∧ ∀ H' F', SR K ca H0 F0 σ H' F' g' → Same F F' → Q b H'
structure TVe (X : Cx) (ca : Nat → Addr) (e : Expr) (m : Gm → Option (Bool × Gm)) (T : List Nat) : Prop where
  pt : L2.PT X e (tTVe X.K ca m)
  kp : ∀ g b g', m g = some (b, g') → ∀ j, j ∉ T → g'[j]? = g[j]?
def bEf (c : Gm → Option Bool) : Gm → Option (Bool × Gm) := fun g => (c g).map fun k => (k, g)
def bNotE (c : Gm → Option (Bool × Gm)) : Gm → Option (Bool × Gm) := fun g => (c g).map fun p => (!p.1, p.2)
def bAndE (c : Gm → Option Bool) (d : Gm → Option (Bool × Gm)) : Gm → Option (Bool × Gm) := fun g => (c g).bind fun k => if k = true then d g else some (false, g)
def bPop (i : Nat) (m : Gm → Option R) : Gm → Option (Bool × Gm) := fun g => match g[i]? with
  | some (.ow ds) => (m g).bind fun r => (ixD ds r).bind fun t => (ds[t]?).bind fun d => match d with
    | .bl b => some (b, g.set i (.ow (ds.eraseIdx t)))
    | _ => none
  | _ => none
def sIfE (c : Gm → Option (Bool × Gm)) (a b : Gm → Option Out) : Gm → Option Out := fun g => (c g).bind fun p => if p.1 = true then a p.2 else b p.2
section
variable {X : Cx} {ca : Nat → Addr} {e a b c : Expr} {rest : List Expr} {i : Nat} {m : Gm → Option R} {k : Gm → Option Bool} {l : Gm → Option (Bool × Gm)} {T : List Nat} {pos p1 p2 p3 : Pos} {x : Str}
theorem te_not (h : TVe X ca a l T) : TVe X ca (.UnaryOp .Not a pos) (bNotE l) T := by
  refine ⟨pt_imp (pt_not h.pt) ?_, fun g b g' e j hj => ?_⟩
  · rintro σ H Q ⟨H0, F0, F, Γ, c, g', S, e, q⟩
    unfold bNotE at e
    obtain ⟨p, ep, e⟩ := Option.map_eq_some_iff.mp e
    cases e
    exact ⟨H0, F0, F, Γ, p.1, p.2, S, ep, q⟩
  · unfold bNotE at e
    obtain ⟨p, ep, e⟩ := Option.map_eq_some_iff.mp e
    cases e
    exact h.kp g p.1 p.2 ep j hj
theorem te_and (ha : TV X ca a k) (hb : TVe X ca b l T) : TVe X ca (.BoolOp .And [a, b] pos) (bAndE k l) T := by
  refine ⟨pt_imp (pw_and ha (pw_and1 hb.pt)).pt ?_, fun g b g' e j hj => ?_⟩
  · rintro σ H Q ⟨H0, F0, F, Γ, c, g', S, e, q⟩
    unfold bAndE at e
    obtain ⟨d, ed, e⟩ := Option.bind_eq_some_iff.mp e
    refine ⟨H0, F0, F, Γ, d, S, ed, fun H1 F1 x1 => ?_⟩
    cases d with
    | true => exact iteT ⟨H0, F0, F1, Γ, c, g', S.mono x1, by simpa using e, fun H2 F2 S2 s2 => q H2 F2 S2 (x1.ff.trans s2)⟩
    | false =>
      rw [if_neg (by decide)] at e
      cases e
      exact iteF (q H1 F1 (S.mono x1) x1.ff)
  · unfold bAndE at e
    obtain ⟨d, ed, e⟩ := Option.bind_eq_some_iff.mp e
    split at e
    · exact hb.kp g b g' e j hj
    · cases e; rfl
theorem te_pop (he : EV X ca e m) (hx : PE X (.Name x p1) (tVar i)) (h : PE X (.Call (.Attribute (.Name x p1) "pop" p2) [e] [] p3) (tBM X.K "list" rPopAt (tVar i) (tCons (tEV X.K ca m) tNil)))
    (ht : ∀ whole, isTrue (.Call (.Attribute (.Name x p1) "pop" p2) [e] [] p3) X.env whole = (do let v ← whole; standAt (Expr.pos (.Call (.Attribute (.Name x p1) "pop" p2) [e] [] p3)); holding [v] (truthy v)) := by intro _; rfl) : TVe X ca (.Call (.Attribute (.Name x p1) "pop" p2) [e] [] p3) (bPop i m) [i] := by
  refine ⟨pt_imp (pt_val h ht) ?_, fun g b g' e j hj => ?_⟩
  · rintro σ H Q ⟨H0, F0, F, Γ, c, g', S, e, q⟩
    unfold bPop at e
    split at e
    · rename_i ds hg
      obtain ⟨r, er, e⟩ := Option.bind_eq_some_iff.mp e
      obtain ⟨t, et, e⟩ := Option.bind_eq_some_iff.mp e
      obtain ⟨d, ed, e⟩ := Option.bind_eq_some_iff.mp e
      split at e
      · cases e
        obtain ⟨k, rfl, k1, k2, k3⟩ := ixD_some et
        obtain ⟨a, vs, s, h1, h2, h3, h4⟩ := S.ow i ds hg
        refine ⟨_, s, .inl ⟨rfl, vs, SqL.of h3⟩, H0, F0, F, Γ, _, S, er, fun v H1 F1 x1 r1 => ?_⟩
        cases r1
        have h4' := h4.mono x1.ff
        obtain ⟨w, hw, hd⟩ := h4'.getV ed
        cases hd
        refine ⟨a, vs, k, t, _, rfl, rfl, x1.hh.l h3, k1, k2, by rw [h4.length]; exact k3, hw, ?_⟩
        exact ⟨_, rfl, q _ F1 ((S.mono x1).upd hg s (h4'.eraseIdx t)) x1.ff⟩
      · cases e
    · cases e
  · unfold bPop at e
    split at e
    · obtain ⟨r, er, e⟩ := Option.bind_eq_some_iff.mp e
      obtain ⟨t, et, e⟩ := Option.bind_eq_some_iff.mp e
      obtain ⟨d, ed, e⟩ := Option.bind_eq_some_iff.mp e
      split at e
      · cases e
        exact List.getElem?_set_ne fun z => hj (by simp [z])
      · cases e
    · cases e
theorem sv_ifE {A B : List Stmt} {m1 n1 : Gm → Option Out} {T' T'' : List Nat} (hc : TVe X ca c l T) (ha : SVs X ca A m1 T') (hb : SVs X ca B n1 T'') : SV X ca (.If c A B pos) (sIfE l m1 n1) (T ++ (T' ++ T'')) := by
  have i0 : ∀ j ∈ T, j ∈ T ++ (T' ++ T'') := fun j h => List.mem_append_left _ h
  have i1 : ∀ j ∈ T', j ∈ T ++ (T' ++ T'') := fun j h => List.mem_append_right _ (List.mem_append_left _ h)
  have i2 : ∀ j ∈ T'', j ∈ T ++ (T' ++ T'') := fun j h => List.mem_append_right _ (List.mem_append_right _ h)
  refine ⟨ps_imp (ps_if hc.pt ha.ps hb.ps) ?_, fun g o e => ?_⟩
  · rintro D σ H ⟨H0, F0, F, Γ, o, S, e, p⟩
    unfold sIfE at e
    obtain ⟨⟨k, g'⟩, ek, e⟩ := Option.bind_eq_some_iff.mp e
    refine ⟨H0, F0, F, Γ, k, g', S, ek, fun H1 F1 S1 s1 => ?_⟩
    cases k with
    | true => exact iteT ⟨H0, F0, F1, g', o, S1, by simpa using e, PostO.mono (T := []) s1 .refl (fun _ z => nomatch z) i1 p⟩
    | false => exact iteF ⟨H0, F0, F1, g', o, S1, by simpa using e, PostO.mono (T := []) s1 .refl (fun _ z => nomatch z) i2 p⟩
  · unfold sIfE at e
    obtain ⟨⟨k, g'⟩, ek, e⟩ := Option.bind_eq_some_iff.mp e
    have h0 := hc.kp g k g' ek
    have tr : ∀ {T1 : List Nat} {o : Out}, (∀ j ∈ T1, j ∈ T ++ (T' ++ T'')) → KpG T1 g' o → KpG (T ++ (T' ++ T'')) g o := fun {T1 o} i h => by
      cases o with
      | nx g2 => exact fun j hj => (h j fun z => hj (i j z)).trans (h0 j fun z => hj (i0 j z))
      | rt r => trivial
      | bk g2 => exact fun j hj => (h j fun z => hj (i j z)).trans (h0 j fun z => hj (i0 j z))
      | ct g2 => exact fun j hj => (h j fun z => hj (i j z)).trans (h0 j fun z => hj (i0 j z))
      | ex x => trivial
    split at e
    · exact tr i1 (ha.kp g' o e)
    · exact tr i2 (hb.kp g' o e)
end
/-! in plain types -/
section
variable {α γ : Type} {b n : Gm → Option Out} {g g1 : Gm} {P : α → Out → Prop} {s : Option α} {t : γ → Option α} {i : Nat}
theorem sIfE_eq {c : Gm → Option (Bool × Gm)} {A B : Gm → Option Out} {k : Bool} (h : c g = some (k, g1)) : sIfE c A B g = if k = true then A g1 else B g1 := by
  unfold sIfE
  rw [h]
  rfl
theorem j_ifE {c : Gm → Option (Bool × Gm)} {A B : Gm → Option Out} {k : Bool} {sA sB : Option α} (h : c g = some (k, g1)) (hA : k = true → J A (cont b n) g1 sA P) (hB : k = false → J B (cont b n) g1 sB P) : J (sCons (sIfE c A B) b) n g (if k = true then sA else sB) P := by
  unfold J
  rw [sCons_def, sIfE_eq h, bO_assoc]
  cases k with
  | true => exact hA rfl
  | false => exact hB rfl
theorem j_joinBE {c : Gm → Option (Bool × Gm)} {A B : Gm → Option Out} {k : Bool} {σ : Type} {St : σ → Gm → Prop} {sA sB : Option σ} {t : σ → Option α} (h : c g = some (k, g1)) (hA : k = true → J A nxt g1 sA (PN St)) (hB : k = false → J B nxt g1 sB (PN St)) (q : ∀ st g', St st g' → J b n g' (t st) P) : J (sCons (sIfE c A B) b) n g (b1 (if k = true then sA else sB) t) P := by
  refine j_cut (St := St) ?_ q
  unfold J
  rw [sIfE_eq h]
  cases k with
  | true => exact hA rfl
  | false => exact hB rfl
theorem j_joinLE {c : Gm → Option (Bool × Gm)} {A B : Gm → Option Out} {k : Bool} {σ : Type} {St : σ → Gm → Prop} {vA vB : σ} {t : σ → Option α} (h : c g = some (k, g1)) (hA : k = true → J A nxt g1 (some vA) (PN St)) (hB : k = false → J B nxt g1 (some vB) (PN St)) (q : ∀ st g', St st g' → J b n g' (t st) P) : J (sCons (sIfE c A B) b) n g (lt (if k = true then vA else vB) t) P := by
  have := j_joinBE (t := t) h hA hB q
  cases k with
  | true => exact this
  | false => exact this
theorem x_bPop {β : Type} {e : β → D} {xs : List β} {mk : Gm → Option R} {k : Int} {p : β × List β} {v : Bool} (h0 : g[i]? = some (.ow (xs.map e))) (hk : mk g = some (.va (.int k))) (hp : popI xs k = some p) (hv : e p.1 = .bl v) (h1 : g.set i (.ow (p.2.map e)) = g1) : bPop i mk g = some (v, g1) := by
  obtain ⟨q, h2, h3, h4⟩ := popI_D (e := e) hp
  unfold bPop
  rw [h0]
  show (mk g).bind _ = _
  rw [hk]
  show (ixD (xs.map e) (.va (.int k))).bind _ = _
  rw [h2]
  show ((xs.map e)[q]?).bind _ = _
  rw [h3]
  show (match e p.1 with
    | .bl b => some (b, g.set i (.ow ((xs.map e).eraseIdx q)))
    | _ => none) = _
  rw [hv, h4, ← h1]
theorem x_notE {c : Gm → Option (Bool × Gm)} {v : Bool} (h : c g = some (v, g1)) : bNotE c g = some (!v, g1) := by
  unfold bNotE
  rw [h]
  rfl
theorem x_andE {β : Type} {c : Gm → Option Bool} {d : Gm → Option (Bool × Gm)} {k : Bool} {xs : List β} {u : Bool × List β} {s : Option (Bool × List β)} (G : List β → Gm) (h0 : G xs = g) (hc : c g = some k) (hd : k = true → Sm (d g) s fun x y => y = (x.1, G x.2)) (e : (if k = true then s else some (false, xs)) = some u) : bAndE c d g = some (u.1, G u.2) := by
  unfold bAndE
  rw [hc]
  show (if k = true then d g else some (false, g)) = _
  cases k with
  | false =>
    cases e
    rw [if_neg (by decide), h0]
  | true =>
    rw [if_pos rfl] at e ⊢
    exact (hd rfl).eq (k := fun x : Bool × List β => (x.1, G x.2)) e
end
end BK
namespace BK
open PySem PySem.Spec L2 PyProof.Rows
set_option autoImplicit false
/-! ### defs that change their first argument, or tell a new tree -/
section
variable {X : Cx} {ca : Nat → Addr} {st : Stmt} {rest : List Stmt} {m n : Gm → Option Out} {T T' : List Nat}
theorem pss_sv (h1 : SV X ca st m T) (h2 : PSs X rest (tSV X.K ca n T')) : PSs X (st :: rest) (tSV X.K ca (sCons m n) (T ++ T')) := pss_tsv h1.ps h2
theorem pss_none : PSs X [] (tSV X.K ca sNil []) := svs_nil.ps
end
section
variable {P : Program} {w : World} {K : PySem.W.Frag} {mg : Str → Option Value} {base : Heap} {ca : Nat → Addr}
theorem fn_okN {x qual : Str} {st : Stmt} {f : Addr} {fd : FuncData} {N ps : List Str} {k n nN : Nat} {m : Gm → Option Out} {φ : BK.T → List D → Option BK.T} {T : List Nat} (F : FunA K x qual st f fd) (S : FnScope N ps (defScope st)) (hn : ps.length = n) (hN : N.length = nN) (hφ : φ = phiM m nN n)
    (hbody : ∀ (cdv : Value) (A : Around) (outer : List Env) (s : Shared) (H : Hp) (E : XK), Room k (A.deeper (envOfC qual (defScope st) s.heap.objs.size f cdv)) →
      PSs (cxOf CX0 P w K mg base N qual (defScope st) f cdv A outer s H E).nox (defBody st) (tSV K ca m T)) (hT : T = []) : FnOk P w K mg base CX0 (k + 1) f fd ps (spM K ca φ) := by
  subst hT
  exact fn_okM F S hn hN hφ hbody
end
/-! ### x != [], whatever x's items are -/
def rNeL (K : PySem.W.Frag) : R2 := fun x y H Q => ∃ (a b : Addr) (xs : List V), x = .ref a ∧ y = .ref b ∧ SqL K H a xs ∧ SqL K H b [] ∧ Q (.bl (!xs.isEmpty)) H
theorem op_neL {X : Cx} (hu0 : X.A.units + 64 < cLine) : OpR X (compareOp .NotEq) (rNeL X.K) := by
  have hu : X.A.units < cLine := Nat.lt_of_le_of_lt (Nat.le_add_right _ _) hu0
  intro pins s σ H x y v u Q I rx ry h
  obtain ⟨a, b, xs, rfl, rfl, ha, hb, q⟩ := h
  obtain rfl : v = .ref a := rx
  obtain rfl : u = .ref b := ry
  obtain ⟨its, rv, ⟨o, n, ho, hc, _, hd⟩, _⟩ := I.list ha
  obtain ⟨its', rv', ⟨o', n', ho', hc', _, hd'⟩, _⟩ := I.list hb
  have l1 : s.heap.IsList a its.toArray := ⟨o, ho, hc, n, hd⟩
  have l2 : s.heap.IsList b its'.toArray := ⟨o', ho', hc', n', hd'⟩
  cases rv'
  cases rv with
  | nil => exact SeqAt.RcNeAt.lists (e := fun _ => true) l1 l2 rfl hu (fun j h1 => absurd h1 (by simp)) X.prog X.w X.xe _ ⟨.bl _, H, I, rfl, q⟩
  | cons r rt => exact SeqAt.RcNeAt.lists_lengths l1 l2 (by simp) hu X.prog X.w X.xe _ ⟨.bl _, H, I, rfl, q⟩
def oNeL : R → R → Option R := fun a b => match a.d, b.d with
  | .lst xs, .lst [] => some (.va (.bl (!xs.isEmpty)))
  | _, _ => none
theorem od_neL {K : PySem.W.Frag} {ca : Nat → Addr} : OpD K ca (rNeL K) oNeL := by
  intro B H0 F H v w x y z Q s rx ry e q
  unfold oNeL at e
  split at e
  · rename_i xs h1 h2
    cases e
    obtain ⟨a, vs, rfl, r1, d1⟩ := RV.lst s rx h1
    obtain ⟨b, us, rfl, r2, d2⟩ := RV.lst s ry h2
    cases d2
    refine ⟨a, b, vs, rfl, rfl, rd_l r1, rd_l r2, ?_⟩
    have : vs.isEmpty = xs.isEmpty := by cases d1 <;> rfl
    rw [this]
    exact q _ H F (.refl s) (.bl _)
  · cases e
theorem f_neL {α : Type} {e : α → D} {xs : List α} {a b : R} (ha : a.d = .lst (xs.map e)) (hb : b.d = .lst []) : oNeL a b = some (.va (.bl (!xs.isEmpty))) := by
  unfold oNeL
  rw [ha, hb]
  cases xs <;> rfl
/-- a new list is told frozen -/
def eFz (m : Gm → Option R) : Gm → Option R := fun g => (m g).map R.fz
section
variable {X : Cx} {ca : Nat → Addr} {e : Expr} {m : Gm → Option R}
theorem ev_fzR (h : EV X ca e m) : EV X ca e (eFz m) := by
  refine pe_imp h ?_
  rintro σ H Q ⟨H0, F0, F, Γ, r, S, e, q⟩
  obtain ⟨r', er, rfl⟩ := Option.map_eq_some_iff.mp e
  refine ⟨H0, F0, F, Γ, r', S, er, fun v H' F' x rv => ?_⟩
  cases r' with
  | va d => exact q v H' F' x rv
  | tm ds =>
    obtain ⟨a, vs, rfl, h1, h2, h3, h4⟩ := rv
    exact q _ H' _ (x.frz h1 h3 h2) (Den.lst upd_same (h4.mono (same_upd h2)))
  | bw j ds => exact q v H' F' x rv
end
theorem x_fzR {m : Gm → Option R} {g : Gm} {ds : List D} (h : m g = some (.tm ds)) : eFz m g = some (.va (.lst ds)) := by
  unfold eFz
  rw [h]
  rfl
/-! ### loads as own trees -/
def tCt (c : Ct) : BK.T := .ins 3 [.fz (.str c.name), .fz (.int c.speed), .lst ((c.wheels.map eWh).map .fz)]
theorem d_tCt (c : Ct) : (tCt c).d = eCt c := by
  show D.ins 3 [.str c.name, .int c.speed, .lst (T.ds ((c.wheels.map eWh).map .fz))] = _
  rw [T.ds_fz]
def tCts (xs : List Ct) : BK.T := .lst (xs.map tCt)
theorem d_tCts (xs : List Ct) : (tCts xs).d = eL eCt xs := by
  show D.lst (T.ds (xs.map tCt)) = .lst (xs.map eCt)
  rw [T.ds_map, List.map_map]
  congr 1
  apply List.map_congr_left
  intro c _
  exact d_tCt c
section
variable {α γ : Type} {b n : Gm → Option Out} {g g1 : Gm} {P : α → Out → Prop} {s : Option α} {i : Nat}
theorem x_eTh {m : Gm → Option R} {t : BK.T} {d : D} {r : R} (h0 : g[i]? = some (.ot t)) (hd : t.d = d) (h1 : g.set i (.va d) = g1) (h : m g1 = some r) (hs : r.sc = true) : eTh i m g = some r := by
  subst hd
  unfold eTh
  rw [h0]
  show (m (g.set i (.va t.d))).bind _ = _
  rw [h1, h]
  show (if r.sc = true then some r else none) = _
  rw [if_pos hs]
theorem lastL_snoc (ts us : List BK.T) : lastL (ts ++ [.lst us]) = some (ts, us) := by
  unfold lastL
  rw [List.getLast?_concat, List.dropLast_concat]
theorem j_appF {c : Ct} {y : Wh} {m : Gm → Option R} (h0 : g[i]? = some (.ot (tCt c))) (h : m g = some (.va (eWh y))) (hl : c.wheels.length < 16777216) (h1 : g.set i (.ot (tCt ⟨c.name, c.speed, c.wheels ++ [y]⟩)) = g1) (k : J b n g1 s P) : J (sCons (sAppF i "wheels" m) b) n g s P :=
  j_seq (a := sAppF i "wheels" m) (g1 := g1) (by
    unfold sAppF
    rw [h0]
    show (lastL ([.fz (.str c.name), .fz (.int c.speed)] ++ [.lst ((c.wheels.map eWh).map .fz)])).bind _ = _
    rw [lastL_snoc]
    show (if lastF 3 "wheels" = true then (m g).bind _ else none) = _
    rw [if_pos (by decide +kernel), h]
    show (if ((c.wheels.map eWh).map BK.T.fz).length < LIM then _ else none) = _
    rw [if_pos (by rw [List.length_map, List.length_map]; exact hl), ← h1]
    unfold tCt
    rw [List.map_append, List.map_append]
    rfl) k
theorem j_callM {xs : List Ct} {c c' : Ct} {φ : BK.T → List D → Option BK.T} {kx : Gm → Option R} {as : Gm → Option (List R)} {rs : List R} {ds : List D} (h0 : g[i]? = some (.ot (tCts xs))) (hl : xs.getLast? = some c) (hk : kx g = some (.va (.int (-1)))) (ha : as g = some rs) (hd : allVa rs = some ds) (hf : φ (tCt c) ds = some (tCt c')) (h1 : g.set i (.ot (tCts (xs.dropLast ++ [c']))) = g1) (k : J b n g1 s P) : J (sCons (sCallM i φ kx as) b) n g s P :=
  j_seq (a := sCallM i φ kx as) (g1 := g1) (by
    unfold sCallM
    rw [h0]
    show ((xs.map tCt).getLast?).bind _ = _
    rw [List.getLast?_map, hl]
    show ((kx g).bind _) = _
    rw [hk]
    show (if (-1 : Int) = -1 then (as g).bind _ else none) = _
    rw [if_pos rfl, ha]
    show (allVa rs).bind _ = _
    rw [hd]
    show (φ (tCt c) ds).map _ = _
    rw [hf, ← h1]
    show some (Out.nx (g.set i (.ot (.lst ((xs.map tCt).dropLast ++ [tCt c']))))) = _
    unfold tCts
    rw [List.map_append, List.map_dropLast]
    rfl) k
theorem j_appC {xs : List Ct} {c : Ct} {φ : List D → Option BK.T} {as : Gm → Option (List R)} {rs : List R} {ds : List D} {g2 : Gm} (h0 : g[i]? = some (.ot (tCts xs))) (h2 : g.set i (.va (eL eCt xs)) = g2) (ha : as g2 = some rs) (hd : allVa rs = some ds) (hf : φ ds = some (tCt c)) (hw : c.wheels = []) (hl : xs.length < 16777216) (h1 : g.set i (.ot (tCts (xs ++ [c]))) = g1) (k : J b n g1 s P) : J (sCons (sAppC i φ as) b) n g s P :=
  j_seq (a := sAppC i φ as) (g1 := g1) (by
    unfold sAppC
    rw [h0]
    show (as (g.set i (.va (tCts xs).d))).bind _ = _
    rw [d_tCts, h2, ha]
    show (allVa rs).bind _ = _
    rw [hd]
    show (φ ds).bind _ = _
    rw [hf]
    show (if (decide ((xs.map tCt).length < LIM) && (tCt c).scl) = true then _ else none) = _
    have hs : (tCt c).scl = true := by unfold tCt; rw [hw]; rfl
    rw [if_pos (by rw [List.length_map, hs, Bool.and_true, decide_eq_true_eq]; exact hl), ← h1]
    unfold tCts
    rw [List.map_append]
    rfl) k
end
theorem sim_phiT {α : Type} {m : Gm → Option Out} {kt : Gm → Option BK.T} {N n : Nat} {ds : List D} {s : Option α} {k : α → BK.T} (hl : ds.length = n) (h : J m nxt (ds.map Slot.va ++ List.replicate (N - n) Slot.un) s fun v o => ∃ g, o = .nx g ∧ kt g = some (k v)) {x : α} (e : s = some x) : phiT m kt N n ds = some (k x) := by
  obtain ⟨o, e1, g, rfl, e2⟩ := h x e
  rw [bO_nxt] at e1
  unfold phiT
  rw [if_pos hl, e1]
  exact e2
theorem sim_phiM {α : Type} {m : Gm → Option Out} {N n : Nat} {t : BK.T} {ds : List D} {s : Option α} {k : α → BK.T} (hl : ds.length + 1 = n) (h : J m nxt (.ot t :: (ds.map Slot.va ++ List.replicate (N - n) Slot.un)) s fun v o => ∃ g : Gm, o = .nx g ∧ g[0]? = some (.ot (k v))) {x : α} (e : s = some x) : phiM m N n t ds = some (k x) := by
  obtain ⟨o, e1, g, rfl, e2⟩ := h x e
  rw [bO_nxt] at e1
  unfold phiM
  rw [if_pos hl, e1]
  show (match (g[0]? : Option Slot) with | some (Slot.ot t') => some t' | _ => none) = _
  rw [e2]
end BK
namespace BK
open PySem PySem.Spec L2 PyProof.Rows
set_option autoImplicit false
/-! ### an instance made of an own list that is copied -/
mutual
/-- data without lists and instances -/
def D.nl : D → Bool
  | .non => true
  | .bl _ => true
  | .int _ => true
  | .str _ => true
  | .tup xs => D.nls xs
  | _ => false
def D.nls : List D → Bool
  | [] => true
  | d :: ds => d.nl && D.nls ds
end
mutual
def T.nl : BK.T → Bool
  | .fz d => d.nl
  | .lst ts => T.nls ts
  | .ins _ ts => T.nls ts
def T.nls : List BK.T → Bool
  | [] => true
  | t :: ts => T.nl t && T.nls ts
end
section
variable {K : PySem.W.Frag} {ca : Nat → Addr} {F F' H : Hp}
mutual
theorem Den.nl (s : ∀ b o, F b = some o → (∀ xs, o ≠ .lst xs) → F' b = some o) : ∀ {v : V} {d : D}, d.nl = true → Den K ca F v d → Den K ca F' v d
  | _, _, _, .non => .non
  | _, _, _, .bl b => .bl b
  | _, _, _, .int i => .int i
  | _, _, _, .str x => .str x
  | _, _, e, .lst h hs => by cases e
  | _, _, e, .tup h hs => by
    refine .tup ?_ (Dens.nl s e hs)
    rcases h with (h | ⟨o, h⟩) | h
    · exact .inl (.inl (s _ _ h fun xs z => nomatch z))
    · exact .inl (.inr ⟨o, s _ _ h fun xs z => nomatch z⟩)
    · exact .inr h
  | _, _, e, .ins k h n hs => by cases e
  | _, _, e, .rol h hs => by cases e
  | _, _, e, .dic h n hs => by cases e
  | _, _, e, .exc h g n hs => by cases e
theorem Dens.nl (s : ∀ b o, F b = some o → (∀ xs, o ≠ .lst xs) → F' b = some o) : ∀ {vs : List V} {ds : List D}, D.nls ds = true → Dens K ca F vs ds → Dens K ca F' vs ds
  | _, _, _, .nil => .nil
  | _, _, e, .cons h hs => .cons (Den.nl s (by unfold D.nls at e; rw [Bool.and_eq_true] at e; exact e.1) h) (Dens.nl s (by unfold D.nls at e; rw [Bool.and_eq_true] at e; exact e.2) hs)
end
mutual
theorem OT.nl (s : ∀ b o, F b = some o → (∀ xs, o ≠ .lst xs) → F' b = some o) : ∀ {v : V} {t : BK.T} {as : List Addr}, T.nl t = true → OT K ca F H v t as → OT K ca F' H v t as
  | _, _, _, e, .fz h => .fz (Den.nl s e h)
  | _, _, _, e, .lst h hs => .lst h (OTs.nl s e hs)
  | _, _, _, e, .ins k h n hs => .ins k h n (OTs.nl s e hs)
theorem OTs.nl (s : ∀ b o, F b = some o → (∀ xs, o ≠ .lst xs) → F' b = some o) : ∀ {vs : List V} {ts : List BK.T} {as : List Addr}, T.nls ts = true → OTs K ca F H vs ts as → OTs K ca F' H vs ts as
  | _, _, _, _, .nil => .nil
  | _, _, _, e, .cons h hs => .cons (OT.nl s (by unfold T.nls at e; rw [Bool.and_eq_true] at e; exact e.1) h) (OTs.nl s (by unfold T.nls at e; rw [Bool.and_eq_true] at e; exact e.2) hs)
end
end
/-- C(.., x, ..), x an own list that is copied -/
def eMkB (i c n : Nat) (ms : List (Gm → Option R)) (as : Gm → Option (List R)) : Gm → Option R := fun g => match g[i]? with
  | some (.ow ds) => (as (g.set i (.va (.lst ds)))).bind fun rs => (cMkT c n ms rs).bind fun t => if T.nl t = true then some (.va t.d) else none
  | _ => none
section
variable {X : Cx} {ca : Nat → Addr} {k c n : Nat} {x : Str} {ms : List (Gm → Option R)} {e : Expr} {es : List Expr} {p pos : Pos} {as : Gm → Option (List R)} {i : Nat}
theorem ev_makeB (C : Maker X.prog X.w X.K X.mg X.base ca k c n x ms) (hr : Room (k + 1) X.A) (hg : Gl X x) (ha : AV X ca (e :: es) as) (hdb : (x == ("__debug__" : Str)) = false := by decide)
    (he : starEach (e :: es) X.env = (false, eval e X.env) :: starEach es X.env := by rfl) (hpl : (backTo pos (starEach es X.env)).any (·.1) = false := by rfl) : EV X ca (.Call (.Name x p) (e :: es) [] pos) (eMkB i c n ms as) := by
  refine pe_imp (pe_makeT C hr hg ha hdb he hpl) ?_
  rintro σ H Q ⟨H0, F0, F, Γ, z, S, e, q⟩
  unfold eMkB at e
  split at e
  rotate_left
  · cases e
  rename_i ds hi
  obtain ⟨rs, er, e⟩ := Option.bind_eq_some_iff.mp e
  obtain ⟨t, et, e⟩ := Option.bind_eq_some_iff.mp e
  split at e
  rotate_left
  · cases e
  rename_i hnl
  cases e
  obtain ⟨a, vs, s, h1, h2, h3, h4⟩ := S.ow i ds hi
  have S1 := S.frzE hi s h1 h2 h3 h4
  have hF1 : ∀ b, b ≠ a → upd F a (.lst vs) b = F b := fun b hb => upd_ne hb
  refine ⟨H0, F0, _, _, rs, t, S1, er, et, fun v H' F' bs x1 o1 nd hf => ?_⟩
  have ha2 : F' a = some (.lst vs) := x1.ff _ _ upd_same
  let F3 : Hp := fun b => if b = a then none else F' b
  have e3 : ∀ b, b ≠ a → F3 b = F' b := fun b hb => if_neg hb
  have e0 : F3 a = none := if_pos rfl
  have n3 : ∀ b o, F3 b = some o → b ≠ a := fun b o z y => by subst y; rw [e0] at z; cases z
  have o3 : OT X.K ca F3 H' v t bs := OT.nl (fun b o eb hb => by
    have : b ≠ a := fun y => by subst y; rw [ha2] at eb; exact hb _ (Option.some.inj eb).symm
    rw [e3 b this]; exact eb) hnl o1
  have x3 : Ext ca H F H' F3 := ⟨x1.hh, fun b o eb => by
    have hb : b ≠ a := fun y => by subst y; rw [h2] at eb; cases eb
    rw [e3 b hb]
    exact x1.ff _ _ (by rw [hF1 b hb]; exact eb), fun b o eb => by
    have hb := n3 b o eb
    rw [e3 b hb] at eb
    exact x1.fh _ _ eb, fun b hb => by
    have hba : b ≠ a := fun y => by subst y; exact hb e0
    rw [e3 b hba] at hb
    rcases x1.nw b hb with z | z
    · rw [hF1 b hba] at z; exact .inl z
    · exact .inr z, fun nt b ps z => by
    have hba := n3 b _ z
    rw [e3 b hba] at z
    exact x1.nt (nt.upd fun ps z => nomatch z) b ps z⟩
  have hf3 : ∀ b ∈ bs, noT H b = none ∧ F3 b = none := fun b hb => ⟨(hf b hb).1, by
    by_cases hba : b = a
    · rw [hba]; exact e0
    · rw [e3 b hba]; exact (hf b hb).2⟩
  obtain ⟨F2, x2, _, d2⟩ := ot_freeze x3 o3 hf3
  exact q v H' F2 x2 d2
end
theorem nls_wh : ∀ ws : List Wh, T.nls ((ws.map eWh).map .fz) = true
  | [] => rfl
  | w :: ws => by
    show (T.nl (.fz (eWh w)) && T.nls ((ws.map eWh).map .fz)) = true
    rw [nls_wh ws]
    rfl
theorem x_mkCt {i : Nat} {ms : List (Gm → Option R)} {as : Gm → Option (List R)} {g g1 : Gm} {x : Str} {s : Int} {ws : List Wh} (hm : ms = [eV 1, eV 2, eA cList (aC (eV 3) aN)]) (h0 : g[i]? = some (.ow (ws.map eWh))) (h1 : g.set i (.va (eL eWh ws)) = g1) (ha : as g1 = some [.va (.str x), .va (.int s), .va (eL eWh ws)]) : eMkB i 3 3 ms as g = some (.va (eCt ⟨x, s, ws⟩)) := by
  subst hm
  unfold eMkB
  rw [h0]
  show (as (g.set i (.va (.lst (ws.map eWh))))).bind _ = _
  rw [show g.set i (.va (.lst (ws.map eWh))) = g1 from h1, ha]
  have ec : cMkT 3 3 [eV 1, eV 2, eA cList (aC (eV 3) aN)] [.va (.str x), .va (.int s), .va (eL eWh ws)] = some (tCt ⟨x, s, ws⟩) := rfl
  rw [Option.bind_some, ec, Option.bind_some]
  rw [if_pos (by
    show (T.nl (.fz (.str x)) && (T.nl (.fz (.int s)) && (T.nls ((ws.map eWh).map .fz) && true))) = true
    rw [nls_wh]
    rfl), d_tCt]
end BK
namespace BK
open PySem PySem.Spec L2 PyProof.Rows
set_option autoImplicit false
/-! ### a, b, .. = xs.pop(k) -/
def sPopU (i : Nat) (m : Gm → Option R) (f : D → Gm → Option Gm) : Gm → Option Out := fun g => match g[i]? with
  | some (.ow ds) => (m g).bind fun r => (ixD ds r).bind fun t => (ds[t]?).bind fun d => (f d (g.set i (.ow (ds.eraseIdx t)))).map Out.nx
  | _ => none
section
variable {X : Cx} {ca : Nat → Addr} {e tg : Expr} {m : Gm → Option R} {f : D → Gm → Option Gm} {i : Nat} {T : List Nat} {x : Str} {p1 p2 p3 pos : Pos}
theorem sv_popU (hx : PE X (.Name x p1) (tVar i)) (he : EV X ca e m) (hg : GV X ca tg f T)
    (h : PE X (.Call (.Attribute (.Name x p1) "pop" p2) [e] [] p3) (tBM X.K "list" rPopAt (tVar i) (tCons (tEV X.K ca m) tNil)))
    (hs : swapsWithSole [tg] (.Call (.Attribute (.Name x p1) "pop" p2) [e] [] p3) pos.line X.env = pure false := by rfl) (hw : swappedStores [tg] (.Call (.Attribute (.Name x p1) "pop" p2) [e] [] p3) X.env = pure none := by rfl)
    (h1 : (assignEach [tg] X.env).map (·.2) = [assign tg X.env] := by rfl) : SV X ca (.Assign [tg] (.Call (.Attribute (.Name x p1) "pop" p2) [e] [] p3) pos) (sPopU i m f) (i :: T) := by
  have i2 : ∀ j ∈ T, j ∈ i :: T := fun j h => List.mem_cons_of_mem _ h
  refine ⟨ps_imp (ps_asg h hg.pg hs hw h1) ?_, fun g o e => ?_⟩
  · rintro D σ H ⟨H0, F0, F, Γ, o, S, e, p⟩
    unfold sPopU at e
    split at e
    · rename_i ds hgi
      obtain ⟨r, er, e⟩ := Option.bind_eq_some_iff.mp e
      obtain ⟨t, et, e⟩ := Option.bind_eq_some_iff.mp e
      obtain ⟨d, ed, e⟩ := Option.bind_eq_some_iff.mp e
      obtain ⟨g', z, rfl⟩ := Option.map_eq_some_iff.mp e
      obtain ⟨k, rfl, k1, k2, k3⟩ := ixD_some et
      obtain ⟨a, vs, s, q1, q2, q3, q4⟩ := S.ow i ds hgi
      refine ⟨_, s, .inl ⟨rfl, vs, SqL.of q3⟩, H0, F0, F, Γ, _, S, er, fun v H1 F1 x1 r1 => ?_⟩
      cases r1
      have q4' := q4.mono x1.ff
      obtain ⟨w, hw2, hd⟩ := q4'.getV ed
      refine ⟨a, vs, k, t, w, rfl, rfl, x1.hh.l q3, k1, k2, by rw [q4.length]; exact k3, hw2, ?_⟩
      have S2 := S.mono x1
      have S3 := S2.upd hgi s (q4'.eraseIdx t)
      exact ⟨H0, F0, F1, _, d, g', S3, hd, z, fun σ' S' k' => p σ' _ F1 S' x1.ff fun j hj => k' j fun y => hj (i2 j y)⟩
    · cases e
  · unfold sPopU at e
    split at e
    · obtain ⟨r, er, e⟩ := Option.bind_eq_some_iff.mp e
      obtain ⟨t, et, e⟩ := Option.bind_eq_some_iff.mp e
      obtain ⟨d, ed, e⟩ := Option.bind_eq_some_iff.mp e
      obtain ⟨g', z, rfl⟩ := Option.map_eq_some_iff.mp e
      exact KpG.after (g' := g.set i _) (T := [i]) kpg_set (hg.kp _ _ _ z) (by simp) i2
    · cases e
end
section
variable {α : Type} {b n : Gm → Option Out} {g g1 g2 : Gm} {P : α → Out → Prop} {s : Option α} {i : Nat}
theorem j_popU {β : Type} {e : β → D} {xs : List β} {mk : Gm → Option R} {f : D → Gm → Option Gm} {k : Int} {p : β × List β} (h0 : g[i]? = some (.ow (xs.map e))) (hk : mk g = some (.va (.int k))) (hp : popI xs k = some p) (h2 : g.set i (.ow (p.2.map e)) = g2) (h1 : f (e p.1) g2 = some g1) (K : J b n g1 s P) : J (sCons (sPopU i mk f) b) n g s P :=
  j_seq (a := sPopU i mk f) (g1 := g1) (by
    obtain ⟨q, h3, h4, h5⟩ := popI_D (e := e) hp
    unfold sPopU
    rw [h0]
    show (mk g).bind _ = _
    rw [hk]
    show (ixD (xs.map e) (.va (.int k))).bind _ = _
    rw [h3]
    show ((xs.map e)[q]?).bind _ = _
    rw [h4]
    show (f (e p.1) (g.set i (.ow ((xs.map e).eraseIdx q)))).map Out.nx = _
    rw [h5, h2, h1]
    rfl) K
end
end BK
namespace BK
open PySem PySem.Spec L2
open PyProof.Rows (envOfC)
set_option autoImplicit false
/-! ### exceptions: what raises, beside what answers -/
def XD (K : PySem.W.Frag) (ca : Nat → Addr) (F : Hp) (cls : Value) (d : Option Addr) (x : Exc) : Prop :=
  cls = .ref (ca x.c) ∧ ∃ fs : List (Str × V), (d = none ∧ fs = [] ∨ ∃ dd, d = some dd ∧ F dd = some (.xd fs)) ∧ fs.map (·.1) = xflds x.c ∧ Dens K ca F (fs.map (·.2)) (x.fs.map aD)
theorem aD_lf : ∀ fs : List (Int ⊕ Str), (fs.map aD).all (lfn 8) = true
  | [] => rfl
  | .inl i :: fs => by rw [List.map_cons, List.all_cons, aD_lf fs]; rfl
  | .inr s :: fs => by rw [List.map_cons, List.all_cons, aD_lf fs]; rfl
def spX (K : PySem.W.Frag) (ca : Nat → Addr) (ψ : List D → Option Exc) : Sp := fun vs H _ E => ∃ ds F x, Same F H ∧ NT F ∧ TabsC ca H ∧ Dens K ca F vs ds ∧ ψ ds = some x ∧ ∀ cls d H' F', Ext ca H F H' F' → XD K ca F' cls d x → E cls d H'
structure CalleeX (P : Program) (w : World) (K : PySem.W.Frag) (mg : Str → Option Value) (base : Heap) (ca : Nat → Addr) (k : Nat) (x : Str) (ψ : List D → Option Exc) : Prop where
  ex : ∃ (f : Addr) (fd : FuncData) (ps : List Str), FnOk P w K mg base (L2.CX P w) k f fd ps (spX K ca ψ) ∧ mg x = some (.ref f) ∧ PySem.W.keepIn K (.ref f) = true ∧ Binds K fd ps []
theorem CalleeX.mono {P : Program} {w : World} {K : PySem.W.Frag} {mg : Str → Option Value} {base : Heap} {ca : Nat → Addr} {j k : Nat} {x : Str} {ψ : List D → Option Exc} (C : CalleeX P w K mg base ca j x ψ) (h : j ≤ k) : CalleeX P w K mg base ca k x ψ := by
  obtain ⟨f, fd, ps, F, r⟩ := C.ex
  exact ⟨f, fd, ps, F.mono h, r⟩
/-- .. the call by values -/
def callX (ψ : List D → Option Exc) (rs : List R) : Option Exc := if rs.any R.isTm = true then none else ψ (rs.map R.d)
section
variable {X : Cx} {ca : Nat → Addr}
theorem callX_core {H0 F0 H F : Hp} {σ : L2.St} {Γ : Gm} {vs : List V} {rs : List R} {ψ : List D → Option Exc} {z : Exc} {Hs : Hp} {Q : VK} {E : XK} (S : SR X.K ca H0 F0 σ H F Γ) (hr : RVs X.K ca (BB σ Γ) Hs F H vs rs) (e : callX ψ rs = some z)
    (q : ∀ cls d H' F', Ext ca H F H' F' → XD X.K ca F' cls d z → E cls d H') : spX X.K ca ψ vs H Q E := by
  classical
  unfold callX at e
  split at e
  · cases e
  rename_i htm
  have er := e
  have hlf := aD_lf z.fs
  have s := S.ext.fh
  let Bp : Addr → Prop := fun b => ∃ j ds vs, BB σ Γ j b ds ∧ F b = none ∧ H b = some (.lst vs) ∧ Dens X.K ca F vs ds ∧ R.bw j ds ∈ rs
  let F3 : Hp := fun b => if Bp b then H b else F b
  have s13 : Same F F3 := fun b o h => by
    show (if Bp b then H b else F b) = some o
    by_cases hb : Bp b
    · obtain ⟨_, _, _, _, h2, _⟩ := hb
      rw [h2] at h; cases h
    · rw [if_neg hb]; exact h
  have s3 : Same F3 H := fun b o h => by
    have h : (if Bp b then H b else F b) = some o := h
    by_cases hb : Bp b
    · rw [if_pos hb] at h; exact h
    · rw [if_neg hb] at h; exact s b o h
  have dens : ∀ {us : List V} {ts : List R}, RVs X.K ca (BB σ Γ) Hs F H us ts → (∀ t ∈ ts, t.isTm = false) → (∀ t ∈ ts, t.isBw = true → t ∈ rs) → Dens X.K ca F3 us (ts.map R.d) := by
    intro us ts h
    induction h with
    | nil => intro _ _; exact .nil
    | cons h hs ih =>
      rename_i v t us ts
      intro g1 g2
      refine .cons ?_ (ih (fun t ht => g1 t (List.mem_cons_of_mem _ ht)) fun t ht => g2 t (List.mem_cons_of_mem _ ht))
      cases t with
      | va d => exact Den.mono s13 h
      | tm ds => exact absurd (g1 _ List.mem_cons_self) (by simp [R.isTm])
      | bw j ds =>
        obtain ⟨a, ws, rfl, hb, h2, h3, h4⟩ := h
        have hB : Bp a := ⟨j, ds, ws, hb, h2, h3, h4, g2 _ List.mem_cons_self rfl⟩
        refine .lst ?_ (h4.mono s13)
        show (if Bp a then H a else F a) = some (.lst ws)
        rw [if_pos hB]; exact h3
  have htm' : ∀ t ∈ rs, t.isTm = false := fun t ht => by
    cases q : t.isTm with
    | false => rfl
    | true => exact absurd (List.any_eq_true.mpr ⟨t, ht, q⟩) htm
  have nF : NT F := S.ext.nt S.nt0
  have n3 : NT F3 := fun b ps h => by
    have h : (if Bp b then H b else F b) = some (.tbl ps) := h
    by_cases hb : Bp b
    · rw [if_pos hb] at h
      obtain ⟨_, _, _, _, _, h3, _⟩ := hb
      rw [h3] at h; cases h
    · rw [if_neg hb] at h; exact nF b ps h
  refine ⟨rs.map R.d, F3, z, s3, n3, S.tc0.mono S.ext.hh, dens hr htm' fun t ht hb => ht, er, fun cls d H' F4 x4 r4 => ?_⟩
  let F5 : Hp := fun b => if Bp b then none else F4 b
  have s15 : Same F F5 := fun b o h => by
    show (if Bp b then none else F4 b) = some o
    by_cases hb : Bp b
    · obtain ⟨_, _, _, _, h2, _⟩ := hb
      rw [h2] at h; cases h
    · rw [if_neg hb]; exact x4.ff _ _ (s13 b o h)
  have s54 : Same F5 F4 := fun b o h => by
    have h : (if Bp b then none else F4 b) = some o := h
    by_cases hb : Bp b
    · rw [if_pos hb] at h; cases h
    · rw [if_neg hb] at h; exact h
  have x5 : Ext ca H F H' F5 := ⟨x4.hh, s15, s54.trans x4.fh, fun b h => by
    have h : (if Bp b then none else F4 b) ≠ none := h
    by_cases hb : Bp b
    · rw [if_pos hb] at h; exact absurd rfl h
    · rw [if_neg hb] at h
      rcases x4.nw b h with z | z
      · have z : (if Bp b then H b else F b) ≠ none := z
        rw [if_neg hb] at z
        exact .inl z
      · exact .inr z, fun _ b ps h => by
    have h : (if Bp b then none else F4 b) = some (.tbl ps) := h
    by_cases hb : Bp b
    · rw [if_pos hb] at h; cases h
    · rw [if_neg hb] at h; exact x4.nt n3 b ps h⟩
  have res : ∀ b o, F4 b = some o → (∀ xs, o ≠ .lst xs) → F5 b = some o := fun b o h hn => by
    show (if Bp b then none else F4 b) = some o
    by_cases hb : Bp b
    · exfalso
      obtain ⟨_, _, ws, _, h2, h3, _⟩ := id hb
      have h4 : F3 b = some (.lst ws) := by
        show (if Bp b then H b else F b) = _
        rw [if_pos hb]; exact h3
      have h5 := x4.ff _ _ h4
      rw [h] at h5
      cases h5
      exact hn ws rfl
    · rw [if_neg hb]; exact h
  obtain ⟨ec, fs, hd, hm, hs⟩ := r4
  exact q cls d H' F5 x5 ⟨ec, fs, hd.imp (fun z => z) fun ⟨dd, e1, e2⟩ => ⟨dd, e1, res _ _ e2 fun xs z => nomatch z⟩, hm, lf_dens res hlf hs⟩
end
/-! expressions that raise -/
def tXV (K : PySem.W.Frag) (ca : Nat → Addr) (W : WX) (m : Gm → Option Exc) : L2.St → Hp → Prop := fun σ H => ∃ H0 F0 F Γ x, SR K ca H0 F0 σ H F Γ ∧ m Γ = some x ∧ ∀ cls d H' F', Ext ca H F H' F' → XD K ca F' cls d x → W cls d σ H'
def XV (X : Cx) (ca : Nat → Addr) (e : Expr) (m : Gm → Option Exc) : Prop := ∀ W : WX, Takes X W → PE X e fun σ H _ => tXV X.K ca W m σ H
def XA (X : Cx) (ca : Nat → Addr) (es : List Expr) (m : Gm → Option Exc) : Prop := ∀ W : WX, Takes X W → PA X es fun σ H _ => tXV X.K ca W m σ H
def XI (X : Cx) (ca : Nat → Addr) (tg e : Expr) (m : Gm → Option Exc) : Prop := ∀ W : WX, Takes X W → PI X tg e fun σ H _ => tXV X.K ca W m σ H
/-- the operand is reckoned, then the rest raises -/
def xThen {α : Type} (a : Gm → Option α) (m : Gm → Option Exc) : Gm → Option Exc := fun g => (a g).bind fun _ => m g
def xOr (m n : Gm → Option Exc) : Gm → Option Exc := fun g => (m g).orElse fun _ => n g
theorem xOr_some {m n : Gm → Option Exc} {g : Gm} {x : Exc} (h : xOr m n g = some x) : m g = some x ∨ n g = some x := by
  unfold xOr at h
  cases q : m g with
  | some y => rw [q] at h; exact .inl h
  | none => rw [q] at h; exact .inr h
section
variable {X : Cx} {ca : Nat → Addr} {e : Expr} {es : List Expr} {m n : Gm → Option Exc} {a : Gm → Option R} {ms : Gm → Option (List R)} {pos p apos : Pos}
theorem tXV.mono {K : PySem.W.Frag} {W : WX} {σ : L2.St} {H0 F0 H F H1 F1 : Hp} {Γ : Gm} {x : Exc} (S : SR K ca H0 F0 σ H F Γ) (x1 : Ext ca H F H1 F1) (e : m Γ = some x) (q : ∀ cls d H' F', Ext ca H F H' F' → XD K ca F' cls d x → W cls d σ H') : tXV K ca W m σ H1 :=
  ⟨H0, F0, F1, Γ, x, S.mono x1, e, fun cls d H' F' x2 r => q cls d H' F' (x1.trans x2) r⟩
theorem pa_never : PA X es fun _ _ _ => False := ⟨fun _ _ _ _ _ _ _ h => h.elim⟩
theorem xa_head (h : XV X ca e m) (hs : starEach (e :: es) X.env = (false, eval e X.env) :: starEach es X.env := by rfl) : XA X ca (e :: es) m := fun W tk => pa_imp (pa_cons (h W tk) pa_never hs) fun σ H Q q => q
theorem xa_tail (he : EV X ca e a) (h : XA X ca es m) (hs : starEach (e :: es) X.env = (false, eval e X.env) :: starEach es X.env := by rfl) : XA X ca (e :: es) (xThen a m) := fun W tk => pa_imp (pa_cons he (h W tk) hs) (by
  rintro σ H Q ⟨H0, F0, F, Γ, x, S, e, q⟩
  obtain ⟨r, er, e⟩ := Option.bind_eq_some_iff.mp e
  exact ⟨H0, F0, F, Γ, r, S, er, fun v H1 F1 x1 _ => tXV.mono S x1 e q⟩)
theorem xa_or (h1 : XA X ca es m) (h2 : XA X ca es n) : XA X ca es (xOr m n) := fun W tk => ⟨fun ps pins s σ H Q I q => by
  obtain ⟨H0, F0, F, Γ, x, S, e, q⟩ := q
  rcases xOr_some e with e | e
  · exact (h1 W tk).run ps pins s σ H Q I ⟨H0, F0, F, Γ, x, S, e, q⟩
  · exact (h2 W tk).run ps pins s σ H Q I ⟨H0, F0, F, Γ, x, S, e, q⟩⟩
/-- f(..) raises -/
def xC (ψ : List D → Option Exc) (ms : Gm → Option (List R)) : Gm → Option Exc := fun g => (ms g).bind (callX ψ)
theorem xv_call {j : Nat} {x : Str} {ψ : List D → Option Exc} (C : CalleeX X.prog X.w X.K X.mg X.base ca j x ψ) (hr : Room j X.A) (hg : Gl X x) (ha : AV X ca (e :: es) ms) (hdb : (x == ("__debug__" : Str)) = false := by decide)
    (he : starEach (e :: es) X.env = (false, eval e X.env) :: starEach es X.env := by rfl) (hpl : (backTo pos (starEach es X.env)).any (·.1) = false := by rfl) : XV X ca (.Call (.Name x p) (e :: es) [] pos) (xC ψ ms) := by
  intro W tk
  obtain ⟨f, fd, ps, G, hm, hk, hb⟩ := C.ex
  refine pe_imp (pe_callS (E := WE W) G hr hg hm hk hb (passAt tk) ha hdb he hpl) ?_
  rintro σ H Q ⟨H0, F0, F, Γ, z, S, e, q⟩
  obtain ⟨rs, er, e⟩ := Option.bind_eq_some_iff.mp e
  refine ⟨H0, F0, F, Γ, rs, S, er, fun vs H1 F1 x1 r1 => ?_⟩
  exact callX_core (S.mono x1) r1 e fun cls d H2 F2 x2 r2 => q cls d H2 F2 (x1.trans x2) r2
/-- an argument raises -/
theorem xv_arg {j : Nat} {x : Str} {φ : Phi} {dds : List D} (C : Callee X.prog X.w X.K X.mg X.base ca j x φ dds) (hr : Room j X.A) (hg : Gl X x) (ha : XA X ca (e :: es) m) (hdb : (x == ("__debug__" : Str)) = false := by decide)
    (he : starEach (e :: es) X.env = (false, eval e X.env) :: starEach es X.env := by rfl) (hpl : (backTo pos (starEach es X.env)).any (·.1) = false := by rfl) : XV X ca (.Call (.Name x p) (e :: es) [] pos) m := by
  intro W tk
  obtain ⟨f, fd, ps, dvs, ds, G, hm, hk, hb, hv, hd⟩ := C.ex
  exact pe_imp (pe_call (E := E0) G hr hg hm hk hb hv pass0 (ha W tk) hdb he hpl) fun σ H Q h => h
theorem xv_lst (h : XA X ca es m) : XV X ca (.List es pos) m := fun W tk => pe_imp (pe_lst (h W tk)) fun σ H Q q => q
theorem xv_tup {k : Nat} (h : XA X ca es m) : XV X ca (.Tuple es k pos) m := fun W tk => pe_imp (pe_tup (h W tk)) fun σ H Q q => q
theorem xv_fld {f : Str} (h : XV X ca e m) (hb : attributeBase e f X.env (eval e X.env) = eval e X.env) : XV X ca (.Attribute e f pos) m := fun W tk => pe_imp (pe_fld (h W tk) hb) fun σ H Q q => q
theorem xi_seq {tg : Expr} (h : XV X ca e m) : XI X ca tg e m := fun W tk => pi_imp (pi_list (h W tk)) fun σ H R q => q
end
/-! statements that raise: the state behind is forgotten (XS), or it is the state ahead (X0) -/
def tXS (K : PySem.W.Frag) (ca : Nat → Addr) (W : WX) (m : Gm → Option Exc) : TS := fun _ σ H => ∃ H0 F0 F Γ x, SR K ca H0 F0 σ H F Γ ∧ m Γ = some x ∧ ∀ cls d σ' H' F', Ext ca H0 F0 H' F' → XD K ca F' cls d x → W cls d σ' H'
def XS (X : Cx) (ca : Nat → Addr) (st : Stmt) (m : Gm → Option Exc) : Prop := ∀ W : WX, Takes X W → PS X st (tXS X.K ca W m)
def XSs (X : Cx) (ca : Nat → Addr) (sts : List Stmt) (m : Gm → Option Exc) : Prop := ∀ W : WX, Takes X W → PSs X sts (tXS X.K ca W m)
def X0 (X : Cx) (ca : Nat → Addr) (st : Stmt) (m : Gm → Option Exc) : Prop := ∀ W : WX, Takes X W → PS X st fun _ σ H => tXV X.K ca W m σ H
def X0s (X : Cx) (ca : Nat → Addr) (sts : List Stmt) (m : Gm → Option Exc) : Prop := ∀ W : WX, Takes X W → PSs X sts fun _ σ H => tXV X.K ca W m σ H
def xSeq (m : Gm → Option Out) (n : Gm → Option Exc) : Gm → Option Exc := fun g => (m g).bind fun o => match o with
  | .nx g' => n g'
  | _ => none
def xIf (c : Gm → Option Bool) (m n : Gm → Option Exc) : Gm → Option Exc := fun g => (c g).bind fun k => if k = true then m g else n g
def xNo : Gm → Option Exc := fun _ => none
section
variable {X : Cx} {ca : Nat → Addr} {e : Expr} {st : Stmt} {rest : List Stmt} {m n : Gm → Option Exc} {mo : Gm → Option Out} {T : List Nat} {pos p apos : Pos}
theorem X0.xs (h : X0 X ca st m) : XS X ca st m := fun W tk => ps_imp (h W tk) (by
  rintro D σ H ⟨H0, F0, F, Γ, x, S, e, q⟩
  exact ⟨H0, F0, F, Γ, x, S, e, fun cls d H' F' x1 r => q cls d σ H' F' (S.ext.trans x1) r⟩)
theorem X0s.xs (h : X0s X ca rest m) : XSs X ca rest m := fun W tk => pss_imp (h W tk) (by
  rintro D σ H ⟨H0, F0, F, Γ, x, S, e, q⟩
  exact ⟨H0, F0, F, Γ, x, S, e, fun cls d H' F' x1 r => q cls d σ H' F' (S.ext.trans x1) r⟩)
theorem PSs.ps {t : TS} (h : PS X.nox st t) : PS X st t := ⟨fun pins s σ H D I hw =>
  wpAny_mono (h.run pins s σ H D (I.wish _) hw) (fun _ _ q => q.unwish) fun _ _ z => False.elim z⟩
theorem x0_one (h : X0 X ca st m) : X0s X ca (st :: rest) m := fun W tk => pss_imp (pss_cons (h W tk) (pss_never (X := X))) fun D σ H q => q
theorem xss_head (h : XS X ca st m) : XSs X ca (st :: rest) m := fun W tk => pss_imp (pss_cons (h W tk) (pss_never (X := X))) fun D σ H q => q
theorem xss_tail (h : SV X.nox ca st mo T) (hr : XSs X ca rest m) : XSs X ca (st :: rest) (xSeq mo m) := fun W tk => pss_imp (pss_cons (PSs.ps h.ps) (hr W tk)) (by
  rintro D σ H ⟨H0, F0, F, Γ, x, S, e, q⟩
  obtain ⟨o, eo, e⟩ := Option.bind_eq_some_iff.mp e
  refine ⟨H0, F0, F, Γ, o, S, eo, ?_⟩
  cases o with
  | nx g' => exact fun σ' H' F' S' _ _ => ⟨H0, F0, F', g', x, S', e, q⟩
  | rt r => cases e
  | bk g' => cases e
  | ct g' => cases e
  | ex x => cases e)
theorem xss_or (h1 : XSs X ca rest m) (h2 : XSs X ca rest n) : XSs X ca rest (xOr m n) := fun W tk => ⟨fun pins s σ H D I q => by
  obtain ⟨H0, F0, F, Γ, x, S, e, q⟩ := q
  rcases xOr_some e with e | e
  · exact (h1 W tk).run pins s σ H D I ⟨H0, F0, F, Γ, x, S, e, q⟩
  · exact (h2 W tk).run pins s σ H D I ⟨H0, F0, F, Γ, x, S, e, q⟩⟩
theorem xss_no : XSs X ca rest xNo := fun W tk => pss_imp pss_never (by
  rintro D σ H ⟨H0, F0, F, Γ, x, S, e, q⟩
  cases e)
theorem x0s_no : X0s X ca rest xNo := fun W tk => pss_imp pss_never (by
  rintro D σ H ⟨H0, F0, F, Γ, x, S, e, q⟩
  cases e)
theorem xs_if {c : Expr} {a b : List Stmt} {mc : Gm → Option Bool} (hc : TV X ca c mc) (ha : XSs X ca a m) (hb : XSs X ca b n) : XS X ca (.If c a b pos) (xIf mc m n) := fun W tk => ps_imp (ps_if hc (ha W tk) (hb W tk)) (by
  rintro D σ H ⟨H0, F0, F, Γ, x, S, e, q⟩
  obtain ⟨k, ek, e⟩ := Option.bind_eq_some_iff.mp e
  refine ⟨H0, F0, F, Γ, k, S, ek, fun H1 F1 x1 => ?_⟩
  cases k with
  | true => exact iteT ⟨H0, F0, F1, Γ, x, S.mono x1, by simpa using e, q⟩
  | false => exact iteF ⟨H0, F0, F1, Γ, x, S.mono x1, by simpa using e, q⟩)
theorem x0_if {c : Expr} {a b : List Stmt} {mc : Gm → Option Bool} (hc : TV X ca c mc) (ha : X0s X ca a m) (hb : X0s X ca b n) : X0 X ca (.If c a b pos) (xIf mc m n) := fun W tk => ps_imp (ps_if hc (ha W tk) (hb W tk)) (by
  rintro D σ H ⟨H0, F0, F, Γ, x, S, e, q⟩
  obtain ⟨k, ek, e⟩ := Option.bind_eq_some_iff.mp e
  refine ⟨H0, F0, F, Γ, k, S, ek, fun H1 F1 x1 => ?_⟩
  cases k with
  | true => exact iteT (tXV.mono S x1 (by simpa using e) q)
  | false => exact iteF (tXV.mono S x1 (by simpa using e) q))
theorem x0_expr (h : XV X ca e m) (hs : swapsWith e none pos.line X.env = pure false := by rfl) : X0 X ca (.Expr e pos) m := fun W tk => ps_imp (ps_expr (h W tk) hs) fun D σ H q => q
theorem x0_ret (h : XV X ca e m) : X0 X ca (.Return (some e) pos) m := fun W tk => ps_imp (ps_ret (h W tk)) fun D σ H q => q
theorem x0_set {i : Nat} {x : Str} {pos' : Pos} (hN : X.N.Nodup) (hi : X.N[i]? = some x) (hx : Loc X.env.scope x) (h : XV X ca e m) (hs : swapsWith e (some (.Name x pos')) pos.line X.env = pure false := by rfl) (hf : X.fn x = true ∨ X.env.scope.names.lookup x = some .local := by first | exact .inl rfl | exact .inr rfl | assumption) :
    X0 X ca (.Assign [.Name x pos'] e pos) m := fun W tk => ps_imp (ps_set hN hi hx (h W tk) hs hf) fun D σ H q => q
theorem x0_asg {tg : Expr} {f : D → Gm → Option Gm} {U : List Nat} (h : XV X ca e m) (hg : GV X ca tg f U) (hs : swapsWithSole [tg] e pos.line X.env = pure false := by rfl) (hw : swappedStores [tg] e X.env = pure none := by rfl)
    (h1 : (assignEach [tg] X.env).map (·.2) = [assign tg X.env] := by rfl) : X0 X ca (.Assign [tg] e pos) m := fun W tk => ps_imp (ps_asg (h W tk) hg.pg hs hw h1) fun D σ H q => q
/-- xs.append(e), e raises -/
def xApp (i : Nat) (m : Gm → Option Exc) : Gm → Option Exc := fun g => match g[i]? with
  | some (.ow _) => m g
  | _ => none
theorem x0_app {i : Nat} {x : Str} {p1 p2 p3 : Pos} (h : ∀ (t : TA), PA X [e] t → PE X (.Call (.Attribute (.Name x p1) "append" p2) [e] [] p3) (tBM X.K "list" rAppend (tVar i) t)) (he : XV X ca e m) (hs1 : starEach [e] X.env = (false, eval e X.env) :: starEach [] X.env := by rfl)
    (hs : swapsWith (.Call (.Attribute (.Name x p1) "append" p2) [e] [] p3) none pos.line X.env = pure false := by rfl) : X0 X ca (.Expr (.Call (.Attribute (.Name x p1) "append" p2) [e] [] p3) pos) (xApp i m) := fun W tk => ps_imp (ps_expr (h _ (xa_head he hs1 W tk)) hs) (by
  rintro D σ H ⟨H0, F0, F, Γ, x, S, e, q⟩
  unfold xApp at e
  split at e
  · rename_i ds hg
    obtain ⟨a, vs, s, h1, h2, h3, h4⟩ := S.ow i ds hg
    exact ⟨_, s, .inl ⟨rfl, vs, SqL.of h3⟩, H0, F0, F, Γ, x, S, e, q⟩
  · cases e)
end
/-! a loop in whose turns something raises -/
def xForL (f : D → Gm → Option Gm) (b : Gm → Option Out) (bx : Gm → Option Exc) : List D → Gm → Option Exc
  | [], _ => none
  | d :: ds, g => (f d g).bind fun g1 => match bx g1 with
    | some x => some x
    | none => (b g1).bind fun o => match o with
      | .nx g2 => xForL f b bx ds g2
      | .ct g2 => xForL f b bx ds g2
      | _ => none
def xFor (mi : Gm → Option (List Nat × List D)) (f : D → Gm → Option Gm) (b : Gm → Option Out) (bx : Gm → Option Exc) (T : List Nat) : Gm → Option Exc := fun g => (mi g).bind fun p => if p.1.all (fun j => !T.contains j) = true then xForL f b bx p.2 g else none
def xWh (c : Gm → Option Bool) (b : Gm → Option Out) (bx : Gm → Option Exc) : Nat → Gm → Option Exc
  | 0, _ => none
  | n + 1, g => (c g).bind fun k => if k = true then match bx g with
      | some x => some x
      | none => (b g).bind fun o => match o with
        | .nx g' => xWh c b bx n g'
        | .ct g' => xWh c b bx n g'
        | _ => none
    else none
section
variable {X : Cx} {ca : Nat → Addr} {pos : Pos}
theorem pss_or {sts : List Stmt} {t u : TS} (h1 : PSs X sts t) (h2 : PSs X sts u) : PSs X sts fun D σ H => t D σ H ∨ u D σ H := ⟨fun pins s σ H D I q => by
  rcases q with q | q
  · exact h1.run pins s σ H D I q
  · exact h2.run pins s σ H D I q⟩
theorem ps_or2 {st : Stmt} {t u : TS} (h1 : PS X st t) (h2 : PS X st u) : PS X st fun D σ H => t D σ H ∨ u D σ H := ⟨fun pins s σ H D I q => by
  rcases q with q | q
  · exact h1.run pins s σ H D I q
  · exact h2.run pins s σ H D I q⟩
theorem xs_for {tg iter : Expr} {body : List Stmt} {mi : Gm → Option (List Nat × List D)} {f : D → Gm → Option Gm} {b : Gm → Option Out} {bx : Gm → Option Exc} {T T' U : List Nat} (hp : PassesOwn (model X.prog X.w) X.A X.env X.xe) (hc : X.calm = true) (hi : IV X ca tg iter mi) (hg : GV X ca tg f T) (hb : SVs X.nox ca body b T') (hx : XSs X ca body bx)
    (hU : U = T ++ T') (hs : ∀ x, foldedSetIterable iter X.env x = pure x := by intro _; rfl) : XS X ca (.For tg iter body [] pos) (xFor mi f b bx U) := by
  subst hU
  intro W tk
  have i1 : ∀ j ∈ T, j ∈ T ++ T' := fun j h => List.mem_append_left _ h
  have i2 : ∀ j ∈ T', j ∈ T ++ T' := fun j h => List.mem_append_right _ h
  refine ps_imp (ps_for hp hc hi hg.pg (pss_or (PSs.nox hb.ps) (hx W tk)) hs) ?_
  rintro D σ H ⟨H0, F0, F, Γ, x, S, e, p⟩
  unfold xFor at e
  obtain ⟨⟨ps, ds⟩, em, e⟩ := Option.bind_eq_some_iff.mp e
  by_cases hall : (ps.all fun j => !(T ++ T').contains j) = true
  · rw [if_pos hall] at e
    refine ⟨H0, F0, F, Γ, (ps, ds), S, em, fun J H1 F1 PL x1 jo hPL => ?_⟩
    have hj : ∀ q ∈ PL, q.1 ∉ T ++ T' := fun q hq hm => by
      have := List.all_eq_true.mp hall q.1 (hPL q hq).1
      simp at this
      rcases List.mem_append.mp hm with z | z
      · exact this.1 z
      · exact this.2 z
    refine ⟨fun i m σ' H' => ∃ F' g, m = ds.length - i ∧ SR X.K ca H0 F0 σ' H' F' g ∧ Same F1 F' ∧ xForL f b bx (ds.drop i) g = some x ∧ i ≤ ds.length ∧ (∀ q ∈ PL, BB σ' g q.1 q.2.1 q.2.2),
      ⟨_, F1, Γ, rfl, S.mono x1, Same.refl _, e, Nat.zero_le _, fun q hq => (hPL q hq).2⟩, ?_⟩
    rintro i m σ2 H2 ⟨F2, g, rfl, S2, s2, e2, hi2, hb2⟩
    have hpin : ∀ q ∈ PL, ∃ vs, H2 q.2.1 = some (.lst vs) ∧ Dens X.K ca F2 vs q.2.2 := fun q hq => by
      obtain ⟨z1, z2⟩ := hb2 q hq
      obtain ⟨a, vs, y1, _, _, y4, y5⟩ := S2.ow _ _ z2
      rw [z1] at y1
      cases y1
      exact ⟨vs, y4, y5⟩
    by_cases hlt : i < ds.length
    · have hd : ds[i]? = some ds[i] := List.getElem?_eq_getElem hlt
      have ed : ds.drop i = ds[i] :: ds.drop (i + 1) := List.drop_eq_getElem_cons hlt
      rw [ed] at e2
      unfold xForL at e2
      obtain ⟨g1, eg, e2⟩ := Option.bind_eq_some_iff.mp e2
      obtain ⟨jgo, jy⟩ := jo.go i _ H2 F2 hd s2 S2.ext.fh hpin
      refine .inr ⟨jgo, fun σ' H' => ∃ F' g, SR X.K ca H0 F0 σ' H' F' g ∧ Same F1 F' ∧ xForL f b bx (ds.drop (i + 1)) g = some x ∧ (∀ q ∈ PL, BB σ' g q.1 q.2.1 q.2.2), fun σ' H' ⟨F', g', w1, w2, w3, w5⟩ => ⟨ds.length - (i + 1), by omega, F', g', rfl, w1, w2, w3, hlt, w5⟩, fun y H3 yy => ?_⟩
      obtain ⟨F3, x3, d3⟩ := jy y H3 yy
      refine ⟨H0, F0, F3, g, _, g1, S2.mono x3, d3, eg, fun σ4 S4 k4 => ?_⟩
      have kg1 : KpG (T ++ T') g (.nx g1) := (hg.kp _ _ _ eg).mono i1
      cases hbx : bx g1 with
      | some x' =>
        rw [hbx] at e2
        cases e2
        exact .inr ⟨H0, F0, F3, g1, x, S4, hbx, p⟩
      | none =>
        rw [hbx] at e2
        obtain ⟨o1, eo, e2⟩ := Option.bind_eq_some_iff.mp e2
        refine .inl ⟨H0, F0, F3, g1, o1, S4, eo, ?_⟩
        have kg := hb.kp _ _ eo
        have step : ∀ (g5 : Gm) (σ5 : L2.St) (H5 F5 : Hp), KpG T' g1 (.nx g5) → SR X.K ca H0 F0 σ5 H5 F5 g5 → Same F3 F5 → Kp T' σ4 σ5 → xForL f b bx (ds.drop (i + 1)) g5 = some x →
            ∃ F' g, SR X.K ca H0 F0 σ5 H5 F' g ∧ Same F1 F' ∧ xForL f b bx (ds.drop (i + 1)) g = some x ∧ (∀ q ∈ PL, BB σ5 g q.1 q.2.1 q.2.2) := fun g5 σ5 H5 F5 kg S5 s5 k5 e5 => by
          have kk : Kp (T ++ T') σ2 σ5 := k4.trans k5 i1 i2
          have kkg : KpG (T ++ T') g (.nx g5) := KpG.after kg1 kg (fun _ z => z) i2
          have sf : Same F2 F5 := x3.ff.trans s5
          refine ⟨F5, g5, S5, s2.trans sf, e5, fun q hq => ⟨?_, ?_⟩⟩
          · rw [kk _ (hj q hq)]; exact (hb2 q hq).1
          · rw [(kkg : ∀ j, j ∉ T ++ T' → g5[j]? = g[j]?) _ (hj q hq)]; exact (hb2 q hq).2
        cases o1 with
        | nx g5 => exact fun σ5 H5 F5 S5 s5 k5 => step g5 σ5 H5 F5 kg S5 s5 k5 e2
        | ct g5 => exact fun σ5 H5 F5 S5 s5 k5 => step g5 σ5 H5 F5 kg S5 s5 k5 e2
        | bk g5 => cases e2
        | rt r => cases e2
        | ex x => cases e2
    · have ei : i = ds.length := by omega
      subst ei
      rw [List.drop_length] at e2
      cases e2
  · rw [if_neg hall] at e
    cases e
/-- the iterable raises -/
theorem xs_forI {tg iter : Expr} {body : List Stmt} {m : Gm → Option Exc} {f : D → Gm → Option Gm} {T : List Nat} (hp : PassesOwn (model X.prog X.w) X.A X.env X.xe) (hc : X.calm = true) (hi : XI X ca tg iter m) (hg : GV X ca tg f T) (hs : ∀ x, foldedSetIterable iter X.env x = pure x := by intro _; rfl) : X0 X ca (.For tg iter body [] pos) m := fun W tk =>
  ps_imp (ps_for hp hc (hi W tk) hg.pg pss_never hs) fun D σ H q => q
theorem xs_while {c : Expr} {body : List Stmt} {mc : Gm → Option Bool} {b : Gm → Option Out} {bx : Gm → Option Exc} {T : List Nat} {N : Nat} (hp : PassesOwn (model X.prog X.w) X.A X.env X.xe) (hc : TV X ca c mc) (hb : SVs X.nox ca body b T) (hx : XSs X ca body bx) : XS X ca (.While c body [] pos) (xWh mc b bx N) := by
  intro W tk
  refine ps_imp (ps_while hp hc (pss_or (PSs.nox hb.ps) (hx W tk))) ?_
  rintro D σ H ⟨H0, F0, F, Γ, x, S, e, p⟩
  refine ⟨fun m σ' H' => ∃ F' g, SR X.K ca H0 F0 σ' H' F' g ∧ xWh mc b bx m g = some x, ⟨N, F, Γ, S, e⟩, ?_⟩
  rintro m σ2 H2 ⟨F2, g, S2, e2⟩
  cases m with
  | zero => cases e2
  | succ m =>
    unfold xWh at e2
    obtain ⟨k, ek, e2⟩ := Option.bind_eq_some_iff.mp e2
    refine ⟨H0, F0, F2, g, k, S2, ek, fun H3 F3 x3 => ?_⟩
    cases k with
    | false =>
      rw [if_neg (by decide)] at e2
      cases e2
    | true =>
      rw [if_pos rfl] at e2
      rw [if_pos rfl]
      refine ⟨fun σ' H' => ∃ F' g, SR X.K ca H0 F0 σ' H' F' g ∧ xWh mc b bx m g = some x, fun σ' H' ⟨F', g', w1, w2⟩ => ⟨m, by omega, F', g', w1, w2⟩, ?_⟩
      cases hbx : bx g with
      | some x' =>
        rw [hbx] at e2
        cases e2
        exact .inr ⟨H0, F0, F3, g, x, S2.mono x3, hbx, p⟩
      | none =>
        rw [hbx] at e2
        obtain ⟨o1, eo, e2⟩ := Option.bind_eq_some_iff.mp e2
        refine .inl ⟨H0, F0, F3, g, o1, S2.mono x3, eo, ?_⟩
        cases o1 with
        | nx g5 => exact fun σ5 H5 F5 S5 s5 k5 => ⟨F5, g5, S5, e2⟩
        | ct g5 => exact fun σ5 H5 F5 S5 s5 k5 => ⟨F5, g5, S5, e2⟩
        | bk g5 => cases e2
        | rt r => cases e2
        | ex x => cases e2
end
end BK
namespace BK
open PySem PySem.Spec L2
open PyProof.Rows (envOfC)
set_option autoImplicit false
/-! ### exceptions: made, raised, let out, caught -/
/-- __init__ of an exception class that stores its arguments by name -/
def spXI (C : Addr) (names : List Str) : Sp := fun vs H Q _ => ∃ (H0 : Hp) (a : Addr) (us : List V), vs = .ref a :: us ∧ us.length = names.length ∧ H0 a = none ∧ H = upd H0 a (exo a C none) ∧
  ∀ (d : Addr) (H2 : Hp), H0 d = none → d ≠ a → H2 a = some (exo a C (some d)) → H2 d = some (exd d (names.zip us).reverse) → (∀ b, b ≠ a → b ≠ d → H2 b = H0 b) → Q .non H2
section
variable {X : Cx} {e : Expr} {es : List Expr} {ta : TA} {p1 p2 pos : Pos}
/-- Base.__init__(self, ..), where it is ValueError's -/
theorem pe_winit {x : Str} {C : Addr} {mc : Value} {pl : Sem Bool} (hg : Gl X x) (hm : X.mg x = some (.ref C)) (hrd : PySem.W.readsIn X.K C mc = true) (hga : PySem.W.specialIn X.K (.ref C) "__getattribute__" = some (some (.builtin "type.__getattribute__")))
    (hfc : PySem.W.findCls X.K (.ref C) mc "__init__" = some (.val (.builtin "ValueError.__init__"))) (ha : PA X (e :: es) ta)
    (he : starEach (e :: es) X.env = (false, eval e X.env) :: starEach es X.env := by rfl) (hpl : (backTo pos (starEach es X.env)).any (·.1) = false := by rfl)
    (hev : eval (.Call (.Attribute (.Name x p1) "__init__" p2) (e :: es) [] pos) X.env = (do
      let ov ← eval (.Name x p1) X.env
      standAt p2.atName
      let (f, first) ← holding [ov] (getMethod ov "__init__" pl)
      callWith pos f first (backTo pos (starEach (e :: es) X.env)) (backToKw pos (keywordEach [] X.env))) := by rfl) (hdb : (x == ("__debug__" : Str)) = false := by decide) :
    PE X (.Call (.Attribute (.Name x p1) "__init__" p2) (e :: es) [] pos) (tVeI X.K ta) := by
  refine ⟨fun pins s σ H Q I h => ?_⟩
  refine PySem.W.methodCall_KW (ld_glob I hg hm ?_ hdb) hev
  refine PySem.W.method_cls I.kIn hga (PySem.W.cls_value I.kIn hrd hfc rfl ?_)
  have I2 := I.tok (s.toks + 1)
  refine PyProof.Rows.callWith_method1 (thn (ha.run pos pins _ σ H _ I2 h) fun us s1 ⟨vs, H1, I1, r1, a, C, ws, ev, hl, T, ea, q⟩ => ?_) he hpl
  subst ev
  cases r1 with
  | @cons _ u0 _ ur ra rw' =>
    obtain rfl : u0 = Value.ref a := ra
    have hlen : ur.length ≤ sizeLine := by
      rw [← Paired.length rw', sizeLine_eq]
      omega
    exact oinit_ok T I1 ea hlen fun s' J => ⟨.non, H1, J, rfl, q⟩
end
section
variable {P : Program} {w : World} {K : PySem.W.Frag} {mg : Str → Option Value} {base : Heap} {ca : Nat → Addr}
theorem xi_one {x qual f : Str} {st : Stmt} {fi : Addr} {fd : FuncData} {C : Addr} {m : Str} {N ps : List Str} {e1 o1 v1 : Expr} {p' pos1 pos2 : Pos} (T : OexC K C) (hno : PySem.W.findIn K (.ref C) f = some none) (F : FunA K x qual st fi fd) (S : FnScope N ps (defScope st)) (hps : ps.length = 2)
    (hb : defBody st = [.Expr e1 pos1, .Assign [.Attribute o1 f p'] v1 pos2])
    (hst : ∀ (cdv : Value) (A : Around) (outer : List Env) (s : Shared) (H : Hp) (E : XK), ∃ ta, PE (cxOf CX0 P w K mg base N qual (defScope st) fi cdv A outer s H E).nox e1 (tVeI K ta) ∧ (∀ σ H' Q, (∃ a, σ[0]? = some (some (.ref a)) ∧ Q [.ref a, .str m] H') → ta σ H' Q) ∧
      PE (cxOf CX0 P w K mg base N qual (defScope st) fi cdv A outer s H E).nox o1 (tVar 0) ∧ PE (cxOf CX0 P w K mg base N qual (defScope st) fi cdv A outer s H E).nox v1 (tVar 1) ∧
      swapsWith e1 none pos1.line (cxOf CX0 P w K mg base N qual (defScope st) fi cdv A outer s H E).nox.env = pure false ∧ swapsWith v1 (some (.Attribute o1 f p')) pos2.line (cxOf CX0 P w K mg base N qual (defScope st) fi cdv A outer s H E).nox.env = pure false) :
    FnOk P w K mg base CX0 1 fi fd ps (spXI C [f]) := by
  refine F.ok (k := 0) S (fun vs H Q E ⟨H0, a, us, e, hl, _⟩ => by rw [e, hps]; simp only [List.length_cons]; simp at hl; omega) fun cdv _ A outer s H vs Q E hr ⟨H0, a, us, ev, hl, h0, eH, q⟩ => ?_
  obtain ⟨ta, h1, h2, h3, h4, s1, s2⟩ := hst cdv A outer s H E
  rw [hb]
  refine ⟨_, pss_cons (ps_expr h1 s1) (pss_one (ps_ost h3 h4 s2)), ?_⟩
  obtain ⟨y, rfl⟩ : ∃ y, us = [y] := by
    match us, hl with
    | [y], _ => exact ⟨y, rfl⟩
  subst ev eH
  have g0 : (L2.start N [.ref a, y])[0]? = some (some (.ref a)) := start_get rfl
  have g1 : (L2.start N [.ref a, y])[1]? = some (some y) := start_get rfl
  refine h2 _ _ _ ⟨a, g0, a, C, [.str m], rfl, by simp, T, upd_same, ?_⟩
  refine ⟨y, g1, _, g0, a, C, rfl, T, hno, .inl ⟨upd_same, fun dx n1 n2 => ?_⟩⟩
  rw [upd_ne n2] at n1
  refine q dx _ n1 n2 upd_same (by rw [upd_ne n2, upd_same]; rfl) fun b hb1 hb2 => ?_
  rw [upd_ne hb1, upd_ne hb2, upd_ne hb1]
theorem xi_two {x qual f g : Str} {st : Stmt} {fi : Addr} {fd : FuncData} {C : Addr} {m : Str} {N ps : List Str} {e1 o1 v1 o2 v2 : Expr} {p' p'' pos1 pos2 pos3 : Pos} (T : OexC K C) (hno : PySem.W.findIn K (.ref C) f = some none) (hno2 : PySem.W.findIn K (.ref C) g = some none) (F : FunA K x qual st fi fd) (S : FnScope N ps (defScope st)) (hps : ps.length = 3)
    (hb : defBody st = [.Expr e1 pos1, .Assign [.Attribute o1 f p'] v1 pos2, .Assign [.Attribute o2 g p''] v2 pos3])
    (hst : ∀ (cdv : Value) (A : Around) (outer : List Env) (s : Shared) (H : Hp) (E : XK), ∃ ta, PE (cxOf CX0 P w K mg base N qual (defScope st) fi cdv A outer s H E).nox e1 (tVeI K ta) ∧ (∀ σ H' Q, (∃ a, σ[0]? = some (some (.ref a)) ∧ Q [.ref a, .str m] H') → ta σ H' Q) ∧
      PE (cxOf CX0 P w K mg base N qual (defScope st) fi cdv A outer s H E).nox o1 (tVar 0) ∧ PE (cxOf CX0 P w K mg base N qual (defScope st) fi cdv A outer s H E).nox v1 (tVar 1) ∧
      PE (cxOf CX0 P w K mg base N qual (defScope st) fi cdv A outer s H E).nox o2 (tVar 0) ∧ PE (cxOf CX0 P w K mg base N qual (defScope st) fi cdv A outer s H E).nox v2 (tVar 2) ∧
      swapsWith e1 none pos1.line (cxOf CX0 P w K mg base N qual (defScope st) fi cdv A outer s H E).nox.env = pure false ∧ swapsWith v1 (some (.Attribute o1 f p')) pos2.line (cxOf CX0 P w K mg base N qual (defScope st) fi cdv A outer s H E).nox.env = pure false ∧ swapsWith v2 (some (.Attribute o2 g p'')) pos3.line (cxOf CX0 P w K mg base N qual (defScope st) fi cdv A outer s H E).nox.env = pure false) :
    FnOk P w K mg base CX0 1 fi fd ps (spXI C [f, g]) := by
  refine F.ok (k := 0) S (fun vs H Q E ⟨H0, a, us, e, hl, _⟩ => by rw [e, hps]; simp only [List.length_cons]; simp at hl; omega) fun cdv _ A outer s H vs Q E hr ⟨H0, a, us, ev, hl, h0, eH, q⟩ => ?_
  obtain ⟨ta, h1, h2, h3, h4, h5, h6, s1, s2, s3⟩ := hst cdv A outer s H E
  rw [hb]
  refine ⟨_, pss_cons (ps_expr h1 s1) (pss_cons (ps_ost h3 h4 s2) (pss_one (ps_ost h5 h6 s3))), ?_⟩
  obtain ⟨y, z, rfl⟩ : ∃ y z, us = [y, z] := by
    match us, hl with
    | [y, z], _ => exact ⟨y, z, rfl⟩
  subst ev eH
  have g0 : (L2.start N [.ref a, y, z])[0]? = some (some (.ref a)) := start_get rfl
  have g1 : (L2.start N [.ref a, y, z])[1]? = some (some y) := start_get rfl
  have g2 : (L2.start N [.ref a, y, z])[2]? = some (some z) := start_get rfl
  refine h2 _ _ _ ⟨a, g0, a, C, [.str m], rfl, by simp, T, upd_same, ?_⟩
  refine ⟨y, g1, _, g0, a, C, rfl, T, hno, .inl ⟨upd_same, fun dx n1 n2 => ?_⟩⟩
  rw [upd_ne n2] at n1
  refine ⟨z, g2, _, g0, a, C, rfl, T, hno2, .inr ⟨dx, [(f, y)], upd_same, by rw [upd_ne n2, upd_same], by simp, ?_⟩⟩
  refine q dx _ n1 n2 (by rw [upd_ne (Ne.symm n2), upd_same]) upd_same fun b hb1 hb2 => ?_
  rw [upd_ne hb2, upd_ne hb1, upd_ne hb2, upd_ne hb1]
end
/-- an exception class of ours with an own __init__, as it is raised -/
structure Raiser (P : Program) (w : World) (K : PySem.W.Frag) (mg : Str → Option Value) (base : Heap) (ca : Nat → Addr) (k c : Nat) (x : Str) : Prop where
  ex : ∃ (fI : Addr) (fd : FuncData) (ps : List Str), OexC K (ca c) ∧ PySem.W.findIn K (.ref (ca c)) "__init__" = some (some (.ref fI)) ∧ PySem.W.typeIn K (.ref fI) = some (.type "function") ∧ FnOk P w K mg base CX0 k fI fd ps (spXI (ca c) (xflds c).reverse) ∧ Binds K fd ps [] ∧ mg x = some (.ref (ca c))
def toA : R → Option (Int ⊕ Str)
  | .va (.int i) => some (.inl i)
  | .va (.str s) => some (.inr s)
  | _ => none
def atoms : List R → Option (List (Int ⊕ Str))
  | [] => some []
  | r :: rs => (toA r).bind fun a => (atoms rs).map (a :: ·)
theorem atoms_d : ∀ {rs : List R} {fs : List (Int ⊕ Str)}, atoms rs = some fs → (rs.all (fun r => !r.wr)) = true ∧ rs.map R.d = fs.map aD ∧ rs.length = fs.length
  | [], fs, h => by cases h; exact ⟨rfl, rfl, rfl⟩
  | r :: rs, fs, h => by
    obtain ⟨a, ea, h⟩ := Option.bind_eq_some_iff.mp h
    obtain ⟨gs, eg, rfl⟩ := Option.map_eq_some_iff.mp h
    obtain ⟨h1, h2, h3⟩ := atoms_d eg
    unfold toA at ea
    split at ea
    · cases ea
      exact ⟨by rw [List.all_cons, h1]; rfl, by rw [List.map_cons, List.map_cons, h2]; rfl, by rw [List.length_cons, List.length_cons, h3]⟩
    · cases ea
      exact ⟨by rw [List.all_cons, h1]; rfl, by rw [List.map_cons, List.map_cons, h2]; rfl, by rw [List.length_cons, List.length_cons, h3]⟩
    · cases ea
def xRaise (c : Nat) (ms : Gm → Option (List R)) : Gm → Option Exc := fun g => (ms g).bind fun rs => (atoms rs).bind fun fs => if (fs.length == (xflds c).length) = true then some ⟨c, fs.reverse⟩ else none
theorem zip_fst : ∀ {names : List Str} {us : List V}, us.length = names.length → (names.zip us).map (·.1) = names
  | [], [], _ => rfl
  | n :: names, u :: us, h => by
    rw [List.zip_cons_cons, List.map_cons, zip_fst (by simpa using h)]
theorem zip_snd : ∀ {names : List Str} {us : List V}, us.length = names.length → (names.zip us).map (·.2) = us
  | [], [], _ => rfl
  | n :: names, u :: us, h => by
    rw [List.zip_cons_cons, List.map_cons, zip_snd (by simpa using h)]
section
variable {X : Cx} {ca : Nat → Addr} {e : Expr} {es : List Expr} {ms : Gm → Option (List R)} {p pos pos' : Pos}
theorem xflds_len (c : Nat) : (xflds c).length ≤ 2 := by
  unfold xflds
  split
  · exact Nat.le_refl _
  · split
    · decide
    · decide
theorem x0_raise {k c : Nat} {x : Str} (M : Raiser X.prog X.w X.K X.mg X.base ca k c x) (hc : X.calm = true) (hr : Room (k + 1) X.A) (hg : Gl X x) (ha : AV X ca (e :: es) ms) (hdb : (x == ("__debug__" : Str)) = false := by decide)
    (he : starEach (e :: es) X.env = (false, eval e X.env) :: starEach es X.env := by rfl) (hpl : (backTo pos (starEach es X.env)).any (·.1) = false := by rfl) : X0 X ca (.Raise (some (.Call (.Name x p) (e :: es) [] pos)) none pos') (xRaise c ms) := by
  intro W tk
  obtain ⟨fI, fd, ps, T, iC, tI, G, hb, hm⟩ := M.ex
  refine ps_imp (ps_raise hc tk (pmk_oex T iC tI G hr hb .nil pass0 hg hm ha hdb he hpl)) ?_
  rintro D σ H ⟨H0, F0, F, Γ, z, S, e, q⟩
  obtain ⟨rs, er, e⟩ := Option.bind_eq_some_iff.mp e
  obtain ⟨as, ea, e⟩ := Option.bind_eq_some_iff.mp e
  obtain ⟨w1, w2, w3⟩ := atoms_d ea
  refine ⟨H0, F0, F, Γ, rs, S, er, fun vs H1 F1 x1 r1 => ?_⟩
  split at e
  rotate_left
  · cases e
  rename_i hc
  cases e
  rw [beq_iff_eq] at hc
  have hl : vs.length = (xflds c).length := ((RVs.length r1).trans w3).trans hc
  have hl' : vs.length = ((xflds c).reverse).length := by rw [List.length_reverse]; exact hl
  have hd := RVs.den r1 w1
  rw [w2] at hd
  refine ⟨by have := xflds_len c; omega, fun a n => ⟨H1, a, vs, by rw [List.append_nil], hl', n, rfl, fun d H2 n1 n2 e1 e2 e3 => ⟨rfl, d, _, e1, e2, n1, ?_⟩⟩⟩
  have eh : upd (del H2 a) d (.xd ((xflds c).reverse.zip vs).reverse) = upd H1 d (.xd ((xflds c).reverse.zip vs).reverse) := funext fun b => by
    by_cases hb : b = d
    · subst hb; rw [upd_same, upd_same]
    · rw [upd_ne hb, upd_ne hb]
      by_cases hb2 : b = a
      · subst hb2; rw [del_same, n]
      · rw [del_ne hb2]; exact e3 b hb2 hb
  rw [eh]
  refine q _ _ _ (upd F1 d (.xd ((xflds c).reverse.zip vs).reverse)) (x1.trans (.new x1.fh _ n1)) ⟨rfl, _, .inr ⟨d, rfl, upd_same⟩, ?_, ?_⟩
  · rw [List.map_reverse, zip_fst hl', List.reverse_reverse]
  · rw [List.map_reverse, zip_snd hl']
    show Dens X.K ca _ vs.reverse (as.reverse.map aD)
    rw [List.map_reverse]
    exact (hd.mono (same_upd (x1.fh.free n1))).reverse
/-- .. without own __init__, made with a text -/
structure Raiser0 (K : PySem.W.Frag) (mg : Str → Option Value) (ca : Nat → Addr) (c : Nat) (x : Str) : Prop where
  ex : ∃ (B newId initId : String) (bmB : List Value), ExcBaseFacts B newId initId bmB ∧ PySem.W.excIn K (ca c) bmB newId = true ∧ mg x = some (.ref (ca c)) ∧ PySem.W.keepIn K (.ref (ca c)) = true ∧ PySem.W.subIn K (.ref (ca c)) (.type "BaseException") = some true ∧ PySem.W.typeIn K (.ref (ca c)) = some (.type "type")
def xRaise0 (c : Nat) : Gm → Option Exc := fun _ => if xflds c = [] then some ⟨c, []⟩ else none
theorem x0_raise0 {c j : Nat} {x m : Str} {p2 : Pos} (M : Raiser0 X.K X.mg ca c x) (hc : X.calm = true) (hg : Gl X x) (hdb : (x == ("__debug__" : Str)) = false := by decide) : X0 X ca (.Raise (some (.Call (.Name x p) [.Constant (.str m) j p2] [] pos)) none pos') (xRaise0 c) := by
  intro W tk
  obtain ⟨B, newId, initId, bmB, F, q, hm, kC, h1, h2⟩ := M.ex
  refine ps_imp (ps_raise hc tk (pmk_own F q hm kC (raises_own h1 h2) hg hdb)) ?_
  rintro D σ H ⟨H0, F0, F, Γ, z, S, e, q⟩
  unfold xRaise0 at e
  split at e
  · rename_i hx
    cases e
    exact q _ _ H F (.refl S.ext.fh) ⟨rfl, [], .inl ⟨rfl, rfl⟩, by rw [hx]; rfl, .nil⟩
  · cases e
end
/-! a def that raises -/
def psi (m : Gm → Option Exc) (N n : Nat) : List D → Option Exc := fun ds => if ds.length = n then m (ds.map Slot.va ++ List.replicate (N - n) Slot.un) else none
section
variable {P : Program} {w : World} {K : PySem.W.Frag} {mg : Str → Option Value} {base : Heap} {ca : Nat → Addr}
theorem FunA.okX {x qual : Str} {st : Stmt} {f : Addr} {fd : FuncData} {N ps : List Str} {k : Nat} {sp : Sp} (F : FunA K x qual st f fd) (S : FnScope N ps (defScope st)) (len : ∀ vs H Q E, sp vs H Q E → vs.length = ps.length)
    (hbody : ∀ (cdv : Value), fd.code = cdv → ∀ (A : Around) (outer : List Env) (s : Shared) (H : Hp) (vs : List V) (Q : VK) (E : XK), Room k (A.deeper (envOfC qual (defScope st) s.heap.objs.size f cdv)) → sp vs H Q E →
      ∃ t, PSs (cxOf (L2.CX P w) P w K mg base N qual (defScope st) f cdv A outer s H E) (defBody st) t ∧ t { nx := fun _ H' => Q .non H', rt := Q } (L2.start N vs) H) : FnOk P w K mg base (L2.CX P w) (k + 1) f fd ps sp := by
  obtain ⟨oc, od, dV, kV, doc, pm, an, cdv, ct, osl, rfl, lk, hcd⟩ := F.ex
  exact fn_of lk hcd S len fun A outer s H vs Q E hr hsp => hbody cdv rfl A outer s H vs Q E hr hsp
theorem fnx_ok {x qual : Str} {st : Stmt} {f : Addr} {fd : FuncData} {N ps : List Str} {k n nN : Nat} {m : Gm → Option Exc} {ψ : List D → Option Exc} (F : FunA K x qual st f fd) (S : FnScope N ps (defScope st)) (hn : ps.length = n) (hN : N.length = nN) (hψ : ψ = psi m nN n)
    (hbody : ∀ (cdv : Value) (A : Around) (outer : List Env) (s : Shared) (H : Hp) (E : XK), Room k (A.deeper (envOfC qual (defScope st) s.heap.objs.size f cdv)) →
      XSs (cxOf (L2.CX P w) P w K mg base N qual (defScope st) f cdv A outer s H E) ca (defBody st) m) : FnOk P w K mg base (L2.CX P w) (k + 1) f fd ps (spX K ca ψ) := by
  subst hψ
  subst hn
  subst hN
  refine F.okX S (fun vs H Q E ⟨ds, F0, r, s, _, _, h, e, _⟩ => ?_) (fun cdv _ A outer s H vs Q E hr ⟨ds, F0, r, sm, nt, tc, h, e, q⟩ => ?_)
  · unfold psi at e
    split at e
    · rw [h.length]; assumption
    · cases e
  · unfold psi at e
    split at e
    · rename_i hl
      have S0 : SR K ca H F0 (L2.start N vs) H F0 (ds.map Slot.va ++ List.replicate (N.length - ps.length) Slot.un) := by
        rw [← hl]
        exact sr_start sm nt tc h
      exact ⟨_, hbody cdv A outer s H E hr (fun cls d _ H' => E cls d H') (takes_of rfl rfl rfl rfl), H, F0, F0, _, r, S0, e, fun cls d σ' H' F' x1 rx => q cls d H' F' x1 rx⟩
    · cases e
end
/-! try -/
theorem takesN {X : Cx} : Takes X (fun _ _ _ _ => False) := fun _ _ x => by
  obtain ⟨_, _, _, _, _, _, _, _, _, _, _, _, _, _, _, _, z⟩ := x
  exact z.elim
theorem exh_ok {P : Program} {w : World} {H : Hp} {h : Heap} {a C : Addr} {d : Option Addr} {o : Obj} {vs : Array Value} (he : h.get? a = some o) (hz : Zc (.ref C) d o) (hd : o.data = .fields vs) : ObjOk P w H h a (exh a C d) :=
  ⟨⟨o, vs, he, hz, hd⟩, ⟨_, he⟩, fun h1 h2 z k => by
    obtain ⟨o, vs, e1, e2, e3⟩ := z
    exact ⟨o, vs, k _ e1, e2, e3⟩⟩
theorem exh_at {P : Program} {w : World} {H : Hp} {h : Heap} {a C : Addr} {d : Option Addr} (hok : L2.HOk P w H h) (he : H a = some (exh a C d)) : ∃ (o : Obj) (vs : Array Value), h.get? a = some o ∧ Zc (.ref C) d o ∧ o.data = .fields vs := by
  have x : ObjOk P w H h a (.ext fun h => ∃ (o : Obj) (vs : Array Value), h.get? a = some o ∧ Zc (.ref C) d o ∧ o.data = .fields vs) := hok a _ he
  exact x.1
section
variable {X : Cx} {pins : List (Addr × Obj)} {σ : L2.St} {H : Hp} {s : Shared}
/-- the exception that was held is tracked -/
theorem track {a C : Addr} {oe : Obj} {d : Option Addr} {vs : Array Value} {xe : Value → Shared → Prop} (ok : X.Ok) (I : Inv (X.tr ((a, oe) :: (X.pn ++ pins)) xe) [] σ H s) (hz : Zc (.ref C) d oe) (hd : oe.data = .fields vs)
    (hp : ∀ p ∈ X.pn ++ pins, p.1 ≠ a) (h0 : ∀ b o, X.s_0.heap.get? b = some o → b ∉ X.ex → b ≠ a) : Inv X pins σ (upd H a (exh a C d)) s := by
  obtain ⟨ha, na, nL, nF, nc⟩ := I.pin (a, oe) (List.mem_append_left _ List.mem_cons_self)
  have un : ∀ {b u}, H b = some u → b ≠ a := fun {b u} e z => by
    rw [z] at e
    rw [na] at e; cases e
  refine ⟨ok, I.os, I.bare, ⟨I.base.keep, I.base.slot, fun b o e n hx => by rw [upd_ne (h0 b o e hx)]; exact I.base.free b o e n hx, I.base.there, fun b xs e => by rw [upd_ne (un (I.base.tups b xs e))]; exact I.base.tups b xs e,
    fun b o u e => by rw [upd_ne (un (I.base.frzs b o u e))]; exact I.base.frzs b o u e, fun b ps e => by
    obtain ⟨m, z⟩ := I.base.tbls b ps e
    exact ⟨m, by rw [upd_ne (un z)]; exact z⟩⟩, I.loc, I.cell, ?_, fun x c e => ?_, fun p hp' => ?_, fun b u e => ?_, I.len⟩
  · show upd H a _ X.env.locals = none
    rw [upd_ne (Ne.symm nL)]; exact I.free
  · obtain ⟨v, o, z1, z2⟩ := I.cell x c e
    have : c ≠ a := fun z => by
      rw [z, ha] at z1
      cases z1
      exact nc v z2
    rw [upd_ne this]; exact I.freeC x c e
  · obtain ⟨g1, g2, g3, g4, g5⟩ := I.pin p (List.mem_append_left _ (List.mem_cons_of_mem _ hp'))
    exact ⟨g1, by rw [upd_ne (hp p hp')]; exact g2, g3, g4, g5⟩
  · by_cases hb : b = a
    · subst hb
      rw [upd_same] at e
      cases e
      exact exh_ok ha hz hd
    · rw [upd_ne hb] at e
      exact (I.hok b u e).stay (fun _ _ _ q => q) (fun c q => by rw [upd_ne (un q)]; exact q) fun c xs q => by rw [upd_ne (un q)]; exact q
end
def wKeep (K : PySem.W.Frag) (c : Value) (i : Nat) (ts : Addr → TS) (D : Ends) : WX := fun cls d σ H =>
  ∃ C : Addr, cls = .ref C ∧ PySem.W.exmOne K cls c = some true ∧ ∀ a, H a = none → ts a { nx := fun σ' H' => D.nx (σ'.set i none) (upd H' a (exh a C d)), rt := fun _ _ => False, bk := fun _ _ => False, ct := fun _ _ => False } (σ.set i (some (.ref a))) H
section
variable {X : Cx} {x n : Str} {c : Value} {i : Nat} {body suite : List Stmt} {b₀ : Stmt} {np pos pos' : Pos} {tb : WX → TS} {ts : Addr → TS}
theorem ps_try_keep (hs : X.stack = X.env :: X.outer) (hf : X.env.frame = some X.env.locals) (hN : X.N.Nodup) (hi : X.N[i]? = some n) (hln : X.env.kindOf n = some .local) (hc : Names X x c)
    (hb : ∀ (W : WX) (pn : List (Addr × Obj)) (xe : Value → Shared → Prop), Takes (X.tr pn xe) W → PSs (X.tr pn xe) body (tb W))
    (hsu : ∀ (a : Addr) (oe : Obj) (pn : List (Addr × Obj)), PSs (X.suite a ((a, oe) :: pn)) (b₀ :: suite) (ts a)) :
    PS X (.Try body [.ExceptHandler (some (.Name x np)) (some n) (b₀ :: suite) pos'] [] [] pos) (fun D σ H => tb (wKeep X.K c i ts D) D σ H) := by
  refine ⟨fun pins s σ H D I h => ?_⟩
  have ok := I.ok
  have hfr : X.A.frames = some (X.env :: X.outer) := by rw [ok.frames, hs]
  have hloc : Loc X.env.scope n := .inl hln
  refine wpAny_Try_except ?_
  refine wpAny_mono ((hb (wKeep X.K c i ts D) (X.pn ++ pins) (fun e s₁ => wpAny (model X.prog X.w) X.A (noteFrame e X.env) (fun _ s₂ => wpAny (model X.prog X.w) X.A (setFlight e none) (fun _ s₃ =>
    wpAny (model X.prog X.w) X.A (handleBy e X.env [.ExceptHandler (some (.Name x np)) (some n) (b₀ :: suite) pos']) (SP X pins D) X.xe s₃) X.xe s₂) X.xe s₁) (fun u s' xx => ?_)).run [] s σ H D (I.toTry _) h) (fun f s1 hsp => ?_) (fun e s1 he => he)
  · obtain ⟨a, B, sI, pins', σ', H', cls, d, rfl, J', nb, up, sky, na, os, ag, C, rfl, hb1, hyes⟩ := xx
    have J : Inv X pins σ' H' sI := J'.ofTry ok
    have sky' : Sky B (X.env :: X.outer) a (Zc (.ref C) d) X.env.locals s'.heap := by rw [← hs]; exact sky
    show wpAny (model X.prog X.w) X.A (noteFrame (.ref a) X.env) _ _ _
    refine Sky.land Zc.steady hfr hf sky' fun h3 fl3 up3 => ?_
    have J3 : Inv X pins σ' H' { s' with heap := h3 } := J.landed nb fl3.1 (up.trans up3) os ag
    obtain ⟨oe3, vs3, he3, hz3, hd3⟩ := fl3.there
    have notFr : ∀ {h : Heap} {o : Obj} {vs : Array Value}, h.FunFrames B (X.env :: X.outer) → h.get? a = some o → o.data = .fields vs → a ∉ frs (X.env :: X.outer) := fun {h o vs} ff e dd hm => by
      obtain ⟨_, o', e', hnf⟩ := ff.mem hm
      rw [e] at e'; cases e'
      exact hnf _ dd
    have nfr := notFr fl3.2.2.1 he3 hd3
    have nL : a ≠ X.env.locals := fun z => nfr (List.mem_filterMap.mpr ⟨X.env, List.mem_cons_self, by rw [hf, z]⟩)
    have nF : a ∉ X.fs := fun hm => by
      obtain ⟨e, he, q⟩ := List.mem_filterMap.mp hm
      exact nfr (List.mem_filterMap.mpr ⟨e, List.mem_cons_of_mem _ he, q⟩)
    have nsI : ∀ o, sI.heap.get? a ≠ some o := fun o e => by
      have z := nb a o e (by rw [hs]; exact nfr)
      rw [fl3.2.1] at z; cases z
    have hpins : ∀ p ∈ X.pn ++ pins, p.1 ≠ a := fun p hp z => by
      obtain ⟨e, _⟩ := J.pin p hp
      rw [z] at e
      exact nsI _ e
    have hs0 : ∀ b o, X.s_0.heap.get? b = some o → b ∉ X.ex → b ≠ a := fun b o e hx z => by
      obtain ⟨o', e'⟩ := J.base.there b o e hx
      rw [z] at e'
      exact nsI _ e'
    have S3 := J3.suite he3 hd3 na nL nF
    refine wpAny_handleBy_cons (codeAny_handlers_test ?_) (by intro q; cases q)
    have LT : PySem.W.Looks (model X.prog X.w) h3 (typeOf (.ref a)) (.ref C) := fun A Q E s k q => wpAny_typeOf_ref (k _ _ he3) (by rw [hz3.1]; exact q)
    have LM := PySem.W.exm_one (M := model X.prog X.w) (J3.kIn) LT hb1
    have test : ∀ {Q : Value → Shared → Prop} {E : Value → Shared → Prop}, Q c { s' with heap := h3 } → wpAny (model X.prog X.w) (X.A.mark (some (.ref a))) (eval (.Name x np) X.env) Q E { s' with heap := h3 } := fun {Q E} q => by
      obtain ⟨hg, hdbg, hm | ⟨hm, hv, hnn⟩⟩ := hc
      · exact ld_glob (X := X.suite a ((a, oe3) :: (X.pn ++ pins))) S3 hg hm q hdbg
      · exact ld_blt (X := X.suite a ((a, oe3) :: (X.pn ++ pins))) S3 hg hm hv q hnn hdbg
    refine test (LM.here ?_)
    refine codeAny_handlers_suite_as ?_
    refine HandSPX.lands_againZ fl3 fun h4 fl4 up4 => ?_
    have J4 : Inv X pins σ' H' { s' with heap := h4 } := J.landed nb fl4.1 ((up.trans up3).trans up4) os ag
    obtain ⟨oe4, vs4, he4, hz4, hd4⟩ := fl4.there
    have S4 := J4.suite he4 hd4 na nL nF
    refine store_ok (X := X.suite a ((a, oe4) :: (X.pn ++ pins))) (v := .ref a) S4 hN hi hloc rfl (fun s5 S5 => ?_) (.inr hln)
    refine wpAny_mono ((hsu a oe4 (X.pn ++ pins)).run [] s5 _ H' _ S5 (hyes a na)) (fun f s6 hsp => ?_) (fun _ _ z => False.elim z)
    cases f with
    | next =>
      obtain ⟨σ6, H6, S6, q6⟩ := hsp
      have J6 : Inv (X.tr ((a, oe4) :: (X.pn ++ pins)) X.xe) [] σ6 H6 s6 := ⟨ok.toTry _ _, S6.os, S6.bare, S6.base, S6.loc, S6.cell, S6.free, S6.freeC, S6.pin, S6.hok, S6.len⟩
      exact gone_ok (X := X.tr ((a, oe4) :: (X.pn ++ pins)) X.xe) J6 hN hi hln fun s7 J7 => ⟨_, _, track ok J7 hz4 hd4 hpins hs0, q6⟩
    | brk =>
      obtain ⟨σ6, H6, S6, q6⟩ := hsp
      exact q6.elim
    | cont =>
      obtain ⟨σ6, H6, S6, q6⟩ := hsp
      exact q6.elim
    | ret u =>
      obtain ⟨v6, σ6, H6, S6, r6, q6⟩ := hsp
      exact q6.elim
  · cases f with
    | next =>
      obtain ⟨σ', H', J', q⟩ := hsp
      exact wpAny_execs_nil ⟨σ', H', J'.ofTry ok, q⟩
    | brk =>
      obtain ⟨σ', H', J', q⟩ := hsp
      exact ⟨σ', H', J'.ofTry ok, q⟩
    | cont =>
      obtain ⟨σ', H', J', q⟩ := hsp
      exact ⟨σ', H', J'.ofTry ok, q⟩
    | ret u =>
      obtain ⟨v, σ', H', J', r, q⟩ := hsp
      exact ⟨v, σ', H', J'.ofTry ok, r, q⟩
end
/-- what a block raises -/
def exn (m : Gm → Option Out) : Gm → Option Exc := fun g => match m g with
  | some (.ex x) => some x
  | _ => none
theorem exn_some {m : Gm → Option Out} {g : Gm} {x : Exc} (h : exn m g = some x) : m g = some (.ex x) := by
  unfold exn at h
  split at h
  · rename_i y e
    cases h
    exact e
  · cases h
theorem exn_of {m : Gm → Option Out} {g : Gm} {x : Exc} (h : m g = some (.ex x)) : exn m g = some x := by
  unfold exn
  rw [h]
def sTry (m : Gm → Option Out) (ie i : Nat) (cs : List Nat) : Gm → Option Out := fun g => (m g).bind fun o => match o with
  | .nx g' => some (.nx g')
  | .rt r => some (.rt r)
  | .bk g' => some (.bk g')
  | .ct g' => some (.ct g')
  | .ex x => if (cs.contains x.c && decide (ie < g.length)) = true then some (.nx (((g.set ie (.va (.exc x.c (x.fs.map aD)))).set i (.va (.exc x.c (x.fs.map aD)))).set ie .un)) else none
theorem sv_try {X : Cx} {ca : Nat → Addr} {ie i ct : Nat} {x n y : Str} {body : List Stmt} {np ap yp vp pos pos' : Pos} {m : Gm → Option Out} {T : List Nat} {cs : List Nat} (hs : X.stack = X.env :: X.outer) (hf : X.env.frame = some X.env.locals) (hN : X.N.Nodup) (hie : X.N[ie]? = some n) (hi : X.N[i]? = some y) (hln : X.env.kindOf n = some .local) (hly : X.env.kindOf y = some .local)
    (hg : Gl X x) (hm : X.mg x = some (.ref (ca ct))) (hcs : ∀ c ∈ cs, PySem.W.exmOne X.K (.ref (ca c)) (.ref (ca ct)) = some true) (hb : SVs X.nox ca body m T) (hx : ∀ (pn : List (Addr × Obj)) (xe : Value → Shared → Prop), X0s (X.tr pn xe) ca body (exn m))
    (hsw : swapsWith (.Name n vp) (some (.Name y yp)) ap.line X.env = pure false := by rfl) (hdb : (x == ("__debug__" : Str)) = false := by decide) (hdn : (n == ("__debug__" : Str)) = false := by decide) (hcn : (n == ("__classdict__" : Str)) = false := by decide) :
    SV X ca (.Try body [.ExceptHandler (some (.Name x np)) (some n) [.Assign [.Name y yp] (.Name n vp) ap] pos'] [] [] pos) (sTry m ie i cs) (ie :: i :: T) := by
  have it : ∀ j ∈ T, j ∈ ie :: i :: T := fun j h => List.mem_cons_of_mem _ (List.mem_cons_of_mem _ h)
  refine ⟨ps_imp (ps_or2 (ps_try_thru0 hb.ps) (ps_try_keep (c := .ref (ca ct)) (tb := fun W _ σ H => tXV X.K ca W (exn m) σ H) hs hf hN hie hln ⟨hg, hdb, .inl hm⟩ (fun W pn xe tk => hx pn xe W tk) (fun a oe pn => pss_one (ps_set (X := X.suite a ((a, oe) :: pn)) hN hi (.inl hly) (pe_var (i := ie) hie (.inl hln) hdn hcn) hsw (.inr hly))))) ?_, fun g o e => ?_⟩
  · rintro D σ H ⟨H0, F0, F, Γ, o, S, e, p⟩
    unfold sTry at e
    obtain ⟨o1, hm1, e⟩ := Option.bind_eq_some_iff.mp e
    cases o1 with
    | nx g' => cases e; exact .inl ⟨H0, F0, F, Γ, _, S, hm1, PostO.mono (T := []) (Same.refl _) .refl (fun _ z => nomatch z) it p⟩
    | rt r => cases e; exact .inl ⟨H0, F0, F, Γ, _, S, hm1, PostO.mono (T := []) (Same.refl _) .refl (fun _ z => nomatch z) it p⟩
    | bk g' => cases e; exact .inl ⟨H0, F0, F, Γ, _, S, hm1, PostO.mono (T := []) (Same.refl _) .refl (fun _ z => nomatch z) it p⟩
    | ct g' => cases e; exact .inl ⟨H0, F0, F, Γ, _, S, hm1, PostO.mono (T := []) (Same.refl _) .refl (fun _ z => nomatch z) it p⟩
    | ex z =>
      have ez := exn_of hm1
      replace e : (if (cs.contains z.c && decide (ie < Γ.length)) = true then some (Out.nx (((Γ.set ie (.va (.exc z.c (z.fs.map aD)))).set i (.va (.exc z.c (z.fs.map aD)))).set ie .un)) else none) = some o := e
      split at e
      rotate_left
      · cases e
      rename_i hc
      cases e
      rw [Bool.and_eq_true, decide_eq_true_eq] at hc
      obtain ⟨hc, hl⟩ := hc
      refine .inr ⟨H0, F0, F, Γ, z, S, ez, fun cls d H1 F1 x1 r1 => ?_⟩
      obtain ⟨rfl, fs, hd, hfs, hdn⟩ := r1
      refine ⟨_, rfl, hcs _ (List.contains_iff_mem.mp hc), fun a na => ?_⟩
      have x2 := x1.trans (Ext.new x1.fh (exh a (ca z.c) d) na)
      have dn : Den X.K ca (upd F1 a (exh a (ca z.c) d)) (.ref a) (.exc z.c (z.fs.map aD)) := by
        refine .exc upd_same (hd.imp (fun z => z) fun ⟨dd, e1, e2⟩ => ⟨dd, e1, ?_⟩) hfs (hdn.mono (same_upd (x1.fh.free na)))
        exact same_upd (x1.fh.free na) _ _ e2
      refine ⟨.ref a, List.getElem?_set_self (S.lt hl), ?_⟩
      refine p _ _ _ ((((S.mono x2).setVa dn).setVa dn).setUn none) x2.ff (fun j hj => ?_)
      rw [List.getElem?_set_ne fun z => hj (by simp [z]), List.getElem?_set_ne fun z => hj (by simp [z]), List.getElem?_set_ne fun z => hj (by simp [z])]
  · unfold sTry at e
    obtain ⟨o1, hm1, e⟩ := Option.bind_eq_some_iff.mp e
    have k1 := hb.kp _ _ hm1
    cases o1 with
    | nx g' => cases e; exact k1.mono it
    | rt r => cases e; trivial
    | bk g' => cases e; exact k1.mono it
    | ct g' => cases e; exact k1.mono it
    | ex z =>
      replace e : (if (cs.contains z.c && decide (ie < g.length)) = true then some (Out.nx (((g.set ie (.va (.exc z.c (z.fs.map aD)))).set i (.va (.exc z.c (z.fs.map aD)))).set ie .un)) else none) = some o := e
      split at e
      · cases e
        intro j hj
        rw [List.getElem?_set_ne fun z => hj (by simp [z]), List.getElem?_set_ne fun z => hj (by simp [z]), List.getElem?_set_ne fun z => hj (by simp [z])]
      · cases e
end BK
set_option maxHeartbeats 4000000
namespace PySem.W
open PySem PySem.Spec PySem.Calls PyProof.Rows
section
variable {prog : Program} {w : World} {A : Around} {E : Value → Shared → Prop} {s : Shared} {K : Frag} {x D : Addr} {ox : Obj} {od : Option Obj}
theorem bk_findObj {C : Addr} {name : Str} {a g : Value} (hc : (clsIn K C).isSome = true) (ha : findIn K (.ref C) name = some (some a)) (hg : specialIn K a "__get__" = some (some g)) (ht : takesIn K a = some true) : findObj K C od name = some (.bind g a) := by
  obtain ⟨cd, hc⟩ := Option.isSome_iff_exists.mp hc
  unfold findObj
  rw [hc, Option.bind_some, ha, Option.bind_some]
  simp [hg, ht]
theorem bk_classE {Q : Option Value → Shared → Prop} (hga : findIn K (.ref D) "__getattribute__" = some (some (.builtin "BaseException.__getattribute__"))) (hgt : findIn K (.ref D) "__getattr__" = some none) (hsub : subIn K (.ref D) (.type "BaseException") = some true)
    (hdct : hasDictIn K D = true) (ha : findIn K (.ref D) "__class__" = some (some (.builtin "object.__class__")))
    (hn : specialIn K (.builtin "object.__class__") "__get__" = some (some (.builtin "getset_descriptor.__get__"))) (htk : takesIn K (.builtin "object.__class__") = some true) (hm : mroIn K D (.type "object") = some true)
    (X : K.In s.heap) (I : InstAt s.heap x ox D od) (h : Q (some (.ref D)) { s with toks := s.toks + 1 }) : wpAny (model prog w) A (getAttr? (.ref x) "__class__") Q E s := by
  have hf : findObj K D od "__class__" = some (.bind (.builtin "getset_descriptor.__get__") (.builtin "object.__class__")) := bk_findObj (by obtain ⟨cd, hc, _⟩ := any_some hdct; rw [hc]; rfl) ha hn htk
  obtain ⟨hp, g, d, t, os⟩ := s
  have L0 := I.type (M := model prog w)
  have L1 := looks_findIn (M := model prog w) X hga
  have L2 := looks_findIn (M := model prog w) X hgt
  have L3 := looks_find (M := model prog w) X I hf
  have sub : Looks (model prog w) hp (isInstance (.ref x) (.type "BaseException")) true := L0.andThen (looks_subIn X hsub)
  have hx0 : (false && onTheHeap (Value.builtin "BaseException.__getattribute__")) = false := rfl
  have hx2 : (Value.builtin "BaseException.__getattribute__" == Value.builtin "object.__getattribute__") = false := by decide +kernel
  have hx1 : (onTheHeap (Value.ref D) && Value.builtin "BaseException.__getattribute__" == Value.builtin "object.__getattribute__") = false := by rw [hx2]; rfl
  unfold getAttr? getAttrBy? getAttrBy
  refine wpAny_bind (wpAny_mkText (wpAny_bind (wpAny_attempt (wpAny_holding (wpAny_bind (L0.at (wpAny_bind (L1.at ?_))))))))
  show wpAny _ _ (if (onTheHeap (Value.ref D) && Value.builtin "BaseException.__getattribute__" == Value.builtin "object.__getattribute__") = true then _ else _) _ _ _
  rw [hx1, if_neg Bool.false_ne_true]
  unfold getAttrByItsOwn hookBefore
  refine wpAny_bind ?_
  rw [if_pos (show onTheHeap (Value.ref D) = true from rfl)]
  refine L2.at ?_
  refine wpAny_bind (wpAny_attempt (wpAny_holding ?_))
  unfold callGetattribute
  rw [hx0, if_neg Bool.false_ne_true]
  unfold boundAndCalled
  rw [PySem.F.excAttr_ValueError.ga.bind (.ref x)]
  refine wpAny_bind (wpAny_pure ?_)
  show wpAny _ _ (call (.builtin "BaseException.__getattribute__") [.ref x, .str "__class__" t]) _ _ _
  refine wpAny_call (codeAny_call_builtin PySem.F.excAttr_ValueError.ga.plain PySem.F.entry_bexc_ga ?_)
  refine @check_slot (model prog w) _ _ ⟨hp, g, d, t + 1, os⟩ "BaseException.__getattribute__" "BaseException" "__getattribute__" (.ref x) [.str "__class__" t] [] _ (by decide +kernel) (by decide +kernel) sub (PySem.F.args_bexc_ga (.ref x) (.str "__class__" t)) ?_
  unfold Builtin.«object.__getattribute__»
  refine wpAny_bind (wpAny_of_eq (a := ((Value.ref x : Value), [Value.str "__class__" t])) (by first | rfl | (simp only [slotArgs]; rfl)) ?_)
  refine wpAny_bind (wpAny_pure (wpAny_bind (L0.at (wpAny_bind (L3.at ?_)))))
  show wpAny _ _ (holding [Value.builtin "object.__class__"] (call (.builtin "getset_descriptor.__get__") [.builtin "object.__class__", .ref x, .ref D]) >>= ret) _ _ _
  refine wpAny_bind (wpAny_holding (wpAny_call (class_get (s := ⟨hp, g, d, t + 1, os⟩) (ox := ox) (od := od) X I hm ?_)))
  refine wpAny_pure ?_
  show wpAny _ _ (handedOut (.ref D)) _ _ _
  rw [handedOut_of (v := .ref D) rfl]
  first
    | exact wpAny_pure (wpAny_pure h)
    | exact wpAny_pure h
    | exact wpAny_pure (wpAny_bind (wpAny_pure (wpAny_pure h)))
theorem bk_kitx (hga : findIn K (.ref D) "__getattribute__" = some (some (.builtin "BaseException.__getattribute__"))) (hgt : findIn K (.ref D) "__getattr__" = some none) (hsub : subIn K (.ref D) (.type "BaseException") = some true) (hdct : hasDictIn K D = true) (ha : findIn K (.ref D) "__class__" = some (some (.builtin "object.__class__")))
    (hn : specialIn K (.builtin "object.__class__") "__get__" = some (some (.builtin "getset_descriptor.__get__"))) (htk : takesIn K (.builtin "object.__class__") = some true) (hm : mroIn K D (.type "object") = some true) :
    KitX K (.ref x) (.ref D) (fun h => InstAt h x ox D od) where
  ty := fun _ _ _ I => I.type
  it := fun _ _ X _ => by
    obtain ⟨cdD, hcD, _⟩ := any_some hdct
    unfold clsIn at hcD
    split at hcD
    · rename_i c' d' cd' sl' ho
      intro A' Q' E' s' k q
      unfold isType loadHead
      exact wpAny_bind (wpAny_loadPart (k _ _ (X _ _ ho)) (wpAny_pure q))
    · cases hcD
  ne := (handS_kitx_exc (x := x) (ox := ox) hga hgt hsub hdct ha hn htk hm).ne
  ca := fun X I k => bk_classE hga hgt hsub hdct ha hn htk hm X I k
end
end PySem.W
namespace BK
open PySem PySem.Spec L2
set_option autoImplicit false
/-! ### a caught exception: its class, its fields -/
/-- a tracked exception as the library sees it -/
theorem exc_inst {X : Cx} {pins : List (Addr × Obj)} {σ : L2.St} {H : Hp} {s : Shared} {a C : Addr} {d : Option Addr} (I : Inv X pins σ H s) (h : H a = some (exh a C d)) (hd : d = none ∨ ∃ dd fs, d = some dd ∧ H dd = some (.xd fs)) : ∃ (o : Obj) (od : Option Obj), PySem.W.InstAt s.heap a o C od := by
  obtain ⟨o, vs, h1, h2, h3⟩ := exh_at I.hok h
  have nc : PySem.W.notCls o = true := by unfold PySem.W.notCls; rw [h3] <;> rfl
  rcases hd with rfl | ⟨dd, fs, rfl, e⟩
  · exact ⟨o, none, h1, h2.1, nc, by rw [h2.2]; trivial⟩
  · have hx : ObjOk X.prog X.w H s.heap dd (.xd fs) := I.hok dd _ e
    obtain ⟨mA, hns, hr⟩ := hx
    obtain ⟨od, ho, hl⟩ := lookIn_ns hns
    exact ⟨o, some od, h1, h2.1, nc, by rw [h2.2]; exact ho⟩
def rIsH (K : PySem.W.Frag) : List V → Hp → VK → Prop := fun xs H Q => ∃ (a C : Addr) (d : Option Addr) (c : V) (u : Value) (b : Bool), xs = [.ref a, c] ∧ H a = some (exh a C d) ∧ (d = none ∨ ∃ dd fs, d = some dd ∧ H dd = some (.xd fs)) ∧ ExcC K C ∧ ClsV c u ∧ PySem.W.kitOne K (.ref C) u = some b ∧ Q (.bl b) H
def rIsHT (K : PySem.W.Frag) : List V → Hp → VK → Prop := fun xs H Q => ∃ (a C : Addr) (d : Option Addr) (tp : Addr) (cs : List V) (us : List Value) (b : Bool), xs = [.ref a, .ref tp] ∧ H a = some (exh a C d) ∧ (d = none ∨ ∃ dd fs, d = some dd ∧ H dd = some (.xd fs)) ∧ ExcC K C ∧ H tp = some (.tup cs) ∧ Paired ClsV cs us ∧ PySem.W.kitAny K (.ref C) us = some b ∧ Q (.bl b) H
section
variable {X : Cx}
theorem call_isH : CallR X (.builtin "isinstance") (rIsH X.K) := by
  intro pins s σ H xs us Q I r h
  obtain ⟨a, C, d, c, u, b, rfl, h1, h2, T, k, e, q⟩ := h
  obtain ⟨u1, u2, rfl, r1, r2⟩ := vals2 r
  have e2 := k.eq r2
  subst e2
  cases (show u1 = Value.ref a from r1)
  obtain ⟨o, od, J⟩ := exc_inst I h1 h2
  exact PySem.W.kia_one (PySem.W.bk_kitx T.hg T.hk T.hs T.hd T.ha T.hn T.ht T.hm) I.kIn J e (fun z => nomatch z) fun tk => ⟨.bl b, H, I.tok tk, rfl, q⟩
theorem call_isHT : CallR X (.builtin "isinstance") (rIsHT X.K) := by
  intro pins s σ H xs us Q I r h
  obtain ⟨a, C, d, tp, cs, ws, b, rfl, h1, h2, T, hT, k, e, q⟩ := h
  obtain ⟨u1, u2, rfl, r1, r2⟩ := vals2 r
  cases (show u2 = Value.ref tp from r2)
  cases (show u1 = Value.ref a from r1)
  obtain ⟨o, od, J⟩ := exc_inst I h1 h2
  obtain ⟨_, its, rv, o2, g1, g2, n, g3⟩ := (show ObjOk X.prog X.w H s.heap tp (.tup cs) from I.hok tp _ hT)
  have e3 := ClsV.all k rv
  subst e3
  obtain ⟨oc, od2, dt, sl⟩ := o2
  simp only at g2 g3
  subst g2 g3
  exact PySem.W.kia_tup (PySem.W.bk_kitx T.hg T.hk T.hs T.hd T.ha T.hn T.ht T.hm) I.kIn J g1 e (fun z => nomatch z) fun tk => ⟨.bl b, H, I.tok tk, rfl, q⟩
end
def cIsX (cs : List Nat) (tb : Nat → Bool) (r : R) : Option R := match r with
  | .va (.exc c _) => if cs.contains c = true then some (.va (.bl (tb c))) else none
  | _ => none
/-- what isinstance wants of the classes cs, asked by the class value u -/
def IsX (K : PySem.W.Frag) (ca : Nat → Addr) (cs : List Nat) (u : Value) (tb : Nat → Bool) : Prop := ∀ c ∈ cs, ExcC K (ca c) ∧ PySem.W.kitOne K (.ref (ca c)) u = some (tb c)
theorem isX_any {K : PySem.W.Frag} {ca : Nat → Addr} {cs : List Nat} {us : List Value} {tbs : List (Nat → Bool)} (h : Paired (fun u tb => IsX K ca cs u tb) us tbs) {c : Nat} (hc : c ∈ cs) : PySem.W.kitAny K (.ref (ca c)) us = some (tbs.any fun tb => tb c) := by
  induction h with
  | nil => rfl
  | cons h hs ih =>
    refine kitAny_cons (h c hc).2 (fun z => ?_) fun z => ?_
    · rw [List.any_cons, z, Bool.false_or]; exact ih
    · rw [List.any_cons, z, Bool.true_or]
section
variable {X : Cx} {ca : Nat → Addr} {e : Expr} {m : Gm → Option R} {pos p p1 p2 p3 apos : Pos}
theorem dxd {K : PySem.W.Frag} {F H : Hp} {d : Option Addr} {fs : List (Str × V)} (s : Same F H) (h : d = none ∧ fs = [] ∨ ∃ dd, d = some dd ∧ F dd = some (.xd fs)) : d = none ∨ ∃ dd fs, d = some dd ∧ H dd = some (.xd fs) := by
  rcases h with ⟨h, _⟩ | ⟨dd, h1, h2⟩
  · exact .inl h
  · exact .inr ⟨dd, fs, h1, s _ _ h2⟩
theorem ev_isx {cs : List Nat} {tb : Nat → Bool} {x : Str} {v : V} {u : Value} (hg : Gl X "isinstance") (hm : X.mg "isinstance" = none) (hv : bootBuiltins "isinstance" = some (.builtin "isinstance")) (he : EV X ca e m) (hT : PE X (.Name x p1) (tC v)) (k : ClsV v u) (I : IsX X.K ca cs u tb)
    (hs1 : starEach [e, .Name x p1] X.env = (false, eval e X.env) :: starEach [.Name x p1] X.env := by rfl) (hs2 : starEach [.Name x p1] X.env = (false, eval (.Name x p1) X.env) :: starEach [] X.env := by rfl)
    (hpl : (backTo pos (starEach [.Name x p1] X.env)).any (·.1) = false := by rfl) : EV X ca (.Call (.Name "isinstance" p) [e, .Name x p1] [] pos) (e1 (cIsX cs tb) m) := by
  refine pe_imp (pe_callB call_isH hg hm hv (pa_cons he (pa_cons hT pa_nil hs2) hs1) (by decide) (by decide) hs1 hpl) ?_
  rintro σ H Q ⟨H0, F0, F, Γ, z, S, e, q⟩
  unfold e1 at e
  obtain ⟨r, er, e⟩ := Option.bind_eq_some_iff.mp e
  unfold cIsX at e
  split at e
  rotate_left
  · cases e
  rename_i c fs
  split at e
  rotate_left
  · cases e
  rename_i hc
  cases e
  refine ⟨H0, F0, F, Γ, _, S, er, fun v' H1 F1 x1 r1 => ?_⟩
  cases r1 with
  | exc g1 g2 g3 g4 =>
    obtain ⟨T, e2⟩ := I c (List.contains_iff_mem.mp hc)
    exact ⟨_, _, _, v, u, _, rfl, x1.fh _ _ g1, dxd (K := X.K) x1.fh g2, T, k, e2, q _ H1 F1 x1 (.bl _)⟩
theorem ev_isxT {cs : List Nat} {tbs : List (Nat → Bool)} {es : List Expr} {kt : Nat} {vs : List V} {us : List Value} (hg : Gl X "isinstance") (hm : X.mg "isinstance" = none) (hv : bootBuiltins "isinstance" = some (.builtin "isinstance")) (he : EV X ca e m) (TC : ∀ c ∈ cs, ExcC X.K (ca c)) (k : Paired ClsV vs us) (I : Paired (fun u tb => IsX X.K ca cs u tb) us tbs) (hl : vs.length ≤ 100)
    {t : TA} (ht : PA X es t) (htq : ∀ σ H Q, Q vs H → t σ H Q)
    (hs1 : starEach [e, .Tuple es kt p3] X.env = (false, eval e X.env) :: starEach [.Tuple es kt p3] X.env := by rfl)
    (hs2 : starEach [.Tuple es kt p3] X.env = (false, eval (.Tuple es kt p3) X.env) :: starEach [] X.env := by rfl)
    (hpl : (backTo pos (starEach [.Tuple es kt p3] X.env)).any (·.1) = false := by rfl) : EV X ca (.Call (.Name "isinstance" p) [e, .Tuple es kt p3] [] pos) (e1 (cIsX cs fun c => tbs.any fun tb => tb c) m) := by
  refine pe_imp (pe_callB call_isHT hg hm hv (pa_cons he (pa_cons (pe_tup ht) pa_nil hs2) hs1) (by decide) (by decide) hs1 hpl) ?_
  rintro σ H Q ⟨H0, F0, F, Γ, z, S, e, q⟩
  unfold e1 at e
  obtain ⟨r, er, e⟩ := Option.bind_eq_some_iff.mp e
  unfold cIsX at e
  split at e
  rotate_left
  · cases e
  rename_i c fs
  split at e
  rotate_left
  · cases e
  rename_i hc
  cases e
  refine ⟨H0, F0, F, Γ, _, S, er, fun v' H1 F1 x1 r1 => ?_⟩
  refine htq _ _ _ ⟨by rw [sizeLine_eq]; omega, fun t2 ht2 => ?_⟩
  have x2 := x1.trans (Ext.newO x1.fh (.tup vs) ht2)
  have sm := same_upd (o := .tup vs) ht2
  cases r1 with
  | exc g1 g2 g3 g4 =>
    have T := TC c (List.contains_iff_mem.mp hc)
    exact ⟨_, _, _, t2, vs, us, _, rfl, sm _ _ (x1.fh _ _ g1), dxd (K := X.K) (x1.fh.trans sm) g2, T, upd_same, k, isX_any I (List.contains_iff_mem.mp hc), q _ _ F1 x2 (.bl _)⟩
/-- e.f of a caught exception -/
def xFld (cs : List Nat) (f : Str) (r : R) : Option R := match r with
  | .va (.exc c ds) => if cs.contains c = true then (((xflds c).zip ds).lookup f).map .va else none
  | _ => none
theorem pe_xfH {n : Str} {te : TE} (he : PE X e te) (hb : attributeBase e n X.env (eval e X.env) = eval e X.env) : PE X (.Attribute e n pos) fun σ H Q => te σ H fun x H1 => ∃ (a C dd : Addr) (fs : List (Str × V)) (v : V), x = .ref a ∧ H1 a = some (exh a C (some dd)) ∧ H1 dd = some (.xd fs) ∧ XfC X.K C ∧ PySem.W.findIn X.K (.ref C) n = some none ∧ fs.lookup n = some v ∧ Q v H1 := by
  refine ⟨fun pins s σ H Q I h => ?_⟩
  refine attr_of hb (thn (he.run pins s σ H _ I h) fun u s1 hh => ?_)
  obtain ⟨x, H1, I1, rx, a, C, dd, fs, v, ex, h1, h2, T, hno, l, q⟩ := hh
  subst ex
  obtain rfl : u = Value.ref a := rx
  obtain ⟨o, vs, g1, g2, g3⟩ := exh_at I1.hok h1
  have hx : ObjOk X.prog X.w H1 s1.heap dd (.xd fs) := I1.hok dd _ h2
  obtain ⟨mA, hns, hr⟩ := hx
  obtain ⟨od, ho, hl⟩ := lookIn_ns hns
  obtain ⟨u, hu, ru⟩ := RelO.some_of (v := v) (o := mA n) (by rw [← l]; exact hr n)
  have J : PySem.W.InstAt s1.heap a o C (some od) := ⟨g1, g2.1, by unfold PySem.W.notCls; rw [g3] <;> rfl, by rw [g2.2]; exact ho⟩
  exact HandSPX.exc_get I1.kIn J T.ga T.gg T.exC (PySem.W.findObj_own T.hdC hno rfl (by rw [hl, hu])) (handed_of ru) ⟨v, H1, I1.tok _, ru, q⟩
def XfS (K : PySem.W.Frag) (ca : Nat → Addr) (cs : List Nat) (f : Str) : Prop := ∀ c ∈ cs, XfC K (ca c) ∧ PySem.W.findIn K (.ref (ca c)) f = some none
theorem ev_xfld {cs : List Nat} {f : Str} (T : XfS X.K ca cs f) (he : EV X ca e m) (hb : attributeBase e f X.env (eval e X.env) = eval e X.env := by rfl) : EV X ca (.Attribute e f pos) (e1 (xFld cs f) m) := by
  refine pe_imp (pe_xfH he hb) ?_
  rintro σ H Q ⟨H0, F0, F, Γ, z, S, e, q⟩
  unfold e1 at e
  obtain ⟨r, er, e⟩ := Option.bind_eq_some_iff.mp e
  unfold xFld at e
  split at e
  rotate_left
  · cases e
  rename_i c ds
  split at e
  rotate_left
  · cases e
  rename_i hc
  obtain ⟨d, ed, rfl⟩ := Option.map_eq_some_iff.mp e
  refine ⟨H0, F0, F, Γ, _, S, er, fun v' H1 F1 x1 r1 => ?_⟩
  cases r1 with
  | exc g1 g2 g3 g4 =>
    obtain ⟨hm, v, e1, e2⟩ := lookup_den g3 g4 ed
    obtain ⟨T1, T2⟩ := T c (List.contains_iff_mem.mp hc)
    rcases g2 with ⟨_, rfl⟩ | ⟨dd, rfl, g2⟩
    · cases e1
    · exact ⟨_, _, dd, _, v, rfl, x1.fh _ _ g1, x1.fh _ _ g2, T1, T2, e1, q v H1 F1 x1 e2⟩
end
end BK
namespace BK
open PySem PySem.Spec L2
set_option autoImplicit false
/-! ### what is asked of exception classes, as Bools over a head's facts -/
theorem b_ValueError : bootBuiltins "ValueError" = some (.type "ValueError") := boot_ValueError
theorem oexcB_ok {K : PySem.W.Frag} {C : Addr} (q : oexcB K C = true) : ∃ nm q N bs bm sn sub ab col dd k0 k1 k2 k3 k5, K.lookup C = some (excClassObj nm q C N bs bm true sn sub ab col dd k0 k1 k2 k3 k5 "ValueError.__new__") ∧ PySem.HandSPX.refsVE bm = true := by
  unfold oexcB at q
  split at q
  · rename_i dd cd sl ho
    split at q
    · rename_i C' bm k0 k1 k2 k3 n k5 hm hs
      simp only [Bool.and_eq_true, beq_iff_eq, Bool.not_eq_true'] at q
      obtain ⟨⟨⟨⟨rfl, rfl⟩, hdel⟩, hdd⟩, hok⟩ := q
      obtain ⟨nm, bs, mro, ns, qn, hd, sn, sub, ab, col, del⟩ := cd
      dsimp only at hm hdel hdd
      subst hm hdel hdd
      have hsl : sl = #[k0, k1, k2, k3, some (.builtin "ValueError.__new__"), k5] := by
        obtain ⟨l⟩ := sl
        simp only at hs
        rw [hs]
      subst hsl
      exact ⟨nm, qn, ns, bs, bm, sn, sub, ab, col, dd, k0, k1, k2, k3, k5, ho, hok⟩
    · cases q
  · cases q
theorem oexB_ok {K : PySem.W.Frag} {C : Addr} (h : oexB K C = true) : OexC K C := by
  obtain ⟨h1, h⟩ := He.ba h
  obtain ⟨h2, h⟩ := He.ba h
  obtain ⟨h3, h⟩ := He.ba h
  obtain ⟨h4, h5⟩ := He.ba h
  exact ⟨oexcB_ok h1, He.eqO_ok h2, of_decide_eq_true h3, of_decide_eq_true h4, h5⟩
theorem exccB_ok {K : PySem.W.Frag} {C : Addr} (h : exccB K C = true) : ExcC K C := by
  obtain ⟨h1, h⟩ := He.ba h
  obtain ⟨h2, h⟩ := He.ba h
  obtain ⟨h3, h⟩ := He.ba h
  obtain ⟨h4, h⟩ := He.ba h
  obtain ⟨h5, h⟩ := He.ba h
  obtain ⟨h6, h⟩ := He.ba h
  obtain ⟨h7, h8⟩ := He.ba h
  exact ⟨He.eqO_ok h1, He.eqO_ok h2, of_decide_eq_true h3, h4, He.eqO_ok h5, He.eqO_ok h6, of_decide_eq_true h7, of_decide_eq_true h8⟩
/-- all of the classes cs -/
theorem allC_ok {cs : List Nat} {p : Nat → Bool} (h : allC cs p = true) : ∀ c ∈ cs, p c = true := List.all_eq_true.mp h
theorem xt_ok {K : PySem.W.Frag} {ca : Nat → Addr} {cs : List Nat} {ct : Nat} (h : allC cs (fun c => decide (PySem.W.exmOne K (.ref (ca c)) (.ref (ca ct)) = some true)) = true) : ∀ c ∈ cs, PySem.W.exmOne K (.ref (ca c)) (.ref (ca ct)) = some true := fun c hc => of_decide_eq_true (allC_ok h c hc)
theorem xe_ok {K : PySem.W.Frag} {ca : Nat → Addr} {cs : List Nat} (h : allC cs (fun c => exccB K (ca c)) = true) : ∀ c ∈ cs, ExcC K (ca c) := fun c hc => exccB_ok (allC_ok h c hc)
theorem xi_ok {K : PySem.W.Frag} {ca : Nat → Addr} {cs : List Nat} {u : Value} {tb : Nat → Bool} (he : ∀ c ∈ cs, ExcC K (ca c)) (h : allC cs (fun c => decide (PySem.W.kitOne K (.ref (ca c)) u = some (tb c))) = true) : IsX K ca cs u tb := fun c hc => ⟨he c hc, of_decide_eq_true (allC_ok h c hc)⟩
theorem xf_ok {K : PySem.W.Frag} {ca : Nat → Addr} {cs : List Nat} {f : Str} (h : allC cs (fun c => xfB K (ca c) && He.eqO (PySem.W.findIn K (.ref (ca c)) f) (some none)) = true) : XfS K ca cs f := fun c hc => by
  obtain ⟨h1, h2⟩ := He.ba (allC_ok h c hc)
  exact ⟨xfB_ok h1, He.eqO_ok h2⟩
theorem ra0_ok {K : PySem.W.Frag} {mg : Str → Option Value} {ca : Nat → Addr} {c : Nat} {x : Str} (h : ra0B K (ca c) = true) (hm : mg x = some (.ref (ca c))) : Raiser0 K mg ca c x := by
  obtain ⟨h1, h⟩ := He.ba h
  obtain ⟨h2, h⟩ := He.ba h
  obtain ⟨h3, h4⟩ := He.ba h
  exact ⟨_, _, _, _, PySem.F.excBase_ValueError, h1, hm, h2, of_decide_eq_true h3, of_decide_eq_true h4⟩
theorem ra_ok {P : Program} {w : World} {K : PySem.W.Frag} {mg : Str → Option Value} {base : Heap} {ca : Nat → Addr} {k c : Nat} {x : Str} {fI : Addr} {fd : FuncData} {ps : List Str} (h : raB K (ca c) fI = true) (G : OexC K (ca c) → FnOk P w K mg base CX0 k fI fd ps (spXI (ca c) (xflds c).reverse)) (hb : Binds K fd ps []) (hm : mg x = some (.ref (ca c))) : Raiser P w K mg base ca k c x := by
  obtain ⟨h1, h⟩ := He.ba h
  obtain ⟨h2, h3⟩ := He.ba h
  exact ⟨fI, fd, ps, oexB_ok h1, He.eqO_ok h2, of_decide_eq_true h3, G (oexB_ok h1), hb, hm⟩
theorem fcvB_ok {o : Option PySem.W.CFound} (h : fcvB o = true) : o = some (.val (.builtin "ValueError.__init__")) := by
  unfold fcvB at h
  split at h
  · rw [of_decide_eq_true h]
  · cases h
/-! further contexts -/
section
variable {X : Cx} {ca : Nat → Addr} {e : Expr} {st : Stmt} {m n : Gm → Option Exc} {pos : Pos}
theorem xv_or (h1 : XV X ca e m) (h2 : XV X ca e n) : XV X ca e (xOr m n) := fun W tk => ⟨fun pins s σ H Q I q => by
  obtain ⟨H0, F0, F, Γ, x, S, e, q⟩ := q
  rcases xOr_some e with e | e
  · exact (h1 W tk).run pins s σ H Q I ⟨H0, F0, F, Γ, x, S, e, q⟩
  · exact (h2 W tk).run pins s σ H Q I ⟨H0, F0, F, Γ, x, S, e, q⟩⟩
theorem x0_or (h1 : X0 X ca st m) (h2 : X0 X ca st n) : X0 X ca st (xOr m n) := fun W tk => ⟨fun pins s σ H D I q => by
  obtain ⟨H0, F0, F, Γ, x, S, e, q⟩ := q
  rcases xOr_some e with e | e
  · exact (h1 W tk).run pins s σ H D I ⟨H0, F0, F, Γ, x, S, e, q⟩
  · exact (h2 W tk).run pins s σ H D I ⟨H0, F0, F, Γ, x, S, e, q⟩⟩
theorem xs_or (h1 : XS X ca st m) (h2 : XS X ca st n) : XS X ca st (xOr m n) := fun W tk => ⟨fun pins s σ H D I q => by
  obtain ⟨H0, F0, F, Γ, x, S, e, q⟩ := q
  rcases xOr_some e with e | e
  · exact (h1 W tk).run pins s σ H D I ⟨H0, F0, F, Γ, x, S, e, q⟩
  · exact (h2 W tk).run pins s σ H D I ⟨H0, F0, F, Γ, x, S, e, q⟩⟩
/-- an own list is frozen ahead -/
def xFz (i : Nat) (m : Gm → Option Exc) : Gm → Option Exc := fun g => match g[i]? with
  | some (.ow ds) => m (g.set i (.va (.lst ds)))
  | _ => m g
theorem xs_fz {i : Nat} (h : XS X ca st m) : XS X ca st (xFz i m) := fun W tk => ps_imp (h W tk) (by
  rintro D σ H ⟨H0, F0, F, Γ, x, S, e, q⟩
  unfold xFz at e
  split at e
  · rename_i ds hg
    obtain ⟨F', sf, S'⟩ := S.frz hg
    exact ⟨H0, F0, F', _, x, S', e, q⟩
  · exact ⟨H0, F0, F, Γ, x, S, e, q⟩)
end
end BK
namespace BK
open PySem PySem.Spec L2
open PyProof.Rows (envOfC)
set_option autoImplicit false
/-! ### what answers or raises, in one function -/
abbrev UE := Gm → Option (R ⊕ Exc)
def nE (u : UE) : Gm → Option R := fun g => match u g with
  | some (.inl r) => some r
  | _ => none
def xE (u : UE) : Gm → Option Exc := fun g => match u g with
  | some (.inr x) => some x
  | _ => none
theorem nE_some {u : UE} {g : Gm} {r : R} (h : nE u g = some r) : u g = some (.inl r) := by
  unfold nE at h
  split at h
  · rename_i e; cases h; exact e
  · cases h
theorem xE_some {u : UE} {g : Gm} {r : Exc} (h : xE u g = some r) : u g = some (.inr r) := by
  unfold xE at h
  split at h
  · rename_i e; cases h; exact e
  · cases h
theorem nE_of {u : UE} {g : Gm} {r : R} (h : u g = some (.inl r)) : nE u g = some r := by
  unfold nE
  rw [h]
theorem xE_of {u : UE} {g : Gm} {r : Exc} (h : u g = some (.inr r)) : xE u g = some r := by
  unfold xE
  rw [h]
def ups (m : Gm → Option Out) (N n : Nat) : List D → Option (R ⊕ Exc) := fun ds => if ds.length = n then match m (ds.map Slot.va ++ List.replicate (N - n) Slot.un) with
  | some (.rt r) => some (.inl (retR r))
  | some (.nx _) => some (.inl (.va .non))
  | some (.ex x) => some (.inr x)
  | _ => none
  else none
theorem ups_n {m : Gm → Option Out} {N n : Nat} {ds : List D} {r : R} (h : ups m N n ds = some (.inl r)) : phi m N n ds = some r := by
  unfold ups at h
  unfold phi
  split at h
  · rename_i hl
    rw [if_pos hl]
    split at h
    · rename_i e; cases h; rw [e]
    · rename_i e; cases h; rw [e]
    · cases h
    · cases h
  · cases h
theorem ups_x {m : Gm → Option Out} {N n : Nat} {ds : List D} {x : Exc} (h : ups m N n ds = some (.inr x)) : psi (exn m) N n ds = some x := by
  unfold ups at h
  unfold psi
  split at h
  · rename_i hl
    rw [if_pos hl]
    split at h
    · cases h
    · cases h
    · rename_i e; cases h; exact exn_of e
    · cases h
  · cases h
/-- the call by values -/
def callU (υ : List D → Option (R ⊕ Exc)) (rs : List R) : Option (R ⊕ Exc) := if rs.any R.isTm = true then none else (υ (rs.map R.d)).bind fun z => match z with
  | .inl r => if (!rs.any R.isBw || r.lf || r.lfk (lentK rs)) = true then some (.inl r) else none
  | .inr x => some (.inr x)
theorem callU_n {υ : List D → Option (R ⊕ Exc)} {φ : Phi} (hφ : ∀ ds r, υ ds = some (.inl r) → φ ds = some r) {rs : List R} {r : R} (h : callU υ rs = some (.inl r)) : callR φ [] rs = some r := by
  unfold callU at h
  unfold callR
  split at h
  · cases h
  · rename_i c
    rw [if_neg c]
    obtain ⟨z, ez, h⟩ := Option.bind_eq_some_iff.mp h
    cases z with
    | inl q =>
      have h : (if (!rs.any R.isBw || q.lf || q.lfk (lentK rs)) = true then some (Sum.inl q) else none : Option (R ⊕ Exc)) = some (.inl r) := h
      split at h
      · rename_i c2
        cases h
        rw [List.append_nil, hφ _ _ ez]
        show (if _ then _ else _) = _
        rw [if_pos c2]
      · cases h
    | inr x =>
      cases h
theorem callU_x {υ : List D → Option (R ⊕ Exc)} {ψ : List D → Option Exc} (hψ : ∀ ds x, υ ds = some (.inr x) → ψ ds = some x) {rs : List R} {x : Exc} (h : callU υ rs = some (.inr x)) : callX ψ rs = some x := by
  unfold callU at h
  unfold callX
  split at h
  · cases h
  · rename_i c
    rw [if_neg c]
    obtain ⟨z, ez, h⟩ := Option.bind_eq_some_iff.mp h
    cases z with
    | inl q =>
      have h : (if (!rs.any R.isBw || q.lf || q.lfk (lentK rs)) = true then some (Sum.inl q) else none : Option (R ⊕ Exc)) = some (.inr x) := h
      split at h <;> cases h
    | inr y =>
      cases h
      exact hψ _ _ ez
section
variable {X : Cx} {ca : Nat → Addr} {e : Expr} {es : List Expr} {pos p apos : Pos}
theorem ev_imp {m m' : Gm → Option R} (h : EV X ca e m) (i : ∀ g r, m' g = some r → m g = some r) : EV X ca e m' := pe_imp h fun σ H Q ⟨H0, F0, F, Γ, r, S, e, q⟩ => ⟨H0, F0, F, Γ, r, S, i _ _ e, q⟩
theorem av_imp {m m' : Gm → Option (List R)} (h : AV X ca es m) (i : ∀ g r, m' g = some r → m g = some r) : AV X ca es m' := pa_imp h fun σ H Q ⟨H0, F0, F, Γ, r, S, e, q⟩ => ⟨H0, F0, F, Γ, r, S, i _ _ e, q⟩
theorem xv_imp {m m' : Gm → Option Exc} (h : XV X ca e m) (i : ∀ g x, m' g = some x → m g = some x) : XV X ca e m' := fun W tk => pe_imp (h W tk) fun σ H Q ⟨H0, F0, F, Γ, r, S, e, q⟩ => ⟨H0, F0, F, Γ, r, S, i _ _ e, q⟩
theorem xa_imp {m m' : Gm → Option Exc} (h : XA X ca es m) (i : ∀ g x, m' g = some x → m g = some x) : XA X ca es m' := fun W tk => pa_imp (h W tk) fun σ H Q ⟨H0, F0, F, Γ, r, S, e, q⟩ => ⟨H0, F0, F, Γ, r, S, i _ _ e, q⟩
/-- an expression that answers or raises -/
structure UV (X : Cx) (ca : Nat → Addr) (e : Expr) (u : UE) : Prop where
  n : EV X ca e (nE u)
  x : XV X ca e (xE u)
/-- arguments, one of which may raise -/
abbrev UA := Gm → Option (List R ⊕ Exc)
def nA (u : UA) : Gm → Option (List R) := fun g => match u g with
  | some (.inl r) => some r
  | _ => none
def xA' (u : UA) : Gm → Option Exc := fun g => match u g with
  | some (.inr x) => some x
  | _ => none
theorem nA_some {u : UA} {g : Gm} {r : List R} (h : nA u g = some r) : u g = some (.inl r) := by
  unfold nA at h
  split at h
  · rename_i e; cases h; exact e
  · cases h
theorem xA_some {u : UA} {g : Gm} {r : Exc} (h : xA' u g = some r) : u g = some (.inr r) := by
  unfold xA' at h
  split at h
  · rename_i e; cases h; exact e
  · cases h
theorem nA_of {u : UA} {g : Gm} {r : List R} (h : u g = some (.inl r)) : nA u g = some r := by
  unfold nA
  rw [h]
theorem xA_of {u : UA} {g : Gm} {r : Exc} (h : u g = some (.inr r)) : xA' u g = some r := by
  unfold xA'
  rw [h]
structure UAV (X : Cx) (ca : Nat → Addr) (es : List Expr) (u : UA) : Prop where
  n : AV X ca es (nA u)
  x : XA X ca es (xA' u)
/-- plain arguments -/
def uaP (ms : Gm → Option (List R)) : UA := fun g => (ms g).map .inl
/-- a plain one ahead -/
def uaE (a : Gm → Option R) (u : UA) : UA := fun g => (a g).bind fun r => (u g).map fun z => match z with
  | .inl rs => .inl (r.fz :: rs)
  | .inr x => .inr x
/-- one that may raise, plain ones behind -/
def uaU (u : UE) (ms : Gm → Option (List R)) : UA := fun g => (u g).bind fun z => match z with
  | .inl r => (ms g).map fun rs => .inl (r.fz :: rs)
  | .inr x => some (.inr x)
theorem uav_E {a : Gm → Option R} {u : UA} (he : EV X ca e a) (h : UAV X ca es u) (hs : starEach (e :: es) X.env = (false, eval e X.env) :: starEach es X.env := by rfl) : UAV X ca (e :: es) (uaE a u) := by
  refine ⟨av_imp (av_cons he h.n hs) fun g r z => ?_, xa_imp (xa_tail he h.x hs) fun g x z => ?_⟩
  · have z := nA_some z
    obtain ⟨q, eq, z⟩ := Option.bind_eq_some_iff.mp z
    obtain ⟨y, ey, z⟩ := Option.map_eq_some_iff.mp z
    cases y with
    | inl rs => cases z; unfold aC; rw [eq, Option.bind_some, nA_of ey]; rfl
    | inr x => cases z
  · have z := xA_some z
    obtain ⟨q, eq, z⟩ := Option.bind_eq_some_iff.mp z
    obtain ⟨y, ey, z⟩ := Option.map_eq_some_iff.mp z
    cases y with
    | inl rs => cases z
    | inr x => cases z; unfold xThen; rw [eq]; exact xA_of ey
theorem uav_U {u : UE} {ms : Gm → Option (List R)} (he : UV X ca e u) (h : AV X ca es ms) (hs : starEach (e :: es) X.env = (false, eval e X.env) :: starEach es X.env := by rfl) : UAV X ca (e :: es) (uaU u ms) := by
  refine ⟨av_imp (av_cons he.n h hs) fun g r z => ?_, xa_imp (xa_head he.x hs) fun g x z => ?_⟩
  · have z := nA_some z
    obtain ⟨q, eq, z⟩ := Option.bind_eq_some_iff.mp z
    cases q with
    | inl q =>
      obtain ⟨y, ey, z⟩ := Option.map_eq_some_iff.mp (show (ms g).map (fun rs => (Sum.inl (q.fz :: rs) : List R ⊕ Exc)) = some (.inl r) from z)
      cases z
      unfold aC; rw [nE_of eq, Option.bind_some, ey]; rfl
    | inr x => cases z
  · have z := xA_some z
    obtain ⟨q, eq, z⟩ := Option.bind_eq_some_iff.mp z
    cases q with
    | inl q =>
      obtain ⟨y, ey, z⟩ := Option.map_eq_some_iff.mp (show (ms g).map (fun rs => (Sum.inl (q.fz :: rs) : List R ⊕ Exc)) = some (.inr x) from z)
      cases z
    | inr x => cases z; exact xE_of eq
/-- f(..), f raises -/
def uC (υ : List D → Option (R ⊕ Exc)) (ms : Gm → Option (List R)) : UE := fun g => (ms g).bind (callU υ)
theorem uv_call {j : Nat} {x : Str} {υ : List D → Option (R ⊕ Exc)} {φ : Phi} {ψ : List D → Option Exc} {ms : Gm → Option (List R)} (C : Callee X.prog X.w X.K X.mg X.base ca j x φ []) (CX : CalleeX X.prog X.w X.K X.mg X.base ca j x ψ) (hφ : ∀ ds r, υ ds = some (.inl r) → φ ds = some r) (hψ : ∀ ds x, υ ds = some (.inr x) → ψ ds = some x)
    (hr : Room j X.A) (hg : Gl X x) (ha : AV X ca (e :: es) ms) (hdb : (x == ("__debug__" : Str)) = false := by decide)
    (he : starEach (e :: es) X.env = (false, eval e X.env) :: starEach es X.env := by rfl) (hpl : (backTo pos (starEach es X.env)).any (·.1) = false := by rfl) : UV X ca (.Call (.Name x p) (e :: es) [] pos) (uC υ ms) := by
  refine ⟨ev_imp (ev_fn C hr hg ha hdb he hpl) fun g r z => ?_, xv_imp (xv_call CX hr hg ha hdb he hpl) fun g r z => ?_⟩
  · obtain ⟨rs, er, z⟩ := Option.bind_eq_some_iff.mp (nE_some z)
    unfold eA
    rw [er]
    exact callU_n hφ z
  · obtain ⟨rs, er, z⟩ := Option.bind_eq_some_iff.mp (xE_some z)
    unfold xC
    rw [er]
    exact callU_x hψ z
/-- f(..), an argument may raise, and f -/
def uCA (υ : List D → Option (R ⊕ Exc)) (u : UA) : UE := fun g => (u g).bind fun z => match z with
  | .inl rs => callU υ rs
  | .inr x => some (.inr x)
theorem uv_callA {j : Nat} {x : Str} {υ : List D → Option (R ⊕ Exc)} {φ : Phi} {ψ : List D → Option Exc} {u : UA} (C : Callee X.prog X.w X.K X.mg X.base ca j x φ []) (CX : CalleeX X.prog X.w X.K X.mg X.base ca j x ψ) (hφ : ∀ ds r, υ ds = some (.inl r) → φ ds = some r) (hψ : ∀ ds x, υ ds = some (.inr x) → ψ ds = some x)
    (hr : Room j X.A) (hg : Gl X x) (ha : UAV X ca (e :: es) u) (hdb : (x == ("__debug__" : Str)) = false := by decide)
    (he : starEach (e :: es) X.env = (false, eval e X.env) :: starEach es X.env := by rfl) (hpl : (backTo pos (starEach es X.env)).any (·.1) = false := by rfl) : UV X ca (.Call (.Name x p) (e :: es) [] pos) (uCA υ u) := by
  refine ⟨ev_imp (ev_fn C hr hg ha.n hdb he hpl) fun g r z => ?_, xv_imp (xv_or (xv_arg C hr hg ha.x hdb he hpl) (xv_call CX hr hg ha.n hdb he hpl)) fun g r z => ?_⟩
  · obtain ⟨q, eq, z⟩ := Option.bind_eq_some_iff.mp (nE_some z)
    cases q with
    | inl rs => unfold eA; rw [nA_of eq]; exact callU_n hφ z
    | inr x => cases z
  · obtain ⟨q, eq, z⟩ := Option.bind_eq_some_iff.mp (xE_some z)
    unfold xOr
    cases q with
    | inl rs =>
      have : xA' u g = none := by unfold xA'; rw [eq]
      rw [this]
      show xC ψ (nA u) g = _
      unfold xC
      rw [nA_of eq]
      exact callU_x hψ z
    | inr x => cases z; rw [xA_of eq]; rfl
/-- a frame around what raises -/
def uF (F : R → Option R) (u : UE) : UE := fun g => (u g).bind fun z => match z with
  | .inl r => (F r).map .inl
  | .inr x => some (.inr x)
theorem uF_n {F : R → Option R} {u : UE} {g : Gm} {r : R} (h : nE (uF F u) g = some r) : ∃ q, nE u g = some q ∧ F q = some r := by
  obtain ⟨q, eq, z⟩ := Option.bind_eq_some_iff.mp (nE_some h)
  cases q with
  | inl q =>
    obtain ⟨y, ey, z⟩ := Option.map_eq_some_iff.mp (show (F q).map (fun r => (Sum.inl r : R ⊕ Exc)) = some (.inl r) from z)
    cases z
    exact ⟨q, nE_of eq, ey⟩
  | inr x => cases z
theorem uF_x {F : R → Option R} {u : UE} {g : Gm} {r : Exc} (h : xE (uF F u) g = some r) : xE u g = some r := by
  unfold uF at h
  obtain ⟨q, eq, z⟩ := Option.bind_eq_some_iff.mp (xE_some h)
  cases q with
  | inl q =>
    obtain ⟨y, ey, z⟩ := Option.map_eq_some_iff.mp (show (F q).map (fun r => (Sum.inl r : R ⊕ Exc)) = some (.inr r) from z)
    cases z
  | inr x => cases z; exact xE_of eq
theorem uv_fld {f : Str} {u : UE} (h : UV X ca e u) (hb : attributeBase e f X.env (eval e X.env) = eval e X.env) : UV X ca (.Attribute e f pos) (uF (oFld f) u) :=
  ⟨ev_imp (ev_fld h.n hb) fun g r z => by
    obtain ⟨q, eq, z⟩ := uF_n z
    unfold e1
    rw [eq]
    exact z, xv_imp (xv_fld h.x hb) fun g x z => uF_x z⟩
/-- [e] -/
theorem uv_l1 {u : UE} (h : UV X ca e u) (hs : starEach [e] X.env = (false, eval e X.env) :: starEach [] X.env := by rfl) : UV X ca (.List [e] pos) (uF (fun r => oLst [r.fz]) u) :=
  ⟨ev_imp (ev_lst (av_cons h.n av_nil hs)) fun g r z => by
    obtain ⟨q, eq, z⟩ := uF_n z
    unfold eA aC
    rw [eq]
    exact z, xv_imp (xv_lst (xa_head h.x hs)) fun g x z => uF_x z⟩
end
/-! statements -/
def NoEx (m : Gm → Option Out) : Prop := ∀ g x, m g ≠ some (.ex x)
def sU (u : UE) (k : R → Gm → Option Out) : Gm → Option Out := fun g => (u g).bind fun z => match z with
  | .inl r => k r g
  | .inr x => some (.ex x)
theorem sU_inl {u : UE} {k : R → Gm → Option Out} {g : Gm} {r : R} (h : u g = some (.inl r)) : sU u k g = k r g := by
  unfold sU
  rw [h]
  rfl
theorem sU_inr {u : UE} {k : R → Gm → Option Out} {g : Gm} {x : Exc} (h : u g = some (.inr x)) : sU u k g = some (.ex x) := by
  unfold sU
  rw [h]
  rfl
section
variable {X : Cx} {ca : Nat → Addr} {e : Expr} {st : Stmt} {rest : List Stmt} {m n : Gm → Option Out} {T T' : List Nat} {pos : Pos}
theorem sv_imp {m' : Gm → Option Out} (h : SV X ca st m T) (i : ∀ g o, m' g = some o → (∃ x, o = .ex x) ∨ m g = some o) : SV X ca st m' T := by
  refine ⟨ps_imp h.ps ?_, fun g o e => ?_⟩
  · rintro D σ H ⟨H0, F0, F, Γ, o, S, e, p⟩
    rcases i _ _ e with ⟨x, rfl⟩ | e
    · exact p.elim
    · exact ⟨H0, F0, F, Γ, o, S, e, p⟩
  · rcases i _ _ e with ⟨x, rfl⟩ | e
    · trivial
    · exact h.kp g o e
theorem x0_imp {m m' : Gm → Option Exc} (h : X0 X ca st m) (i : ∀ g x, m' g = some x → m g = some x) : X0 X ca st m' := fun W tk => ps_imp (h W tk) fun D σ H ⟨H0, F0, F, Γ, r, S, e, q⟩ => ⟨H0, F0, F, Γ, r, S, i _ _ e, q⟩
theorem xs_imp {m m' : Gm → Option Exc} (h : XS X ca st m) (i : ∀ g x, m' g = some x → m g = some x) : XS X ca st m' := fun W tk => ps_imp (h W tk) fun D σ H ⟨H0, F0, F, Γ, r, S, e, q⟩ => ⟨H0, F0, F, Γ, r, S, i _ _ e, q⟩
theorem x0s_imp {m m' : Gm → Option Exc} (h : X0s X ca rest m) (i : ∀ g x, m' g = some x → m g = some x) : X0s X ca rest m' := fun W tk => pss_imp (h W tk) fun D σ H ⟨H0, F0, F, Γ, r, S, e, q⟩ => ⟨H0, F0, F, Γ, r, S, i _ _ e, q⟩
theorem xss_imp {m m' : Gm → Option Exc} (h : XSs X ca rest m) (i : ∀ g x, m' g = some x → m g = some x) : XSs X ca rest m' := fun W tk => pss_imp (h W tk) fun D σ H ⟨H0, F0, F, Γ, r, S, e, q⟩ => ⟨H0, F0, F, Γ, r, S, i _ _ e, q⟩
theorem sv_u {u : UE} {k : R → Gm → Option Out} (h : SV X ca st (fun g => (nE u g).bind fun r => k r g) T) : SV X ca st (sU u k) T := sv_imp h fun g o z => by
  obtain ⟨q, eq, z⟩ := Option.bind_eq_some_iff.mp z
  cases q with
  | inl r =>
    refine .inr ?_
    show (nE u g).bind _ = _
    rw [nE_of eq]
    exact z
  | inr x => cases z; exact .inl ⟨x, rfl⟩
theorem x0_u {u : UE} {k : R → Gm → Option Out} (h : X0 X ca st (xE u)) (nk : ∀ r g x, k r g ≠ some (.ex x)) : X0 X ca st (exn (sU u k)) := x0_imp h fun g x z => by
  obtain ⟨q, eq, z⟩ := Option.bind_eq_some_iff.mp (exn_some z)
  cases q with
  | inl r => exact absurd z (nk r g x)
  | inr y => cases z; exact xE_of eq
def kSet (i : Nat) : R → Gm → Option Out := fun r g => (setR g i r).map .nx
def kAsg (f : D → Gm → Option Gm) : R → Gm → Option Out := fun r g => match r with
  | .va d => (f d g).map .nx
  | _ => none
def kRet : R → Gm → Option Out := fun r _ => some (.rt (retR r))
def kExp : R → Gm → Option Out := fun _ g => some (.nx g)
theorem kSet_no (i : Nat) (r : R) (g : Gm) (x : Exc) : kSet i r g ≠ some (.ex x) := fun h => by
  obtain ⟨_, _, h⟩ := Option.map_eq_some_iff.mp h
  cases h
theorem kAsg_no (f : D → Gm → Option Gm) (r : R) (g : Gm) (x : Exc) : kAsg f r g ≠ some (.ex x) := fun h => by
  cases r with
  | va d =>
    obtain ⟨_, _, h⟩ := Option.map_eq_some_iff.mp h
    cases h
  | tm ds => cases h
  | bw j ds => cases h
theorem kRet_no (r : R) (g : Gm) (x : Exc) : kRet r g ≠ some (.ex x) := fun h => by cases h
theorem kExp_no (r : R) (g : Gm) (x : Exc) : kExp r g ≠ some (.ex x) := fun h => by cases h
theorem svU_set {i : Nat} {x : Str} {u : UE} {pos' : Pos} (hN : X.N.Nodup) (hi : X.N[i]? = some x) (hx : Loc X.env.scope x) (he : UV X ca e u) (hs : swapsWith e (some (.Name x pos')) pos.line X.env = pure false := by rfl) (hf : X.fn x = true ∨ X.env.scope.names.lookup x = some .local := by first | exact .inl rfl | exact .inr rfl | assumption) :
    SV X ca (.Assign [.Name x pos'] e pos) (sU u (kSet i)) [i] := sv_u (sv_set hN hi hx he.n hs hf)
theorem x0U_set {i : Nat} {x : Str} {u : UE} {pos' : Pos} (hN : X.N.Nodup) (hi : X.N[i]? = some x) (hx : Loc X.env.scope x) (he : UV X ca e u) (hs : swapsWith e (some (.Name x pos')) pos.line X.env = pure false := by rfl) (hf : X.fn x = true ∨ X.env.scope.names.lookup x = some .local := by first | exact .inl rfl | exact .inr rfl | assumption) :
    X0 X ca (.Assign [.Name x pos'] e pos) (exn (sU u (kSet i))) := x0_u (x0_set hN hi hx he.x hs hf) (kSet_no i)
theorem svU_asg {tg : Expr} {u : UE} {f : D → Gm → Option Gm} {U : List Nat} (he : UV X ca e u) (hg : GV X ca tg f U) (hs : swapsWithSole [tg] e pos.line X.env = pure false := by rfl) (hw : swappedStores [tg] e X.env = pure none := by rfl)
    (h1 : (assignEach [tg] X.env).map (·.2) = [assign tg X.env] := by rfl) : SV X ca (.Assign [tg] e pos) (sU u (kAsg f)) U := sv_u (sv_imp (sv_asg he.n hg hs hw h1) fun g o z => .inr (by
  obtain ⟨r, er, z⟩ := Option.bind_eq_some_iff.mp z
  unfold sAsg
  rw [er]
  exact z))
theorem x0U_asg {tg : Expr} {u : UE} {f : D → Gm → Option Gm} {U : List Nat} (he : UV X ca e u) (hg : GV X ca tg f U) (hs : swapsWithSole [tg] e pos.line X.env = pure false := by rfl) (hw : swappedStores [tg] e X.env = pure none := by rfl)
    (h1 : (assignEach [tg] X.env).map (·.2) = [assign tg X.env] := by rfl) : X0 X ca (.Assign [tg] e pos) (exn (sU u (kAsg f))) := x0_u (x0_asg he.x hg hs hw h1) (kAsg_no f)
theorem svU_ret {u : UE} (he : UV X ca e u) : SV X ca (.Return (some e) pos) (sU u kRet) [] := sv_u (sv_imp (sv_ret he.n) fun g o z => .inr (by
  obtain ⟨r, er, z⟩ := Option.bind_eq_some_iff.mp z
  unfold sRet
  rw [er]
  exact z))
theorem x0U_ret {u : UE} (he : UV X ca e u) : X0 X ca (.Return (some e) pos) (exn (sU u kRet)) := x0_u (x0_ret he.x) kRet_no
theorem svU_expr {u : UE} (he : UV X ca e u) (hs : swapsWith e none pos.line X.env = pure false := by rfl) : SV X ca (.Expr e pos) (sU u kExp) [] := sv_u (sv_imp (sv_expr he.n hs) fun g o z => .inr (by
  obtain ⟨r, er, z⟩ := Option.bind_eq_some_iff.mp z
  unfold sExp
  rw [er]
  exact z))
theorem x0U_expr {u : UE} (he : UV X ca e u) (hs : swapsWith e none pos.line X.env = pure false := by rfl) : X0 X ca (.Expr e pos) (exn (sU u kExp)) := x0_u (x0_expr he.x hs) kExp_no
/-- xs.append(e) -/
def sAppU (i : Nat) (u : UE) : Gm → Option Out := fun g => match g[i]? with
  | some (.ow ds) => (u g).bind fun z => match z with
    | .inl r => if (!r.isBw && decide (ds.length < LIM)) = true then some (.nx (g.set i (.ow (ds ++ [r.d])))) else none
    | .inr x => some (.ex x)
  | _ => none
theorem svU_app {i : Nat} {x : Str} {p1 p2 p3 : Pos} {u : UE} (hx : PE X (.Name x p1) (tVar i)) (he : UV X ca e u) (hs1 : starEach [e] X.env = (false, eval e X.env) :: starEach [] X.env := by rfl)
    (h : ∀ (t : TA), PA X [e] t → PE X (.Call (.Attribute (.Name x p1) "append" p2) [e] [] p3) (tBM X.K "list" rAppend (tVar i) t))
    (hs : swapsWith (.Call (.Attribute (.Name x p1) "append" p2) [e] [] p3) none pos.line X.env = pure false := by rfl) : SV X ca (.Expr (.Call (.Attribute (.Name x p1) "append" p2) [e] [] p3) pos) (sAppU i u) [i] := sv_imp (sv_app hx he.n hs1 (h _ (pa_cons he.n pa_nil hs1)) hs) fun g o z => by
  unfold sAppU at z
  unfold sApp
  split at z
  · rename_i ds hg
    obtain ⟨q, eq, z⟩ := Option.bind_eq_some_iff.mp z
    cases q with
    | inl r =>
      refine .inr ?_
      (first | rw [hg] | skip)
      show (nE u g).bind _ = _
      rw [nE_of eq]
      exact z
    | inr x => cases z; exact .inl ⟨x, rfl⟩
  · cases z
theorem x0U_app {i : Nat} {x : Str} {p1 p2 p3 : Pos} {u : UE} (h : ∀ (t : TA), PA X [e] t → PE X (.Call (.Attribute (.Name x p1) "append" p2) [e] [] p3) (tBM X.K "list" rAppend (tVar i) t)) (he : UV X ca e u) (hs1 : starEach [e] X.env = (false, eval e X.env) :: starEach [] X.env := by rfl)
    (hs : swapsWith (.Call (.Attribute (.Name x p1) "append" p2) [e] [] p3) none pos.line X.env = pure false := by rfl) : X0 X ca (.Expr (.Call (.Attribute (.Name x p1) "append" p2) [e] [] p3) pos) (exn (sAppU i u)) := x0_imp (x0_app (i := i) h he.x hs1 hs) fun g y z => by
  have z := exn_some z
  unfold sAppU at z
  unfold xApp
  split at z
  · rename_i ds hg
    (first | rw [hg] | skip)
    obtain ⟨q, eq, z⟩ := Option.bind_eq_some_iff.mp z
    cases q with
    | inl r =>
      have z : (if (!r.isBw && decide (ds.length < LIM)) = true then some (Out.nx (g.set i (.ow (ds ++ [r.d])))) else none) = some (.ex y) := z
      split at z <;> cases z
    | inr x => cases z; exact xE_of eq
  · cases z
/-- raise -/
def sRs (m : Gm → Option Exc) : Gm → Option Out := fun g => (m g).map .ex
theorem svU_raise {mx : Gm → Option Exc} : SV X ca st (sRs mx) [] := sv_imp (sv_never) fun g o z => by
  obtain ⟨x, _, rfl⟩ := Option.map_eq_some_iff.mp z
  exact .inl ⟨x, rfl⟩
theorem x0U_raise {mx : Gm → Option Exc} (h : X0 X ca st mx) : X0 X ca st (exn (sRs mx)) := x0_imp h fun g x z => by
  obtain ⟨y, ey, z⟩ := Option.map_eq_some_iff.mp (exn_some z)
  cases z
  exact ey
/-- blocks -/
theorem xsU_cons (h0 : SV X.nox ca st m T) (h1 : XS X ca st (exn m)) (h2 : XSs X ca rest (exn n)) : XSs X ca (st :: rest) (exn (sCons m n)) := xss_imp (xss_or (xss_head h1) (xss_tail h0 h2)) fun g x z => by
  obtain ⟨o, eo, z⟩ := Option.bind_eq_some_iff.mp (exn_some z)
  unfold xOr
  cases o with
  | nx g' =>
    have : exn m g = none := by unfold exn; rw [eo]
    rw [this]
    show xSeq m (exn n) g = some x
    unfold xSeq
    rw [eo]
    exact exn_of z
  | rt r => cases z
  | bk g' => cases z
  | ct g' => cases z
  | ex y => cases z; rw [exn_of eo]; rfl
/-- .. whose first does not raise -/
theorem xsU_tail (h0 : SV X.nox ca st m T) (hn : NoEx m) (h2 : XSs X ca rest (exn n)) : XSs X ca (st :: rest) (exn (sCons m n)) := xss_imp (xss_tail h0 h2) fun g x z => by
  obtain ⟨o, eo, z⟩ := Option.bind_eq_some_iff.mp (exn_some z)
  unfold xSeq
  rw [eo]
  cases o with
  | nx g' => exact exn_of z
  | rt r => cases z
  | bk g' => cases z
  | ct g' => cases z
  | ex y => exact absurd eo (hn g y)
/-- .. whose rest does not raise -/
theorem xsU_head (h1 : XS X ca st (exn m)) (hn : NoEx n) : XSs X ca (st :: rest) (exn (sCons m n)) := xss_imp (xss_head h1) fun g x z => by
  obtain ⟨o, eo, z⟩ := Option.bind_eq_some_iff.mp (exn_some z)
  cases o with
  | nx g' => exact absurd z (hn g' x)
  | rt r => cases z
  | bk g' => cases z
  | ct g' => cases z
  | ex y => cases z; exact exn_of eo
theorem x0U_one (h1 : X0 X ca st (exn m)) : X0s X ca (st :: rest) (exn (sCons m sNil)) := x0s_imp (x0_one h1) fun g x z => by
  obtain ⟨o, eo, z⟩ := Option.bind_eq_some_iff.mp (exn_some z)
  cases o with
  | nx g' => cases z
  | rt r => cases z
  | bk g' => cases z
  | ct g' => cases z
  | ex y => cases z; exact exn_of eo
theorem xsU_no (hn : NoEx n) : XSs X ca rest (exn n) := xss_imp xss_no fun g x z => absurd (exn_some z) (hn g x)
theorem x0U_no (hn : NoEx n) : X0s X ca rest (exn n) := x0s_imp x0s_no fun g x z => absurd (exn_some z) (hn g x)
theorem ifX {c : Gm → Option Bool} {g : Gm} {x : Exc} (z : exn (sIf c m n) g = some x) : xIf c (exn m) (exn n) g = some x := by
  obtain ⟨k, ek, z⟩ := Option.bind_eq_some_iff.mp (exn_some z)
  unfold xIf
  rw [ek]
  cases k with
  | true => exact exn_of z
  | false => exact exn_of z
theorem xsU_if {c : Expr} {a b : List Stmt} {mc : Gm → Option Bool} (hc : TV X ca c mc) (ha : XSs X ca a (exn m)) (hb : XSs X ca b (exn n)) : XS X ca (.If c a b pos) (exn (sIf mc m n)) := xs_imp (xs_if hc ha hb) fun g x z => ifX z
theorem x0U_if {c : Expr} {a b : List Stmt} {mc : Gm → Option Bool} (hc : TV X ca c mc) (ha : X0s X ca a (exn m)) (hb : X0s X ca b (exn n)) : X0 X ca (.If c a b pos) (exn (sIf mc m n)) := x0_imp (x0_if hc ha hb) fun g x z => ifX z
theorem forLX {f : D → Gm → Option Gm} {b : Gm → Option Out} : ∀ (ds : List D) (g : Gm) (x : Exc), forL f b ds g = some (.ex x) → xForL f b (exn b) ds g = some x
  | [], g, x, z => by cases z
  | d :: ds, g, x, z => by
    unfold forL at z
    obtain ⟨g1, e1, z⟩ := Option.bind_eq_some_iff.mp z
    obtain ⟨o, eo, z⟩ := Option.bind_eq_some_iff.mp z
    unfold xForL
    rw [e1]
    show (match exn b g1 with | some x => some x | none => _) = _
    have no : (∀ y, o ≠ .ex y) → exn b g1 = none := fun h => by
      unfold exn
      rw [eo]
      split
      · rename_i y e; cases e; exact absurd rfl (h y)
      · rfl
    cases o with
    | nx g2 => rw [no fun y h => nomatch h]; show (b g1).bind _ = _; rw [eo]; exact forLX ds g2 x z
    | ct g2 => rw [no fun y h => nomatch h]; show (b g1).bind _ = _; rw [eo]; exact forLX ds g2 x z
    | bk g2 => cases z
    | rt r => cases z
    | ex y => cases z; rw [exn_of eo]
theorem xsU_for {tg iter : Expr} {body : List Stmt} {mi : Gm → Option (List Nat × List D)} {f : D → Gm → Option Gm} {b : Gm → Option Out} {U : List Nat} (hp : PassesOwn (model X.prog X.w) X.A X.env X.xe) (hc : X.calm = true) (hi : IV X ca tg iter mi) (hg : GV X ca tg f T) (hb : SVs X.nox ca body b T') (hx : XSs X ca body (exn b))
    (hU : U = T ++ T') (hs : ∀ x, foldedSetIterable iter X.env x = pure x := by intro _; rfl) : XS X ca (.For tg iter body [] pos) (exn (sFor mi f b U)) := xs_imp (xs_for hp hc hi hg hb hx hU hs) fun g x z => by
  obtain ⟨p, ep, z⟩ := Option.bind_eq_some_iff.mp (exn_some z)
  unfold xFor
  rw [ep]
  show (if _ then _ else _) = _
  have z : (if p.1.all (fun j => !U.contains j) = true then forL f b p.2 g else none) = some (.ex x) := z
  split at z
  · rename_i c
    rw [if_pos c]
    exact forLX _ _ _ z
  · cases z
theorem whX {c : Gm → Option Bool} {b : Gm → Option Out} : ∀ (N : Nat) (g : Gm) (x : Exc), sWh c b N g = some (.ex x) → xWh c b (exn b) N g = some x
  | 0, g, x, z => by cases z
  | N + 1, g, x, z => by
    unfold sWh at z
    obtain ⟨k, ek, z⟩ := Option.bind_eq_some_iff.mp z
    unfold xWh
    rw [ek]
    cases k with
    | false => rw [if_neg (by decide)] at z; cases z
    | true =>
      rw [if_pos rfl] at z
      obtain ⟨o, eo, z⟩ := Option.bind_eq_some_iff.mp z
      rw [Option.bind_some, if_pos rfl]
      have no : (∀ y, o ≠ .ex y) → exn b g = none := fun h => by
        unfold exn
        rw [eo]
        split
        · rename_i y e; cases e; exact absurd rfl (h y)
        · rfl
      cases o with
      | nx g2 => rw [no fun y h => nomatch h]; show (b g).bind _ = _; rw [eo]; exact whX N g2 x z
      | ct g2 => rw [no fun y h => nomatch h]; show (b g).bind _ = _; rw [eo]; exact whX N g2 x z
      | bk g2 => cases z
      | rt r => cases z
      | ex y => cases z; rw [exn_of eo]
theorem xsU_while {c : Expr} {body : List Stmt} {mc : Gm → Option Bool} {b : Gm → Option Out} {N : Nat} (hp : PassesOwn (model X.prog X.w) X.A X.env X.xe) (hc : TV X ca c mc) (hb : SVs X.nox ca body b T) (hx : XSs X ca body (exn b)) : XS X ca (.While c body [] pos) (exn (sWh mc b N)) := xs_imp (xs_while hp hc hb hx) fun g x z => whX N g x (exn_some z)
theorem xsU_fz {i : Nat} (h : XS X ca st (exn m)) : XS X ca st (exn (sFz i m)) := xs_imp (xs_fz (i := i) h) fun g x z => by
  have z := exn_some z
  unfold sFz at z
  unfold xFz
  split at z
  · rename_i ds hg; (first | rw [hg] | skip); exact exn_of z
  · rename_i hn
    first
    | exact exn_of z
    | (split
       · rename_i ds hg; exact absurd hg (hn ds)
       · exact exn_of z)
end
/-- for x in f(..): f raises -/
def sForU (ui : Gm → Option ((List Nat × List D) ⊕ Exc)) (f : D → Gm → Option Gm) (b : Gm → Option Out) (T : List Nat) : Gm → Option Out := fun g => (ui g).bind fun z => match z with
  | .inl p => if p.1.all (fun j => !T.contains j) = true then forL f b p.2 g else none
  | .inr x => some (.ex x)
/-! no statement of these raises -/
section
variable {m n : Gm → Option Out}
theorem noex_nil : NoEx sNil := fun g x h => by cases h
theorem noex_cons (h1 : NoEx m) (h2 : NoEx n) : NoEx (sCons m n) := fun g x h => by
  obtain ⟨o, eo, z⟩ := Option.bind_eq_some_iff.mp h
  cases o with
  | nx g' => exact h2 g' x z
  | rt r => cases z
  | bk g' => cases z
  | ct g' => cases z
  | ex y => exact h1 g y eo
theorem noex_if {c : Gm → Option Bool} (h1 : NoEx m) (h2 : NoEx n) : NoEx (sIf c m n) := fun g x h => by
  obtain ⟨k, ek, z⟩ := Option.bind_eq_some_iff.mp h
  cases k with
  | true => exact h1 g x z
  | false => exact h2 g x z
theorem noex_forL {f : D → Gm → Option Gm} (h1 : NoEx m) : ∀ (ds : List D) (g : Gm) (x : Exc), forL f m ds g ≠ some (.ex x)
  | [], g, x, h => by cases h
  | d :: ds, g, x, h => by
    unfold forL at h
    obtain ⟨g1, e1, h⟩ := Option.bind_eq_some_iff.mp h
    obtain ⟨o, eo, h⟩ := Option.bind_eq_some_iff.mp h
    cases o with
    | nx g2 => exact noex_forL h1 ds g2 x h
    | ct g2 => exact noex_forL h1 ds g2 x h
    | bk g2 => cases h
    | rt r => cases h
    | ex y => exact h1 _ _ eo
theorem noex_for {mi : Gm → Option (List Nat × List D)} {f : D → Gm → Option Gm} {T : List Nat} (h1 : NoEx m) : NoEx (sFor mi f m T) := fun g x h => by
  obtain ⟨p, ep, z⟩ := Option.bind_eq_some_iff.mp h
  have z : (if p.1.all (fun j => !T.contains j) = true then forL f m p.2 g else none) = some (.ex x) := z
  split at z
  · exact noex_forL h1 _ _ _ z
  · cases z
theorem noex_wh {c : Gm → Option Bool} (h1 : NoEx m) : ∀ N, NoEx (sWh c m N)
  | 0, g, x, h => by cases h
  | N + 1, g, x, h => by
    unfold sWh at h
    obtain ⟨k, ek, h⟩ := Option.bind_eq_some_iff.mp h
    cases k with
    | false => rw [if_neg (by decide)] at h; cases h
    | true =>
      rw [if_pos rfl] at h
      obtain ⟨o, eo, h⟩ := Option.bind_eq_some_iff.mp h
      cases o with
      | nx g2 => exact noex_wh h1 N g2 x h
      | ct g2 => exact noex_wh h1 N g2 x h
      | bk g2 => cases h
      | rt r => cases h
      | ex y => exact h1 _ _ eo
theorem noex_fz {i : Nat} (h1 : NoEx m) : NoEx (sFz i m) := fun g x h => by
  unfold sFz at h
  split at h
  · exact h1 _ _ h
  · exact h1 _ _ h
theorem noex_set {i : Nat} {a : Gm → Option R} : NoEx (sSet i a) := fun g x h => by
  obtain ⟨r, er, h⟩ := Option.bind_eq_some_iff.mp h
  obtain ⟨_, _, h⟩ := Option.map_eq_some_iff.mp h
  cases h
theorem noex_asg {a : Gm → Option R} {f : D → Gm → Option Gm} : NoEx (sAsg a f) := fun g x h => by
  obtain ⟨r, er, h⟩ := Option.bind_eq_some_iff.mp h
  exact kAsg_no f r g x h
theorem noex_ret {a : Gm → Option R} : NoEx (sRet a) := fun g x h => by
  obtain ⟨_, _, h⟩ := Option.map_eq_some_iff.mp h
  cases h
theorem noex_retN : NoEx sRetN := fun g x h => by cases h
theorem noex_nv : NoEx sNv := fun g x h => by cases h
theorem noex_bk : NoEx sBk := fun g x h => by cases h
theorem noex_ct : NoEx sCt := fun g x h => by cases h
theorem noex_exp {a : Gm → Option R} : NoEx (sExp a) := fun g x h => by
  obtain ⟨_, _, h⟩ := Option.map_eq_some_iff.mp h
  cases h
theorem noex_app {i : Nat} {a : Gm → Option R} : NoEx (sApp i a) := fun g x h => by
  unfold sApp at h
  split at h
  · obtain ⟨r, er, h⟩ := Option.bind_eq_some_iff.mp h
    split at h <;> cases h
  · cases h
theorem noex_ext {i : Nat} {a : Gm → Option R} : NoEx (sExt i a) := fun g x h => by
  unfold sExt at h
  split at h
  · obtain ⟨r, er, h⟩ := Option.bind_eq_some_iff.mp h
    repeat' (first | split at h | cases h)
  · cases h
theorem noex_aug {i : Nat} {f : R → R → Option R} {a : Gm → Option R} : NoEx (sAug i f a) := fun g x h => by
  obtain ⟨r, er, h⟩ := Option.bind_eq_some_iff.mp h
  obtain ⟨r, er, h⟩ := Option.bind_eq_some_iff.mp h
  obtain ⟨r, er, h⟩ := Option.bind_eq_some_iff.mp h
  obtain ⟨_, _, h⟩ := Option.map_eq_some_iff.mp h
  cases h
theorem noex_mv {i j : Nat} : NoEx (sMv i j) := fun g x h => by
  unfold sMv at h
  repeat' (first | split at h | cases h)
end
end BK
namespace BK
end BK
namespace BK
open PySem PySem.Spec L2
set_option autoImplicit false
/-! ### in plain types: what answers or raises -/
/-- an exception that is held -/
def eX (x : Exc) : D := .exc x.c (x.fs.map aD)
def bU {α β : Type} (ι : Exc → β) (p : Option (α ⊕ Exc)) (t : α → Option β) : Option β := p.bind fun z => match z with
  | .inl v => t v
  | .inr x => some (ι x)
theorem bU_inl {α β : Type} (ι : Exc → β) (v : α) (t : α → Option β) : bU ι (some (.inl v)) t = t v := rfl
theorem bU_inr {α β : Type} (ι : Exc → β) (x : Exc) (t : α → Option β) : bU ι (some (.inr x)) t = some (ι x) := rfl
/-- try: the body's end, or what is left where x was caught -/
def tryU {σ : Type} (b : Option (σ ⊕ Exc)) (h : Exc → Option σ) : Option σ := b.bind fun z => match z with
  | .inl s => some s
  | .inr x => h x
theorem tryU_inl {σ : Type} (s : σ) (h : Exc → Option σ) : tryU (some (.inl s)) h = some s := rfl
theorem tryU_inr {σ : Type} (x : Exc) (h : Exc → Option σ) : tryU (some (.inr x)) h = h x := rfl
def KU {α : Type} (k : α → R) : α ⊕ Exc → R ⊕ Exc
  | .inl v => .inl (k v)
  | .inr x => .inr x
def PU {α : Type} (k : α → R) : α ⊕ Exc → Out → Prop
  | .inl v, o => fnR (some o) = some (k v)
  | .inr x, o => o = .ex x
def KO {α : Type} (k : α → R) : α ⊕ Exc → Out
  | .inl v => .rt (k v)
  | .inr x => .ex x
/-- a loop's turn that may hand back or raise -/
def PCO {σ ρ : Type} (St : σ → Gm → Prop) (ko : ρ → Out) : Ctl σ ρ → Out → Prop
  | .nx s, o => ∃ g, (o = .nx g ∨ o = .ct g) ∧ St s g
  | .bk s, o => ∃ g, o = .bk g ∧ St s g
  | .rt r, o => o = ko r
/-- the body of a try -/
def PB {σ : Type} (St : σ → Gm → Prop) : σ ⊕ Exc → Out → Prop
  | .inl s, o => ∃ g, o = .nx g ∧ St s g
  | .inr x, o => o = .ex x
theorem ups_def (m : Gm → Option Out) (N n : Nat) (ds : List D) (h : ds.length = n) : ups m N n ds = match m (ds.map Slot.va ++ List.replicate (N - n) Slot.un) with
  | some (.rt r) => some (.inl (retR r))
  | some (.nx _) => some (.inl (.va .non))
  | some (.ex x) => some (.inr x)
  | _ => none := if_pos h
theorem fnR_ups {m : Gm → Option Out} {N n : Nat} {ds : List D} (hl : ds.length = n) {o : Out} {r : R} (h : m (ds.map Slot.va ++ List.replicate (N - n) Slot.un) = some o) (k : fnR (some o) = some r) : ups m N n ds = some (.inl r) := by
  rw [ups_def m N n ds hl, h]
  cases o with
  | nx g => cases k; rfl
  | rt q => cases k; rfl
  | bk g => cases k
  | ct g => cases k
  | ex x => cases k
theorem sim_upsN {α : Type} {m : Gm → Option Out} {N n : Nat} {ds : List D} {s : Option α} {k : α → R} (hl : ds.length = n) (h : J m nxt (ds.map Slot.va ++ List.replicate (N - n) Slot.un) s (PF k)) {x : α} (e : s = some x) : ups m N n ds = some (.inl (k x)) := by
  obtain ⟨o, e1, e2⟩ := h x e
  rw [bO_nxt] at e1
  exact fnR_ups hl e1 e2
theorem sim_ups {α : Type} {m : Gm → Option Out} {N n : Nat} {ds : List D} {s : Option (α ⊕ Exc)} {k : α → R} (hl : ds.length = n) (h : J m nxt (ds.map Slot.va ++ List.replicate (N - n) Slot.un) s (PU k)) {x : α ⊕ Exc} (e : s = some x) : ups m N n ds = some (KU k x) := by
  obtain ⟨o, e1, e2⟩ := h x e
  rw [bO_nxt] at e1
  cases x with
  | inl v => exact fnR_ups hl e1 e2
  | inr x =>
    have e2 : o = .ex x := e2
    subst e2
    rw [ups_def m N n ds hl, e1]
    rfl
/-! calls -/
theorem f_cuN {υ : List D → Option (R ⊕ Exc)} {rs : List R} {z : R} (h : υ (rs.map R.d) = some (.inl z)) (ht : rs.any R.isTm = false) (hb : rs.any R.isBw = false ∨ z.lf = true ∨ z.lfk (lentK rs) = true) : callU υ rs = some (.inl z) := by
  unfold callU
  rw [ht, if_neg (by decide), h]
  show (if _ then _ else _) = _
  rcases hb with hb | hb | hb
  · rw [hb]; rfl
  · rw [hb, Bool.or_true, Bool.true_or, if_pos rfl]
  · rw [hb, Bool.or_true, if_pos rfl]
theorem f_cuX {υ : List D → Option (R ⊕ Exc)} {rs : List R} {x : Exc} (h : υ (rs.map R.d) = some (.inr x)) (ht : rs.any R.isTm = false) : callU υ rs = some (.inr x) := by
  unfold callU
  rw [ht, if_neg (by decide), h]
  rfl
section
variable {g : Gm} {ms : Gm → Option (List R)} {rs : List R} {υ : List D → Option (R ⊕ Exc)} {u : UE} {F : R → Option R}
theorem x_uC {z : R ⊕ Exc} (h : ms g = some rs) (k : callU υ rs = some z) : uC υ ms g = some z := by
  unfold uC
  rw [h]
  exact k
theorem x_uF {q r : R} (h : u g = some (.inl q)) (k : F q = some r) : uF F u g = some (.inl r) := by
  unfold uF
  rw [h]
  show (F q).map _ = _
  rw [k]
  rfl
theorem x_uFx {x : Exc} (h : u g = some (.inr x)) : uF F u g = some (.inr x) := by
  unfold uF
  rw [h]
  rfl
theorem f_l1 {r : R} {d : D} (h : r.fz = .va d) : (fun r : R => oLst [r.fz]) r = some (.tm [d]) := by
  show oLst [r.fz] = _
  rw [h]
  rfl
theorem x_uCA {ua : UA} {z : R ⊕ Exc} (h : ua g = some (.inl rs)) (k : callU υ rs = some z) : uCA υ ua g = some z := by
  unfold uCA
  rw [h]
  exact k
theorem x_uCAx {ua : UA} {x : Exc} (h : ua g = some (.inr x)) : uCA υ ua g = some (.inr x) := by
  unfold uCA
  rw [h]
  rfl
theorem x_uaE {a : Gm → Option R} {ua : UA} {r : R} (h : a g = some r) (k : ua g = some (.inl rs)) : uaE a ua g = some (.inl (r.fz :: rs)) := by
  unfold uaE
  rw [h]
  show (ua g).map _ = _
  rw [k]
  rfl
theorem x_uaEx {a : Gm → Option R} {ua : UA} {r : R} {x : Exc} (h : a g = some r) (k : ua g = some (.inr x)) : uaE a ua g = some (.inr x) := by
  unfold uaE
  rw [h]
  show (ua g).map _ = _
  rw [k]
  rfl
theorem x_uaU {r : R} (h : u g = some (.inl r)) (k : ms g = some rs) : uaU u ms g = some (.inl (r.fz :: rs)) := by
  unfold uaU
  rw [h]
  show (ms g).map _ = _
  rw [k]
  rfl
theorem x_uaUx {x : Exc} (h : u g = some (.inr x)) : uaU u ms g = some (.inr x) := by
  unfold uaU
  rw [h]
  rfl
theorem x_rs {c : Nat} {fs : List (Int ⊕ Str)} (h : ms g = some rs) (k : atoms rs = some fs) (hl : (fs.length == (xflds c).length) = true) : xRaise c ms g = some ⟨c, fs.reverse⟩ := by
  unfold xRaise
  rw [h]
  show (atoms rs).bind _ = _
  rw [k]
  show (if _ then _ else _) = _
  rw [if_pos hl]
end
/-! blocks -/
section
variable {α γ σ : Type} {b n : Gm → Option Out} {g g1 : Gm} {P : α → Out → Prop} {s : Option α} {i : Nat} {u : UE} {m : Gm → Option Out}
theorem j_bU {ι : Exc → α} {p : Option (γ ⊕ Exc)} {t : γ → Option α} (hx : ∀ x, p = some (.inr x) → m g = some (.ex x)) (hP : ∀ x, P (ι x) (.ex x)) (h : ∀ v, p = some (.inl v) → J (sCons m b) n g (t v) P) : J (sCons m b) n g (bU ι p t) P := by
  cases p with
  | none => exact fun _ e => by cases e
  | some z =>
    cases z with
    | inl v => exact h v rfl
    | inr x =>
      unfold J
      rw [sCons_def, hx x rfl]
      exact sm_ret rfl (hP x)
theorem j_setU {d : D} (h : u g = some (.inl (.va d))) (h1 : g.set i (.va d) = g1) (k : J b n g1 s P) : J (sCons (sU u (kSet i)) b) n g s P :=
  j_seq (a := sU u (kSet i)) (g1 := g1) (by rw [sU_inl h, ← h1]; rfl) k
theorem j_setTU {d : List D} (h : u g = some (.inl (.tm d))) (h1 : g.set i (.ow d) = g1) (k : J b n g1 s P) : J (sCons (sU u (kSet i)) b) n g s P :=
  j_seq (a := sU u (kSet i)) (g1 := g1) (by rw [sU_inl h, ← h1]; rfl) k
theorem j_asgU {f : D → Gm → Option Gm} {d : D} (h : u g = some (.inl (.va d))) (h1 : f d g = some g1) (k : J b n g1 s P) : J (sCons (sU u (kAsg f)) b) n g s P :=
  j_seq (a := sU u (kAsg f)) (g1 := g1) (by rw [sU_inl h]; show (f d g).map _ = _; rw [h1]; rfl) k
theorem j_expU {r : R} (h : u g = some (.inl r)) (k : J b n g s P) : J (sCons (sU u kExp) b) n g s P :=
  j_seq (a := sU u kExp) (g1 := g) (by rw [sU_inl h]; rfl) k
theorem j_retU {r : R} {v : α} (h : u g = some (.inl r)) (p : P v (.rt (retR r))) : J (sCons (sU u kRet) b) n g (some v) P := by
  unfold J
  rw [sCons_def, sU_inl h]
  exact sm_ret rfl p
theorem sAppU_inr {x : Exc} {ds : List D} (h0 : g[i]? = some (.ow ds)) (h : u g = some (.inr x)) : sAppU i u g = some (.ex x) := by
  unfold sAppU
  rw [h0]
  show (u g).bind _ = _
  rw [h]
  rfl
theorem j_appU {β : Type} {r : R} (e : β → D) (xs : List β) (v : β) (h : u g = some (.inl r)) (h0 : g[i]? = some (.ow (xs.map e))) (hb : r.isBw = false) (hd : r.d = e v) (hl : xs.length < 16777216) (h1 : g.set i (.ow ((xs ++ [v]).map e)) = g1) (k : J b n g1 s P) : J (sCons (sAppU i u) b) n g s P :=
  j_seq (a := sAppU i u) (g1 := g1) (by
    unfold sAppU
    rw [h0]
    show (u g).bind _ = _
    rw [h]
    show (if (!r.isBw && decide ((xs.map e).length < LIM)) = true then some (Out.nx (g.set i (.ow (xs.map e ++ [r.d])))) else none) = _
    rw [hb, List.length_map, show decide (xs.length < LIM) = true from decide_eq_true hl, hd, ← h1, List.map_append]
    rfl) k
theorem j_rs {mx : Gm → Option Exc} {x : Exc} {v : α} (h : mx g = some x) (p : P v (.ex x)) : J (sCons (sRs mx) b) n g (some v) P := by
  unfold J
  rw [sCons_def]
  unfold sRs
  rw [h]
  exact sm_ret rfl p
theorem jcu_ret {σ ρ : Type} {St : σ → Gm → Prop} {ko : ρ → Out} {e : Gm → Option R} {r : R} {v : ρ} (h : e g = some r) (p : Out.rt (retR r) = ko v) : J (sCons (sRet e) b) n g (some (.rt v)) (PCO St ko) := j_ret (P := PCO St ko) (v := .rt v) h p
theorem jcu_end {σ ρ : Type} {St : σ → Gm → Prop} {ko : ρ → Out} {st : σ} (h : St st g) : J sNil nxt g (some (.nx st)) (PCO St ko) := j_nil (P := PCO St ko) (v := .nx st) ⟨g, .inl rfl, h⟩
theorem jcu_ct {σ ρ : Type} {St : σ → Gm → Prop} {ko : ρ → Out} {st : σ} (h : St st g) : J (sCons sCt b) n g (some (.nx st)) (PCO St ko) := j_ct (P := PCO St ko) (v := .nx st) ⟨g, .inr rfl, h⟩
theorem jcu_bk {σ ρ : Type} {St : σ → Gm → Prop} {ko : ρ → Out} {st : σ} (h : St st g) : J (sCons sBk b) n g (some (.bk st)) (PCO St ko) := j_bk (P := PCO St ko) (v := .bk st) ⟨g, rfl, h⟩
theorem jb_end {St : σ → Gm → Prop} {st : σ} (h : St st g) : J sNil nxt g (some (.inl st)) (PB St) := j_nil (P := PB St) (v := .inl st) ⟨g, rfl, h⟩
theorem j_try {ie i : Nat} {cs : List Nat} {St : σ → Gm → Prop} {s : Option (σ ⊕ Exc)} {hv : Exc → σ} {t : σ → Option α} (hb : J m nxt g s (PB St)) (hl : ie < g.length) (hh : ∀ x, cs.contains x.c = true → St (hv x) (((g.set ie (.va (eX x))).set i (.va (eX x))).set ie .un)) (k : ∀ st g', St st g' → J b n g' (t st) P) :
    J (sCons (sTry m ie i cs) b) n g (b1 (tryU s fun x => grd (cs.contains x.c = true) (some (hv x))) t) P := by
  refine sm_b1 fun st e => ?_
  cases hs : s with
  | none => rw [hs] at e; cases e
  | some z =>
    obtain ⟨o, e1, e2⟩ := hb z hs
    rw [bO_nxt] at e1
    rw [hs] at e
    cases z with
    | inl st' =>
      obtain ⟨g', rfl, h2⟩ := e2
      cases e
      exact j_seq (a := sTry m ie i cs) (g1 := g') (by unfold sTry; rw [e1]; rfl) (k st g' h2)
    | inr x =>
      have e2 : o = .ex x := e2
      subst e2
      have e : grd (cs.contains x.c = true) (some (hv x)) = some st := e
      unfold grd at e
      split at e
      · rename_i c
        cases e
        refine j_seq (a := sTry m ie i cs) (g1 := ((g.set ie (.va (eX x))).set i (.va (eX x))).set ie .un) ?_ (k _ _ (hh x c))
        unfold sTry
        rw [e1]
        show (if (cs.contains x.c && decide (ie < g.length)) = true then _ else _) = _
        rw [if_pos (by rw [c, decide_eq_true hl]; rfl)]
        rfl
      · cases e
end
/-! loops that may raise -/
section
variable {α : Type} {b n : Gm → Option Out} {g g1 : Gm} {P : α → Out → Prop}
def Fin (o : Out) : Prop := (∃ r, o = .rt r) ∨ ∃ x, o = .ex x
theorem KO_fin {β : Type} (k : β → R) (z : β ⊕ Exc) : Fin (KO k z) := by
  cases z with
  | inl v => exact .inl ⟨_, rfl⟩
  | inr x => exact .inr ⟨_, rfl⟩
theorem Fin.fL {o : Out} (h : Fin o) (f : D → Gm → Option Gm) (b : Gm → Option Out) (ds : List D) : fL f b ds (some o) = some o := by
  rcases h with ⟨r, rfl⟩ | ⟨x, rfl⟩ <;> rfl
theorem Fin.wL {o : Out} (h : Fin o) (c : Gm → Option Bool) (b : Gm → Option Out) (n : Nat) : wL c b n (some o) = some o := by
  rcases h with ⟨r, rfl⟩ | ⟨x, rfl⟩ <;> rfl
theorem Fin.bO {o : Out} (h : Fin o) (n : Gm → Option Out) : bO (some o) n = some o := by
  rcases h with ⟨r, rfl⟩ | ⟨x, rfl⟩ <;> rfl
theorem forCO_sm {α σ ρ : Type} {f : D → Gm → Option Gm} {m : Gm → Option Out} (enc : α → D) (St : σ → Gm → Prop) (ko : ρ → Out) (hf : ∀ r, Fin (ko r)) (body : α → σ → Option (Ctl σ ρ)) : ∀ (xs : List α), (∀ x ∈ xs, ∀ st g, St st g → ∃ g1, f (enc x) g = some g1 ∧ J m nxt g1 (body x st) (PCO St ko)) → ∀ st g, St st g → ∀ c, forC body xs st = some c → ∃ o, forL f m (xs.map enc) g = some o ∧ match c with
    | .nx st => ∃ g', o = .nx g' ∧ St st g'
    | .bk _ => False
    | .rt r => o = ko r
  | [], _, st, g, h, c, e => by cases e; exact ⟨_, rfl, g, rfl, h⟩
  | x :: xs, step, st, g, h, c, e => by
    obtain ⟨g1, e1, j⟩ := step x List.mem_cons_self st g h
    cases e2 : body x st with
    | none => rw [forC, e2] at e; cases e
    | some s2 =>
      rw [forC, e2, b1_some] at e
      obtain ⟨o, e3, ho⟩ := j s2 e2
      rw [bO_nxt] at e3
      cases s2 with
      | nx s2 =>
        obtain ⟨g2, ho, h2⟩ := ho
        obtain ⟨o', e4, h4⟩ := forCO_sm enc St ko hf body xs (fun y hy => step y (List.mem_cons_of_mem _ hy)) s2 g2 h2 c e
        refine ⟨o', ?_, h4⟩
        rw [List.map_cons, forL_cons, e1, b1_some, e3]
        rcases ho with rfl | rfl
        · rw [fL_nx, e4]
        · rw [fL_ct, e4]
      | bk s2 =>
        obtain ⟨g2, rfl, h2⟩ := ho
        cases e
        refine ⟨.nx g2, ?_, g2, rfl, h2⟩
        rw [List.map_cons, forL_cons, e1, b1_some, e3, fL_bk]
      | rt r =>
        cases e
        refine ⟨o, ?_, ho⟩
        have ho : o = ko r := ho
        subst ho
        rw [List.map_cons, forL_cons, e1, b1_some, e3, (hf r).fL]
theorem j_forCO {δ σ ρ : Type} {mi : Gm → Option (List Nat × List D)} {f : D → Gm → Option Gm} {m : Gm → Option Out} {T : List Nat} {ps : List Nat} (enc : δ → D) (St : σ → Gm → Prop) (ko : ρ → Out) (hf : ∀ r, Fin (ko r)) {body : δ → σ → Option (Ctl σ ρ)} {xs : List δ} {st0 : σ} {t : σ → Option α} {u : ρ → Option α}
    (hm : mi g = some (ps, xs.map enc)) (hp : ps.all (fun j => !T.contains j) = true) (h0 : St st0 g) (step : ∀ x ∈ xs, ∀ st g, St st g → ∃ g1, f (enc x) g = some g1 ∧ J m nxt g1 (body x st) (PCO St ko)) (k : ∀ st g', St st g' → J b n g' (t st) P) (k2 : ∀ r, Sm (some (ko r)) (u r) P) : J (sCons (sFor mi f m T) b) n g (b1 (forC body xs st0) fun c => ctl c t u) P := by
  refine sm_b1 fun c e => ?_
  obtain ⟨o, e1, h1⟩ := forCO_sm enc St ko hf body xs step st0 g h0 c e
  have e2 : sFor mi f m T g = some o := by
    rw [sFor_def, hm]
    show (if ps.all (fun j => !T.contains j) = true then _ else _) = _
    rw [if_pos hp, e1]
  cases c with
  | nx st =>
    obtain ⟨g', rfl, h2⟩ := h1
    exact j_seq e2 (k st g' h2)
  | bk st => exact h1.elim
  | rt r =>
    have h1 : o = ko r := h1
    subst h1
    show Sm (bO (bO (sFor mi f m T g) b) n) (u r) P
    rw [e2, (hf r).bO, (hf r).bO]
    exact k2 r
theorem whCO_sm {σ ρ : Type} {c : Gm → Option Bool} {m : Gm → Option Out} (St : σ → Gm → Prop) (ko : ρ → Out) (hf : ∀ r, Fin (ko r)) (cs : σ → Option Bool) (body : σ → Option (Ctl σ ρ)) (hc : ∀ st g, St st g → Sm (c g) (cs st) fun x y => y = x) (step : ∀ st g, St st g → J m nxt g (body st) (PCO St ko)) : ∀ (n : Nat) st g, St st g → ∀ q, whC cs body n st = some q → ∃ o, sWh c m n g = some o ∧ match q with
    | .nx st => ∃ g', o = .nx g' ∧ St st g'
    | .bk _ => False
    | .rt r => o = ko r
  | 0, st, g, h, q, e => by cases e
  | n + 1, st, g, h, q, e => by
    cases e1 : cs st with
    | none => rw [whC, e1] at e; cases e
    | some k =>
      have ec := (hc st g h).eq (k := id) e1
      rw [whC, e1, b1_some] at e
      rw [sWh_succ, ec, b1_some, whK_def]
      cases k with
      | false => cases e; exact ⟨_, rfl, g, rfl, h⟩
      | true =>
        rw [if_pos rfl] at e
        show ∃ o, (if true = true then _ else _) = _ ∧ _
        rw [if_pos rfl]
        cases e2 : body st with
        | none => rw [e2] at e; cases e
        | some s2 =>
          rw [e2, b1_some] at e
          obtain ⟨o, e3, ho⟩ := step st g h s2 e2
          rw [bO_nxt] at e3
          rw [e3]
          cases s2 with
          | nx s2 =>
            obtain ⟨g2, ho, h2⟩ := ho
            obtain ⟨o', e4, h4⟩ := whCO_sm St ko hf cs body hc step n s2 g2 h2 q e
            refine ⟨o', ?_, h4⟩
            rcases ho with rfl | rfl
            · rw [wL_nx, e4]
            · rw [wL_ct, e4]
          | bk s2 =>
            obtain ⟨g2, rfl, h2⟩ := ho
            cases e
            exact ⟨.nx g2, by rw [wL_bk], g2, rfl, h2⟩
          | rt r =>
            cases e
            have ho : o = ko r := ho
            subst ho
            exact ⟨_, by rw [(hf r).wL], rfl⟩
theorem j_whCO {σ ρ : Type} {c : Gm → Option Bool} {m : Gm → Option Out} {F : Nat} (St : σ → Gm → Prop) (ko : ρ → Out) (hf : ∀ r, Fin (ko r)) {cs : σ → Option Bool} {body : σ → Option (Ctl σ ρ)} {st0 : σ} {t : σ → Option α} {u : ρ → Option α} (h0 : St st0 g) (hc : ∀ st g, St st g → Sm (c g) (cs st) fun x y => y = x) (step : ∀ st g, St st g → J m nxt g (body st) (PCO St ko)) (k : ∀ st g', St st g' → J b n g' (t st) P) (k2 : ∀ r, Sm (some (ko r)) (u r) P) : J (sCons (sWh c m F) b) n g (b1 (whC cs body F st0) fun c => ctl c t u) P := by
  refine sm_b1 fun q e => ?_
  obtain ⟨o, e2, h1⟩ := whCO_sm St ko hf cs body hc step F st0 g h0 q e
  cases q with
  | nx st =>
    obtain ⟨g', rfl, h2⟩ := h1
    exact j_seq e2 (k st g' h2)
  | bk st => exact h1.elim
  | rt r =>
    have h1 : o = ko r := h1
    subst h1
    show Sm (bO (bO (sWh c m F g) b) n) (u r) P
    rw [e2, (hf r).bO, (hf r).bO]
    exact k2 r
end
/-! a caught exception read -/
def xInt (f : Str) (x : Exc) : Option Int := match ((xflds x.c).zip x.fs).lookup f with
  | some (.inl n) => some n
  | _ => none
def xStr (f : Str) (x : Exc) : Option Str := match ((xflds x.c).zip x.fs).lookup f with
  | some (.inr n) => some n
  | _ => none
theorem lookup_mapA {f : Str} : ∀ (ns : List Str) (fs : List (Int ⊕ Str)), (ns.zip (fs.map aD)).lookup f = ((ns.zip fs).lookup f).map aD
  | [], _ => rfl
  | n :: ns, [] => rfl
  | n :: ns, a :: fs => by
    rw [List.map_cons, List.zip_cons_cons, List.zip_cons_cons, List.lookup_cons, List.lookup_cons]
    cases (f == n) with
    | true => rfl
    | false => exact lookup_mapA ns fs
theorem f_isx {cs : List Nat} {tb : Nat → Bool} {x : Exc} (h : cs.contains x.c = true) : cIsX cs tb (.va (eX x)) = some (.va (.bl (tb x.c))) := by
  show (if cs.contains x.c = true then _ else _) = _
  rw [if_pos h]
theorem f_xfI {cs : List Nat} {f : Str} {x : Exc} {n : Int} (h : cs.contains x.c = true) (k : xInt f x = some n) : xFld cs f (.va (eX x)) = some (.va (.int n)) := by
  show (if cs.contains x.c = true then (((xflds x.c).zip (x.fs.map aD)).lookup f).map R.va else none) = _
  rw [if_pos h, lookup_mapA]
  unfold xInt at k
  split at k
  · rename_i e; cases k; rw [e]; rfl
  · cases k
theorem f_xfS {cs : List Nat} {f : Str} {x : Exc} {n : Str} (h : cs.contains x.c = true) (k : xStr f x = some n) : xFld cs f (.va (eX x)) = some (.va (.str n)) := by
  show (if cs.contains x.c = true then (((xflds x.c).zip (x.fs.map aD)).lookup f).map R.va else none) = _
  rw [if_pos h, lookup_mapA]
  unfold xStr at k
  split at k
  · rename_i e; cases k; rw [e]; rfl
  · cases k
end BK
namespace BK
open PySem PySem.Spec L2
set_option autoImplicit false
/-! ### a text's own method without arguments: upper -/
section
variable {X : Cx} {ca : Nat → Addr} {a : Expr} {m : Gm → Option R} {apos pos : Pos}
def cUp : R → Option R
  | .va (.str a) => if a.length ≤ 5592405 then some (.va (.str (Txt.upper a))) else none
  | _ => none
theorem cUp_some {x z : R} (h : cUp x = some z) : ∃ a : Str, x = .va (.str a) ∧ a.length ≤ 5592405 ∧ z = .va (.str (Txt.upper a)) := by
  unfold cUp at h
  split at h
  · split at h
    · rename_i a hl; cases h; exact ⟨a, rfl, hl, rfl⟩
    · cases h
  · cases h
theorem ev_upper (ha : EV X ca a m) (h2 : attributeBase a "upper" X.env (eval a X.env) = eval a X.env := by rfl) (h3 : (apos.endLine == pos.line) = true := by decide) : EV X ca (.Call (.Attribute a "upper" apos) [] [] pos) (e1 cUp m) :=
  pe_imp (pe_upper ha h2 h3) (by
    rintro σ H Q ⟨H0, F0, F, Γ, z, S, e, q⟩
    unfold e1 at e
    obtain ⟨x, ex, e⟩ := Option.bind_eq_some_iff.mp e
    obtain ⟨t, rfl, hl, rfl⟩ := cUp_some e
    refine ⟨H0, F0, F, Γ, _, S, ex, fun v H1 F1 x1 r1 => ?_⟩
    cases r1
    exact ⟨⟨t, rfl⟩, t, rfl, rfl, hl, q _ H1 F1 x1 (.str _)⟩)
theorem f_up {a : Str} (h : a.length ≤ 5592405) : cUp (.va (.str a)) = some (.va (.str (Txt.upper a))) := if_pos h
end
end BK
namespace L2
open PySem PySem.Spec BK
set_option autoImplicit false
/-! ### an exception made as a value -/
theorem pe_mk {X : Cx} {e : Expr} {t : St → Hp → XK → Prop} (he : PMk X e t) : PE X e fun σ H Q => t σ H fun cls d H' => ∃ C : Addr, cls = .ref C ∧ ∀ a, H' a = none → Q (.ref a) (upd H' a (exh a C d)) := by
  refine ⟨fun pins s σ H Q I h => ?_⟩
  refine thn (he pins s σ H _ I h) fun u s' hm => ?_
  obtain ⟨a, oe, vs, sI, H', cls, d, rfl, J, k, hne, ha, hz, hd, h1, na, os, ag, r, C, rfl, q⟩ := hm
  have L := J.laidN (t' := s'.toks) (a := a) (o := exh a C d) (h' := s'.heap) k hne na (exh_ok ha hz hd)
  obtain ⟨hp, g, dr, tk, o⟩ := s'
  cases os
  exact ⟨.ref a, upd H' a (exh a C d), ⟨L.ok, L.os, ag, L.base, L.loc, L.cell, L.free, L.freeC, L.pin, L.hok, L.len⟩, rfl, q a na⟩
end L2
namespace BK
open PySem PySem.Spec L2
set_option autoImplicit false
section
variable {X : Cx} {ca : Nat → Addr} {e : Expr} {es : List Expr} {ms : Gm → Option (List R)} {m : Gm → Option R} {p pos : Pos}
def eMkX (c : Nat) (ms : Gm → Option (List R)) : Gm → Option R := fun g => (xRaise c ms g).map fun x => .va (.exc x.c (x.fs.map aD))
theorem ev_mkX {k c : Nat} {x : Str} (M : Raiser X.prog X.w X.K X.mg X.base ca k c x) (hr : Room (k + 1) X.A) (hg : Gl X x) (ha : AV X ca (e :: es) ms) (hdb : (x == ("__debug__" : Str)) = false := by decide)
    (he : starEach (e :: es) X.env = (false, eval e X.env) :: starEach es X.env := by rfl) (hpl : (backTo pos (starEach es X.env)).any (·.1) = false := by rfl) : EV X ca (.Call (.Name x p) (e :: es) [] pos) (eMkX c ms) := by
  obtain ⟨fI, fd, ps, T, iC, tI, G, hb, hm⟩ := M.ex
  refine pe_imp (pe_mk (pmk_oex T iC tI G hr hb .nil pass0 hg hm ha hdb he hpl)) ?_
  rintro σ H Q ⟨H0, F0, F, Γ, z, S, e, q⟩
  obtain ⟨y, ey, rfl⟩ := Option.map_eq_some_iff.mp e
  obtain ⟨rs, er, ey⟩ := Option.bind_eq_some_iff.mp ey
  obtain ⟨as, ea, ey⟩ := Option.bind_eq_some_iff.mp ey
  obtain ⟨w1, w2, w3⟩ := atoms_d ea
  refine ⟨H0, F0, F, Γ, rs, S, er, fun vs H1 F1 x1 r1 => ?_⟩
  split at ey
  rotate_left
  · cases ey
  rename_i hc
  cases ey
  rw [beq_iff_eq] at hc
  have hl : vs.length = (xflds c).length := ((RVs.length r1).trans w3).trans hc
  have hl' : vs.length = ((xflds c).reverse).length := by rw [List.length_reverse]; exact hl
  have hd := RVs.den r1 w1
  rw [w2] at hd
  refine ⟨by have := xflds_len c; omega, fun a n => ⟨H1, a, vs, by rw [List.append_nil], hl', n, rfl, fun d H2 n1 n2 e1 e2 e3 => ⟨rfl, d, _, e1, e2, n1, ?_⟩⟩⟩
  have eh : upd (del H2 a) d (.xd ((xflds c).reverse.zip vs).reverse) = upd H1 d (.xd ((xflds c).reverse.zip vs).reverse) := funext fun b => by
    by_cases hb : b = d
    · subst hb; rw [upd_same, upd_same]
    · rw [upd_ne hb, upd_ne hb]
      by_cases hb2 : b = a
      · subst hb2; rw [del_same, n]
      · rw [del_ne hb2]; exact e3 b hb2 hb
  rw [eh]
  refine ⟨_, rfl, fun a' na' => ?_⟩
  have x2 := x1.trans (.new x1.fh (.xd ((xflds c).reverse.zip vs).reverse) n1)
  have x3 := x2.trans (Ext.new x2.fh (exh a' (ca c) (some d)) na')
  refine q _ _ _ x3 ?_
  have s3 := same_upd (o := exh a' (ca c) (some d)) (x2.fh.free na')
  refine Den.exc (fs := ((xflds c).reverse.zip vs).reverse) upd_same (.inr ⟨d, rfl, s3 _ _ upd_same⟩) ?_ ?_
  · rw [List.map_reverse, zip_fst hl', List.reverse_reverse]
  · rw [List.map_reverse, zip_snd hl']
    show Dens X.K ca _ vs.reverse (as.reverse.map aD)
    rw [List.map_reverse]
    exact ((hd.mono (same_upd (x1.fh.free n1))).mono s3).reverse
def eMkX0 (c : Nat) (m : Gm → Option R) : Gm → Option R := fun g => (m g).bind fun _ => if xflds c = [] then some (.va (.exc c [])) else none
theorem ev_mkX0 {c : Nat} {x : Str} (M : Raiser0 X.K X.mg ca c x) (hg : Gl X x) (he : EV X ca e m) (hs : starEach [e] X.env = (false, eval e X.env) :: starEach [] X.env := by rfl) (hdb : (x == ("__debug__" : Str)) = false := by decide) : EV X ca (.Call (.Name x p) [e] [] pos) (eMkX0 c m) := by
  obtain ⟨B, newId, initId, bmB, Fb, q, hm, kC, h1, h2⟩ := M.ex
  refine pe_imp (pe_mk (SkE.pmk_own1 Fb q hm kC (raises_own h1 h2) hg he hs hdb)) ?_
  rintro σ H Q ⟨H0, F0, F, Γ, z, S, e, q⟩
  obtain ⟨r, er, e⟩ := Option.bind_eq_some_iff.mp e
  split at e
  rotate_left
  · cases e
  rename_i hx
  cases e
  refine ⟨H0, F0, F, Γ, r, S, er, fun v H1 F1 x1 r1 => ⟨_, rfl, fun a na => ?_⟩⟩
  refine q _ _ _ (x1.trans (Ext.new x1.fh (exh a (ca c) none) na)) ?_
  exact Den.exc (fs := []) upd_same (.inl ⟨rfl, rfl⟩) (by rw [hx]; rfl) .nil
/-! in plain types -/
theorem x_mkX {g : Gm} {rs : List R} {c : Nat} {fs : List (Int ⊕ Str)} (h : ms g = some rs) (k : atoms rs = some fs) (hl : (fs.length == (xflds c).length) = true) : eMkX c ms g = some (.va (eX ⟨c, fs.reverse⟩)) := by
  unfold eMkX
  rw [x_rs h k hl]
  rfl
theorem x_mkX0 {g : Gm} {r : R} {c : Nat} (h : m g = some r) (hx : xflds c = []) : eMkX0 c m g = some (.va (eX ⟨c, []⟩)) := by
  unfold eMkX0
  rw [h]
  show (if xflds c = [] then _ else _) = _
  rw [if_pos hx]
  rfl
end
end BK
namespace G
open PySem PySem.Spec L2 BK
set_option autoImplicit false
structure Blt (mg : Str → Option Value) : Prop where
  z_ValueError : mg "ValueError" = none
  z_bool : mg "bool" = none
  z_enumerate : mg "enumerate" = none
  z_int : mg "int" = none
  z_isinstance : mg "isinstance" = none
  z_len : mg "len" = none
  z_range : mg "range" = none
theorem scI_TextError : FnScope ["self", "row"] ["self", "row"] (defScope sI_TextError) := ⟨rfl, rfl, rfl, by decide +kernel, rfl, by decide +kernel, by decide +kernel⟩
theorem okI_TextError {P : Program} {w : World} {K : PySem.W.Frag} {mg : Str → Option Value} {base : Heap} {f C CW : Addr} {fd : FuncData} (mW : mg "WayError" = some (.ref CW)) (rd : PySem.W.readsIn K CW (.type "type") = true) (ga : PySem.W.specialIn K (.ref CW) "__getattribute__" = some (some (.builtin "type.__getattribute__"))) (fc : PySem.W.findCls K (.ref CW) (.type "type") "__init__" = some (.val (.builtin "ValueError.__init__"))) (no_row : PySem.W.findIn K (.ref C) "row" = some none) (F : FunA K "__init__" "TextError.__init__" sI_TextError f fd) (T : OexC K C) : FnOk P w K mg base CX0 1 f fd ["self", "row"] (spXI C ["row"]) :=
  xi_one T no_row F scI_TextError rfl rfl (fun cdv A outer s H E => ⟨_, pe_winit rfl mW rd ga fc (pa_cons (pv 0) (pa_cons pe_str pa_nil)), (fun _ _ _ ⟨a, h, q⟩ => ⟨_, h, q⟩), (pv 0), (pv 1), rfl, rfl⟩)
theorem scI_Blocked : FnScope ["self", "bridge", "wheel"] ["self", "bridge", "wheel"] (defScope sI_Blocked) := ⟨rfl, rfl, rfl, by decide +kernel, rfl, by decide +kernel, by decide +kernel⟩
theorem okI_Blocked {P : Program} {w : World} {K : PySem.W.Frag} {mg : Str → Option Value} {base : Heap} {f C CW : Addr} {fd : FuncData} (mW : mg "WayError" = some (.ref CW)) (rd : PySem.W.readsIn K CW (.type "type") = true) (ga : PySem.W.specialIn K (.ref CW) "__getattribute__" = some (some (.builtin "type.__getattribute__"))) (fc : PySem.W.findCls K (.ref CW) (.type "type") "__init__" = some (.val (.builtin "ValueError.__init__"))) (no_bridge : PySem.W.findIn K (.ref C) "bridge" = some none) (no_wheel : PySem.W.findIn K (.ref C) "wheel" = some none) (F : FunA K "__init__" "Blocked.__init__" sI_Blocked f fd) (T : OexC K C) : FnOk P w K mg base CX0 1 f fd ["self", "bridge", "wheel"] (spXI C ["bridge", "wheel"]) :=
  xi_two T no_bridge no_wheel F scI_Blocked rfl rfl (fun cdv A outer s H E => ⟨_, pe_winit rfl mW rd ga fc (pa_cons (pv 0) (pa_cons pe_str pa_nil)), (fun _ _ _ ⟨a, h, q⟩ => ⟨_, h, q⟩), (pv 0), (pv 1), (pv 0), (pv 2), rfl, rfl, rfl⟩)
theorem sc__law_cell_at : FnScope ["_law_script", "_law_k"] ["_law_script", "_law_k"] (defScope s__law_cell_at) := ⟨rfl, rfl, rfl, by decide +kernel, rfl, by decide +kernel, by decide +kernel⟩
def m__law_cell_at : Gm → Option Out := sCons (sIf (bE (e2 oLt (eV 1) (eA cLen (aC (eV 0) (aN))))) (sCons (sRet (e2 oIx (eV 0) (eV 1))) (sNil)) (sNil)) (sCons (sRet (eC (.int 0))) (sNil))
def φ__law_cell_at : Phi := phi m__law_cell_at 2 2
set_option maxHeartbeats 4000000 in
theorem ok__law_cell_at {P : Program} {w : World} {K : PySem.W.Frag} {mg : Str → Option Value} {base : Heap} {ca : Nat → Addr} {f : Addr} {fd : FuncData} (Z : Blt mg) (F : FunA K "_law_cell_at" "_law_cell_at" s__law_cell_at f fd) : FnOk P w K mg base CX0 (0 + 1) f fd ["_law_script", "_law_k"] (spOf K ca φ__law_cell_at) :=
  fn_ok F sc__law_cell_at rfl rfl rfl (fun cdv A outer s H E hr => (svs_cons (sv_if (tv_cmp op_lt od_cmp (ev_var (pv 1)) (ev_callB call_lenA cd_len rfl Z.z_len b_len (av_cons (ev_var (pv 0)) av_nil)) (nomark _)) (svs_cons (sv_ret (ev_ix ix_seq od_ix (ev_var (pv 0)) (ev_var (pv 1)) (fun _ _ => rfl))) svs_nil) svs_nil) (svs_cons (sv_ret (ev_c pe_int fun _ => .int _)) svs_nil)))
theorem sc__law_whole : FnScope ["_law_found"] ["_law_found"] (defScope s__law_whole) := ⟨rfl, rfl, rfl, by decide +kernel, rfl, by decide +kernel, by decide +kernel⟩
def m__law_whole : Gm → Option Out := sCons (sRet (eAnd (eIs .int (eV 0)) (eNot (eIs .bool (eV 0))))) (sNil)
def φ__law_whole : Phi := phi m__law_whole 1 1
set_option maxHeartbeats 4000000 in
theorem ok__law_whole {P : Program} {w : World} {K : PySem.W.Frag} {mg : Str → Option Value} {base : Heap} {ca : Nat → Addr} {f : Addr} {fd : FuncData} (Z : Blt mg) (F : FunA K "_law_whole" "_law_whole" s__law_whole f fd) : FnOk P w K mg base CX0 (0 + 1) f fd ["_law_found"] (spOf K ca φ__law_whole) :=
  fn_ok F sc__law_whole rfl rfl rfl (fun cdv A outer s H E hr => (svs_cons (sv_ret (ev_and (ev_isi (T := .int) rfl Z.z_isinstance b_isinstance (ev_var (pv 0)) (pe_ty rfl Z.z_int b_int)) (ev_one (ev_not (ev_isi (T := .bool) rfl Z.z_isinstance b_isinstance (ev_var (pv 0)) (pe_ty rfl Z.z_bool b_bool)))))) svs_nil))
theorem sc__law_kinds : FnScope ["_law_error", "_law_kinds_here"] ["_law_error"] (defScope s__law_kinds) := ⟨rfl, rfl, rfl, by decide +kernel, rfl, by decide +kernel, by decide +kernel⟩
def m__law_kinds : Gm → Option Out := sCons (sSet 1 (eA oLst (aC (e1 (cIsX [7, 8, 9, 10, 11, 12, 13, 14, 15] (fun c => xsub c 7)) (eV 0)) (aC (e1 (cIsX [7, 8, 9, 10, 11, 12, 13, 14, 15] (fun c => xsub c 8)) (eV 0)) (aC (e1 (cIsX [7, 8, 9, 10, 11, 12, 13, 14, 15] (fun c => xsub c 10)) (eV 0)) (aN)))))) (sCons (sSet 1 (e2 oAdd (eV 1) (eA oLst (aC (e1 (cIsX [7, 8, 9, 10, 11, 12, 13, 14, 15] (fun c => xsub c 11)) (eV 0)) (aC (e1 (cIsX [7, 8, 9, 10, 11, 12, 13, 14, 15] (fun c => xsub c 12)) (eV 0)) (aC (e1 (cIsX [7, 8, 9, 10, 11, 12, 13, 14, 15] (fun c => xsub c 13)) (eV 0)) (aN))))))) (sCons (sSet 1 (e2 oAdd (eV 1) (eA oLst (aC (e1 (cIsX [7, 8, 9, 10, 11, 12, 13, 14, 15] (fun c => xsub c 14)) (eV 0)) (aC (e1 (cIsX [7, 8, 9, 10, 11, 12, 13, 14, 15] (fun c => xsub c 15)) (eV 0)) (aC (e1 (cIsX [7, 8, 9, 10, 11, 12, 13, 14, 15] (fun c => xsub c 9)) (eV 0)) (aN))))))) (sCons (sRet (e2 oAdd (eV 1) (eA oLst (aC (e1 (cIsX [7, 8, 9, 10, 11, 12, 13, 14, 15] (fun c => xsub c 6)) (eV 0)) (aC (e1 (cIsX [7, 8, 9, 10, 11, 12, 13, 14, 15] (fun _ => true)) (eV 0)) (aN)))))) (sNil))))
def φ__law_kinds : Phi := phi m__law_kinds 2 1
set_option maxHeartbeats 4000000 in
theorem ok__law_kinds {P : Program} {w : World} {K : PySem.W.Frag} {mg : Str → Option Value} {base : Heap} {ca : Nat → Addr} {f : Addr} {fd : FuncData} (Z : Blt mg) (NX_BadRow : mg "BadRow" = some (.ref (ca 10))) (NX_Blocked : mg "Blocked" = some (.ref (ca 7))) (NX_NoBridge : mg "NoBridge" = some (.ref (ca 12))) (NX_NoLoad : mg "NoLoad" = some (.ref (ca 13))) (NX_NoWay : mg "NoWay" = some (.ref (ca 8))) (NX_TextError : mg "TextError" = some (.ref (ca 9))) (NX_TooLong : mg "TooLong" = some (.ref (ca 15))) (NX_TooNear : mg "TooNear" = some (.ref (ca 14))) (NX_Twice : mg "Twice" = some (.ref (ca 11))) (NX_WayError : mg "WayError" = some (.ref (ca 6))) (XI_BadRow : IsX K ca [7, 8, 9, 10, 11, 12, 13, 14, 15] (.ref (ca 10)) (fun c => xsub c 10)) (XI_Blocked : IsX K ca [7, 8, 9, 10, 11, 12, 13, 14, 15] (.ref (ca 7)) (fun c => xsub c 7)) (XI_NoBridge : IsX K ca [7, 8, 9, 10, 11, 12, 13, 14, 15] (.ref (ca 12)) (fun c => xsub c 12)) (XI_NoLoad : IsX K ca [7, 8, 9, 10, 11, 12, 13, 14, 15] (.ref (ca 13)) (fun c => xsub c 13)) (XI_NoWay : IsX K ca [7, 8, 9, 10, 11, 12, 13, 14, 15] (.ref (ca 8)) (fun c => xsub c 8)) (XI_TextError : IsX K ca [7, 8, 9, 10, 11, 12, 13, 14, 15] (.ref (ca 9)) (fun c => xsub c 9)) (XI_TooLong : IsX K ca [7, 8, 9, 10, 11, 12, 13, 14, 15] (.ref (ca 15)) (fun c => xsub c 15)) (XI_TooNear : IsX K ca [7, 8, 9, 10, 11, 12, 13, 14, 15] (.ref (ca 14)) (fun c => xsub c 14)) (XI_Twice : IsX K ca [7, 8, 9, 10, 11, 12, 13, 14, 15] (.ref (ca 11)) (fun c => xsub c 11)) (XI_ValueError : IsX K ca [7, 8, 9, 10, 11, 12, 13, 14, 15] (.type "ValueError") (fun _ => true)) (XI_WayError : IsX K ca [7, 8, 9, 10, 11, 12, 13, 14, 15] (.ref (ca 6)) (fun c => xsub c 6)) (F : FunA K "_law_kinds" "_law_kinds" s__law_kinds f fd) : FnOk P w K mg base CX0 (0 + 1) f fd ["_law_error"] (spOf K ca φ__law_kinds) :=
  fn_ok F sc__law_kinds rfl rfl rfl (fun cdv A outer s H E hr => (svs_cons (sv_set (i := 1) sc__law_kinds.nd rfl (.inl rfl) (ev_lst (av_cons (ev_isx rfl Z.z_isinstance b_isinstance (ev_var (pv 0)) (pe_glob (v := .ref (ca 7)) rfl NX_Blocked rfl) (.own _) XI_Blocked) (av_cons (ev_isx rfl Z.z_isinstance b_isinstance (ev_var (pv 0)) (pe_glob (v := .ref (ca 8)) rfl NX_NoWay rfl) (.own _) XI_NoWay) (av_cons (ev_isx rfl Z.z_isinstance b_isinstance (ev_var (pv 0)) (pe_glob (v := .ref (ca 10)) rfl NX_BadRow rfl) (.own _) XI_BadRow) av_nil))))) (svs_cons (sv_set (i := 1) sc__law_kinds.nd rfl (.inl rfl) (ev_op op_addA od_add (ev_var (pv 1)) (ev_lst (av_cons (ev_isx rfl Z.z_isinstance b_isinstance (ev_var (pv 0)) (pe_glob (v := .ref (ca 11)) rfl NX_Twice rfl) (.own _) XI_Twice) (av_cons (ev_isx rfl Z.z_isinstance b_isinstance (ev_var (pv 0)) (pe_glob (v := .ref (ca 12)) rfl NX_NoBridge rfl) (.own _) XI_NoBridge) (av_cons (ev_isx rfl Z.z_isinstance b_isinstance (ev_var (pv 0)) (pe_glob (v := .ref (ca 13)) rfl NX_NoLoad rfl) (.own _) XI_NoLoad) av_nil)))))) (svs_cons (sv_set (i := 1) sc__law_kinds.nd rfl (.inl rfl) (ev_op op_addA od_add (ev_var (pv 1)) (ev_lst (av_cons (ev_isx rfl Z.z_isinstance b_isinstance (ev_var (pv 0)) (pe_glob (v := .ref (ca 14)) rfl NX_TooNear rfl) (.own _) XI_TooNear) (av_cons (ev_isx rfl Z.z_isinstance b_isinstance (ev_var (pv 0)) (pe_glob (v := .ref (ca 15)) rfl NX_TooLong rfl) (.own _) XI_TooLong) (av_cons (ev_isx rfl Z.z_isinstance b_isinstance (ev_var (pv 0)) (pe_glob (v := .ref (ca 9)) rfl NX_TextError rfl) (.own _) XI_TextError) av_nil)))))) (svs_cons (sv_ret (ev_op op_addA od_add (ev_var (pv 1)) (ev_lst (av_cons (ev_isx rfl Z.z_isinstance b_isinstance (ev_var (pv 0)) (pe_glob (v := .ref (ca 6)) rfl NX_WayError rfl) (.own _) XI_WayError) (av_cons (ev_isx rfl Z.z_isinstance b_isinstance (ev_var (pv 0)) (pe_ty rfl Z.z_ValueError b_ValueError) (.ty _) XI_ValueError) av_nil))))) svs_nil)))))
theorem sc__law_rows_told : FnScope ["_law_number", "_law_rows", "_law_other", "_law_k", "_law_error", "_law_n"] ["_law_number"] (defScope s__law_rows_told) := ⟨rfl, rfl, rfl, by decide +kernel, rfl, by decide +kernel, by decide +kernel⟩
def m__law_rows_told : Gm → Option Out := sCons (sSet 1 (eA oLst (aC (eMkX 10 (aC (eV 0) (aN))) (aC (eMkX 11 (aC (eV 0) (aN))) (aC (eMkX 12 (aC (eV 0) (aN))) (aC (eMkX 13 (aC (eV 0) (aN))) (aC (eMkX 14 (aC (eV 0) (aN))) (aC (eMkX 15 (aC (eV 0) (aN))) (aN))))))))) (sCons (sFor (iA enR (aC (eV 1) (aN))) (gT (gC (gN 3) (gC (gN 4) (gE)))) (sCons (sIf (bE (e2 oNe (eA (callR φ__law_kinds []) (aC (eV 4) (aN))) (e2 oAdd (eLc (iA rg1R (aC (eC (.int 8)) (aN))) (gN 5) (bY) (e2 oEq (eV 5) (e2 oAdd (eC (.int 2)) (eV 3))) [5]) (eA oLst (aC (eC (.bl true)) (aC (eC (.bl true)) (aC (eC (.bl true)) (aN)))))))) (sCons (sRet (eC (.bl false))) (sNil)) (sNil)) (sCons (sIf (bOr (bNot (bE (eA (callR φ__law_whole []) (aC (e1 (xFld [7, 8, 9, 10, 11, 12, 13, 14, 15] "row") (eV 4)) (aN))))) (bE (e2 oNe (e1 (xFld [7, 8, 9, 10, 11, 12, 13, 14, 15] "row") (eV 4)) (eV 0)))) (sCons (sRet (eC (.bl false))) (sNil)) (sNil)) (sNil))) [3, 4]) (sCons (sSet 2 (eMkX 9 (aC (eV 0) (aN)))) (sCons (sRet (eAnd (e2 oEq (e1 (xFld [7, 8, 9, 10, 11, 12, 13, 14, 15] "row") (eV 2)) (eV 0)) (e2 oEq (eA (callR φ__law_kinds []) (aC (eV 2) (aN))) (e2 oAdd (e2 oMulA (eA oLst (aC (eC (.bl false)) (aN))) (eC (.int 8))) (eA oLst (aC (eC (.bl true)) (aC (eC (.bl true)) (aC (eC (.bl true)) (aN))))))))) (sNil))))
def φ__law_rows_told : Phi := phi m__law_rows_told 6 1
set_option maxHeartbeats 4000000 in
theorem ok__law_rows_told {P : Program} {w : World} {K : PySem.W.Frag} {mg : Str → Option Value} {base : Heap} {ca : Nat → Addr} {f : Addr} {fd : FuncData} (Z : Blt mg) (C__law_kinds : Callee P w K mg base ca 1 "_law_kinds" φ__law_kinds []) (C__law_whole : Callee P w K mg base ca 1 "_law_whole" φ__law_whole []) (XR_BadRow : Raiser P w K mg base ca 1 10 "BadRow") (XR_NoBridge : Raiser P w K mg base ca 1 12 "NoBridge") (XR_NoLoad : Raiser P w K mg base ca 1 13 "NoLoad") (XR_TextError : Raiser P w K mg base ca 1 9 "TextError") (XR_TooLong : Raiser P w K mg base ca 1 15 "TooLong") (XR_TooNear : Raiser P w K mg base ca 1 14 "TooNear") (XR_Twice : Raiser P w K mg base ca 1 11 "Twice") (XF_row : XfS K ca [7, 8, 9, 10, 11, 12, 13, 14, 15] "row") (F : FunA K "_law_rows_told" "_law_rows_told" s__law_rows_told f fd) : FnOk P w K mg base CX0 (2 + 1) f fd ["_law_number"] (spOf K ca φ__law_rows_told) :=
  fn_ok F sc__law_rows_told rfl rfl rfl (fun cdv A outer s H E hr => (svs_cons (sv_set (i := 1) sc__law_rows_told.nd rfl (.inl rfl) (ev_lst (av_cons (ev_mkX XR_BadRow (hr.mono (by decide)) rfl (av_cons (ev_var (pv 0)) av_nil)) (av_cons (ev_mkX XR_Twice (hr.mono (by decide)) rfl (av_cons (ev_var (pv 0)) av_nil)) (av_cons (ev_mkX XR_NoBridge (hr.mono (by decide)) rfl (av_cons (ev_var (pv 0)) av_nil)) (av_cons (ev_mkX XR_NoLoad (hr.mono (by decide)) rfl (av_cons (ev_var (pv 0)) av_nil)) (av_cons (ev_mkX XR_TooNear (hr.mono (by decide)) rfl (av_cons (ev_var (pv 0)) av_nil)) (av_cons (ev_mkX XR_TooLong (hr.mono (by decide)) rfl (av_cons (ev_var (pv 0)) av_nil)) av_nil)))))))) (svs_cons (sv_for PassesOwn.never rfl (iv_enum rfl Z.z_enumerate (av_cons (ev_var (pv 1)) av_nil)) (gv_tup rfl (gvs_cons (gv_name sc__law_rows_told.nd rfl (.inr rfl)) (gvs_cons (gv_name sc__law_rows_told.nd rfl (.inl rfl)) gvs_nil)) (gC_le (gC_le gE_le))) (svs_cons (sv_if (tv_cmp (op_neA hr.units) od_ne (ev_fn C__law_kinds (hr.mono (by decide)) rfl (av_cons (ev_var (pv 4)) av_nil)) (ev_op op_addA od_add (ev_lc rfl sc__law_rows_told.nd (iv_rg1 rfl Z.z_range (av_cons (ev_c pe_int fun _ => .int _) av_nil)) (blk_by (own := [("_law_n", 5)]) (N := ["_law_number", "_law_rows", "_law_other", "_law_k", "_law_error", "_law_n"]) (sc := defScope s__law_rows_told) rfl rfl (by decide +kernel)) rfl (fun _ _ _ _ _ => (gv_name sc__law_rows_told.nd rfl (.inl rfl))) (fun _ _ _ _ _ => cv_nil) (fun _ _ _ _ _ => (ev_cmp (op_eqA hr.units) od_eq (ev_var (pv 5)) (ev_op op_addA od_add (ev_c pe_int fun _ => .int _) (ev_var (pv 3))) (nomark _))) (by decide) gN_ln) (ev_lst (av_cons (ev_c pe_bl fun _ => .bl _) (av_cons (ev_c pe_bl fun _ => .bl _) (av_cons (ev_c pe_bl fun _ => .bl _) av_nil))))) (nomark _)) (svs_cons (sv_ret (ev_c pe_bl fun _ => .bl _)) svs_nil) svs_nil) (svs_cons (sv_if (tv_w (wv_or (tv_not (tv_val (ev_fn C__law_whole (hr.mono (by decide)) rfl (av_cons (ev_xfld XF_row (ev_var (pv 4))) av_nil)))) (wv_one' (tv_cmp (op_neA hr.units) od_ne (ev_xfld XF_row (ev_var (pv 4))) (ev_var (pv 0)) (nomark _))))) (svs_cons (sv_ret (ev_c pe_bl fun _ => .bl _)) svs_nil) svs_nil) svs_nil)) rfl) (svs_cons (sv_set (i := 2) sc__law_rows_told.nd rfl (.inl rfl) (ev_mkX XR_TextError (hr.mono (by decide)) rfl (av_cons (ev_var (pv 0)) av_nil))) (svs_cons (sv_ret (ev_and (ev_cmp (op_eqA hr.units) od_eq (ev_xfld XF_row (ev_var (pv 2))) (ev_var (pv 0)) (nomark _)) (ev_one (ev_cmp (op_eqA hr.units) od_eq (ev_fn C__law_kinds (hr.mono (by decide)) rfl (av_cons (ev_var (pv 2)) av_nil)) (ev_op op_addA od_add (ev_op op_mulA od_mul (ev_lst (av_cons (ev_c pe_bl fun _ => .bl _) av_nil)) (ev_c pe_int fun _ => .int _)) (ev_lst (av_cons (ev_c pe_bl fun _ => .bl _) (av_cons (ev_c pe_bl fun _ => .bl _) (av_cons (ev_c pe_bl fun _ => .bl _) av_nil))))) (nomark _))))) svs_nil)))))
theorem sc__law_good : FnScope ["_law_cell", "_law_number", "_law_name", "_law_error", "_law_n"] ["_law_cell", "_law_number"] (defScope s__law_good) := ⟨rfl, rfl, rfl, by decide +kernel, rfl, by decide +kernel, by decide +kernel⟩
def m__law_good : Gm → Option Out := sCons (sSet 2 (e2 oMulA (e2 oIx (eC (.str "abcdefghijklmnopqrstuvwxyz")) (e2 oMod (eV 0) (eC (.int 26)))) (e2 oAdd (eC (.int 1)) (e2 oMod (e2 oDiv (eV 0) (eC (.int 26))) (eC (.int 12)))))) (sCons (sSet 3 (eMkX 7 (aC (eV 2) (aC (eV 1) (aN))))) (sCons (sIf (bE (e2 oNe (eA (callR φ__law_kinds []) (aC (eV 3) (aN))) (e2 oAdd (eLc (iA rg1R (aC (eC (.int 8)) (aN))) (gN 4) (bY) (e2 oEq (eV 4) (eC (.int 0))) [4]) (eA oLst (aC (eC (.bl false)) (aC (eC (.bl true)) (aC (eC (.bl true)) (aN)))))))) (sCons (sRet (eC (.bl false))) (sNil)) (sNil)) (sCons (sIf (bOr (bE (e2 oNe (e1 (xFld [7, 8, 9, 10, 11, 12, 13, 14, 15] "bridge") (eV 3)) (eV 2))) (bOr (bNot (bE (eA (callR φ__law_whole []) (aC (e1 (xFld [7, 8, 9, 10, 11, 12, 13, 14, 15] "wheel") (eV 3)) (aN))))) (bE (e2 oNe (e1 (xFld [7, 8, 9, 10, 11, 12, 13, 14, 15] "wheel") (eV 3)) (eV 1))))) (sCons (sRet (eC (.bl false))) (sNil)) (sNil)) (sCons (sIf (bE (e2 oNe (eA (callR φ__law_kinds []) (aC (eMkX0 8 (eV 2)) (aN))) (e2 oAdd (eLc (iA rg1R (aC (eC (.int 8)) (aN))) (gN 4) (bY) (e2 oEq (eV 4) (eC (.int 1))) [4]) (eA oLst (aC (eC (.bl false)) (aC (eC (.bl true)) (aC (eC (.bl true)) (aN)))))))) (sCons (sRet (eC (.bl false))) (sNil)) (sNil)) (sCons (sRet (eA (callR φ__law_rows_told []) (aC (eV 1) (aN)))) (sNil))))))
def φ__law_good : Phi := phi m__law_good 5 2
set_option maxHeartbeats 4000000 in
theorem ok__law_good {P : Program} {w : World} {K : PySem.W.Frag} {mg : Str → Option Value} {base : Heap} {ca : Nat → Addr} {f : Addr} {fd : FuncData} (Z : Blt mg) (C__law_kinds : Callee P w K mg base ca 1 "_law_kinds" φ__law_kinds []) (C__law_whole : Callee P w K mg base ca 1 "_law_whole" φ__law_whole []) (C__law_rows_told : Callee P w K mg base ca 3 "_law_rows_told" φ__law_rows_told []) (XR_Blocked : Raiser P w K mg base ca 1 7 "Blocked") (XR_NoWay : Raiser0 K mg ca 8 "NoWay") (XF_bridge : XfS K ca [7, 8, 9, 10, 11, 12, 13, 14, 15] "bridge") (XF_wheel : XfS K ca [7, 8, 9, 10, 11, 12, 13, 14, 15] "wheel") (F : FunA K "_law_good" "_law_good" s__law_good f fd) : FnOk P w K mg base CX0 (3 + 1) f fd ["_law_cell", "_law_number"] (spOf K ca φ__law_good) :=
  fn_ok F sc__law_good rfl rfl rfl (fun cdv A outer s H E hr => (svs_cons (sv_set (i := 2) sc__law_good.nd rfl (.inl rfl) (ev_op op_mulA od_mul (ev_ix ix_seq od_ix (ev_c pe_str fun _ => .str _) (ev_op op_modN od_mod (ev_var (pv 0)) (ev_c pe_int fun _ => .int _)) (fun _ _ => rfl)) (ev_op op_addA od_add (ev_c pe_int fun _ => .int _) (ev_op op_modN od_mod (ev_op op_fdivB od_div (ev_var (pv 0)) (ev_c pe_int fun _ => .int _)) (ev_c pe_int fun _ => .int _))))) (svs_cons (sv_set (i := 3) sc__law_good.nd rfl (.inl rfl) (ev_mkX XR_Blocked (hr.mono (by decide)) rfl (av_cons (ev_var (pv 2)) (av_cons (ev_var (pv 1)) av_nil)))) (svs_cons (sv_if (tv_cmp (op_neA hr.units) od_ne (ev_fn C__law_kinds (hr.mono (by decide)) rfl (av_cons (ev_var (pv 3)) av_nil)) (ev_op op_addA od_add (ev_lc rfl sc__law_good.nd (iv_rg1 rfl Z.z_range (av_cons (ev_c pe_int fun _ => .int _) av_nil)) (blk_by (own := [("_law_n", 4)]) (N := ["_law_cell", "_law_number", "_law_name", "_law_error", "_law_n"]) (sc := defScope s__law_good) rfl rfl (by decide +kernel)) rfl (fun _ _ _ _ _ => (gv_name sc__law_good.nd rfl (.inl rfl))) (fun _ _ _ _ _ => cv_nil) (fun _ _ _ _ _ => (ev_cmp (op_eqA hr.units) od_eq (ev_var (pv 4)) (ev_c pe_int fun _ => .int _) (nomark _))) (by decide) gN_ln) (ev_lst (av_cons (ev_c pe_bl fun _ => .bl _) (av_cons (ev_c pe_bl fun _ => .bl _) (av_cons (ev_c pe_bl fun _ => .bl _) av_nil))))) (nomark _)) (svs_cons (sv_ret (ev_c pe_bl fun _ => .bl _)) svs_nil) svs_nil) (svs_cons (sv_if (tv_w (wv_or (tv_cmp (op_neA hr.units) od_ne (ev_xfld XF_bridge (ev_var (pv 3))) (ev_var (pv 2)) (nomark _)) (wv_or (tv_not (tv_val (ev_fn C__law_whole (hr.mono (by decide)) rfl (av_cons (ev_xfld XF_wheel (ev_var (pv 3))) av_nil)))) (wv_one' (tv_cmp (op_neA hr.units) od_ne (ev_xfld XF_wheel (ev_var (pv 3))) (ev_var (pv 1)) (nomark _)))))) (svs_cons (sv_ret (ev_c pe_bl fun _ => .bl _)) svs_nil) svs_nil) (svs_cons (sv_if (tv_cmp (op_neA hr.units) od_ne (ev_fn C__law_kinds (hr.mono (by decide)) rfl (av_cons (ev_mkX0 XR_NoWay rfl (ev_var (pv 2))) av_nil)) (ev_op op_addA od_add (ev_lc rfl sc__law_good.nd (iv_rg1 rfl Z.z_range (av_cons (ev_c pe_int fun _ => .int _) av_nil)) (blk_by (own := [("_law_n", 4)]) (N := ["_law_cell", "_law_number", "_law_name", "_law_error", "_law_n"]) (sc := defScope s__law_good) rfl rfl (by decide +kernel)) rfl (fun _ _ _ _ _ => (gv_name sc__law_good.nd rfl (.inl rfl))) (fun _ _ _ _ _ => cv_nil) (fun _ _ _ _ _ => (ev_cmp (op_eqA hr.units) od_eq (ev_var (pv 4)) (ev_c pe_int fun _ => .int _) (nomark _))) (by decide) gN_ln) (ev_lst (av_cons (ev_c pe_bl fun _ => .bl _) (av_cons (ev_c pe_bl fun _ => .bl _) (av_cons (ev_c pe_bl fun _ => .bl _) av_nil))))) (nomark _)) (svs_cons (sv_ret (ev_c pe_bl fun _ => .bl _)) svs_nil) svs_nil) (svs_cons (sv_ret (ev_fn C__law_rows_told (hr.mono (by decide)) rfl (av_cons (ev_var (pv 1)) av_nil))) svs_nil)))))))
theorem sc_law : FnScope ["_law_script", "_law_cells", "_law_k"] ["_law_script"] (defScope s_law) := ⟨rfl, rfl, rfl, by decide +kernel, rfl, by decide +kernel, by decide +kernel⟩
def m_law : Gm → Option Out := sCons (sSet 1 (eSl (eV 0) (pS (eC (.int 0))) (pS (eC (.int 60))))) (sCons (sFz 1 (sFor (iA rg1R (aC (e2 oAdd (eC (.int 1)) (eA cLen (aC (eV 1) (aN)))) (aN))) (gN 2) (sCons (sIf (bNot (bE (eA (callR φ__law_good []) (aC (eA (callR φ__law_cell_at []) (aC (eV 1) (aC (eV 2) (aN)))) (aC (e2 oMod (eA (callR φ__law_cell_at []) (aC (eV 1) (aC (e2 oAdd (eV 2) (eC (.int 1))) (aN)))) (e2 oPow (eC (.int 10)) (eC (.int 60)))) (aN)))))) (sCons (sRet (eC (.bl false))) (sNil)) (sNil)) (sNil)) [2])) (sCons (sRet (eC (.bl true))) (sNil)))
def φ_law : Phi := phi m_law 3 1
set_option maxHeartbeats 4000000 in
theorem ok_law {P : Program} {w : World} {K : PySem.W.Frag} {mg : Str → Option Value} {base : Heap} {ca : Nat → Addr} {f : Addr} {fd : FuncData} (Z : Blt mg) (C__law_good : Callee P w K mg base ca 4 "_law_good" φ__law_good []) (C__law_cell_at : Callee P w K mg base ca 1 "_law_cell_at" φ__law_cell_at []) (F : FunA K "law" "law" s_law f fd) : FnOk P w K mg base CX0 (4 + 1) f fd ["_law_script"] (spOf K ca φ_law) :=
  fn_ok F sc_law rfl rfl rfl (fun cdv A outer s H E hr => (svs_cons (sv_set (i := 1) sc_law.nd rfl (.inl rfl) (ev_slice (ev_var (pv 0)) (ov_some (ev_c pe_int fun _ => .int _)) (ov_some (ev_c pe_int fun _ => .int _)))) (svs_cons (sv_fz (i := 1) (sv_for PassesOwn.never rfl (iv_rg1 rfl Z.z_range (av_cons (ev_op op_addA od_add (ev_c pe_int fun _ => .int _) (ev_callB call_lenA cd_len rfl Z.z_len b_len (av_cons (ev_var (pv 1)) av_nil))) av_nil)) (gv_name sc_law.nd rfl (.inl rfl)) (svs_cons (sv_if (tv_not (tv_val (ev_fn C__law_good (hr.mono (by decide)) rfl (av_cons (ev_fn C__law_cell_at (hr.mono (by decide)) rfl (av_cons (ev_var (pv 1)) (av_cons (ev_var (pv 2)) av_nil))) (av_cons (ev_op op_modN od_mod (ev_fn C__law_cell_at (hr.mono (by decide)) rfl (av_cons (ev_var (pv 1)) (av_cons (ev_op op_addA od_add (ev_var (pv 2)) (ev_c pe_int fun _ => .int _)) av_nil))) (ev_op op_pow od_pow (ev_c pe_int fun _ => .int _) (ev_c pe_int fun _ => .int _))) av_nil))))) (svs_cons (sv_ret (ev_c pe_bl fun _ => .bl _)) svs_nil) svs_nil) svs_nil) rfl)) (svs_cons (sv_ret (ev_c pe_bl fun _ => .bl _)) svs_nil))))
end G
namespace G
open PySem L2 BK
set_option autoImplicit false
noncomputable def sh__law_cell_at (script : (List Int)) (k_v : Int) : Option Int :=
  if (decide (k_v < (List.length script : Int))) = true then
      b1 (atI script k_v) fun t1 =>
      some t1
  else
    some (0 : Int)
set_option maxHeartbeats 2000000 in
theorem sim__law_cell_at {script : (List Int)} {k_v : Int} {r : Int} (e : sh__law_cell_at script k_v = some r) : φ__law_cell_at [(eL D.int) script, D.int k_v] = some ((fun v => R.va (D.int v)) r) := by
  refine sim_phi (m := m__law_cell_at) (N := 2) (n := 2) (ds := [(eL D.int) script, D.int k_v]) (s := sh__law_cell_at script k_v) (k := (fun v => R.va (D.int v))) rfl ?_ e
  show J m__law_cell_at nxt [.va ((eL D.int) script), .va (D.int k_v)] (sh__law_cell_at script k_v) (PF (fun v => R.va (D.int v)))
  unfold m__law_cell_at sh__law_cell_at
  refine j_if (t_val (x2 (xV rfl) (xA (xaC (xV rfl) xaN) (f_lenL (e := D.int) (xs := script) rfl)) (oLt_def _ _))) (fun hc => ?_) (fun hc => ?_)
  · refine j_b1 fun t1 h1 => ?_
    exact j_ret (x2 (xV rfl) (xV rfl) (f_ixL (e := D.int) (xs := script) rfl h1)) rfl
  · refine j_nilC ?_
    exact j_ret rfl rfl

noncomputable def sh__law_whole (found : Int) : Option Bool :=
  some (true && (!false))
set_option maxHeartbeats 2000000 in
theorem sim__law_whole {found : Int} {r : Bool} (e : sh__law_whole found = some r) : φ__law_whole [D.int found] = some ((fun v => R.va (D.bl v)) r) := by
  refine sim_phi (m := m__law_whole) (N := 1) (n := 1) (ds := [D.int found]) (s := sh__law_whole found) (k := (fun v => R.va (D.bl v))) rfl ?_ e
  show J m__law_whole nxt [.va (D.int found)] (sh__law_whole found) (PF (fun v => R.va (D.bl v)))
  unfold m__law_whole sh__law_whole
  exact j_ret (v_and (f_isi (xV rfl) rfl rfl) (v_not (f_isi (xV rfl) rfl rfl))) rfl

noncomputable def sh__law_kinds (error : Exc) : Option (List Bool) :=
  grd (List.contains [7, 8, 9, 10, 11, 12, 13, 14, 15] error.c = true) <|
  grd (List.contains [7, 8, 9, 10, 11, 12, 13, 14, 15] error.c = true) <|
  grd (List.contains [7, 8, 9, 10, 11, 12, 13, 14, 15] error.c = true) <|
  lt ([(xsub error.c 7), (xsub error.c 8), (xsub error.c 10)]) fun (kinds_here : (List Bool)) =>
  grd (List.contains [7, 8, 9, 10, 11, 12, 13, 14, 15] error.c = true) <|
  grd (List.contains [7, 8, 9, 10, 11, 12, 13, 14, 15] error.c = true) <|
  grd (List.contains [7, 8, 9, 10, 11, 12, 13, 14, 15] error.c = true) <|
  grd (List.length kinds_here + List.length ([(xsub error.c 11), (xsub error.c 12), (xsub error.c 13)] : List Bool) ≤ 16777216) <|
  lt (kinds_here ++ [(xsub error.c 11), (xsub error.c 12), (xsub error.c 13)]) fun (kinds_here' : (List Bool)) =>
  grd (List.contains [7, 8, 9, 10, 11, 12, 13, 14, 15] error.c = true) <|
  grd (List.contains [7, 8, 9, 10, 11, 12, 13, 14, 15] error.c = true) <|
  grd (List.contains [7, 8, 9, 10, 11, 12, 13, 14, 15] error.c = true) <|
  grd (List.length kinds_here' + List.length ([(xsub error.c 14), (xsub error.c 15), (xsub error.c 9)] : List Bool) ≤ 16777216) <|
  lt (kinds_here' ++ [(xsub error.c 14), (xsub error.c 15), (xsub error.c 9)]) fun (kinds_here'2 : (List Bool)) =>
  grd (List.contains [7, 8, 9, 10, 11, 12, 13, 14, 15] error.c = true) <|
  grd (List.contains [7, 8, 9, 10, 11, 12, 13, 14, 15] error.c = true) <|
  grd (List.length kinds_here'2 + List.length ([(xsub error.c 6), true] : List Bool) ≤ 16777216) <|
  some (kinds_here'2 ++ [(xsub error.c 6), true])
set_option maxHeartbeats 2000000 in
theorem sim__law_kinds {error : Exc} {r : (List Bool)} (e : sh__law_kinds error = some r) : φ__law_kinds [eX error] = some ((fun v => R.tm (List.map D.bl v)) r) := by
  refine sim_phi (m := m__law_kinds) (N := 2) (n := 1) (ds := [eX error]) (s := sh__law_kinds error) (k := (fun v => R.tm (List.map D.bl v))) rfl ?_ e
  show J m__law_kinds nxt [.va (eX error), .un] (sh__law_kinds error) (PF (fun v => R.tm (List.map D.bl v)))
  unfold m__law_kinds sh__law_kinds
  refine j_grd fun h1 => ?_
  refine j_grd fun h2 => ?_
  refine j_grd fun h3 => ?_
  refine j_setTN (i := 1) (g1 := [.va (eX error), .ow (List.map D.bl [(xsub error.c 7), (xsub error.c 8), (xsub error.c 10)])]) (xA (xaC (x1 (xV rfl) (f_isx h1)) (xaC (x1 (xV rfl) (f_isx h2)) (xaC (x1 (xV rfl) (f_isx h3)) xaN))) (f_lst rfl rfl rfl)) rfl ?_
  refine j_lt (fun (kinds_here : (List Bool)) => [.va (eX error), .ow (List.map D.bl kinds_here)]) fun kinds_here => ?_
  refine j_grd fun h4 => ?_
  refine j_grd fun h5 => ?_
  refine j_grd fun h6 => ?_
  refine j_grd fun h7 => ?_
  refine j_setTN (i := 1) (g1 := [.va (eX error), .ow (List.map D.bl (kinds_here ++ [(xsub error.c 11), (xsub error.c 12), (xsub error.c 13)]))]) (x2 (xW rfl) (xA (xaC (x1 (xV rfl) (f_isx h4)) (xaC (x1 (xV rfl) (f_isx h5)) (xaC (x1 (xV rfl) (f_isx h6)) xaN))) (f_lst rfl rfl rfl)) (f_addL (e := D.bl) (xs := kinds_here) (ys := [(xsub error.c 11), (xsub error.c 12), (xsub error.c 13)]) rfl rfl h7)) rfl ?_
  refine j_lt (fun (kinds_here' : (List Bool)) => [.va (eX error), .ow (List.map D.bl kinds_here')]) fun kinds_here' => ?_
  refine j_grd fun h8 => ?_
  refine j_grd fun h9 => ?_
  refine j_grd fun h10 => ?_
  refine j_grd fun h11 => ?_
  refine j_setTN (i := 1) (g1 := [.va (eX error), .ow (List.map D.bl (kinds_here' ++ [(xsub error.c 14), (xsub error.c 15), (xsub error.c 9)]))]) (x2 (xW rfl) (xA (xaC (x1 (xV rfl) (f_isx h8)) (xaC (x1 (xV rfl) (f_isx h9)) (xaC (x1 (xV rfl) (f_isx h10)) xaN))) (f_lst rfl rfl rfl)) (f_addL (e := D.bl) (xs := kinds_here') (ys := [(xsub error.c 14), (xsub error.c 15), (xsub error.c 9)]) rfl rfl h11)) rfl ?_
  refine j_lt (fun (kinds_here'2 : (List Bool)) => [.va (eX error), .ow (List.map D.bl kinds_here'2)]) fun kinds_here'2 => ?_
  refine j_grd fun h12 => ?_
  refine j_grd fun h13 => ?_
  refine j_grd fun h14 => ?_
  exact j_ret (x2 (xW rfl) (xA (xaC (x1 (xV rfl) (f_isx h12)) (xaC (x1 (xV rfl) (f_isx h13)) xaN)) (f_lst rfl rfl rfl)) (f_addL (e := D.bl) (xs := kinds_here'2) (ys := [(xsub error.c 6), true]) rfl rfl h14)) rfl

noncomputable def sh__law_rows_told (number : Int) : Option Bool :=
  lt ([(Exc.mk 10 [.inl number]), (Exc.mk 11 [.inl number]), (Exc.mk 12 [.inl number]), (Exc.mk 13 [.inl number]), (Exc.mk 14 [.inl number]), (Exc.mk 15 [.inl number])]) fun (rows : (List Exc)) =>
  b1 (forC (fun (e3 : (Int × Exc)) (st3 : Unit) =>
      b1 (sh__law_kinds e3.2) fun t1 =>
      grd (-4611686018427387904 ≤ (8 : Int) ∧ (8 : Int) < 4611686018427387904) <|
      grd (List.length (rgI 0 (8 : Int)) ≤ 16777216) <|
      grd (List.length (List.map (fun e4 : Int => (decide (e4 = ((2 : Int) + e3.1)))) (rgI 0 (8 : Int))) + List.length ([true, true, true] : List Bool) ≤ 16777216) <|
      if (!decide (t1 = ((List.map (fun e4 : Int => (decide (e4 = ((2 : Int) + e3.1)))) (rgI 0 (8 : Int))) ++ [true, true, true]))) = true then
          some (.rt false)
      else
        grd (List.contains [7, 8, 9, 10, 11, 12, 13, 14, 15] e3.2.c = true) <|
        b1 (xInt "row" e3.2) fun t2 =>
        b1 (sh__law_whole t2) fun t3 =>
        b1 (if (!t3) = true then some true else grd (List.contains [7, 8, 9, 10, 11, 12, 13, 14, 15] e3.2.c = true) <| b1 (xInt "row" e3.2) fun t4 => some (!decide (t4 = number))) fun t5 =>
        if t5 = true then
            some (.rt false)
        else
          some (.nx ())) (enI rows) ()) fun c => ctl c (fun u6 =>
  lt (Exc.mk 9 [.inl number]) fun (other : Exc) =>
  grd (List.contains [7, 8, 9, 10, 11, 12, 13, 14, 15] other.c = true) <|
  b1 (xInt "row" other) fun t7 =>
  b1 (if (decide (t7 = number)) = true then b1 (sh__law_kinds other) fun t8 => grd (-(2 ^ 63) ≤ (8 : Int) ∧ (8 : Int) < 2 ^ 63 ∧ List.length ([false] : List Bool) * Int.toNat (8 : Int) ≤ 16777216) <| grd (List.length (List.replicate (Int.toNat (8 : Int)) [false]).flatten + List.length ([true, true, true] : List Bool) ≤ 16777216) <| some (decide (t8 = ((List.replicate (Int.toNat (8 : Int)) [false]).flatten ++ [true, true, true]))) else some false) fun t9 =>
  some t9) fun r => some r
set_option maxHeartbeats 2000000 in
theorem sim__law_rows_told {number : Int} {r : Bool} (e : sh__law_rows_told number = some r) : φ__law_rows_told [D.int number] = some ((fun v => R.va (D.bl v)) r) := by
  refine sim_phi (m := m__law_rows_told) (N := 6) (n := 1) (ds := [D.int number]) (s := sh__law_rows_told number) (k := (fun v => R.va (D.bl v))) rfl ?_ e
  show J m__law_rows_told nxt [.va (D.int number), .un, .un, .un, .un, .un] (sh__law_rows_told number) (PF (fun v => R.va (D.bl v)))
  unfold m__law_rows_told sh__law_rows_told
  refine j_setTN (i := 1) (g1 := [.va (D.int number), .ow (List.map eX [(Exc.mk 10 [.inl number]), (Exc.mk 11 [.inl number]), (Exc.mk 12 [.inl number]), (Exc.mk 13 [.inl number]), (Exc.mk 14 [.inl number]), (Exc.mk 15 [.inl number])]), .un, .un, .un, .un]) (xA (xaC (x_mkX (fs := [.inl number]) (xaC (xV rfl) xaN) rfl rfl) (xaC (x_mkX (fs := [.inl number]) (xaC (xV rfl) xaN) rfl rfl) (xaC (x_mkX (fs := [.inl number]) (xaC (xV rfl) xaN) rfl rfl) (xaC (x_mkX (fs := [.inl number]) (xaC (xV rfl) xaN) rfl rfl) (xaC (x_mkX (fs := [.inl number]) (xaC (xV rfl) xaN) rfl rfl) (xaC (x_mkX (fs := [.inl number]) (xaC (xV rfl) xaN) rfl rfl) xaN)))))) (f_lst rfl rfl rfl)) rfl ?_
  refine j_lt (fun (rows : (List Exc)) => [.va (D.int number), .ow (List.map eX rows), .un, .un, .un, .un]) fun rows => ?_
  refine j_forC (eP2 D.int eX) (fun (st : Unit) (g : Gm) => ∃ s1 s2 : Slot, g = [.va (D.int number), .ow (List.map eX rows), .un, s1, s2, .un]) (fun v => R.va (D.bl v)) (i_A (xaC (xW rfl) xaN) (f_en (e := eX) (xs := rows) rfl)) rfl ⟨_, _, rfl⟩ ?_ ?_ ?_
  · rintro e3 hx st3 g ⟨s1, s2, rfl⟩
    refine ⟨[.va (D.int number), .ow (List.map eX rows), .un, .va (D.int e3.1), .va (eX e3.2), .un], rfl, ?_⟩
    refine j_b1 fun t1 h1 => ?_
    refine j_grd fun h2 => ?_
    refine j_grd fun h3 => ?_
    refine j_grd fun h4 => ?_
    refine j_if (t_val (x2 (xA (xaC (xV rfl) xaN) (f_call (@sim__law_kinds e3.2 _ h1) rfl (.inl rfl))) (x2 (x_lc (e := D.int) (e' := D.bl) (xs := (rgI 0 (8 : Int))) (v := fun e4 => (decide (e4 = ((2 : Int) + e3.1)))) (fun e4 => R.va (D.bl (decide (e4 = ((2 : Int) + e3.1))))) (i_A (xaC rfl xaN) (f_rg1 h2)) h3 (fun e4 _ => ⟨[.va (D.int number), .ow (List.map eX rows), .un, .va (D.int e3.1), .va (eX e3.2), .va (D.int e4)], rfl, (x2 (xV rfl) (x2 rfl (xV rfl) (oAdd_int _ _)) (oEq_int _ _))⟩)) (xA (xaC rfl (xaC rfl (xaC rfl xaN))) (f_lst rfl rfl rfl)) (f_addL (e := D.bl) (xs := (List.map (fun e4 : Int => (decide (e4 = ((2 : Int) + e3.1)))) (rgI 0 (8 : Int)))) (ys := [true, true, true]) rfl rfl h4)) (f_ne (eqR_K (x := t1) (y := ((List.map (fun e4 : Int => (decide (e4 = ((2 : Int) + e3.1)))) (rgI 0 (8 : Int))) ++ [true, true, true])) (EQ_L (EQ_bl 7)) (OK_L (OK_bl 7)) rfl rfl)))) (fun hc => ?_) (fun hc => ?_)
    · exact jc_ret rfl rfl
    · refine j_nilC ?_
      refine j_grd fun h5 => ?_
      refine j_b1 fun t2 h6 => ?_
      refine j_b1 fun t3 h7 => ?_
      refine j_b1 fun t5 h10 => ?_
      refine j_if (t_orP (t_not (t_val (xA (xaC (x1 (xV rfl) (f_xfI h5 h6)) xaN) (f_call (@sim__law_whole t2 _ h7) rfl (.inl rfl))))) (fun _ => (sm_grd fun h8 => (sm_b1 fun t4 h9 => (sm_ret (t_val (x2 (x1 (xV rfl) (f_xfI h8 h9)) (xV rfl) (oNe_int _ _))) rfl)))) h10) (fun hc => ?_) (fun hc => ?_)
      · exact jc_ret rfl rfl
      · refine j_nilC ?_
        exact jc_end ⟨_, _, rfl⟩
  · rintro ⟨⟩ g ⟨s1, s2, rfl⟩
    refine j_setN (i := 2) (g1 := [.va (D.int number), .ow (List.map eX rows), .va (eX (Exc.mk 9 [.inl number])), s1, s2, .un]) (x_mkX (fs := [.inl number]) (xaC (xV rfl) xaN) rfl rfl) rfl ?_
    refine j_lt (fun (other : Exc) => [.va (D.int number), .ow (List.map eX rows), .va (eX other), s1, s2, .un]) fun other => ?_
    refine j_grd fun h11 => ?_
    refine j_b1 fun t7 h12 => ?_
    refine j_b1 fun t9 h16 => ?_
    exact j_ret (v_andP (x2 (x1 (xV rfl) (f_xfI h11 h12)) (xV rfl) (oEq_int _ _)) (fun _ => (sm_b1 fun t8 h13 => (sm_grd fun h14 => (sm_grd fun h15 => (sm_ret (x2 (xA (xaC (xV rfl) xaN) (f_call (@sim__law_kinds other _ h13) rfl (.inl rfl))) (x2 (x2 (xA (xaC rfl xaN) (f_lst rfl rfl rfl)) rfl (f_mulL (xs := [false]) rfl h14)) (xA (xaC rfl (xaC rfl (xaC rfl xaN))) (f_lst rfl rfl rfl)) (f_addL (e := D.bl) (xs := (List.replicate (Int.toNat (8 : Int)) [false]).flatten) (ys := [true, true, true]) rfl rfl h15)) (f_eq (eqR_K (x := t8) (y := ((List.replicate (Int.toNat (8 : Int)) [false]).flatten ++ [true, true, true])) (EQ_L (EQ_bl 7)) (OK_L (OK_bl 7)) rfl rfl))) rfl))))) h16) rfl
  · exact fun r => sm_ret rfl rfl

noncomputable def sh__law_good (cell : Int) (number : Int) : Option Bool :=
  grd (Str.length ("abcdefghijklmnopqrstuvwxyz" : Str) ≤ 16777216) <|
  b1 (sgAt ("abcdefghijklmnopqrstuvwxyz" : Str) (cell % (26 : Int))) fun t1 =>
  grd (-(2 ^ 63) ≤ ((1 : Int) + ((cell / (26 : Int)) % (12 : Int))) ∧ ((1 : Int) + ((cell / (26 : Int)) % (12 : Int))) < 2 ^ 63 ∧ Str.length t1 * Int.toNat ((1 : Int) + ((cell / (26 : Int)) % (12 : Int))) ≤ 16777216) <|
  lt (strRep t1 ((1 : Int) + ((cell / (26 : Int)) % (12 : Int)))) fun (name : Str) =>
  lt (Exc.mk 7 [.inl number, .inr name]) fun (error : Exc) =>
  b1 (sh__law_kinds error) fun t2 =>
  grd (-4611686018427387904 ≤ (8 : Int) ∧ (8 : Int) < 4611686018427387904) <|
  grd (List.length (rgI 0 (8 : Int)) ≤ 16777216) <|
  grd (List.length (List.map (fun e1 : Int => (decide (e1 = (0 : Int)))) (rgI 0 (8 : Int))) + List.length ([false, true, true] : List Bool) ≤ 16777216) <|
  if (!decide (t2 = ((List.map (fun e1 : Int => (decide (e1 = (0 : Int)))) (rgI 0 (8 : Int))) ++ [false, true, true]))) = true then
      some false
  else
    grd (List.contains [7, 8, 9, 10, 11, 12, 13, 14, 15] error.c = true) <|
    b1 (xStr "bridge" error) fun t3 =>
    b1 (if (!decide (t3 = name)) = true then some true else grd (List.contains [7, 8, 9, 10, 11, 12, 13, 14, 15] error.c = true) <| b1 (xInt "wheel" error) fun t4 => b1 (sh__law_whole t4) fun t5 => b1 (if (!t5) = true then some true else grd (List.contains [7, 8, 9, 10, 11, 12, 13, 14, 15] error.c = true) <| b1 (xInt "wheel" error) fun t6 => some (!decide (t6 = number))) fun t7 => some t7) fun t8 =>
    if t8 = true then
        some false
    else
      b1 (sh__law_kinds (Exc.mk 8 [])) fun t9 =>
      grd (-4611686018427387904 ≤ (8 : Int) ∧ (8 : Int) < 4611686018427387904) <|
      grd (List.length (rgI 0 (8 : Int)) ≤ 16777216) <|
      grd (List.length (List.map (fun e2 : Int => (decide (e2 = (1 : Int)))) (rgI 0 (8 : Int))) + List.length ([false, true, true] : List Bool) ≤ 16777216) <|
      if (!decide (t9 = ((List.map (fun e2 : Int => (decide (e2 = (1 : Int)))) (rgI 0 (8 : Int))) ++ [false, true, true]))) = true then
          some false
      else
        b1 (sh__law_rows_told number) fun t10 =>
        some t10
set_option maxHeartbeats 2000000 in
theorem sim__law_good {cell : Int} {number : Int} {r : Bool} (e : sh__law_good cell number = some r) : φ__law_good [D.int cell, D.int number] = some ((fun v => R.va (D.bl v)) r) := by
  refine sim_phi (m := m__law_good) (N := 5) (n := 2) (ds := [D.int cell, D.int number]) (s := sh__law_good cell number) (k := (fun v => R.va (D.bl v))) rfl ?_ e
  show J m__law_good nxt [.va (D.int cell), .va (D.int number), .un, .un, .un] (sh__law_good cell number) (PF (fun v => R.va (D.bl v)))
  unfold m__law_good sh__law_good
  refine j_grd fun h1 => ?_
  refine j_b1 fun t1 h2 => ?_
  refine j_grd fun h3 => ?_
  refine j_setN (i := 2) (g1 := [.va (D.int cell), .va (D.int number), .va (D.str (strRep t1 ((1 : Int) + ((cell / (26 : Int)) % (12 : Int))))), .un, .un]) (x2 (x2 rfl (x2 (xV rfl) rfl (f_modK (by decide))) (f_ixS h1 h2)) (x2 rfl (x2 (x2 (xV rfl) rfl (f_divK (by decide))) rfl (f_modK (by decide))) (oAdd_int _ _)) (f_mulS h3)) rfl ?_
  refine j_lt (fun (name : Str) => [.va (D.int cell), .va (D.int number), .va (D.str name), .un, .un]) fun name => ?_
  refine j_setN (i := 3) (g1 := [.va (D.int cell), .va (D.int number), .va (D.str name), .va (eX (Exc.mk 7 [.inl number, .inr name])), .un]) (x_mkX (fs := [.inr name, .inl number]) (xaC (xV rfl) (xaC (xV rfl) xaN)) rfl rfl) rfl ?_
  refine j_lt (fun (error : Exc) => [.va (D.int cell), .va (D.int number), .va (D.str name), .va (eX error), .un]) fun error => ?_
  refine j_b1 fun t2 h4 => ?_
  refine j_grd fun h5 => ?_
  refine j_grd fun h6 => ?_
  refine j_grd fun h7 => ?_
  refine j_if (t_val (x2 (xA (xaC (xV rfl) xaN) (f_call (@sim__law_kinds error _ h4) rfl (.inl rfl))) (x2 (x_lc (e := D.int) (e' := D.bl) (xs := (rgI 0 (8 : Int))) (v := fun e1 => (decide (e1 = (0 : Int)))) (fun e1 => R.va (D.bl (decide (e1 = (0 : Int))))) (i_A (xaC rfl xaN) (f_rg1 h5)) h6 (fun e1 _ => ⟨[.va (D.int cell), .va (D.int number), .va (D.str name), .va (eX error), .va (D.int e1)], rfl, (x2 (xV rfl) rfl (oEq_int _ _))⟩)) (xA (xaC rfl (xaC rfl (xaC rfl xaN))) (f_lst rfl rfl rfl)) (f_addL (e := D.bl) (xs := (List.map (fun e1 : Int => (decide (e1 = (0 : Int)))) (rgI 0 (8 : Int)))) (ys := [false, true, true]) rfl rfl h7)) (f_ne (eqR_K (x := t2) (y := ((List.map (fun e1 : Int => (decide (e1 = (0 : Int)))) (rgI 0 (8 : Int))) ++ [false, true, true])) (EQ_L (EQ_bl 7)) (OK_L (OK_bl 7)) rfl rfl)))) (fun hc => ?_) (fun hc => ?_)
  · exact j_ret rfl rfl
  · refine j_nilC ?_
    refine j_grd fun h8 => ?_
    refine j_b1 fun t3 h9 => ?_
    refine j_b1 fun t8 h16 => ?_
    refine j_if (t_orP (t_val (x2 (x1 (xV rfl) (f_xfS h8 h9)) (xV rfl) (f_ne eqR_str))) (fun _ => (sm_grd fun h10 => (sm_b1 fun t4 h11 => (sm_b1 fun t5 h12 => (sm_b1 fun t7 h15 => (sm_ret (t_orP (t_not (t_val (xA (xaC (x1 (xV rfl) (f_xfI h10 h11)) xaN) (f_call (@sim__law_whole t4 _ h12) rfl (.inl rfl))))) (fun _ => (sm_grd fun h13 => (sm_b1 fun t6 h14 => (sm_ret (t_val (x2 (x1 (xV rfl) (f_xfI h13 h14)) (xV rfl) (oNe_int _ _))) rfl)))) h15) rfl)))))) h16) (fun hc => ?_) (fun hc => ?_)
    · exact j_ret rfl rfl
    · refine j_nilC ?_
      refine j_b1 fun t9 h17 => ?_
      refine j_grd fun h18 => ?_
      refine j_grd fun h19 => ?_
      refine j_grd fun h20 => ?_
      refine j_if (t_val (x2 (xA (xaC (x_mkX0 (xV rfl) rfl) xaN) (f_call (@sim__law_kinds (Exc.mk 8 []) _ h17) rfl (.inl rfl))) (x2 (x_lc (e := D.int) (e' := D.bl) (xs := (rgI 0 (8 : Int))) (v := fun e2 => (decide (e2 = (1 : Int)))) (fun e2 => R.va (D.bl (decide (e2 = (1 : Int))))) (i_A (xaC rfl xaN) (f_rg1 h18)) h19 (fun e2 _ => ⟨[.va (D.int cell), .va (D.int number), .va (D.str name), .va (eX error), .va (D.int e2)], rfl, (x2 (xV rfl) rfl (oEq_int _ _))⟩)) (xA (xaC rfl (xaC rfl (xaC rfl xaN))) (f_lst rfl rfl rfl)) (f_addL (e := D.bl) (xs := (List.map (fun e2 : Int => (decide (e2 = (1 : Int)))) (rgI 0 (8 : Int)))) (ys := [false, true, true]) rfl rfl h20)) (f_ne (eqR_K (x := t9) (y := ((List.map (fun e2 : Int => (decide (e2 = (1 : Int)))) (rgI 0 (8 : Int))) ++ [false, true, true])) (EQ_L (EQ_bl 7)) (OK_L (OK_bl 7)) rfl rfl)))) (fun hc => ?_) (fun hc => ?_)
      · exact j_ret rfl rfl
      · refine j_nilC ?_
        refine j_b1 fun t10 h21 => ?_
        exact j_ret (xA (xaC (xV rfl) xaN) (f_call (@sim__law_rows_told number _ h21) rfl (.inl rfl))) rfl

noncomputable def sh_law (script : (List Int)) : Option Bool :=
  lt (cutL script (some (0 : Int)) (some (60 : Int))) fun (cells : (List Int)) =>
  grd (-4611686018427387904 ≤ ((1 : Int) + (List.length cells : Int)) ∧ ((1 : Int) + (List.length cells : Int)) < 4611686018427387904) <|
  b1 (forC (fun (e2 : Int) (st2 : Unit) =>
      b1 (sh__law_cell_at cells e2) fun t1 =>
      b1 (sh__law_cell_at cells (e2 + (1 : Int))) fun t2 =>
      b1 (sh__law_good t1 (t2 % (1000000000000000000000000000000000000000000000000000000000000 : Int))) fun t3 =>
      if (!t3) = true then
          some (.rt false)
      else
        some (.nx ())) (rgI 0 ((1 : Int) + (List.length cells : Int))) ()) fun c => ctl c (fun u4 =>
  some true) fun r => some r
set_option maxHeartbeats 2000000 in
theorem sim_law {script : (List Int)} {r : Bool} (e : sh_law script = some r) : φ_law [eRL script] = some ((fun v => R.va (D.bl v)) r) := by
  refine sim_phi (m := m_law) (N := 3) (n := 1) (ds := [eRL script]) (s := sh_law script) (k := (fun v => R.va (D.bl v))) rfl ?_ e
  show J m_law nxt [.va (eRL script), .un, .un] (sh_law script) (PF (fun v => R.va (D.bl v)))
  unfold m_law sh_law
  refine j_setTN (i := 1) (g1 := [.va (eRL script), .ow (List.map D.int (cutL script (some (0 : Int)) (some (60 : Int)))), .un]) (x_sl (xV rfl) (x_pS rfl) (x_pS rfl) (f_slR rfl)) rfl ?_
  refine j_lt (fun (cells : (List Int)) => [.va (eRL script), .ow (List.map D.int cells), .un]) fun cells => ?_
  refine j_fzO (g1 := [.va (eRL script), .va ((eL D.int) cells), .un]) rfl rfl ?_
  refine j_grd fun h1 => ?_
  refine j_forC D.int (fun (st : Unit) (g : Gm) => ∃ s1 : Slot, g = [.va (eRL script), .va ((eL D.int) cells), s1]) (fun v => R.va (D.bl v)) (i_A (xaC (x2 rfl (xA (xaC (xV rfl) xaN) (f_lenL (e := D.int) (xs := cells) rfl)) (oAdd_int _ _)) xaN) (f_rg1 h1)) rfl ⟨_, rfl⟩ ?_ ?_ ?_
  · rintro e2 hx st2 g ⟨s1, rfl⟩
    refine ⟨[.va (eRL script), .va ((eL D.int) cells), .va (D.int e2)], rfl, ?_⟩
    refine j_b1 fun t1 h2 => ?_
    refine j_b1 fun t2 h3 => ?_
    refine j_b1 fun t3 h4 => ?_
    refine j_if (t_not (t_val (xA (xaC (xA (xaC (xV rfl) (xaC (xV rfl) xaN)) (f_call (@sim__law_cell_at cells e2 _ h2) rfl (.inl rfl))) (xaC (x2 (xA (xaC (xV rfl) (xaC (x2 (xV rfl) rfl (oAdd_int _ _)) xaN)) (f_call (@sim__law_cell_at cells (e2 + (1 : Int)) _ h3) rfl (.inl rfl))) (x2 rfl rfl (f_powK (by decide) (by decide))) (f_modK (by decide))) xaN)) (f_call (@sim__law_good t1 (t2 % (1000000000000000000000000000000000000000000000000000000000000 : Int)) _ h4) rfl (.inl rfl))))) (fun hc => ?_) (fun hc => ?_)
    · exact jc_ret rfl rfl
    · refine j_nilC ?_
      exact jc_end ⟨_, rfl⟩
  · rintro ⟨⟩ g ⟨s1, rfl⟩
    exact j_ret rfl rfl
  · exact fun r => sm_ret rfl rfl

end G
namespace G
open PySem L2 BK
set_option autoImplicit false
-- _law_cell_at
theorem cellat_sh (ns : List Int) (k : Nat) : sh__law_cell_at ns (k : Int) = some (cellN ns k) := by
  unfold sh__law_cell_at cellN
  by_cases h : k < ns.length
  · rw [if_pos (by simpa using h), atI_ofNat, List.getElem?_eq_getElem h, b1_some]
    simp [h]
  · rw [if_neg (by simpa using h)]
    simp [h]
-- _law_whole
theorem whole02 (n : Int) : sh__law_whole n = some true := rfl
-- k02
theorem kinds02 (c : Nat) (fs : List (Int ⊕ Str)) (h : List.contains [7, 8, 9, 10, 11, 12, 13, 14, 15] c = true) : sh__law_kinds ⟨c, fs⟩ = some [xsub c 7, xsub c 8, xsub c 10, xsub c 11, xsub c 12, xsub c 13, xsub c 14, xsub c 15, xsub c 9, xsub c 6, true] := by
  unfold sh__law_kinds
  simp only [lt_def]
  rw [grd_pos h, grd_pos h, grd_pos h, grd_pos h, grd_pos h, grd_pos h, grd_pos (by simp), grd_pos h, grd_pos h, grd_pos h, grd_pos (by simp), grd_pos h, grd_pos h, grd_pos (by simp)]
  rfl
theorem row02 (c : Nat) (n : Int) (h : c = 9 ∨ c = 10 ∨ c = 11 ∨ c = 12 ∨ c = 13 ∨ c = 14 ∨ c = 15) : xInt "row" ⟨c, [.inl n]⟩ = some n := by
  rcases h with rfl | rfl | rfl | rfl | rfl | rfl | rfl <;> rfl
theorem rows02 (n : Int) : sh__law_rows_told n = some true := by
  refine Gs.eq ?_
  unfold sh__law_rows_told
  refine gs_lt (gs_forC (fun _ _ => True) trivial ?_ fun _ _ => ?_)
  · rintro pre ⟨i, x⟩ st hx _
    have hm := mem_split hx
    have key : ∀ (i : Int) (c : Nat), (c = 9 ∨ c = 10 ∨ c = 11 ∨ c = 12 ∨ c = 13 ∨ c = 14 ∨ c = 15) → List.contains [7, 8, 9, 10, 11, 12, 13, 14, 15] c = true → [xsub c 7, xsub c 8, xsub c 10, xsub c 11, xsub c 12, xsub c 13, xsub c 14, xsub c 15, xsub c 9, xsub c 6, true] = (List.map (fun e4 : Int => (decide (e4 = ((2 : Int) + i)))) (rgI 0 (8 : Int))) ++ [true, true, true] → Gs (b1 (sh__law_kinds (i, (⟨c, [.inl n]⟩ : Exc)).2) fun t1 =>
      grd (-4611686018427387904 ≤ (8 : Int) ∧ (8 : Int) < 4611686018427387904) <|
      grd (List.length (rgI 0 (8 : Int)) ≤ 16777216) <|
      grd (List.length (List.map (fun e4 : Int => (decide (e4 = ((2 : Int) + (i, (⟨c, [.inl n]⟩ : Exc)).1)))) (rgI 0 (8 : Int))) + List.length ([true, true, true] : List Bool) ≤ 16777216) <|
      if (!decide (t1 = ((List.map (fun e4 : Int => (decide (e4 = ((2 : Int) + (i, (⟨c, [.inl n]⟩ : Exc)).1)))) (rgI 0 (8 : Int))) ++ [true, true, true]))) = true then
          some (Ctl.rt false)
      else
        grd (List.contains [7, 8, 9, 10, 11, 12, 13, 14, 15] (i, (⟨c, [.inl n]⟩ : Exc)).2.c = true) <|
        b1 (xInt "row" (i, (⟨c, [.inl n]⟩ : Exc)).2) fun t2 =>
        b1 (sh__law_whole t2) fun t3 =>
        b1 (if (!t3) = true then some true else grd (List.contains [7, 8, 9, 10, 11, 12, 13, 14, 15] (i, (⟨c, [.inl n]⟩ : Exc)).2.c = true) <| b1 (xInt "row" (i, (⟨c, [.inl n]⟩ : Exc)).2) fun t4 => some (!decide (t4 = n))) fun t5 =>
        if t5 = true then
            some (.rt false)
        else
          some (.nx ())) fun c => ∃ s, c = Ctl.nx s ∧ True := fun i c hc h1 h2 => by
      dsimp only
      refine gs_eq (kinds02 c _ h1) (gs_grd (by omega) (gs_grd (by decide) (gs_grd (by rw [List.length_map]; decide) ?_)))
      rw [h2]
      refine gs_ifF (by simp) (gs_grd h1 (gs_eq (row02 c n hc) (gs_eq (x := true) rfl ?_)))
      refine gs_eq (x := false) ?_ (gs_ifF rfl (gs_some ⟨(), rfl, trivial⟩))
      rw [if_neg (by decide), grd_pos h1, row02 c n hc, b1_some]
      simp
    have hm : (i, x) ∈ [((0 : Int), (⟨10, [.inl n]⟩ : Exc)), (1, ⟨11, [.inl n]⟩), (2, ⟨12, [.inl n]⟩), (3, ⟨13, [.inl n]⟩), (4, ⟨14, [.inl n]⟩), (5, ⟨15, [.inl n]⟩)] := hm
    simp only [List.mem_cons, List.not_mem_nil, or_false] at hm
    rcases hm with hm | hm | hm | hm | hm | hm <;> cases hm
    · exact key 0 10 (by omega) rfl (by decide +kernel)
    · exact key 1 11 (by omega) rfl (by decide +kernel)
    · exact key 2 12 (by omega) rfl (by decide +kernel)
    · exact key 3 13 (by omega) rfl (by decide +kernel)
    · exact key 4 14 (by omega) rfl (by decide +kernel)
    · exact key 5 15 (by omega) rfl (by decide +kernel)
  · refine gs_lt (gs_grd rfl (gs_eq (row02 9 n (by omega)) ?_))
    refine gs_eq (x := true) ?_ (gs_some rfl)
    rw [if_pos (by simp), kinds02 9 _ rfl, b1_some, grd_pos (by decide), grd_pos (by decide +kernel)]
    exact congrArg some (decide_eq_true (by decide +kernel))
theorem good02 (c n : Int) : sh__law_good c n = some true := by
  refine Gs.eq ?_
  unfold sh__law_good
  have hlen : Str.length ("abcdefghijklmnopqrstuvwxyz" : Str) = 26 := by decide +kernel
  refine gs_grd (by rw [hlen]; omega) ?_
  refine gs_b1 (sgAt_one ("abcdefghijklmnopqrstuvwxyz" : Str) (c % 26) (by omega) (by rw [hlen]; omega)) fun z hz => ?_
  refine gs_grd (by rw [hz]; omega) (gs_ltE fun name _ => gs_lt ?_)
  refine gs_eq (kinds02 7 _ rfl) (gs_grd (by omega) (gs_grd (by decide) (gs_grd (by decide +kernel) (gs_ifF (by decide +kernel) (gs_grd rfl ?_)))))
  refine gs_eq (x := name) rfl ?_
  refine gs_eq (x := false) ?_ (gs_ifF rfl ?_)
  · have h7 : List.contains [7, 8, 9, 10, 11, 12, 13, 14, 15] (⟨7, [.inl n, .inr name]⟩ : Exc).c = true := rfl
    rw [if_neg (by simp), grd_pos h7, show xInt "wheel" ⟨7, [.inl n, .inr name]⟩ = some n from rfl, b1_some, show sh__law_whole n = some true from rfl, b1_some, if_neg (by decide), grd_pos h7, b1_some, b1_some]
    simp
  refine gs_eq (kinds02 8 _ rfl) (gs_grd (by omega) (gs_grd (by decide) (gs_grd (by decide +kernel) (gs_ifF (by decide +kernel) ?_))))
  exact gs_eq (rows02 n) (gs_some rfl)
theorem k02_sh (ns : List Int) (hl : ns.length ≤ 63) (hb : ∀ z ∈ ns, Sz 1048576 z) : sh_law ns = some true := by
  refine Gs.eq ?_
  unfold sh_law
  have hc := cut_len ns (some (0 : Int)) (some (60 : Int))
  refine gs_lt ?_
  generalize cutL ns (some (0 : Int)) (some (60 : Int)) = cs at hc
  refine gs_grd (by omega) (gs_forC (fun _ _ => True) trivial ?_ fun _ _ => gs_some rfl)
  rintro pre k st hx _
  have hk := rgI_mem (mem_split hx)
  obtain ⟨k, rfl⟩ := Int.eq_ofNat_of_zero_le hk.1
  refine gs_eq (cellat_sh cs k) ?_
  rw [show ((k : Int) + 1) = ((k + 1 : Nat) : Int) from by omega]
  exact gs_eq (cellat_sh cs (k + 1)) (gs_eq (good02 _ _) (gs_ifF rfl (gs_some ⟨(), rfl, trivial⟩)))
end G
namespace G
open PySem L2 BK
set_option autoImplicit false
theorem law_true (ns : List Int) (hl : ns.length ≤ 63) (hb : ∀ z ∈ ns, Builtin.Int.intBits z ≤ 1048576) : φ_law [.rol (ns.map D.int)] = some (.va (.bl true)) := sim_law (k02_sh ns hl fun z h => bits_sz (hb z h))
end G
namespace G
open PySem PySem.Spec L2 BK
set_option autoImplicit false
set_option maxHeartbeats 0 in
theorem all_mkT {l : PySem.W.OpenLaw} {w : World} {K : PySem.W.Frag} {h : Heap} {mg : Str → Option Value} {fa : Addr} (X : K.In h) (Gn : h.Ns mainGlobals mg) (hfa : mg "law" = some (.ref fa)) (c : He.SaysX faL fnL [] [] exB w h K) : LamX.LawAtS l w K CX0 5 63 "_law_script" mg fa h := by
  have cD : He.SaysD faL fnL K := congrArg (fun z : He.AlT => z.1) c.t
  have a0 := He.glo_ok X Gn (cD.fact 0 rfl)
  have a1 := He.glo_ok X Gn (cD.fact 1 rfl)
  have a2 := He.glo_ok X Gn (cD.fact 2 rfl)
  have a3 := He.glo_ok X Gn (cD.fact 3 rfl)
  have a4 := He.glo_ok X Gn (cD.fact 4 rfl)
  have a5 := He.glo_ok X Gn (cD.fact 5 rfl)
  have e := hfa.symm.trans a5
  cases e
  have Z : Blt mg := ⟨He.free_ok X Gn (cD.fact 6 rfl), He.free_ok X Gn (cD.fact 7 rfl), He.free_ok X Gn (cD.fact 8 rfl), He.free_ok X Gn (cD.fact 9 rfl), He.free_ok X Gn (cD.fact 10 rfl), He.free_ok X Gn (cD.fact 11 rfl), He.free_ok X Gn (cD.fact 12 rfl)⟩
  obtain ⟨x_XE, cm0⟩ := He.ba c.more
  obtain ⟨x_XF_bridge, cm1⟩ := He.ba cm0
  obtain ⟨x_XF_row, cm2⟩ := He.ba cm1
  obtain ⟨x_XF_wheel, cm3⟩ := He.ba cm2
  obtain ⟨x_XI_BadRow, cm4⟩ := He.ba cm3
  obtain ⟨x_XI_Blocked, cm5⟩ := He.ba cm4
  obtain ⟨x_XI_NoBridge, cm6⟩ := He.ba cm5
  obtain ⟨x_XI_NoLoad, cm7⟩ := He.ba cm6
  obtain ⟨x_XI_NoWay, cm8⟩ := He.ba cm7
  obtain ⟨x_XI_TextError, cm9⟩ := He.ba cm8
  obtain ⟨x_XI_TooLong, cm10⟩ := He.ba cm9
  obtain ⟨x_XI_TooNear, cm11⟩ := He.ba cm10
  obtain ⟨x_XI_Twice, cm12⟩ := He.ba cm11
  obtain ⟨x_XI_ValueError, cm13⟩ := He.ba cm12
  obtain ⟨x_XI_WayError, cm14⟩ := He.ba cm13
  obtain ⟨x_raBadRow, cm15⟩ := He.ba cm14
  obtain ⟨x_noBadRow_row, cm16⟩ := He.ba cm15
  obtain ⟨x_raBlocked, cm17⟩ := He.ba cm16
  obtain ⟨x_noBlocked_bridge, cm18⟩ := He.ba cm17
  obtain ⟨x_noBlocked_wheel, cm19⟩ := He.ba cm18
  obtain ⟨x_raNoBridge, cm20⟩ := He.ba cm19
  obtain ⟨x_noNoBridge_row, cm21⟩ := He.ba cm20
  obtain ⟨x_raNoLoad, cm22⟩ := He.ba cm21
  obtain ⟨x_noNoLoad_row, cm23⟩ := He.ba cm22
  obtain ⟨x_raTextError, cm24⟩ := He.ba cm23
  obtain ⟨x_noTextError_row, cm25⟩ := He.ba cm24
  obtain ⟨x_raTooLong, cm26⟩ := He.ba cm25
  obtain ⟨x_noTooLong_row, cm27⟩ := He.ba cm26
  obtain ⟨x_raTooNear, cm28⟩ := He.ba cm27
  obtain ⟨x_noTooNear_row, cm29⟩ := He.ba cm28
  obtain ⟨x_raTwice, cm30⟩ := He.ba cm29
  obtain ⟨x_noTwice_row, cm31⟩ := He.ba cm30
  obtain ⟨x_raNoWay, cm32⟩ := He.ba cm31
  obtain ⟨x_rdW, cm33⟩ := He.ba cm32
  obtain ⟨x_gaW, cm34⟩ := He.ba cm33
  have x_fcW := cm34
  obtain ⟨fd0, D0'⟩ := cD.def_ 0 rfl
  have D0 : FunD K "_law_cell_at" "_law_cell_at" (defArgs s__law_cell_at) (defBody s__law_cell_at) (defScope s__law_cell_at) [] [] (He.fAd K ("_law_cell_at", none)) fd0 := D0'
  have FA0 : FunA K "_law_cell_at" "_law_cell_at" s__law_cell_at (He.ga K "_law_cell_at") fd0 := funA_ofD D0
  have b0 := D0.bindsN (ps := ["_law_script", "_law_k"]) fun _ _ _ _ _ _ us hl => match us, hl with | [_, _], _ => rfl
  obtain ⟨fd1, D1'⟩ := cD.def_ 1 rfl
  have D1 : FunD K "_law_whole" "_law_whole" (defArgs s__law_whole) (defBody s__law_whole) (defScope s__law_whole) [] [] (He.fAd K ("_law_whole", none)) fd1 := D1'
  have FA1 : FunA K "_law_whole" "_law_whole" s__law_whole (He.ga K "_law_whole") fd1 := funA_ofD D1
  have b1 := D1.bindsN (ps := ["_law_found"]) fun _ _ _ _ _ _ us hl => match us, hl with | [_], _ => rfl
  obtain ⟨fd2, D2'⟩ := cD.def_ 2 rfl
  have D2 : FunD K "_law_kinds" "_law_kinds" (defArgs s__law_kinds) (defBody s__law_kinds) (defScope s__law_kinds) [] [] (He.fAd K ("_law_kinds", none)) fd2 := D2'
  have FA2 : FunA K "_law_kinds" "_law_kinds" s__law_kinds (He.ga K "_law_kinds") fd2 := funA_ofD D2
  have b2 := D2.bindsN (ps := ["_law_error"]) fun _ _ _ _ _ _ us hl => match us, hl with | [_], _ => rfl
  obtain ⟨fd3, D3'⟩ := cD.def_ 3 rfl
  have D3 : FunD K "_law_rows_told" "_law_rows_told" (defArgs s__law_rows_told) (defBody s__law_rows_told) (defScope s__law_rows_told) [] [] (He.fAd K ("_law_rows_told", none)) fd3 := D3'
  have FA3 : FunA K "_law_rows_told" "_law_rows_told" s__law_rows_told (He.ga K "_law_rows_told") fd3 := funA_ofD D3
  have b3 := D3.bindsN (ps := ["_law_number"]) fun _ _ _ _ _ _ us hl => match us, hl with | [_], _ => rfl
  obtain ⟨fd4, D4'⟩ := cD.def_ 4 rfl
  have D4 : FunD K "_law_good" "_law_good" (defArgs s__law_good) (defBody s__law_good) (defScope s__law_good) [] [] (He.fAd K ("_law_good", none)) fd4 := D4'
  have FA4 : FunA K "_law_good" "_law_good" s__law_good (He.ga K "_law_good") fd4 := funA_ofD D4
  have b4 := D4.bindsN (ps := ["_law_cell", "_law_number"]) fun _ _ _ _ _ _ us hl => match us, hl with | [_, _], _ => rfl
  obtain ⟨fd5, D5'⟩ := cD.def_ 5 rfl
  have D5 : FunD K "law" "law" (defArgs s_law) (defBody s_law) (defScope s_law) [] [] (He.fAd K ("law", none)) fd5 := D5'
  have FA5 : FunA K "law" "law" s_law (He.ga K "law") fd5 := funA_ofD D5
  have b5 := D5.bindsN (ps := ["_law_script"]) fun _ _ _ _ _ _ us hl => match us, hl with | [_], _ => rfl
  refine ⟨fd5, [], spOf K (caOf [0, 0, 0, 0, 0, 0, He.ga K "WayError", He.ga K "Blocked", He.ga K "NoWay", He.ga K "TextError", He.ga K "BadRow", He.ga K "Twice", He.ga K "NoBridge", He.ga K "NoLoad", He.ga K "TooNear", He.ga K "TooLong", 0, 0, 0, 0, 0, 0, 0, 0]) φ_law, ?_, ?_, ?_, fun s v => D5.bindsA (ps := ["_law_script"]) (fun _ _ _ _ _ _ us hl => match us, hl with | [_], _ => rfl) s [v] rfl, ?_, fun base _ _ TB => ?_⟩
  · intro p hp; cases hp
  · intro p hp; cases hp
  · intro p hp; cases hp
  · intro H a ns hl hb hT hS
    exact ⟨[.rol (ns.map D.int)], noT H, .va (.bl true), noT_same _, noT_nt _, tabsC0 rfl rfl, .cons (.rol (noT_sq hS) .ints) .nil, law_true ns hl hb, fun v H' F' _ r => by cases r; rfl⟩
  have XE : ∀ c ∈ ([7, 8, 9, 10, 11, 12, 13, 14, 15] : List Nat), ExcC K ((caOf [0, 0, 0, 0, 0, 0, He.ga K "WayError", He.ga K "Blocked", He.ga K "NoWay", He.ga K "TextError", He.ga K "BadRow", He.ga K "Twice", He.ga K "NoBridge", He.ga K "NoLoad", He.ga K "TooNear", He.ga K "TooLong", 0, 0, 0, 0, 0, 0, 0, 0]) c) := xe_ok (ca := caOf [0, 0, 0, 0, 0, 0, He.ga K "WayError", He.ga K "Blocked", He.ga K "NoWay", He.ga K "TextError", He.ga K "BadRow", He.ga K "Twice", He.ga K "NoBridge", He.ga K "NoLoad", He.ga K "TooNear", He.ga K "TooLong", 0, 0, 0, 0, 0, 0, 0, 0]) x_XE
  have NX_BadRow : mg "BadRow" = some (.ref ((caOf [0, 0, 0, 0, 0, 0, He.ga K "WayError", He.ga K "Blocked", He.ga K "NoWay", He.ga K "TextError", He.ga K "BadRow", He.ga K "Twice", He.ga K "NoBridge", He.ga K "NoLoad", He.ga K "TooNear", He.ga K "TooLong", 0, 0, 0, 0, 0, 0, 0, 0]) 10)) := He.glo_ok X Gn (cD.fact 13 rfl)
  have NX_Blocked : mg "Blocked" = some (.ref ((caOf [0, 0, 0, 0, 0, 0, He.ga K "WayError", He.ga K "Blocked", He.ga K "NoWay", He.ga K "TextError", He.ga K "BadRow", He.ga K "Twice", He.ga K "NoBridge", He.ga K "NoLoad", He.ga K "TooNear", He.ga K "TooLong", 0, 0, 0, 0, 0, 0, 0, 0]) 7)) := He.glo_ok X Gn (cD.fact 14 rfl)
  have NX_NoBridge : mg "NoBridge" = some (.ref ((caOf [0, 0, 0, 0, 0, 0, He.ga K "WayError", He.ga K "Blocked", He.ga K "NoWay", He.ga K "TextError", He.ga K "BadRow", He.ga K "Twice", He.ga K "NoBridge", He.ga K "NoLoad", He.ga K "TooNear", He.ga K "TooLong", 0, 0, 0, 0, 0, 0, 0, 0]) 12)) := He.glo_ok X Gn (cD.fact 15 rfl)
  have NX_NoLoad : mg "NoLoad" = some (.ref ((caOf [0, 0, 0, 0, 0, 0, He.ga K "WayError", He.ga K "Blocked", He.ga K "NoWay", He.ga K "TextError", He.ga K "BadRow", He.ga K "Twice", He.ga K "NoBridge", He.ga K "NoLoad", He.ga K "TooNear", He.ga K "TooLong", 0, 0, 0, 0, 0, 0, 0, 0]) 13)) := He.glo_ok X Gn (cD.fact 16 rfl)
  have NX_NoWay : mg "NoWay" = some (.ref ((caOf [0, 0, 0, 0, 0, 0, He.ga K "WayError", He.ga K "Blocked", He.ga K "NoWay", He.ga K "TextError", He.ga K "BadRow", He.ga K "Twice", He.ga K "NoBridge", He.ga K "NoLoad", He.ga K "TooNear", He.ga K "TooLong", 0, 0, 0, 0, 0, 0, 0, 0]) 8)) := He.glo_ok X Gn (cD.fact 17 rfl)
  have NX_TextError : mg "TextError" = some (.ref ((caOf [0, 0, 0, 0, 0, 0, He.ga K "WayError", He.ga K "Blocked", He.ga K "NoWay", He.ga K "TextError", He.ga K "BadRow", He.ga K "Twice", He.ga K "NoBridge", He.ga K "NoLoad", He.ga K "TooNear", He.ga K "TooLong", 0, 0, 0, 0, 0, 0, 0, 0]) 9)) := He.glo_ok X Gn (cD.fact 18 rfl)
  have NX_TooLong : mg "TooLong" = some (.ref ((caOf [0, 0, 0, 0, 0, 0, He.ga K "WayError", He.ga K "Blocked", He.ga K "NoWay", He.ga K "TextError", He.ga K "BadRow", He.ga K "Twice", He.ga K "NoBridge", He.ga K "NoLoad", He.ga K "TooNear", He.ga K "TooLong", 0, 0, 0, 0, 0, 0, 0, 0]) 15)) := He.glo_ok X Gn (cD.fact 19 rfl)
  have NX_TooNear : mg "TooNear" = some (.ref ((caOf [0, 0, 0, 0, 0, 0, He.ga K "WayError", He.ga K "Blocked", He.ga K "NoWay", He.ga K "TextError", He.ga K "BadRow", He.ga K "Twice", He.ga K "NoBridge", He.ga K "NoLoad", He.ga K "TooNear", He.ga K "TooLong", 0, 0, 0, 0, 0, 0, 0, 0]) 14)) := He.glo_ok X Gn (cD.fact 20 rfl)
  have NX_Twice : mg "Twice" = some (.ref ((caOf [0, 0, 0, 0, 0, 0, He.ga K "WayError", He.ga K "Blocked", He.ga K "NoWay", He.ga K "TextError", He.ga K "BadRow", He.ga K "Twice", He.ga K "NoBridge", He.ga K "NoLoad", He.ga K "TooNear", He.ga K "TooLong", 0, 0, 0, 0, 0, 0, 0, 0]) 11)) := He.glo_ok X Gn (cD.fact 21 rfl)
  have NX_WayError : mg "WayError" = some (.ref ((caOf [0, 0, 0, 0, 0, 0, He.ga K "WayError", He.ga K "Blocked", He.ga K "NoWay", He.ga K "TextError", He.ga K "BadRow", He.ga K "Twice", He.ga K "NoBridge", He.ga K "NoLoad", He.ga K "TooNear", He.ga K "TooLong", 0, 0, 0, 0, 0, 0, 0, 0]) 6)) := He.glo_ok X Gn (cD.fact 22 rfl)
  have XF_bridge := xf_ok (ca := caOf [0, 0, 0, 0, 0, 0, He.ga K "WayError", He.ga K "Blocked", He.ga K "NoWay", He.ga K "TextError", He.ga K "BadRow", He.ga K "Twice", He.ga K "NoBridge", He.ga K "NoLoad", He.ga K "TooNear", He.ga K "TooLong", 0, 0, 0, 0, 0, 0, 0, 0]) x_XF_bridge
  have XF_row := xf_ok (ca := caOf [0, 0, 0, 0, 0, 0, He.ga K "WayError", He.ga K "Blocked", He.ga K "NoWay", He.ga K "TextError", He.ga K "BadRow", He.ga K "Twice", He.ga K "NoBridge", He.ga K "NoLoad", He.ga K "TooNear", He.ga K "TooLong", 0, 0, 0, 0, 0, 0, 0, 0]) x_XF_row
  have XF_wheel := xf_ok (ca := caOf [0, 0, 0, 0, 0, 0, He.ga K "WayError", He.ga K "Blocked", He.ga K "NoWay", He.ga K "TextError", He.ga K "BadRow", He.ga K "Twice", He.ga K "NoBridge", He.ga K "NoLoad", He.ga K "TooNear", He.ga K "TooLong", 0, 0, 0, 0, 0, 0, 0, 0]) x_XF_wheel
  have XI_BadRow := xi_ok (ca := caOf [0, 0, 0, 0, 0, 0, He.ga K "WayError", He.ga K "Blocked", He.ga K "NoWay", He.ga K "TextError", He.ga K "BadRow", He.ga K "Twice", He.ga K "NoBridge", He.ga K "NoLoad", He.ga K "TooNear", He.ga K "TooLong", 0, 0, 0, 0, 0, 0, 0, 0]) XE x_XI_BadRow
  have XI_Blocked := xi_ok (ca := caOf [0, 0, 0, 0, 0, 0, He.ga K "WayError", He.ga K "Blocked", He.ga K "NoWay", He.ga K "TextError", He.ga K "BadRow", He.ga K "Twice", He.ga K "NoBridge", He.ga K "NoLoad", He.ga K "TooNear", He.ga K "TooLong", 0, 0, 0, 0, 0, 0, 0, 0]) XE x_XI_Blocked
  have XI_NoBridge := xi_ok (ca := caOf [0, 0, 0, 0, 0, 0, He.ga K "WayError", He.ga K "Blocked", He.ga K "NoWay", He.ga K "TextError", He.ga K "BadRow", He.ga K "Twice", He.ga K "NoBridge", He.ga K "NoLoad", He.ga K "TooNear", He.ga K "TooLong", 0, 0, 0, 0, 0, 0, 0, 0]) XE x_XI_NoBridge
  have XI_NoLoad := xi_ok (ca := caOf [0, 0, 0, 0, 0, 0, He.ga K "WayError", He.ga K "Blocked", He.ga K "NoWay", He.ga K "TextError", He.ga K "BadRow", He.ga K "Twice", He.ga K "NoBridge", He.ga K "NoLoad", He.ga K "TooNear", He.ga K "TooLong", 0, 0, 0, 0, 0, 0, 0, 0]) XE x_XI_NoLoad
  have XI_NoWay := xi_ok (ca := caOf [0, 0, 0, 0, 0, 0, He.ga K "WayError", He.ga K "Blocked", He.ga K "NoWay", He.ga K "TextError", He.ga K "BadRow", He.ga K "Twice", He.ga K "NoBridge", He.ga K "NoLoad", He.ga K "TooNear", He.ga K "TooLong", 0, 0, 0, 0, 0, 0, 0, 0]) XE x_XI_NoWay
  have XI_TextError := xi_ok (ca := caOf [0, 0, 0, 0, 0, 0, He.ga K "WayError", He.ga K "Blocked", He.ga K "NoWay", He.ga K "TextError", He.ga K "BadRow", He.ga K "Twice", He.ga K "NoBridge", He.ga K "NoLoad", He.ga K "TooNear", He.ga K "TooLong", 0, 0, 0, 0, 0, 0, 0, 0]) XE x_XI_TextError
  have XI_TooLong := xi_ok (ca := caOf [0, 0, 0, 0, 0, 0, He.ga K "WayError", He.ga K "Blocked", He.ga K "NoWay", He.ga K "TextError", He.ga K "BadRow", He.ga K "Twice", He.ga K "NoBridge", He.ga K "NoLoad", He.ga K "TooNear", He.ga K "TooLong", 0, 0, 0, 0, 0, 0, 0, 0]) XE x_XI_TooLong
  have XI_TooNear := xi_ok (ca := caOf [0, 0, 0, 0, 0, 0, He.ga K "WayError", He.ga K "Blocked", He.ga K "NoWay", He.ga K "TextError", He.ga K "BadRow", He.ga K "Twice", He.ga K "NoBridge", He.ga K "NoLoad", He.ga K "TooNear", He.ga K "TooLong", 0, 0, 0, 0, 0, 0, 0, 0]) XE x_XI_TooNear
  have XI_Twice := xi_ok (ca := caOf [0, 0, 0, 0, 0, 0, He.ga K "WayError", He.ga K "Blocked", He.ga K "NoWay", He.ga K "TextError", He.ga K "BadRow", He.ga K "Twice", He.ga K "NoBridge", He.ga K "NoLoad", He.ga K "TooNear", He.ga K "TooLong", 0, 0, 0, 0, 0, 0, 0, 0]) XE x_XI_Twice
  have XI_ValueError := xi_ok (ca := caOf [0, 0, 0, 0, 0, 0, He.ga K "WayError", He.ga K "Blocked", He.ga K "NoWay", He.ga K "TextError", He.ga K "BadRow", He.ga K "Twice", He.ga K "NoBridge", He.ga K "NoLoad", He.ga K "TooNear", He.ga K "TooLong", 0, 0, 0, 0, 0, 0, 0, 0]) XE x_XI_ValueError
  have XI_WayError := xi_ok (ca := caOf [0, 0, 0, 0, 0, 0, He.ga K "WayError", He.ga K "Blocked", He.ga K "NoWay", He.ga K "TextError", He.ga K "BadRow", He.ga K "Twice", He.ga K "NoBridge", He.ga K "NoLoad", He.ga K "TooNear", He.ga K "TooLong", 0, 0, 0, 0, 0, 0, 0, 0]) XE x_XI_WayError
  obtain ⟨fdITextError, DITextError'⟩ := cD.def_ 6 rfl
  have DITextError : FunD K "__init__" "TextError.__init__" (defArgs sI_TextError) (defBody sI_TextError) (defScope sI_TextError) [] [] (He.fAd K ("TextError", some "__init__")) fdITextError := DITextError'
  have FITextError := fun_ofD (st := sI_TextError) DITextError
  have bITextError := FITextError.binds (ps := ["self", "row"]) fun _ _ _ _ _ _ us hl => match us, hl with | [_, _], _ => rfl
  obtain ⟨fdIBlocked, DIBlocked'⟩ := cD.def_ 7 rfl
  have DIBlocked : FunD K "__init__" "Blocked.__init__" (defArgs sI_Blocked) (defBody sI_Blocked) (defScope sI_Blocked) [] [] (He.fAd K ("Blocked", some "__init__")) fdIBlocked := DIBlocked'
  have FIBlocked := fun_ofD (st := sI_Blocked) DIBlocked
  have bIBlocked := FIBlocked.binds (ps := ["self", "bridge", "wheel"]) fun _ _ _ _ _ _ us hl => match us, hl with | [_, _, _], _ => rfl
  have XR_BadRow : Raiser l.prog w K mg base (caOf [0, 0, 0, 0, 0, 0, He.ga K "WayError", He.ga K "Blocked", He.ga K "NoWay", He.ga K "TextError", He.ga K "BadRow", He.ga K "Twice", He.ga K "NoBridge", He.ga K "NoLoad", He.ga K "TooNear", He.ga K "TooLong", 0, 0, 0, 0, 0, 0, 0, 0]) 1 10 "BadRow" := ra_ok x_raBadRow (fun T => okI_TextError (He.glo_ok X Gn (cD.fact 22 rfl)) x_rdW (He.eqO_ok x_gaW) (fcvB_ok x_fcW) (He.eqO_ok x_noBadRow_row) FITextError.toA T) bITextError (He.glo_ok X Gn (cD.fact 13 rfl))
  have XR_Blocked : Raiser l.prog w K mg base (caOf [0, 0, 0, 0, 0, 0, He.ga K "WayError", He.ga K "Blocked", He.ga K "NoWay", He.ga K "TextError", He.ga K "BadRow", He.ga K "Twice", He.ga K "NoBridge", He.ga K "NoLoad", He.ga K "TooNear", He.ga K "TooLong", 0, 0, 0, 0, 0, 0, 0, 0]) 1 7 "Blocked" := ra_ok x_raBlocked (fun T => okI_Blocked (He.glo_ok X Gn (cD.fact 22 rfl)) x_rdW (He.eqO_ok x_gaW) (fcvB_ok x_fcW) (He.eqO_ok x_noBlocked_bridge) (He.eqO_ok x_noBlocked_wheel) FIBlocked.toA T) bIBlocked (He.glo_ok X Gn (cD.fact 14 rfl))
  have XR_NoBridge : Raiser l.prog w K mg base (caOf [0, 0, 0, 0, 0, 0, He.ga K "WayError", He.ga K "Blocked", He.ga K "NoWay", He.ga K "TextError", He.ga K "BadRow", He.ga K "Twice", He.ga K "NoBridge", He.ga K "NoLoad", He.ga K "TooNear", He.ga K "TooLong", 0, 0, 0, 0, 0, 0, 0, 0]) 1 12 "NoBridge" := ra_ok x_raNoBridge (fun T => okI_TextError (He.glo_ok X Gn (cD.fact 22 rfl)) x_rdW (He.eqO_ok x_gaW) (fcvB_ok x_fcW) (He.eqO_ok x_noNoBridge_row) FITextError.toA T) bITextError (He.glo_ok X Gn (cD.fact 15 rfl))
  have XR_NoLoad : Raiser l.prog w K mg base (caOf [0, 0, 0, 0, 0, 0, He.ga K "WayError", He.ga K "Blocked", He.ga K "NoWay", He.ga K "TextError", He.ga K "BadRow", He.ga K "Twice", He.ga K "NoBridge", He.ga K "NoLoad", He.ga K "TooNear", He.ga K "TooLong", 0, 0, 0, 0, 0, 0, 0, 0]) 1 13 "NoLoad" := ra_ok x_raNoLoad (fun T => okI_TextError (He.glo_ok X Gn (cD.fact 22 rfl)) x_rdW (He.eqO_ok x_gaW) (fcvB_ok x_fcW) (He.eqO_ok x_noNoLoad_row) FITextError.toA T) bITextError (He.glo_ok X Gn (cD.fact 16 rfl))
  have XR_TextError : Raiser l.prog w K mg base (caOf [0, 0, 0, 0, 0, 0, He.ga K "WayError", He.ga K "Blocked", He.ga K "NoWay", He.ga K "TextError", He.ga K "BadRow", He.ga K "Twice", He.ga K "NoBridge", He.ga K "NoLoad", He.ga K "TooNear", He.ga K "TooLong", 0, 0, 0, 0, 0, 0, 0, 0]) 1 9 "TextError" := ra_ok x_raTextError (fun T => okI_TextError (He.glo_ok X Gn (cD.fact 22 rfl)) x_rdW (He.eqO_ok x_gaW) (fcvB_ok x_fcW) (He.eqO_ok x_noTextError_row) FITextError.toA T) bITextError (He.glo_ok X Gn (cD.fact 18 rfl))
  have XR_TooLong : Raiser l.prog w K mg base (caOf [0, 0, 0, 0, 0, 0, He.ga K "WayError", He.ga K "Blocked", He.ga K "NoWay", He.ga K "TextError", He.ga K "BadRow", He.ga K "Twice", He.ga K "NoBridge", He.ga K "NoLoad", He.ga K "TooNear", He.ga K "TooLong", 0, 0, 0, 0, 0, 0, 0, 0]) 1 15 "TooLong" := ra_ok x_raTooLong (fun T => okI_TextError (He.glo_ok X Gn (cD.fact 22 rfl)) x_rdW (He.eqO_ok x_gaW) (fcvB_ok x_fcW) (He.eqO_ok x_noTooLong_row) FITextError.toA T) bITextError (He.glo_ok X Gn (cD.fact 19 rfl))
  have XR_TooNear : Raiser l.prog w K mg base (caOf [0, 0, 0, 0, 0, 0, He.ga K "WayError", He.ga K "Blocked", He.ga K "NoWay", He.ga K "TextError", He.ga K "BadRow", He.ga K "Twice", He.ga K "NoBridge", He.ga K "NoLoad", He.ga K "TooNear", He.ga K "TooLong", 0, 0, 0, 0, 0, 0, 0, 0]) 1 14 "TooNear" := ra_ok x_raTooNear (fun T => okI_TextError (He.glo_ok X Gn (cD.fact 22 rfl)) x_rdW (He.eqO_ok x_gaW) (fcvB_ok x_fcW) (He.eqO_ok x_noTooNear_row) FITextError.toA T) bITextError (He.glo_ok X Gn (cD.fact 20 rfl))
  have XR_Twice : Raiser l.prog w K mg base (caOf [0, 0, 0, 0, 0, 0, He.ga K "WayError", He.ga K "Blocked", He.ga K "NoWay", He.ga K "TextError", He.ga K "BadRow", He.ga K "Twice", He.ga K "NoBridge", He.ga K "NoLoad", He.ga K "TooNear", He.ga K "TooLong", 0, 0, 0, 0, 0, 0, 0, 0]) 1 11 "Twice" := ra_ok x_raTwice (fun T => okI_TextError (He.glo_ok X Gn (cD.fact 22 rfl)) x_rdW (He.eqO_ok x_gaW) (fcvB_ok x_fcW) (He.eqO_ok x_noTwice_row) FITextError.toA T) bITextError (He.glo_ok X Gn (cD.fact 21 rfl))
  have XR_NoWay : Raiser0 K mg (caOf [0, 0, 0, 0, 0, 0, He.ga K "WayError", He.ga K "Blocked", He.ga K "NoWay", He.ga K "TextError", He.ga K "BadRow", He.ga K "Twice", He.ga K "NoBridge", He.ga K "NoLoad", He.ga K "TooNear", He.ga K "TooLong", 0, 0, 0, 0, 0, 0, 0, 0]) 8 "NoWay" := ra0_ok x_raNoWay (He.glo_ok X Gn (cD.fact 17 rfl))
  have G0 : FnOk l.prog w K mg base CX0 1 _ _ _ (spOf K (caOf [0, 0, 0, 0, 0, 0, He.ga K "WayError", He.ga K "Blocked", He.ga K "NoWay", He.ga K "TextError", He.ga K "BadRow", He.ga K "Twice", He.ga K "NoBridge", He.ga K "NoLoad", He.ga K "TooNear", He.ga K "TooLong", 0, 0, 0, 0, 0, 0, 0, 0]) φ__law_cell_at) := ok__law_cell_at Z FA0
  have C__law_cell_at : Callee l.prog w K mg base (caOf [0, 0, 0, 0, 0, 0, He.ga K "WayError", He.ga K "Blocked", He.ga K "NoWay", He.ga K "TextError", He.ga K "BadRow", He.ga K "Twice", He.ga K "NoBridge", He.ga K "NoLoad", He.ga K "TooNear", He.ga K "TooLong", 0, 0, 0, 0, 0, 0, 0, 0]) 1 "_law_cell_at" φ__law_cell_at [] := fn_callee FA0 G0 a0 b0 .nil fun _ => .nil
  have G1 : FnOk l.prog w K mg base CX0 1 _ _ _ (spOf K (caOf [0, 0, 0, 0, 0, 0, He.ga K "WayError", He.ga K "Blocked", He.ga K "NoWay", He.ga K "TextError", He.ga K "BadRow", He.ga K "Twice", He.ga K "NoBridge", He.ga K "NoLoad", He.ga K "TooNear", He.ga K "TooLong", 0, 0, 0, 0, 0, 0, 0, 0]) φ__law_whole) := ok__law_whole Z FA1
  have C__law_whole : Callee l.prog w K mg base (caOf [0, 0, 0, 0, 0, 0, He.ga K "WayError", He.ga K "Blocked", He.ga K "NoWay", He.ga K "TextError", He.ga K "BadRow", He.ga K "Twice", He.ga K "NoBridge", He.ga K "NoLoad", He.ga K "TooNear", He.ga K "TooLong", 0, 0, 0, 0, 0, 0, 0, 0]) 1 "_law_whole" φ__law_whole [] := fn_callee FA1 G1 a1 b1 .nil fun _ => .nil
  have G2 : FnOk l.prog w K mg base CX0 1 _ _ _ (spOf K (caOf [0, 0, 0, 0, 0, 0, He.ga K "WayError", He.ga K "Blocked", He.ga K "NoWay", He.ga K "TextError", He.ga K "BadRow", He.ga K "Twice", He.ga K "NoBridge", He.ga K "NoLoad", He.ga K "TooNear", He.ga K "TooLong", 0, 0, 0, 0, 0, 0, 0, 0]) φ__law_kinds) := ok__law_kinds Z NX_BadRow NX_Blocked NX_NoBridge NX_NoLoad NX_NoWay NX_TextError NX_TooLong NX_TooNear NX_Twice NX_WayError XI_BadRow XI_Blocked XI_NoBridge XI_NoLoad XI_NoWay XI_TextError XI_TooLong XI_TooNear XI_Twice XI_ValueError XI_WayError FA2
  have C__law_kinds : Callee l.prog w K mg base (caOf [0, 0, 0, 0, 0, 0, He.ga K "WayError", He.ga K "Blocked", He.ga K "NoWay", He.ga K "TextError", He.ga K "BadRow", He.ga K "Twice", He.ga K "NoBridge", He.ga K "NoLoad", He.ga K "TooNear", He.ga K "TooLong", 0, 0, 0, 0, 0, 0, 0, 0]) 1 "_law_kinds" φ__law_kinds [] := fn_callee FA2 G2 a2 b2 .nil fun _ => .nil
  have G3 : FnOk l.prog w K mg base CX0 3 _ _ _ (spOf K (caOf [0, 0, 0, 0, 0, 0, He.ga K "WayError", He.ga K "Blocked", He.ga K "NoWay", He.ga K "TextError", He.ga K "BadRow", He.ga K "Twice", He.ga K "NoBridge", He.ga K "NoLoad", He.ga K "TooNear", He.ga K "TooLong", 0, 0, 0, 0, 0, 0, 0, 0]) φ__law_rows_told) := ok__law_rows_told Z C__law_kinds C__law_whole XR_BadRow XR_NoBridge XR_NoLoad XR_TextError XR_TooLong XR_TooNear XR_Twice XF_row FA3
  have C__law_rows_told : Callee l.prog w K mg base (caOf [0, 0, 0, 0, 0, 0, He.ga K "WayError", He.ga K "Blocked", He.ga K "NoWay", He.ga K "TextError", He.ga K "BadRow", He.ga K "Twice", He.ga K "NoBridge", He.ga K "NoLoad", He.ga K "TooNear", He.ga K "TooLong", 0, 0, 0, 0, 0, 0, 0, 0]) 3 "_law_rows_told" φ__law_rows_told [] := fn_callee FA3 G3 a3 b3 .nil fun _ => .nil
  have G4 : FnOk l.prog w K mg base CX0 4 _ _ _ (spOf K (caOf [0, 0, 0, 0, 0, 0, He.ga K "WayError", He.ga K "Blocked", He.ga K "NoWay", He.ga K "TextError", He.ga K "BadRow", He.ga K "Twice", He.ga K "NoBridge", He.ga K "NoLoad", He.ga K "TooNear", He.ga K "TooLong", 0, 0, 0, 0, 0, 0, 0, 0]) φ__law_good) := ok__law_good Z C__law_kinds C__law_whole C__law_rows_told XR_Blocked XR_NoWay XF_bridge XF_wheel FA4
  have C__law_good : Callee l.prog w K mg base (caOf [0, 0, 0, 0, 0, 0, He.ga K "WayError", He.ga K "Blocked", He.ga K "NoWay", He.ga K "TextError", He.ga K "BadRow", He.ga K "Twice", He.ga K "NoBridge", He.ga K "NoLoad", He.ga K "TooNear", He.ga K "TooLong", 0, 0, 0, 0, 0, 0, 0, 0]) 4 "_law_good" φ__law_good [] := fn_callee FA4 G4 a4 b4 .nil fun _ => .nil
  have G5 : FnOk l.prog w K mg base CX0 5 _ _ _ (spOf K (caOf [0, 0, 0, 0, 0, 0, He.ga K "WayError", He.ga K "Blocked", He.ga K "NoWay", He.ga K "TextError", He.ga K "BadRow", He.ga K "Twice", He.ga K "NoBridge", He.ga K "NoLoad", He.ga K "TooNear", He.ga K "TooLong", 0, 0, 0, 0, 0, 0, 0, 0]) φ_law) := ok_law Z C__law_good C__law_cell_at FA5
  exact G5
end G
open PySem PySem.W PyProof.Rows
set_option maxRecDepth 100000 in
set_option maxHeartbeats 0 in
theorem PySem.Challenge.cw_ballastway_k02_refusals_stand_apart_holds : PySem.Challenge.rw_ballastway_k02_refusals_stand_apart.Holds := by
  w_on; o_law
  refine HandSHeadRun.head_any (r := OpenLaw.row PySem.Challenge.rw_ballastway_k02_refusals_stand_apart) (q := view (OpenLaw.row PySem.Challenge.rw_ballastway_k02_refusals_stand_apart).prog [17]) (H := G.hkT) (ob := G.obT) (M := 6000) (loose := G.looseL) (d := HandSHeadRun.topDef (OpenLaw.row PySem.Challenge.rw_ballastway_k02_refusals_stand_apart).prog 17) (kwd := []) G.ob_eqT
    (by kernel_rfl) (fun s => by kernel_rfl) G.runT (by kernel_rfl) (by kernel_rfl) (by kernel_rfl) (by rfl) (by first | assumption | decide +kernel) (by decide +kernel) ⟨rfl, rfl, rfl, rfl, rfl, by decide +kernel⟩ ?hw ?hc
  case hw => w_witness2
  case hc =>
    refine LamX.walk_ofTsE (l := PySem.Challenge.rw_ballastway_k02_refusals_stand_apart) (n := 63) (k := 5) (x := "_law_script") (CX := fun _ => L2.CX0) rfl (by decide) (by kernel_rfl) ⟨rfl, by decide, by decide⟩ ?F (fun _ _ _ _ _ z => z)
    intro w mg fa h Y G0 hmg0
    obtain ⟨K, KX, c⟩ := Y
    have hmg : mg ("law" : PySem.Str) = some (.ref fa) := by
      have e : (HandSHeadRun.topDef (OpenLaw.row PySem.Challenge.rw_ballastway_k02_refusals_stand_apart).prog 17).name = ("law" : PySem.Str) := by kernel_rfl
      rw [← e]
      exact hmg0
    exact ⟨K, KX, G.all_mkT KX G0 hmg c⟩
