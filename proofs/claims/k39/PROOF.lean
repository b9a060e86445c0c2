import PyProof.Rows.All
import Wide.All
import OpenK.AllK
import Wide.FinOn
import HandS.ForMost
import HandS.EndBits
import HandS.IsInst
import HandS.TupAny
import HandS.Style
import HandS.Lambda
import HandS.EndTab
import HandS.HeadHook4
import HandS.HeadWalk
import HandS.Head2
import HandS.Exc
import HandS.Defaults
import HandS.Zip
import HandS.RaiseMore
import HandS.More
import KE.SortUse
import HandS.Codes
import PyProof.Rows.StrFirst
import KE.IntTextText
import HandS.Conv
import HandS.Rev
import PyProof.ListRange
import HandS.Deep
import HandS.ExcInit
import HandS.ExcOwn
import HandS.ExcIs
import HandS.ExcField
import HandS.ExcBuiltin
import HandS.ExcValue
import HandS.FStr
import HandS.SortInts
import KE.KAsSuite
import KE.GoesEnum
import PySem.Challenge.RW_ballastway_k39_logs_written_and_heard
set_option Elab.async false
set_option linter.all false
set_option maxRecDepth 100000
namespace BK
open PySem PySem.Spec L2
set_option autoImplicit false
end BK
namespace He
open PySem PySem.Spec L2
set_option autoImplicit false
/-- what the names reach, and the interpreter's own statics -/
def asY (g : Addr → Option Obj) (n : Nat) : List Addr := asD g n ++ [PySem.cStatics]
def obsY (n : Nat) (fa : List Fa) (fn : List DefD) (tf : List Defn) (ex : PySem.W.Frag → Bool) (g : Addr → Option Obj) : AlX := (obsT fa fn [] (frT g (asY g n)), ex (frT g (asY g n)) && tabsB g tf (frT g (asY g n)))
theorem saysY_of {fa : List Fa} {fn : List DefD} {tf : List Defn} {ex : PySem.W.Frag → Bool} {w : World} {h : Heap} {as : List Addr} (e : ((obsT fa fn [] (frT h.get? as), ex (frT h.get? as) && tabsB h.get? tf (frT h.get? as)) : AlX) = valX fn [] w) : SaysX fa fn [] tf ex w h (frT h.get? as) := by
  have e1 : obsT fa fn [] (frT h.get? as) = valT fn [] w := congrArg (fun z : AlX => z.1) e
  have e2 : (ex (frT h.get? as) && tabsB h.get? tf (frT h.get? as)) = true := congrArg (fun z : AlX => z.2) e
  obtain ⟨h1, h2⟩ := ba e2
  have key : ∀ p ∈ tf, PySem.W.codeHdIn (frT h.get? as) (cT (frT h.get? as) p).1 (cT (frT h.get? as) p).2 = true ∧ ∃ o, h.get? (cT (frT h.get? as) p).2 = some o ∧ emptyTab o = true := fun p hp => by
    obtain ⟨h3, h4⟩ := ba (List.all_eq_true.mp h2 p hp)
    refine ⟨h3, ?_⟩
    cases q : h.get? (cT (frT h.get? as) p).2 with
    | none =>
      rw [q] at h4
      cases h4
    | some o =>
      rw [q] at h4
      exact ⟨o, rfl, h4⟩
  exact ⟨e1, h1, fun p hp => (key p hp).1, fun p hp => by
    obtain ⟨_, o, q, z⟩ := key p hp
    exact frT_none q z, fun p hp => by
    obtain ⟨_, o, q, z⟩ := key p hp
    rw [q, emptyTab_eq z]⟩
def hookY (n : Nat) (fa : List Fa) (fn : List DefD) (tf : List Defn) (ex : PySem.W.Frag → Bool) : PySem.W.Hook where
  α := AlX
  obs := fun s => obsY n fa fn tf ex s.heap.get?
  val := fun w => valX fn [] w
  says := fun w h => ∃ K : PySem.W.Frag, K.In h ∧ SaysX fa fn [] tf ex w h K
  of := fun _ _ e => ⟨_, frT_in, saysY_of e⟩
  keeps := fun _ _ _ ⟨K, hK, c⟩ k => ⟨K, PySem.W.Frag.In.keeps hK k, ⟨c.t, c.more, c.hd, c.out, fun p hp => k _ _ (c.empty p hp)⟩⟩
theorem obsY_eq {n : Nat} {fa : List Fa} {fn : List DefD} {tf : List Defn} {ex : PySem.W.Frag → Bool} {g : Addr → Option Obj} {s : Shared} (h : ∀ a, g a = s.heap.get? a) : obsY n fa fn tf ex g = (hookY n fa fn tf ex).obs s := by
  have e : g = s.heap.get? := funext h
  rw [e] <;> rfl
end He
namespace BK
open PySem PySem.Spec L2
set_option autoImplicit false
def caOf (l : List Addr) (c : Nat) : Addr := l.getD c 0
def xsub (c t : Nat) : Bool := c == t || (t == 6 || (t == 9 && (decide (10 ≤ c) && decide (c ≤ 15))))
def oexcB (K : PySem.W.Frag) (C : Addr) : Bool := match K.lookup C with
  | some ⟨.type "type", _, .cls cd, sl⟩ => (match cd.mro, sl.toList with
    | .ref C' :: bm, [_, _, _, _, some (.builtin n), _] => C' == C && n == "ValueError.__new__" && !cd.hasDel && cd.hasDict && PySem.HandSPX.refsVE bm
    | _, _ => false)
  | _ => false
def oexB (K : PySem.W.Frag) (C : Addr) : Bool := oexcB K C && (He.eqO (PySem.W.findIn K (.ref C) "__setattr__") (some (some (.builtin "object.__setattr__"))) && (decide (PySem.W.subIn K (.ref C) (.type "BaseException") = some true) && (decide (PySem.W.typeIn K (.ref C) = some (.type "type")) && PySem.W.keepIn K (.ref C))))
def exccB (K : PySem.W.Frag) (D : Addr) : Bool := He.eqO (PySem.W.findIn K (.ref D) "__getattribute__") (some (some (.builtin "BaseException.__getattribute__"))) && (He.eqO (PySem.W.findIn K (.ref D) "__getattr__") (some none) && (decide (PySem.W.subIn K (.ref D) (.type "BaseException") = some true) && (PySem.W.hasDictIn K D && (He.eqO (PySem.W.findIn K (.ref D) "__class__") (some (some (.builtin "object.__class__"))) &&
  (He.eqO (PySem.W.specialIn K (.builtin "object.__class__") "__get__") (some (some (.builtin "getset_descriptor.__get__"))) && (decide (PySem.W.takesIn K (.builtin "object.__class__") = some true) && decide (PySem.W.mroIn K D (.type "object") = some true)))))))
def allC (cs : List Nat) (p : Nat → Bool) : Bool := cs.all p
def raB (K : PySem.W.Frag) (C fI : Addr) : Bool := oexB K C && (He.eqO (PySem.W.findIn K (.ref C) "__init__") (some (some (.ref fI))) && decide (PySem.W.typeIn K (.ref fI) = some (.type "function")))
def fcvB (o : Option PySem.W.CFound) : Bool := match o with
  | some (.val (.builtin s)) => decide (s = "ValueError.__init__")
  | _ => false
end BK
namespace G
open PySem PySem.Spec L2 BK
set_option autoImplicit false
def topS (i : Nat) : Stmt := PySem.Challenge.pw_ballastway_k39_logs_written_and_heard.main.body.getD i (.Pass ⟨0, 0, 0, 0⟩)
abbrev sI_TextError : Stmt := inClass (topS 15) 0
abbrev s_made_of : Stmt := topS 5
abbrev s_number_of : Stmt := topS 6
abbrev s_is_word : Stmt := topS 7
abbrev s_shared : Stmt := topS 9
abbrev s_made : Stmt := topS 10
abbrev s_frac_text : Stmt := topS 11
abbrev s_frac_of : Stmt := topS 12
abbrev s_log_row : Stmt := topS 19
abbrev s_log_text : Stmt := topS 20
abbrev s_row_heard : Stmt := topS 21
abbrev s_heard : Stmt := topS 22
abbrev s__law_cell_at : Stmt := topS 24
abbrev s__law_mix : Stmt := topS 26
abbrev s__law_same : Stmt := topS 27
abbrev s__law_word : Stmt := topS 28
abbrev s__law_shared : Stmt := topS 29
abbrev s__law_time : Stmt := topS 30
abbrev s__law_row : Stmt := topS 31
abbrev s__law_text_of : Stmt := topS 32
abbrev s__law_spoilt : Stmt := topS 33
abbrev s__law_refused : Stmt := topS 34
abbrev s__law_bad : Stmt := topS 35
abbrev s_law : Stmt := topS 36
def faL : List He.Fa := [.glo "made_of", .glo "number_of", .glo "is_word", .glo "shared", .glo "made", .glo "frac_text", .glo "frac_of", .glo "log_row", .glo "log_text", .glo "row_heard", .glo "heard", .glo "_law_cell_at", .glo "_law_mix", .glo "_law_same", .glo "_law_word", .glo "_law_shared", .glo "_law_time", .glo "_law_row", .glo "_law_text_of", .glo "_law_spoilt", .glo "_law_refused", .glo "_law_bad", .glo "law", .free "ValueError", .free "abs", .free "all", .free "bool", .free "enumerate", .free "int", .free "isinstance", .free "len", .free "list", .free "min", .free "range", .free "str", .free "tuple", .free "zip", .str "FIGURES" "0123456789", .str "LETTERS" "abcdefghijklmnopqrstuvwxyz", .int "MOST_FIGURES" 60, .int "MOST_LETTERS" 12, .glo "BadRow", .glo "TextError", .glo "Twice", .glo "WayError"]
def fnL : List He.DefD := [⟨("made_of", none), "made_of", "made_of", defArgs s_made_of, defBody s_made_of, defScope s_made_of, [], []⟩,
  ⟨("number_of", none), "number_of", "number_of", defArgs s_number_of, defBody s_number_of, defScope s_number_of, [.non], []⟩,
  ⟨("is_word", none), "is_word", "is_word", defArgs s_is_word, defBody s_is_word, defScope s_is_word, [], []⟩,
  ⟨("shared", none), "shared", "shared", defArgs s_shared, defBody s_shared, defScope s_shared, [], []⟩,
  ⟨("made", none), "made", "made", defArgs s_made, defBody s_made, defScope s_made, [], []⟩,
  ⟨("frac_text", none), "frac_text", "frac_text", defArgs s_frac_text, defBody s_frac_text, defScope s_frac_text, [], []⟩,
  ⟨("frac_of", none), "frac_of", "frac_of", defArgs s_frac_of, defBody s_frac_of, defScope s_frac_of, [], []⟩,
  ⟨("log_row", none), "log_row", "log_row", defArgs s_log_row, defBody s_log_row, defScope s_log_row, [], []⟩,
  ⟨("log_text", none), "log_text", "log_text", defArgs s_log_text, defBody s_log_text, defScope s_log_text, [], []⟩,
  ⟨("row_heard", none), "row_heard", "row_heard", defArgs s_row_heard, defBody s_row_heard, defScope s_row_heard, [], []⟩,
  ⟨("heard", none), "heard", "heard", defArgs s_heard, defBody s_heard, defScope s_heard, [], []⟩,
  ⟨("_law_cell_at", none), "_law_cell_at", "_law_cell_at", defArgs s__law_cell_at, defBody s__law_cell_at, defScope s__law_cell_at, [], []⟩,
  ⟨("_law_mix", none), "_law_mix", "_law_mix", defArgs s__law_mix, defBody s__law_mix, defScope s__law_mix, [], []⟩,
  ⟨("_law_same", none), "_law_same", "_law_same", defArgs s__law_same, defBody s__law_same, defScope s__law_same, [], []⟩,
  ⟨("_law_word", none), "_law_word", "_law_word", defArgs s__law_word, defBody s__law_word, defScope s__law_word, [], []⟩,
  ⟨("_law_shared", none), "_law_shared", "_law_shared", defArgs s__law_shared, defBody s__law_shared, defScope s__law_shared, [], []⟩,
  ⟨("_law_time", none), "_law_time", "_law_time", defArgs s__law_time, defBody s__law_time, defScope s__law_time, [], []⟩,
  ⟨("_law_row", none), "_law_row", "_law_row", defArgs s__law_row, defBody s__law_row, defScope s__law_row, [], []⟩,
  ⟨("_law_text_of", none), "_law_text_of", "_law_text_of", defArgs s__law_text_of, defBody s__law_text_of, defScope s__law_text_of, [], []⟩,
  ⟨("_law_spoilt", none), "_law_spoilt", "_law_spoilt", defArgs s__law_spoilt, defBody s__law_spoilt, defScope s__law_spoilt, [], []⟩,
  ⟨("_law_refused", none), "_law_refused", "_law_refused", defArgs s__law_refused, defBody s__law_refused, defScope s__law_refused, [], []⟩,
  ⟨("_law_bad", none), "_law_bad", "_law_bad", defArgs s__law_bad, defBody s__law_bad, defScope s__law_bad, [], []⟩,
  ⟨("law", none), "law", "law", defArgs s_law, defBody s_law, defScope s_law, [], []⟩,
  ⟨("TextError", some "__init__"), "__init__", "TextError.__init__", defArgs sI_TextError, defBody sI_TextError, defScope sI_TextError, [], []⟩]
def caL (K : PySem.W.Frag) : Nat → Addr := caOf [0, 0, 0, 0, 0, 0, He.ga K "WayError", 0, 0, He.ga K "TextError", He.ga K "BadRow", He.ga K "Twice", 0, 0, 0, 0, 0, 0, 0, 0, 0, 0, 0, 0]
def exB (K : PySem.W.Frag) : Bool := (allC [10] fun c => exccB K (caL K c)) && ((allC [10] fun c => xfB K (caL K c) && He.eqO (PySem.W.findIn K (.ref (caL K c)) "row") (some none)) && ((allC [10] fun c => decide (PySem.W.kitOne K (.ref (caL K c)) (.ref (caL K 10)) = some (xsub c 10))) && ((allC [10] fun c => decide (PySem.W.kitOne K (.ref (caL K c)) (.ref (caL K 9)) = some (xsub c 9))) && ((allC [10] fun c => decide (PySem.W.kitOne K (.ref (caL K c)) (.ref (caL K 11)) = some (xsub c 11))) && ((allC [10] fun c => decide (PySem.W.kitOne K (.ref (caL K c)) (.type "ValueError") = some true)) && ((allC [10] fun c => decide (PySem.W.exmOne K (.ref (caL K c)) (.ref (caL K 6)) = some true)) && (raB K (caL K 10) (He.fAd K ("TextError", some "__init__")) && (He.eqO (PySem.W.findIn K (.ref (caL K 10)) "row") (some none) && (PySem.W.readsIn K (He.ga K "WayError") (.type "type") && (He.eqO (PySem.W.specialIn K (.ref (He.ga K "WayError")) "__getattribute__") (some (some (.builtin "type.__getattribute__"))) && (fcvB (PySem.W.findCls K (.ref (He.ga K "WayError")) (.type "type") "__init__"))))))))))))
abbrev RwT : PySem.W.OpenRow := PySem.W.OpenLaw.row PySem.Challenge.rw_ballastway_k39_logs_written_and_heard
abbrev hkT : PySem.W.Hook := He.hookY 6 faL fnL [] exB
def obT (s : PySem.W.SharedT) : He.AlX := He.obsY 6 faL fnL [] exB (HandSHeadRun.getT s)
theorem ob_eqT (s : PySem.W.SharedT) : obT s = hkT.obs s.abs := He.obsY_eq (HandSHeadRun.getT_eq s)
def loose0 : List Str := ["FIGURES", "LETTERS", "MOST_FIGURES", "MOST_LETTERS", "made_of", "number_of", "is_word", "shared", "made", "frac_text", "frac_of", "WayError", "TextError", "BadRow", "Twice", "log_row", "log_text", "row_heard", "heard", "_law_cell_at", "_law_whole", "_law_mix", "_law_same", "_law_word", "_law_shared", "_law_time", "_law_row", "_law_text_of", "_law_spoilt", "_law_refused"]
def loose1 : List Str := ["_law_bad"]
abbrev looseL : List Str := loose0 ++ loose1
set_option maxHeartbeats 0 in
theorem runT (w : World) : HandSHeadRun.RunEq RwT (PySem.W.view RwT.prog [36]) hkT obT 6000 looseL w := by
  intro os
  kernel_rfl
end G
namespace BK
open PySem PySem.Spec L2
set_option autoImplicit false
/-! ### data, slots, results -/
inductive D where
  | non | bl (b : Bool) | int (i : Int) | str (x : Str)
  /-- rol: a list that is read alone (the script) -/
  | lst (xs : List D) | tup (xs : List D) | ins (c : Nat) (fs : List D) | rol (xs : List D)
  /-- dic: a dict with texts as keys that is read alone -/
  | dic (ks : List Str) (vs : List D)
  /-- exc: an exception of the c-th class that is held, its fields -/
  | exc (c : Nat) (fs : List D)
  /-- opq: an object of which nothing is asked -/
  | opq (a : Addr)
inductive R where
  | va (d : D) | tm (ds : List D) | bw (j : Nat) (ds : List D)
/-- own trees: fz: frozen data; lists and instances of the body's own -/
inductive T where
  | fz (d : D) | lst (ts : List T) | ins (c : Nat) (ts : List T) | tup (ts : List T)
mutual
def T.d : T → D
  | .fz d => d
  | .lst ts => .lst (T.ds ts)
  | .ins c ts => .ins c (T.ds ts)
  | .tup ts => .tup (T.ds ts)
def T.ds : List T → List D
  | [] => []
  | t :: ts => t.d :: T.ds ts
end
/-- ot: an own tree -/
inductive Slot where
  | un | va (d : D) | ow (ds : List D) | ot (t : T)
abbrev Gm := List Slot
/-- an exception: its class, its fields -/
structure Exc where
  c : Nat
  fs : List (Int ⊕ Str)
def aD : Int ⊕ Str → D
  | .inl i => .int i
  | .inr s => .str s
inductive Out where
  | nx (g : Gm) | rt (r : R) | bk (g : Gm) | ct (g : Gm) | ex (x : Exc)
def R.d : R → D
  | .va d => d
  | .tm ds => .lst ds
  | .bw _ ds => .lst ds
def R.isBw : R → Bool
  | .bw _ _ => true
  | _ => false
/-- the fields of an instance of the c-th class, in the order in which they are stored -/
def fldsOf : Nat → List Str
  | 0 => ["length"]
  | 1 => ["length", "name", "bears", "wide", "most"]
  | 2 => ["pieces", "rounds", "shuts"]
  | 3 => ["name", "speed", "wheels"]
  | 4 => ["cart", "way", "start", "crossings", "ended"]
  | 5 => ["road", "loads", "sends"]
  | _ => []
/-- what is known of the class at C: its instances store the fields -/
structure Kls (K : PySem.W.Frag) (C : Addr) (c : Nat) : Prop where
  cl : Cls K C
  na : ∀ f ∈ fldsOf c, NoAttr K C f
/-- the fields of an exception of the c-th class, the last stored one first -/
def xflds (c : Nat) : List Str := if c = 7 then ["wheel", "bridge"] else if 9 ≤ c ∧ c ≤ 15 then ["row"] else []
/-- at a: an exception of the class at C, its dict at d -/
def exh (a C : Addr) (d : Option Addr) : HO := .ext fun h => ∃ (o : Obj) (vs : Array Value), h.get? a = some o ∧ Zc (.ref C) d o ∧ o.data = .fields vs
/-! ### data in a heap -/
mutual
inductive Den (K : PySem.W.Frag) (ca : Nat → Addr) (F : Hp) : V → D → Prop
  | non : Den K ca F .non .non
  | bl (b : Bool) : Den K ca F (.bl b) (.bl b)
  | int (i : Int) : Den K ca F (.int i) (.int i)
  | str (x : Str) : Den K ca F (.str x) (.str x)
  | lst {a : Addr} {xs : List V} {ds : List D} : F a = some (.lst xs) → Dens K ca F xs ds → Den K ca F (.ref a) (.lst ds)
  | tup {a : Addr} {xs : List V} {ds : List D} : SqT K F a xs → Dens K ca F xs ds → Den K ca F (.ref a) (.tup ds)
  | ins {a dx : Addr} {fs : List (Str × V)} {c : Nat} {ds : List D} : Kls K (ca c) c → F a = some (.ins (ca c) dx fs) → fs.map (·.1) = fldsOf c → Dens K ca F (fs.map (·.2)) ds → Den K ca F (.ref a) (.ins c ds)
  | rol {a : Addr} {xs : List V} {ds : List D} : SqL K F a xs → Dens K ca F xs ds → Den K ca F (.ref a) (.rol ds)
  | dic {a : Addr} {kvs : List (Key × V)} {ks : List Str} {ds : List D} : F a = some (.dK kvs) → kvs.map (·.1) = ks.map Sum.inr → Dens K ca F (kvs.map (·.2)) ds → Den K ca F (.ref a) (.dic ks ds)
  | exc {a : Addr} {d : Option Addr} {fs : List (Str × V)} {c : Nat} {ds : List D} : F a = some (exh a (ca c) d) → (d = none ∧ fs = [] ∨ ∃ dd, d = some dd ∧ F dd = some (.xd fs)) → fs.map (·.1) = xflds c → Dens K ca F (fs.map (·.2)) ds → Den K ca F (.ref a) (.exc c ds)
  | opq (a : Addr) : Den K ca F (.ref a) (.opq a)
inductive Dens (K : PySem.W.Frag) (ca : Nat → Addr) (F : Hp) : List V → List D → Prop
  | nil : Dens K ca F [] []
  | cons {v : V} {vs : List V} {d : D} {ds : List D} : Den K ca F v d → Dens K ca F vs ds → Dens K ca F (v :: vs) (d :: ds)
end
theorem Same.rd {H H' : Hp} {a : Addr} {o : HO} (e : Same H H') (h : Rd H a o) : Rd H' a o := by
  rcases h with h | ⟨u, h⟩
  · exact .inl (e _ _ h)
  · exact .inr ⟨u, e _ _ h⟩
theorem Same.seqT {K : PySem.W.Frag} {H H' : Hp} {a : Addr} {xs : List V} (e : Same H H') (h : SqT K H a xs) : SqT K H' a xs := by
  rcases h with (h | ⟨o, h⟩) | h
  · exact .inl (.inl (e _ _ h))
  · exact .inl (.inr ⟨o, e _ _ h⟩)
  · exact .inr h
section
variable {K : PySem.W.Frag} {ca : Nat → Addr} {F F' : Hp}
mutual
theorem Den.mono (s : Same F F') : ∀ {v : V} {d : D}, Den K ca F v d → Den K ca F' v d
  | _, _, .non => .non
  | _, _, .bl b => .bl b
  | _, _, .int i => .int i
  | _, _, .str x => .str x
  | _, _, .lst h hs => .lst (s _ _ h) (Dens.mono s hs)
  | _, _, .tup h hs => .tup (Same.seqT s h) (Dens.mono s hs)
  | _, _, .ins k h e hs => .ins k (s _ _ h) e (Dens.mono s hs)
  | _, _, .rol h hs => .rol (s.seq h) (Dens.mono s hs)
  | _, _, .dic h e hs => .dic (s _ _ h) e (Dens.mono s hs)
  | _, _, .exc h g e hs => .exc (s _ _ h) (g.imp (fun z => z) fun ⟨dd, e1, e2⟩ => ⟨dd, e1, s _ _ e2⟩) e (Dens.mono s hs)
  | _, _, .opq a => .opq a
theorem Dens.mono (s : Same F F') : ∀ {vs : List V} {ds : List D}, Dens K ca F vs ds → Dens K ca F' vs ds
  | _, _, .nil => .nil
  | _, _, .cons h hs => .cons (Den.mono s h) (Dens.mono s hs)
end
theorem Dens.length : ∀ {vs : List V} {ds : List D}, Dens K ca F vs ds → vs.length = ds.length
  | _, _, .nil => rfl
  | _, _, .cons _ hs => congrArg (· + 1) (Dens.length hs)
theorem Dens.get : ∀ {vs : List V} {ds : List D}, Dens K ca F vs ds → ∀ {i : Nat} {v : V} {d : D}, vs[i]? = some v → ds[i]? = some d → Den K ca F v d
  | _, _, .cons h _, 0, v, d, e1, e2 => by
    have e1 := Option.some.inj e1
    have e2 := Option.some.inj e2
    subst e1; subst e2
    exact h
  | _, _, .cons _ hs, i + 1, v, d, e1, e2 => Dens.get hs (i := i) (by simpa using e1) (by simpa using e2)
theorem Dens.getV {vs : List V} {ds : List D} (h : Dens K ca F vs ds) {i : Nat} {d : D} (e : ds[i]? = some d) : ∃ v, vs[i]? = some v ∧ Den K ca F v d := by
  have hl : i < vs.length := by rw [h.length]; exact (List.getElem?_eq_some_iff.mp e).1
  exact ⟨vs[i], List.getElem?_eq_getElem hl, h.get (List.getElem?_eq_getElem hl) e⟩
theorem Dens.getD {vs : List V} {ds : List D} (h : Dens K ca F vs ds) {i : Nat} {v : V} (e : vs[i]? = some v) : ∃ d, ds[i]? = some d ∧ Den K ca F v d := by
  have hl : i < ds.length := by rw [← h.length]; exact (List.getElem?_eq_some_iff.mp e).1
  exact ⟨ds[i], List.getElem?_eq_getElem hl, h.get e (List.getElem?_eq_getElem hl)⟩
theorem Dens.append : ∀ {vs ws : List V} {ds es : List D}, Dens K ca F vs ds → Dens K ca F ws es → Dens K ca F (vs ++ ws) (ds ++ es)
  | _, _, _, _, .nil, s => s
  | _, _, _, _, .cons r t, s => .cons r (Dens.append t s)
theorem Dens.one {v : V} {d : D} (h : Den K ca F v d) : Dens K ca F [v] [d] := .cons h .nil
theorem Dens.take : ∀ {vs : List V} {ds : List D} (n : Nat), Dens K ca F vs ds → Dens K ca F (vs.take n) (ds.take n)
  | _, _, 0, _ => .nil
  | _, _, _ + 1, .nil => .nil
  | _, _, n + 1, .cons r t => .cons r (Dens.take n t)
theorem Dens.drop : ∀ {vs : List V} {ds : List D} (n : Nat), Dens K ca F vs ds → Dens K ca F (vs.drop n) (ds.drop n)
  | _, _, 0, r => r
  | _, _, _ + 1, .nil => .nil
  | _, _, n + 1, .cons _ t => Dens.drop n t
theorem Dens.dropLast {vs : List V} {ds : List D} (h : Dens K ca F vs ds) : Dens K ca F vs.dropLast ds.dropLast := by
  rw [List.dropLast_eq_take, List.dropLast_eq_take, h.length]
  exact h.take _
theorem Dens.eraseIdx : ∀ {vs : List V} {ds : List D} (i : Nat), Dens K ca F vs ds → Dens K ca F (vs.eraseIdx i) (ds.eraseIdx i)
  | _, _, _, .nil => .nil
  | _, _, 0, .cons _ t => t
  | _, _, n + 1, .cons r t => .cons r (Dens.eraseIdx n t)
theorem Dens.set : ∀ {vs : List V} {ds : List D} {v : V} {d : D} (i : Nat), Den K ca F v d → Dens K ca F vs ds → Dens K ca F (vs.set i v) (ds.set i d)
  | _, _, _, _, _, _, .nil => .nil
  | _, _, _, _, 0, h, .cons _ t => .cons h t
  | _, _, _, _, n + 1, h, .cons r t => .cons r (Dens.set n h t)
theorem Dens.reverse {vs : List V} {ds : List D} (h : Dens K ca F vs ds) : Dens K ca F vs.reverse ds.reverse := by
  induction vs generalizing ds with
  | nil => cases h; exact .nil
  | cons v vs ih =>
    cases h with
    | cons h hs =>
      rw [List.reverse_cons, List.reverse_cons]
      exact (ih hs).append (.one h)
theorem Dens.ints : ∀ {ns : List Int}, Dens K ca F (ns.map V.int) (ns.map D.int)
  | [] => .nil
  | n :: ns => .cons (.int n) Dens.ints
theorem Dens.bls_of : ∀ {vs : List V} {ns : List Bool}, Dens K ca F vs (ns.map D.bl) → vs = ns.map V.bl
  | _, [], h => by cases h; rfl
  | _, n :: ns, h => by
    cases h with
    | cons h hs =>
      cases h
      rw [Dens.bls_of hs]
      rfl
end
/-! ### heaps that grow -/
/-- no table is frozen -/
def NT (F : Hp) : Prop := ∀ b ps, F b ≠ some (.tbl ps)
/-- tables that the law's defs need: flags and addresses in ca -/
structure TabsC (ca : Nat → Addr) (H : Hp) : Prop where
  a : ca 20 = 1 → LamX.TabS H (ca 21) "in_order.<locals>.<lambda>"
  b : ca 22 = 1 → LamX.TabS H (ca 23) "log_of.<locals>.<lambda>"
/-- a heap but for its tables -/
def noT (H : Hp) : Hp := fun b => match H b with
  | some (.tbl _) => none
  | o => o
theorem noT_same (H : Hp) : Same (noT H) H := fun b o e => by
  unfold noT at e
  split at e
  · cases e
  · exact e
theorem noT_nt (H : Hp) : NT (noT H) := fun b ps e => by
  unfold noT at e
  split at e
  · cases e
  · rename_i h; exact h ps e
theorem noT_get {H : Hp} {b : Addr} {o : HO} (h : H b = some o) (n : ∀ ps, o ≠ .tbl ps) : noT H b = some o := by
  unfold noT
  rw [h]
  split
  · rename_i z; exact absurd (Option.some.inj z) (n _)
  · rfl
theorem noT_none {H : Hp} {b : Addr} (h : H b = none) : noT H b = none := by
  unfold noT
  rw [h]
theorem ne_noT {H : Hp} {a b : Addr} {o : HO} (e : H b = some o) (n : ∀ ps, o ≠ .tbl ps) (h : noT H a = none) : b ≠ a := fun z => by
  subst z
  rw [noT_get e n] at h; cases h
/-- all that was tracked stays but for tables of code objects; these keep their names -/
structure SameN (ca : Nat → Addr) (H H' : Hp) : Prop where
  st : ∀ b o, H b = some o → (∀ ps, o ≠ .tbl ps) → H' b = some o
  tb : TabsC ca H → TabsC ca H'
theorem SameN.of {ca : Nat → Addr} {H H' : Hp} (s : Same H H') : SameN ca H H' := ⟨fun b o h _ => s b o h, fun t => ⟨fun h => (t.a h).ext s, fun h => (t.b h).ext s⟩⟩
theorem SameN.refl {ca : Nat → Addr} (H : Hp) : SameN ca H H := .of (Same.refl H)
theorem SameN.trans {ca : Nat → Addr} {H H1 H2 : Hp} (a : SameN ca H H1) (b : SameN ca H1 H2) : SameN ca H H2 :=
  ⟨fun c o h n => b.st c o (a.st c o h n) n, fun t => b.tb (a.tb t)⟩
theorem SameN.free {ca : Nat → Addr} {H H' : Hp} (s : SameN ca H H') {p : Addr} (h : noT H' p = none) : noT H p = none := by
  cases q : noT H p with
  | none => rfl
  | some o =>
    have h1 := noT_same H _ _ q
    have h2 : ∀ ps, o ≠ .tbl ps := fun ps z => noT_nt H p ps (by rw [q, z])
    rw [noT_get (s.st p o h1 h2) h2] at h
    cases h
theorem TabsC.mono {ca : Nat → Addr} {H H' : Hp} (t : TabsC ca H) (s : SameN ca H H') : TabsC ca H' := s.tb t
theorem SameN.l {ca : Nat → Addr} {H H' : Hp} (s : SameN ca H H') {a : Addr} {xs : List V} (h : H a = some (.lst xs)) : H' a = some (.lst xs) := s.st a _ h fun ps z => by cases z
theorem SameN.i {ca : Nat → Addr} {H H' : Hp} (s : SameN ca H H') {a C dx : Addr} {fs : List (Str × V)} (h : H a = some (.ins C dx fs)) : H' a = some (.ins C dx fs) := s.st a _ h fun ps z => by cases z
/-- an object that is neither a table nor a code object is written -/
structure Pl (H : Hp) (a : Addr) : Prop where
  t : ∀ ps, H a ≠ some (.tbl ps)
  c : ∀ q, H a ≠ some (LamX.CodeO a q)
theorem Pl.none {H : Hp} {a : Addr} (h : H a = none) : Pl H a := ⟨fun ps z => by (rw [h] at z; cases z), fun q z => by (rw [h] at z; cases z)⟩
theorem codeO_lst {a : Addr} {q : Str} {xs : List V} : LamX.CodeO a q ≠ .lst xs := fun z => by unfold LamX.CodeO at z; cases z
theorem codeO_ins {a C dx : Addr} {q : Str} {xs : List (Str × V)} : LamX.CodeO a q ≠ .ins C dx xs := fun z => by unfold LamX.CodeO at z; cases z
theorem Pl.lst {H : Hp} {a : Addr} {xs : List V} (h : H a = some (.lst xs)) : Pl H a := ⟨fun ps z => by (rw [h] at z; cases z), fun q z => codeO_lst (Option.some.inj (h.symm.trans z)).symm⟩
theorem Pl.ins {H : Hp} {a C dx : Addr} {xs : List (Str × V)} (h : H a = some (.ins C dx xs)) : Pl H a := ⟨fun ps z => by (rw [h] at z; cases z), fun q z => codeO_ins (Option.some.inj (h.symm.trans z)).symm⟩
theorem tabS_upd {H : Hp} {a : Addr} {o : HO} (h : Pl H a) {P : Addr} {q : Str} (t : LamX.TabS H P q) : LamX.TabS (upd H a o) P q := by
  obtain ⟨ps, h1, h2, h3⟩ := t
  refine ⟨ps, by rw [upd_ne (fun z => h.t ps (by rw [← z]; exact h1))]; exact h1, h2, fun pos cv hc => ?_⟩
  obtain ⟨c, e1, e2⟩ := h3 pos cv hc
  refine ⟨c, e1, ?_⟩
  by_cases z : c = a
  · subst z; exact absurd e2 (h.c q)
  · rw [upd_ne z]; exact e2
theorem SameN.updO {ca : Nat → Addr} {H0 H : Hp} (s : SameN ca H0 H) {a : Addr} {o : HO} (h0 : noT H0 a = .none) (h : Pl H a) : SameN ca H0 (upd H a o) :=
  ⟨fun b u e n => by rw [upd_ne (ne_noT e n h0)]; exact s.st b u e n, fun t => ⟨fun k => tabS_upd h ((s.tb t).a k), fun k => tabS_upd h ((s.tb t).b k)⟩⟩
/-- all that was tracked stays; what is frozen grows by what is new alone -/
structure Ext (ca : Nat → Addr) (H F H' F' : Hp) : Prop where
  hh : SameN ca H H'
  ff : Same F F'
  fh : Same F' H'
  nw : ∀ a, F' a ≠ none → F a ≠ none ∨ noT H a = none
  nt : NT F → NT F'
theorem Ext.refl {ca : Nat → Addr} {H F : Hp} (s : Same F H) : Ext ca H F H F := ⟨SameN.refl _, Same.refl _, s, fun _ h => .inl h, fun n => n⟩
theorem Ext.trans {ca : Nat → Addr} {H F H1 F1 H2 F2 : Hp} (a : Ext ca H F H1 F1) (b : Ext ca H1 F1 H2 F2) : Ext ca H F H2 F2 :=
  ⟨a.hh.trans b.hh, a.ff.trans b.ff, b.fh, fun x h => by
    rcases b.nw x h with h | h
    · exact a.nw x h
    · exact .inr (a.hh.free h), fun n => b.nt (a.nt n)⟩
theorem Ext.keepN {ca : Nat → Addr} {H F H' F' : Hp} (x : Ext ca H F H' F') {a : Addr} {o : HO} (h : H a = some o) (f : F a = none) (hn : ∀ ps, o ≠ .tbl ps := by exact fun _ z => nomatch z) : F' a = none := by
  cases q : F' a with
  | none => rfl
  | some u =>
    rcases x.nw a (by rw [q]; exact fun z => nomatch z) with z | z
    · exact absurd f z
    · rw [noT_get h hn] at z; cases z
theorem same_upd {H : Hp} {p : Addr} {o : HO} (h : H p = none) : Same H (upd H p o) := fun b x e => by
  rw [upd_ne (ne_of_none e h)]
  exact e
theorem Same.updB {F H : Hp} {p : Addr} {o : HO} (s : Same F H) : Same (upd F p o) (upd H p o) := fun b x e => by
  by_cases hb : b = p
  · subst hb
    rw [upd_same] at e ⊢
    exact e
  · rw [upd_ne hb] at e ⊢
    exact s b x e
theorem NT.upd {F : Hp} (n : NT F) {p : Addr} {o : HO} (h : ∀ ps, o ≠ .tbl ps) : NT (upd F p o) := fun b ps z => by
  by_cases e : b = p
  · subst e; rw [upd_same] at z; exact h ps (Option.some.inj z)
  · rw [upd_ne e] at z; exact n b ps z
/-- a new object, frozen -/
theorem Ext.new {ca : Nat → Addr} {H F : Hp} (s : Same F H) {p : Addr} (o : HO) (h : H p = none) (hn : ∀ ps, o ≠ .tbl ps := by exact fun _ z => nomatch z) : Ext ca H F (upd H p o) (upd F p o) :=
  ⟨.of (same_upd h), same_upd (s.free h), Same.updB s, fun a q => by
    by_cases e : a = p
    · subst e; exact .inr (noT_none h)
    · rw [upd_ne e] at q; exact .inl q, fun n => n.upd hn⟩
/-- a new object, not frozen -/
theorem Ext.newO {ca : Nat → Addr} {H F : Hp} (s : Same F H) {p : Addr} (o : HO) (h : H p = none) : Ext ca H F (upd H p o) F :=
  ⟨.of (same_upd h), Same.refl _, s.trans (same_upd h), fun a q => .inl q, fun n => n⟩
/-- something new is frozen -/
theorem Ext.frz {ca : Nat → Addr} {H F H1 F1 : Hp} (x : Ext ca H F H1 F1) {p : Addr} {o : HO} (h : noT H p = none) (h1 : H1 p = some o) (f : F1 p = none) (hn : ∀ ps, o ≠ .tbl ps := by exact fun _ z => nomatch z) : Ext ca H F H1 (upd F1 p o) :=
  ⟨x.hh, x.ff.trans (same_upd f), fun b u e => by
    by_cases q : b = p
    · subst q; rw [upd_same] at e; rw [h1, e]
    · rw [upd_ne q] at e; exact x.fh b u e, fun a q => by
    by_cases e : a = p
    · subst e; exact .inr h
    · rw [upd_ne e] at q; exact x.nw a q, fun n => (x.nt n).upd hn⟩
/-! ### a result and its value -/
/-- B: which own list of the body's (its slot, its address); H: the heap at the expression's beginning -/
abbrev BT := Nat → Addr → List D → Prop
def RV (K : PySem.W.Frag) (ca : Nat → Addr) (B : BT) (H F' H' : Hp) (v : V) : R → Prop
  | .va d => Den K ca F' v d
  | .tm ds => ∃ a vs, v = .ref a ∧ noT H a = none ∧ F' a = none ∧ H' a = some (.lst vs) ∧ Dens K ca F' vs ds
  | .bw j ds => ∃ a vs, v = .ref a ∧ B j a ds ∧ F' a = none ∧ H' a = some (.lst vs) ∧ Dens K ca F' vs ds
theorem RV.mono {K : PySem.W.Frag} {ca : Nat → Addr} {B : BT} {H F1 H1 F2 H2 : Hp} {v : V} {r : R} (x : Ext ca H1 F1 H2 F2) (h : RV K ca B H F1 H1 v r) : RV K ca B H F2 H2 v r := by
  cases r with
  | va d => exact Den.mono x.ff h
  | tm ds =>
    obtain ⟨a, vs, rfl, h1, h2, h3, h4⟩ := h
    exact ⟨a, vs, rfl, h1, x.keepN h3 h2, x.hh.l h3, h4.mono x.ff⟩
  | bw j ds =>
    obtain ⟨a, vs, rfl, h1, h2, h3, h4⟩ := h
    exact ⟨a, vs, rfl, h1, x.keepN h3 h2, x.hh.l h3, h4.mono x.ff⟩
/-- the expression began sooner -/
theorem RV.back {K : PySem.W.Frag} {ca : Nat → Addr} {B : BT} {Ha H F1 H1 : Hp} {v : V} {r : R} (s : SameN ca Ha H) (h : RV K ca B H F1 H1 v r) : RV K ca B Ha F1 H1 v r := by
  cases r with
  | va d => exact h
  | tm ds =>
    obtain ⟨a, vs, rfl, h1, h2⟩ := h
    exact ⟨a, vs, rfl, s.free h1, h2⟩
  | bw j ds => exact h
/-- a list is read -/
theorem RV.lst {K : PySem.W.Frag} {ca : Nat → Addr} {B : BT} {H F' H' : Hp} {v : V} {r : R} {ds : List D} (s : Same F' H') (h : RV K ca B H F' H' v r) (e : r.d = .lst ds) : ∃ a vs, v = .ref a ∧ Rd H' a (.lst vs) ∧ Dens K ca F' vs ds := by
  cases r with
  | va d =>
    obtain rfl : d = .lst ds := e
    cases h with
    | lst h hs => exact ⟨_, _, rfl, .inl (s _ _ h), hs⟩
  | tm es =>
    obtain rfl : es = ds := by injection e
    obtain ⟨a, vs, rfl, _, _, h3, h4⟩ := h
    exact ⟨a, vs, rfl, .inl h3, h4⟩
  | bw j es =>
    obtain rfl : es = ds := by injection e
    obtain ⟨a, vs, rfl, _, _, h3, h4⟩ := h
    exact ⟨a, vs, rfl, .inl h3, h4⟩
/-- what is no list is a value -/
def D.isLst : D → Bool
  | .lst _ => true
  | _ => false
theorem RV.den {K : PySem.W.Frag} {ca : Nat → Addr} {B : BT} {H F' H' : Hp} {v : V} {r : R} {d : D} (h : RV K ca B H F' H' v r) (e : r.d = d) (n : d.isLst = false) : Den K ca F' v d := by
  cases r with
  | va d' => exact e ▸ h
  | tm es => subst e; cases n
  | bw j es => subst e; cases n
/-- a result that is no borrowed list becomes a value -/
theorem RV.froze {K : PySem.W.Frag} {ca : Nat → Addr} {B : BT} {H F H1 F1 : Hp} {v : V} {r : R} (x : Ext ca H F H1 F1) (h : RV K ca B H F1 H1 v r) (n : r.isBw = false) : ∃ F2, Ext ca H F H1 F2 ∧ Same F1 F2 ∧ Den K ca F2 v r.d := by
  cases r with
  | va d => exact ⟨F1, x, Same.refl _, h⟩
  | tm ds =>
    obtain ⟨a, vs, rfl, h1, h2, h3, h4⟩ := h
    exact ⟨_, x.frz h1 h3 h2, same_upd h2, .lst upd_same (h4.mono (same_upd h2))⟩
  | bw j ds => cases n
/-! ### own trees -/
mutual
/-- v reads as t: the frozen leaves in F, the own objects at the addresses told in H -/
inductive OT (K : PySem.W.Frag) (ca : Nat → Addr) (F H : Hp) : V → T → List Addr → Prop
  | fz {v : V} {d : D} : Den K ca F v d → OT K ca F H v (.fz d) []
  | lst {a : Addr} {xs : List V} {ts : List T} {as : List Addr} : H a = some (.lst xs) → OTs K ca F H xs ts as → OT K ca F H (.ref a) (.lst ts) (a :: as)
  | ins {a dx : Addr} {fs : List (Str × V)} {c : Nat} {ts : List T} {as : List Addr} : Kls K (ca c) c → H a = some (.ins (ca c) dx fs) → fs.map (·.1) = fldsOf c → OTs K ca F H (fs.map (·.2)) ts as → OT K ca F H (.ref a) (.ins c ts) (a :: as)
  | tup {a : Addr} {xs : List V} {ts : List T} {as : List Addr} : SqT K F a xs → OTs K ca F H xs ts as → OT K ca F H (.ref a) (.tup ts) as
inductive OTs (K : PySem.W.Frag) (ca : Nat → Addr) (F H : Hp) : List V → List T → List Addr → Prop
  | nil : OTs K ca F H [] [] []
  | cons {v : V} {vs : List V} {t : T} {ts : List T} {as bs : List Addr} : OT K ca F H v t as → OTs K ca F H vs ts bs → OTs K ca F H (v :: vs) (t :: ts) (as ++ bs)
end
section
variable {K : PySem.W.Frag} {ca : Nat → Addr} {F F' H H' : Hp}
mutual
theorem OT.mono (sf : Same F F') : ∀ {v : V} {t : T} {as : List Addr}, OT K ca F H v t as → (∀ b ∈ as, H' b = H b) → OT K ca F' H' v t as
  | _, _, _, .fz h, _ => .fz (Den.mono sf h)
  | _, _, _, .lst h hs, e => .lst ((e _ List.mem_cons_self).trans h) (OTs.mono sf hs fun b m => e b (List.mem_cons_of_mem _ m))
  | _, _, _, .ins k h n hs, e => .ins k ((e _ List.mem_cons_self).trans h) n (OTs.mono sf hs fun b m => e b (List.mem_cons_of_mem _ m))
  | _, _, _, .tup h hs, e => .tup (Same.seqT sf h) (OTs.mono sf hs e)
theorem OTs.mono (sf : Same F F') : ∀ {vs : List V} {ts : List T} {as : List Addr}, OTs K ca F H vs ts as → (∀ b ∈ as, H' b = H b) → OTs K ca F' H' vs ts as
  | _, _, _, .nil, _ => .nil
  | _, _, _, .cons h hs, e => .cons (OT.mono sf h fun b m => e b (List.mem_append_left _ m)) (OTs.mono sf hs fun b m => e b (List.mem_append_right _ m))
end
mutual
theorem OT.at : ∀ {v : V} {t : T} {as : List Addr}, OT K ca F H v t as → ∀ b ∈ as, ∃ o, H b = some o ∧ ∀ ps, o ≠ .tbl ps
  | _, _, _, .fz _, b, m => by cases m
  | _, _, _, .lst h hs, b, m => by
    rcases List.mem_cons.mp m with e | m
    · subst e; exact ⟨_, h, fun _ z => nomatch z⟩
    · exact OTs.at hs b m
  | _, _, _, .ins k h n hs, b, m => by
    rcases List.mem_cons.mp m with e | m
    · subst e; exact ⟨_, h, fun _ z => nomatch z⟩
    · exact OTs.at hs b m
  | _, _, _, .tup _ hs, b, m => OTs.at hs b m
theorem OTs.at : ∀ {vs : List V} {ts : List T} {as : List Addr}, OTs K ca F H vs ts as → ∀ b ∈ as, ∃ o, H b = some o ∧ ∀ ps, o ≠ .tbl ps
  | _, _, _, .nil, b, m => by cases m
  | _, _, _, .cons h hs, b, m => by
    rcases List.mem_append.mp m with m | m
    · exact OT.at h b m
    · exact OTs.at hs b m
end
mutual
/-- a tree as data, where its objects are frozen -/
theorem OT.den (sf : Same F F') : ∀ {v : V} {t : T} {as : List Addr}, OT K ca F H v t as → (∀ b ∈ as, F' b = H b) → Den K ca F' v t.d
  | _, _, _, .fz h, _ => Den.mono sf h
  | _, _, _, .lst h hs, e => .lst ((e _ List.mem_cons_self).trans h) (OTs.den sf hs fun b m => e b (List.mem_cons_of_mem _ m))
  | _, _, _, .ins k h n hs, e => .ins k ((e _ List.mem_cons_self).trans h) n (OTs.den sf hs fun b m => e b (List.mem_cons_of_mem _ m))
  | _, _, _, .tup h hs, e => .tup (Same.seqT sf h) (OTs.den sf hs e)
theorem OTs.den (sf : Same F F') : ∀ {vs : List V} {ts : List T} {as : List Addr}, OTs K ca F H vs ts as → (∀ b ∈ as, F' b = H b) → Dens K ca F' vs (T.ds ts)
  | _, _, _, .nil, _ => .nil
  | _, _, _, .cons h hs, e => .cons (OT.den sf h fun b m => e b (List.mem_append_left _ m)) (OTs.den sf hs fun b m => e b (List.mem_append_right _ m))
end
theorem OTs.length : ∀ {vs : List V} {ts : List T} {as : List Addr}, OTs K ca F H vs ts as → vs.length = ts.length
  | _, _, _, .nil => rfl
  | _, _, _, .cons _ hs => by rw [List.length_cons, List.length_cons, hs.length]
theorem OTs.fzs : ∀ {vs : List V} {ds : List D}, Dens K ca F vs ds → OTs K ca F H vs (ds.map .fz) []
  | _, _, .nil => .nil
  | _, _, .cons h hs => .cons (as := []) (.fz h) (OTs.fzs hs)
theorem OTs.append : ∀ {vs ws : List V} {ts us : List T} {as bs : List Addr}, OTs K ca F H vs ts as → OTs K ca F H ws us bs → OTs K ca F H (vs ++ ws) (ts ++ us) (as ++ bs)
  | _, _, _, _, _, _, .nil, h => h
  | _, _, _, _, _, _, .cons h hs, h2 => by
    rw [List.append_assoc]
    exact .cons h (OTs.append hs h2)
theorem T.ds_fz : ∀ ds : List D, T.ds (ds.map .fz) = ds
  | [] => rfl
  | d :: ds => by
    show T.d (.fz d) :: T.ds (ds.map .fz) = _
    rw [T.ds_fz ds]; rfl
end
end BK
namespace BK
open PySem PySem.Spec L2
set_option autoImplicit false
/-! ### the state of a body -/
/-- the own trees of a body, apart from one another and from its own lists -/
structure OwnA (K : PySem.W.Frag) (ca : Nat → Addr) (H0 F : Hp) (σ : L2.St) (H : Hp) (Γ : Gm) (A : Nat → List Addr) : Prop where
  a : ∀ (i : Nat) (t : T), Γ[i]? = some (Slot.ot t) → (∃ v : V, σ[i]? = some (some v) ∧ OT K ca F H v t (A i)) ∧ (A i).Nodup ∧ ∀ b ∈ A i, noT H0 b = none ∧ F b = none
  b : ∀ (i j : Nat) (t u : T), i ≠ j → Γ[i]? = some (Slot.ot t) → Γ[j]? = some (Slot.ot u) → ∀ b ∈ A i, b ∉ A j
  c : ∀ (i j : Nat) (t : T) (ds : List D) (a : Addr), Γ[i]? = some (Slot.ot t) → Γ[j]? = some (Slot.ow ds) → σ[j]? = some (some (V.ref a)) → a ∉ A i
def Own (K : PySem.W.Frag) (ca : Nat → Addr) (H0 F : Hp) (σ : L2.St) (H : Hp) (Γ : Gm) : Prop := ∃ A : Nat → List Addr, OwnA K ca H0 F σ H Γ A
theorem Own.nil {K : PySem.W.Frag} {ca : Nat → Addr} {H0 F : Hp} {σ : L2.St} {H : Hp} {Γ : Gm} (h : ∀ (i : Nat) (t : T), Γ[i]? ≠ some (Slot.ot t)) : Own K ca H0 F σ H Γ :=
  ⟨fun _ => [], fun i t e => absurd e (h i t), fun i j t u _ e => absurd e (h i t), fun i j t ds a e => absurd e (h i t)⟩
theorem OwnA.keep {K : PySem.W.Frag} {ca : Nat → Addr} {H0 F F' : Hp} {σ σ' : L2.St} {H H' : Hp} {Γ Γ' : Gm} {A : Nat → List Addr} (o : OwnA K ca H0 F σ H Γ A) (h1 : ∀ (i : Nat) (t : T), Γ'[i]? = some (Slot.ot t) → Γ[i]? = some (Slot.ot t) ∧ σ'[i]? = σ[i]?)
    (h2 : ∀ (j : Nat) (ds : List D) (a : Addr), Γ'[j]? = some (Slot.ow ds) → σ'[j]? = some (some (V.ref a)) → (∃ (k : Nat) (es : List D), Γ[k]? = some (Slot.ow es) ∧ σ[k]? = some (some (V.ref a))) ∨ noT H a = none) (sf : Same F F')
    (hk : ∀ (b : Addr) (u : HO), H b = some u → (∀ ps, u ≠ .tbl ps) → F b = none → (∀ (j : Nat) (ds : List D), Γ[j]? = some (Slot.ow ds) → σ[j]? ≠ some (some (V.ref b))) → H' b = some u ∧ F' b = none) : OwnA K ca H0 F' σ' H' Γ' A := by
  obtain ⟨o1, o2, o3⟩ := o
  have key : ∀ (i : Nat) (t : T), Γ'[i]? = some (Slot.ot t) → ∀ b ∈ A i, ∃ u, H b = some u ∧ H' b = some u ∧ F' b = none ∧ ∀ ps, u ≠ .tbl ps := by
    intro i t e b hb
    obtain ⟨e1, _⟩ := h1 i t e
    obtain ⟨⟨v, _, ht⟩, _, hf⟩ := o1 i t e1
    obtain ⟨u, hu, hn⟩ := ht.at b hb
    obtain ⟨k1, k2⟩ := hk b u hu hn (hf b hb).2 fun j ds g s => o3 i j t ds b e1 g s hb
    exact ⟨u, hu, k1, k2, hn⟩
  refine ⟨fun i t e => ?_, fun i j t u n e e' => o2 i j t u n (h1 i t e).1 (h1 j u e').1, fun i j t ds a e g s => ?_⟩
  · obtain ⟨e1, e2⟩ := h1 i t e
    obtain ⟨⟨v, hv, ht⟩, hd, hf⟩ := o1 i t e1
    refine ⟨⟨v, by rw [e2]; exact hv, ht.mono sf fun b hb => ?_⟩, hd, fun b hb => ⟨(hf b hb).1, ?_⟩⟩
    · obtain ⟨u, k1, k2, _⟩ := key i t e b hb
      rw [k1, k2]
    · obtain ⟨u, k1, k2, k3, _⟩ := key i t e b hb
      exact k3
  · obtain ⟨e1, _⟩ := h1 i t e
    rcases h2 j ds a g s with ⟨k, es, g', s'⟩ | z
    · exact o3 i k t es a e1 g' s'
    · intro hb
      obtain ⟨u, k1, _, _, hn⟩ := key i t e a hb
      rw [noT_get k1 hn] at z
      cases z
theorem OwnA.mono {K : PySem.W.Frag} {ca : Nat → Addr} {H0 F F' : Hp} {σ : L2.St} {H H' : Hp} {Γ : Gm} {A : Nat → List Addr} (o : OwnA K ca H0 F σ H Γ A) (x : Ext ca H F H' F') : OwnA K ca H0 F' σ H' Γ A :=
  o.keep (fun i t e => ⟨e, rfl⟩) (fun j ds a g s => .inl ⟨j, ds, g, s⟩) x.ff fun b u e n f _ => ⟨x.hh.st b u e n, x.keepN e f n⟩
theorem Own.keep {K : PySem.W.Frag} {ca : Nat → Addr} {H0 F F' : Hp} {σ σ' : L2.St} {H H' : Hp} {Γ Γ' : Gm} (o : Own K ca H0 F σ H Γ) (h1 : ∀ (i : Nat) (t : T), Γ'[i]? = some (Slot.ot t) → Γ[i]? = some (Slot.ot t) ∧ σ'[i]? = σ[i]?)
    (h2 : ∀ (j : Nat) (ds : List D) (a : Addr), Γ'[j]? = some (Slot.ow ds) → σ'[j]? = some (some (V.ref a)) → (∃ (k : Nat) (es : List D), Γ[k]? = some (Slot.ow es) ∧ σ[k]? = some (some (V.ref a))) ∨ noT H a = none) (sf : Same F F')
    (hk : ∀ (b : Addr) (u : HO), H b = some u → (∀ ps, u ≠ .tbl ps) → F b = none → (∀ (j : Nat) (ds : List D), Γ[j]? = some (Slot.ow ds) → σ[j]? ≠ some (some (V.ref b))) → H' b = some u ∧ F' b = none) : Own K ca H0 F' σ' H' Γ' := by
  obtain ⟨A, o⟩ := o
  exact ⟨A, o.keep h1 h2 sf hk⟩
structure SR (K : PySem.W.Frag) (ca : Nat → Addr) (H0 F0 : Hp) (σ : L2.St) (H F : Hp) (Γ : Gm) : Prop where
  ext : Ext ca H0 F0 H F
  nt0 : NT F0
  tc0 : TabsC ca H0
  len : σ.length = Γ.length
  va : ∀ (i : Nat) (d : D), Γ[i]? = some (.va d) → ∃ v, σ[i]? = some (some v) ∧ Den K ca F v d
  ow : ∀ (i : Nat) (ds : List D), Γ[i]? = some (.ow ds) → ∃ a vs, σ[i]? = some (some (.ref a)) ∧ noT H0 a = none ∧ F a = none ∧ H a = some (.lst vs) ∧ Dens K ca F vs ds
  ap : ∀ (i j : Nat) (ds es : List D) (a : Addr), i ≠ j → Γ[i]? = some (.ow ds) → Γ[j]? = some (.ow es) → σ[i]? = some (some (.ref a)) → σ[j]? = some (some (.ref a)) → False
  own : Own K ca H0 F σ H Γ
section
variable {K : PySem.W.Frag} {ca : Nat → Addr} {H0 F0 H F H' F' : Hp} {σ : L2.St} {Γ : Gm}
theorem SR.mono (S : SR K ca H0 F0 σ H F Γ) (x : Ext ca H F H' F') : SR K ca H0 F0 σ H' F' Γ :=
  ⟨S.ext.trans x, S.nt0, S.tc0, S.len, fun i d h => let ⟨v, h1, h2⟩ := S.va i d h; ⟨v, h1, h2.mono x.ff⟩,
    fun i ds h => let ⟨a, vs, h1, h2, h3, h4, h5⟩ := S.ow i ds h; ⟨a, vs, h1, h2, x.keepN h4 h3, x.hh.l h4, h5.mono x.ff⟩, S.ap,
    S.own.keep (fun i t e => ⟨e, rfl⟩) (fun j ds a g s => .inl ⟨j, ds, g, s⟩) x.ff fun b u e n f _ => ⟨x.hh.st b u e n, x.keepN e f n⟩⟩
theorem get_set {α : Type} {l : List α} {i j : Nat} {x y : α} (h : (l.set i x)[j]? = some y) : (i = j ∧ y = x ∧ i < l.length) ∨ (i ≠ j ∧ l[j]? = some y) := by
  by_cases e : i = j
  · subst e
    rw [List.getElem?_set] at h
    simp only [if_true] at h
    split at h
    · exact .inl ⟨rfl, (Option.some.inj h).symm, by assumption⟩
    · cases h
  · rw [List.getElem?_set_ne e] at h
    exact .inr ⟨e, h⟩
theorem Own.set_ (o : Own K ca H0 F σ H Γ) {i : Nat} {s : Slot} {v : Option V} (h1 : ∀ t, s ≠ .ot t) (h2 : ∀ ds, s ≠ .ow ds) : Own K ca H0 F (σ.set i v) H (Γ.set i s) :=
  o.keep (fun j t e => by
    rcases get_set e with ⟨_, e1, _⟩ | ⟨n, e⟩
    · exact absurd e1.symm (h1 t)
    · exact ⟨e, List.getElem?_set_ne n⟩) (fun j ds a g s' => by
    rcases get_set g with ⟨_, e1, _⟩ | ⟨n, g⟩
    · exact absurd e1.symm (h2 ds)
    · rw [List.getElem?_set_ne n] at s'
      exact .inl ⟨j, ds, g, s'⟩) (Same.refl _) fun b u e n f _ => ⟨e, f⟩
theorem SR.lt (S : SR K ca H0 F0 σ H F Γ) {i : Nat} (h : i < Γ.length) : i < σ.length := by rw [S.len]; exact h
/-- a value is stored -/
theorem SR.setVa (S : SR K ca H0 F0 σ H F Γ) {i : Nat} {v : V} {d : D} (h : Den K ca F v d) : SR K ca H0 F0 (σ.set i (some v)) H F (Γ.set i (.va d)) := by
  refine ⟨S.ext, S.nt0, S.tc0, by rw [List.length_set, List.length_set]; exact S.len, fun j e hj => ?_, fun j ds hj => ?_, fun j k ds es a n hj hk sj sk => ?_, S.own.set_ (fun t z => nomatch z) (fun ds z => nomatch z)⟩
  · rcases get_set hj with ⟨rfl, e1, hl⟩ | ⟨n, hj⟩
    · injection e1 with e1; subst e1
      exact ⟨v, List.getElem?_set_self (S.lt hl), h⟩
    · rw [List.getElem?_set_ne n]; exact S.va j e hj
  · rcases get_set hj with ⟨rfl, e1, hl⟩ | ⟨n, hj⟩
    · cases e1
    · rw [List.getElem?_set_ne n]; exact S.ow j ds hj
  · rcases get_set hj with ⟨rfl, e1, hl⟩ | ⟨n1, hj⟩
    · cases e1
    · rcases get_set hk with ⟨rfl, e1, hl⟩ | ⟨n2, hk⟩
      · cases e1
      · rw [List.getElem?_set_ne n1] at sj
        rw [List.getElem?_set_ne n2] at sk
        exact S.ap j k ds es a n hj hk sj sk
/-- a slot is forgotten -/
theorem SR.setUn (S : SR K ca H0 F0 σ H F Γ) {i : Nat} (v : Option V) : SR K ca H0 F0 (σ.set i v) H F (Γ.set i .un) := by
  refine ⟨S.ext, S.nt0, S.tc0, by rw [List.length_set, List.length_set]; exact S.len, fun j e hj => ?_, fun j ds hj => ?_, fun j k ds es a n hj hk sj sk => ?_, S.own.set_ (fun t z => nomatch z) (fun ds z => nomatch z)⟩
  · rcases get_set hj with ⟨rfl, e1, hl⟩ | ⟨n, hj⟩
    · cases e1
    · rw [List.getElem?_set_ne n]; exact S.va j e hj
  · rcases get_set hj with ⟨rfl, e1, hl⟩ | ⟨n, hj⟩
    · cases e1
    · rw [List.getElem?_set_ne n]; exact S.ow j ds hj
  · rcases get_set hj with ⟨rfl, e1, hl⟩ | ⟨n1, hj⟩
    · cases e1
    · rcases get_set hk with ⟨rfl, e1, hl⟩ | ⟨n2, hk⟩
      · cases e1
      · rw [List.getElem?_set_ne n1] at sj
        rw [List.getElem?_set_ne n2] at sk
        exact S.ap j k ds es a n hj hk sj sk
/-- a new list is stored -/
theorem SR.setTm (S : SR K ca H0 F0 σ H F Γ) (x : Ext ca H F H' F') {i : Nat} {v : V} {ds : List D} {B : BT} (h : RV K ca B H F' H' v (.tm ds)) : SR K ca H0 F0 (σ.set i (some v)) H' F' (Γ.set i (.ow ds)) := by
  have S' := S.mono x
  obtain ⟨a, vs, rfl, h1, h2, h3, h4⟩ := h
  refine ⟨S'.ext, S.nt0, S.tc0, by rw [List.length_set, List.length_set]; exact S.len, fun j e hj => ?_, fun j es hj => ?_, fun j k es fs b n hj hk sj sk => ?_, S.own.keep (fun j t e => by
    rcases get_set e with ⟨_, e1, _⟩ | ⟨n, e⟩
    · cases e1
    · exact ⟨e, List.getElem?_set_ne n⟩) (fun j es b g s' => by
    rcases get_set g with ⟨e0, e1, hl⟩ | ⟨n, g⟩
    · subst e0
      rw [List.getElem?_set_self (S.lt hl)] at s'
      cases s'
      exact .inr h1
    · rw [List.getElem?_set_ne n] at s'
      exact .inl ⟨j, es, g, s'⟩) x.ff fun b u e n f _ => ⟨x.hh.st b u e n, x.keepN e f n⟩⟩
  · rcases get_set hj with ⟨rfl, e1, hl⟩ | ⟨n, hj⟩
    · cases e1
    · rw [List.getElem?_set_ne n]; exact S'.va j e hj
  · rcases get_set hj with ⟨rfl, e1, hl⟩ | ⟨n, hj⟩
    · injection e1 with e1; subst e1
      exact ⟨a, vs, List.getElem?_set_self (S.lt hl), S.ext.hh.free h1, h2, h3, h4⟩
    · rw [List.getElem?_set_ne n]; exact S'.ow j es hj
  · have key : ∀ {j : Nat} {es : List D}, Γ[j]? = some (.ow es) → σ[j]? = some (some (.ref a)) → False := fun {j es} g s => by
      obtain ⟨c, ws, s', _, _, g4, _⟩ := S.ow j es g
      rw [s] at s'
      cases s'
      exact ne_noT g4 (fun _ z => nomatch z) h1 rfl
    rcases get_set hj with ⟨rfl, e1, hl⟩ | ⟨n1, hj⟩
    · rw [List.getElem?_set_self (S.lt hl)] at sj
      cases sj
      rcases get_set hk with ⟨rfl, e1, hl⟩ | ⟨n2, hk⟩
      · exact n rfl
      · rw [List.getElem?_set_ne n2] at sk
        exact key hk sk
    · rcases get_set hk with ⟨rfl, e1, hl⟩ | ⟨n2, hk⟩
      · rw [List.getElem?_set_self (S.lt hl)] at sk
        cases sk
        rw [List.getElem?_set_ne n1] at sj
        exact key hj sj
      · rw [List.getElem?_set_ne n1] at sj
        rw [List.getElem?_set_ne n2] at sk
        exact S.ap j k es fs b n hj hk sj sk
/-- an own list is frozen -/
theorem SR.frzE (S : SR K ca H0 F0 σ H F Γ) {i : Nat} {ds : List D} (h : Γ[i]? = some (.ow ds)) {a : Addr} {vs : List V} (s : σ[i]? = some (some (.ref a))) (h1 : noT H0 a = none) (h2 : F a = none) (h3 : H a = some (.lst vs)) (h4 : Dens K ca F vs ds) : SR K ca H0 F0 σ H (upd F a (.lst vs)) (Γ.set i (.va (.lst ds))) := by
  have sm : Same F (upd F a (.lst vs)) := same_upd h2
  refine ⟨S.ext.frz h1 h3 h2, S.nt0, S.tc0, by rw [List.length_set]; exact S.len, fun j e hj => ?_, fun j es hj => ?_, fun j k es fs b n hj hk sj sk => ?_, S.own.keep (fun j t e => by
    rcases get_set e with ⟨_, e1, _⟩ | ⟨n, e⟩
    · cases e1
    · exact ⟨e, rfl⟩) (fun j es b g s' => by
    rcases get_set g with ⟨_, e1, _⟩ | ⟨n, g⟩
    · cases e1
    · exact .inl ⟨j, es, g, s'⟩) sm fun b u e n f k => ⟨e, by rw [upd_ne fun z => k i ds h (by rw [s, z])]; exact f⟩⟩
  · rcases get_set hj with ⟨rfl, e1, hl⟩ | ⟨n, hj⟩
    · injection e1 with e1; subst e1
      exact ⟨_, s, .lst upd_same (h4.mono sm)⟩
    · obtain ⟨v, g1, g2⟩ := S.va j e hj
      exact ⟨v, g1, g2.mono sm⟩
  · rcases get_set hj with ⟨rfl, e1, hl⟩ | ⟨n, hj⟩
    · cases e1
    · obtain ⟨b, ws, g1, g2, g3, g4, g5⟩ := S.ow j es hj
      have hb : b ≠ a := fun e => by subst e; exact S.ap i j ds es b n h hj s g1
      exact ⟨b, ws, g1, g2, by rw [upd_ne hb]; exact g3, g4, g5.mono sm⟩
  · rcases get_set hj with ⟨rfl, e1, hl⟩ | ⟨n1, hj⟩
    · cases e1
    · rcases get_set hk with ⟨rfl, e1, hl⟩ | ⟨n2, hk⟩
      · cases e1
      · exact S.ap j k es fs b n hj hk sj sk
theorem SR.frz (S : SR K ca H0 F0 σ H F Γ) {i : Nat} {ds : List D} (h : Γ[i]? = some (.ow ds)) : ∃ F', Same F F' ∧ SR K ca H0 F0 σ H F' (Γ.set i (.va (.lst ds))) := by
  obtain ⟨a, vs, s, h1, h2, h3, h4⟩ := S.ow i ds h
  exact ⟨_, same_upd h2, S.frzE h s h1 h2 h3 h4⟩
/-- an own list is changed -/
theorem SR.upd (S : SR K ca H0 F0 σ H F Γ) {i : Nat} {ds es : List D} {a : Addr} {ws : List V} (h : Γ[i]? = some (.ow ds)) (s : σ[i]? = some (some (.ref a))) (hw : Dens K ca F ws es) :
    SR K ca H0 F0 σ (upd H a (.lst ws)) F (Γ.set i (.ow es)) := by
  obtain ⟨a', vs, s', h1, h2, h3, h4⟩ := S.ow i ds h
  rw [s] at s'
  cases s'
  refine ⟨⟨S.ext.hh.updO h1 (Pl.lst h3), S.ext.ff, fun b o e => ?_, S.ext.nw, S.ext.nt⟩, S.nt0, S.tc0, by rw [List.length_set]; exact S.len, fun j e hj => ?_, fun j fs hj => ?_, fun j k fs gs b n hj hk sj sk => ?_, S.own.keep (fun j t e => by
    rcases get_set e with ⟨_, e1, _⟩ | ⟨n, e⟩
    · cases e1
    · exact ⟨e, rfl⟩) (fun j fs b g s' => by
    rcases get_set g with ⟨e0, e1, _⟩ | ⟨n, g⟩
    · subst e0; exact .inl ⟨i, ds, h, s'⟩
    · exact .inl ⟨j, fs, g, s'⟩) (Same.refl _) fun b u e n f k => ⟨by rw [upd_ne fun z => k i ds h (by rw [s, z])]; exact e, f⟩⟩
  · rw [upd_ne (ne_of_none e h2)]; exact S.ext.fh b o e
  · rcases get_set hj with ⟨rfl, e1, hl⟩ | ⟨n, hj⟩
    · cases e1
    · exact S.va j e hj
  · rcases get_set hj with ⟨rfl, e1, hl⟩ | ⟨n, hj⟩
    · injection e1 with e1; subst e1
      exact ⟨a, ws, s, h1, h2, upd_same, hw⟩
    · obtain ⟨b, us, g1, g2, g3, g4, g5⟩ := S.ow j fs hj
      have hb : b ≠ a := fun e => by subst e; exact S.ap i j ds fs b n h hj s g1
      exact ⟨b, us, g1, g2, g3, by rw [upd_ne hb]; exact g4, g5⟩
  · rcases get_set hj with ⟨rfl, e1, hl⟩ | ⟨n1, hj⟩
    · rcases get_set hk with ⟨rfl, e2, hl2⟩ | ⟨n2, hk⟩
      · exact n rfl
      · exact S.ap i k ds gs b n h hk sj sk
    · rcases get_set hk with ⟨rfl, e1, hl⟩ | ⟨n2, hk⟩
      · exact S.ap j i fs ds b n hj h sj sk
      · exact S.ap j k fs gs b n hj hk sj sk
end
/-! ### the judgements over data -/
/-- the own lists of a body at the slots -/
def BB (σ : L2.St) (Γ : Gm) : BT := fun j a ds => σ[j]? = some (some (.ref a)) ∧ Γ[j]? = some (.ow ds)
abbrev RVs (K : PySem.W.Frag) (ca : Nat → Addr) (B : BT) (H F' H' : Hp) : List V → List R → Prop := Paired (RV K ca B H F' H')
theorem RVs.mono {K : PySem.W.Frag} {ca : Nat → Addr} {B : BT} {H F1 H1 F2 H2 : Hp} (x : Ext ca H1 F1 H2 F2) : ∀ {vs : List V} {rs : List R}, RVs K ca B H F1 H1 vs rs → RVs K ca B H F2 H2 vs rs
  | _, _, .nil => .nil
  | _, _, .cons h hs => .cons (h.mono x) (RVs.mono x hs)
theorem RVs.back {K : PySem.W.Frag} {ca : Nat → Addr} {B : BT} {Ha H F1 H1 : Hp} (s : SameN ca Ha H) : ∀ {vs : List V} {rs : List R}, RVs K ca B H F1 H1 vs rs → RVs K ca B Ha F1 H1 vs rs
  | _, _, .nil => .nil
  | _, _, .cons h hs => .cons (h.back s) (RVs.back s hs)
def tEV (K : PySem.W.Frag) (ca : Nat → Addr) (m : Gm → Option R) : TE := fun σ H Q => ∃ H0 F0 F Γ r, SR K ca H0 F0 σ H F Γ ∧ m Γ = some r ∧ ∀ v H' F', Ext ca H F H' F' → RV K ca (BB σ Γ) H F' H' v r → Q v H'
def tTV (K : PySem.W.Frag) (ca : Nat → Addr) (m : Gm → Option Bool) : TT := fun σ H Q => ∃ H0 F0 F Γ b, SR K ca H0 F0 σ H F Γ ∧ m Γ = some b ∧ ∀ H' F', Ext ca H F H' F' → Q b H'
def tAV (K : PySem.W.Frag) (ca : Nat → Addr) (m : Gm → Option (List R)) : TA := fun σ H Q => ∃ H0 F0 F Γ rs, SR K ca H0 F0 σ H F Γ ∧ m Γ = some rs ∧ ∀ vs H' F', Ext ca H F H' F' → RVs K ca (BB σ Γ) H F' H' vs rs → Q vs H'
/-- slots outside T stay -/
def Kp (T : List Nat) (σ σ' : L2.St) : Prop := ∀ j, j ∉ T → σ'[j]? = σ[j]?
def KpG (T : List Nat) (g : Gm) : Out → Prop
  | .nx g' => ∀ j, j ∉ T → g'[j]? = g[j]?
  | .rt _ => True
  | .bk g' => ∀ j, j ∉ T → g'[j]? = g[j]?
  | .ct g' => ∀ j, j ∉ T → g'[j]? = g[j]?
  | .ex _ => True
def PostO (K : PySem.W.Frag) (ca : Nat → Addr) (D : Ends) (H0 F0 Fs : Hp) (σ : L2.St) (T : List Nat) : Out → Prop
  | .nx g => ∀ σ' H' F', SR K ca H0 F0 σ' H' F' g → Same Fs F' → Kp T σ σ' → D.nx σ' H'
  | .rt r => ∀ v H' F', Ext ca H0 F0 H' F' → RV K ca (fun _ _ _ => False) H0 F' H' v r → D.rt v H'
  | .bk g => ∀ σ' H' F', SR K ca H0 F0 σ' H' F' g → Same Fs F' → Kp T σ σ' → D.bk σ' H'
  | .ct g => ∀ σ' H' F', SR K ca H0 F0 σ' H' F' g → Same Fs F' → Kp T σ σ' → D.ct σ' H'
  | .ex _ => False
def tSV (K : PySem.W.Frag) (ca : Nat → Addr) (m : Gm → Option Out) (T : List Nat) : TS := fun D σ H => ∃ H0 F0 F Γ o, SR K ca H0 F0 σ H F Γ ∧ m Γ = some o ∧ PostO K ca D H0 F0 F σ T o
abbrev EV (X : Cx) (ca : Nat → Addr) (e : Expr) (m : Gm → Option R) : Prop := PE X e (tEV X.K ca m)
abbrev TV (X : Cx) (ca : Nat → Addr) (e : Expr) (m : Gm → Option Bool) : Prop := PT X e (tTV X.K ca m)
abbrev WV (X : Cx) (ca : Nat → Addr) (e : Expr) (m : Gm → Option Bool) : Prop := PW X e (tTV X.K ca m)
abbrev AV (X : Cx) (ca : Nat → Addr) (es : List Expr) (m : Gm → Option (List R)) : Prop := PA X es (tAV X.K ca m)
structure SV (X : Cx) (ca : Nat → Addr) (st : Stmt) (m : Gm → Option Out) (T : List Nat) : Prop where
  ps : PS X st (tSV X.K ca m T)
  kp : ∀ g o, m g = some o → KpG T g o
structure SVs (X : Cx) (ca : Nat → Addr) (st : List Stmt) (m : Gm → Option Out) (T : List Nat) : Prop where
  ps : PSs X st (tSV X.K ca m T)
  kp : ∀ g o, m g = some o → KpG T g o
section
variable {X : Cx}
theorem pe_imp {e : Expr} {t t' : TE} (h : PE X e t) (i : ∀ σ H Q, t' σ H Q → t σ H Q) : PE X e t' := ⟨fun pins s σ H Q I q => h.run pins s σ H Q I (i σ H Q q)⟩
theorem pt_imp {e : Expr} {t t' : TT} (h : PT X e t) (i : ∀ σ H Q, t' σ H Q → t σ H Q) : PT X e t' := ⟨fun pins s σ H Q I q => h.run pins s σ H Q I (i σ H Q q)⟩
theorem pw_imp {e : Expr} {t t' : TT} (h : PW X e t) (i : ∀ σ H Q, t' σ H Q → t σ H Q) : PW X e t' := ⟨fun wh pins s σ H Q I q => h.run wh pins s σ H Q I (i σ H Q q)⟩
theorem pa_imp {es : List Expr} {t t' : TA} (h : PA X es t) (i : ∀ σ H Q, t' σ H Q → t σ H Q) : PA X es t' := ⟨fun pos pins s σ H Q I q => h.run pos pins s σ H Q I (i σ H Q q)⟩
theorem ps_imp {st : Stmt} {t t' : TS} (h : PS X st t) (i : ∀ D σ H, t' D σ H → t D σ H) : PS X st t' := ⟨fun pins s σ H D I q => h.run pins s σ H D I (i D σ H q)⟩
theorem pss_imp {st : List Stmt} {t t' : TS} (h : PSs X st t) (i : ∀ D σ H, t' D σ H → t D σ H) : PSs X st t' := ⟨fun pins s σ H D I q => h.run pins s σ H D I (i D σ H q)⟩
end
/-! ### expressions -/
def eV (i : Nat) : Gm → Option R := fun g => match g[i]? with
  | some (.va d) => some (.va d)
  | some (.ow ds) => some (.bw i ds)
  | _ => none
def eC (d : D) : Gm → Option R := fun _ => some (.va d)
def e1 (f : R → Option R) (a : Gm → Option R) : Gm → Option R := fun g => (a g).bind f
def e2 (f : R → R → Option R) (a b : Gm → Option R) : Gm → Option R := fun g => (a g).bind fun x => (b g).bind fun y => f x y
def aN : Gm → Option (List R) := fun _ => some []
def R.fz : R → R
  | .tm ds => .va (.lst ds)
  | r => r
/-- arguments: a temporary list is frozen at once -/
def aC (a : Gm → Option R) (b : Gm → Option (List R)) : Gm → Option (List R) := fun g => (a g).bind fun x => (b g).bind fun y => some (x.fz :: y)
def eA (f : List R → Option R) (a : Gm → Option (List R)) : Gm → Option R := fun g => (a g).bind f
section
variable {X : Cx} {ca : Nat → Addr}
theorem ev_var {i : Nat} {x : Str} {pos : Pos} (h : PE X (.Name x pos) (tVar i)) : EV X ca (.Name x pos) (eV i) := by
  refine pe_imp h fun σ H Q ⟨H0, F0, F, Γ, r, S, e, q⟩ => ?_
  unfold eV at e
  split at e
  · rename_i d g
    cases e
    obtain ⟨v, s, h1⟩ := S.va i d g
    exact ⟨v, s, q v H F (.refl S.ext.fh) h1⟩
  · rename_i ds g
    cases e
    obtain ⟨a, vs, s, h1, h2, h3, h4⟩ := S.ow i ds g
    exact ⟨_, s, q _ H F (.refl S.ext.fh) ⟨a, vs, rfl, ⟨s, g⟩, h2, h3, h4⟩⟩
  · cases e
theorem ev_c {e : Expr} {v : V} {d : D} (h : PE X e (tC v)) (hd : ∀ F, Den X.K ca F v d) : EV X ca e (eC d) := by
  refine pe_imp h fun σ H Q ⟨H0, F0, F, Γ, r, S, e, q⟩ => ?_
  cases e
  exact q v H F (.refl S.ext.fh) (hd F)
/-- an operator by values -/
def OpD (K : PySem.W.Frag) (ca : Nat → Addr) (r : R2) (f : R → R → Option R) : Prop :=
  ∀ {B : BT} {Hs F H : Hp} {v w : V} {x y z : R} {Q : VK}, Same F H → RV K ca B Hs F H v x → RV K ca B Hs F H w y → f x y = some z → (∀ u H' F', Ext ca H F H' F' → RV K ca B H F' H' u z → Q u H') → r v w H Q
def UnD (K : PySem.W.Frag) (ca : Nat → Addr) (r : V → Hp → VK → Prop) (f : R → Option R) : Prop :=
  ∀ {B : BT} {Hs F H : Hp} {v : V} {x z : R} {Q : VK}, Same F H → RV K ca B Hs F H v x → f x = some z → (∀ u H' F', Ext ca H F H' F' → RV K ca B H F' H' u z → Q u H') → r v H Q
def CallD (K : PySem.W.Frag) (ca : Nat → Addr) (r : List V → Hp → VK → Prop) (f : List R → Option R) : Prop :=
  ∀ {B : BT} {Hs F H : Hp} {vs : List V} {xs : List R} {z : R} {Q : VK}, Same F H → RVs K ca B Hs F H vs xs → f xs = some z → (∀ u H' F', Ext ca H F H' F' → RV K ca B H F' H' u z → Q u H') → r vs H Q
theorem t_op {r : R2} {f : R → R → Option R} {m n : Gm → Option R} (o : OpD X.K ca r f) : ∀ σ H Q, tEV X.K ca (e2 f m n) σ H Q → tOp r (tEV X.K ca m) (tEV X.K ca n) σ H Q := by
  rintro σ H Q ⟨H0, F0, F, Γ, z, S, e, q⟩
  unfold e2 at e
  obtain ⟨x, ex, e⟩ := Option.bind_eq_some_iff.mp e
  obtain ⟨y, ey, e⟩ := Option.bind_eq_some_iff.mp e
  refine ⟨H0, F0, F, Γ, x, S, ex, fun v H1 F1 x1 r1 => ⟨H0, F0, F1, Γ, y, S.mono x1, ey, fun w H2 F2 x2 r2 => ?_⟩⟩
  exact o x2.fh (r1.mono x2) (r2.back x1.hh) e fun u H3 F3 x3 r3 => q u H3 F3 ((x1.trans x2).trans x3) (r3.back (x1.hh.trans x2.hh))
theorem t_un {r : V → Hp → VK → Prop} {f : R → Option R} {m : Gm → Option R} (o : UnD X.K ca r f) : ∀ σ H Q, tEV X.K ca (e1 f m) σ H Q → tUn r (tEV X.K ca m) σ H Q := by
  rintro σ H Q ⟨H0, F0, F, Γ, z, S, e, q⟩
  unfold e1 at e
  obtain ⟨x, ex, e⟩ := Option.bind_eq_some_iff.mp e
  refine ⟨H0, F0, F, Γ, x, S, ex, fun v H1 F1 x1 r1 => ?_⟩
  exact o x1.fh r1 e fun u H3 F3 x3 r3 => q u H3 F3 (x1.trans x3) (r3.back x1.hh)
theorem t_call {r : List V → Hp → VK → Prop} {f : List R → Option R} {m : Gm → Option (List R)} (o : CallD X.K ca r f) : ∀ σ H Q, tEV X.K ca (eA f m) σ H Q → tCB r (tAV X.K ca m) σ H Q := by
  rintro σ H Q ⟨H0, F0, F, Γ, z, S, e, q⟩
  unfold eA at e
  obtain ⟨x, ex, e⟩ := Option.bind_eq_some_iff.mp e
  refine ⟨H0, F0, F, Γ, x, S, ex, fun v H1 F1 x1 r1 => ?_⟩
  exact o x1.fh r1 e fun u H3 F3 x3 r3 => q u H3 F3 (x1.trans x3) (r3.back x1.hh)
variable {a b e : Expr} {es : List Expr} {m n : Gm → Option R} {ms : Gm → Option (List R)} {pos p : Pos}
theorem ev_op {op : Operator} {r : R2} {f : R → R → Option R} (ho : OpR X (binaryOp op) r) (o : OpD X.K ca r f) (ha : EV X ca a m) (hb : EV X ca b n) : EV X ca (.BinOp a op b pos) (e2 f m n) := pe_imp (pe_op ho ha hb) (t_op o)
theorem ev_un {op : UnaryOp} {r : V → Hp → VK → Prop} {f : R → Option R} (ho : UnR X (unaryOp op) r) (o : UnD X.K ca r f) (ha : EV X ca a m) : EV X ca (.UnaryOp op a pos) (e1 f m) := pe_imp (pe_un ho ha) (t_un o)
theorem ev_cmp {op : CmpOp} {r : R2} {f : R → R → Option R} (ho : OpR X (compareOp op) r) (o : OpD X.K ca r f) (ha : EV X ca a m) (hb : EV X ca b n) (hm : behindInMarks op b = false) : EV X ca (.Compare a [op] [b] pos) (e2 f m n) := pe_imp (pe_cmpR ho ha hb hm) (t_op o)
theorem ev_ix {r : R2} {f : R → R → Option R} (hr : IxR X r) (o : OpD X.K ca r f) (ha : EV X ca a m) (hb : EV X ca b n) (hs : PlainIx b) : EV X ca (.Subscript a b pos) (e2 f m n) := pe_imp (pe_ix hr ha hb hs) (t_op o)
theorem av_nil : AV X ca [] aN := by
  refine pa_imp pa_nil ?_
  rintro σ H Q ⟨H0, F0, F, Γ, z, S, e, q⟩
  cases e
  exact q [] H F (.refl S.ext.fh) .nil
theorem RV.fz {K : PySem.W.Frag} {B : BT} {H F H1 F1 : Hp} {v : V} {r : R} (x : Ext ca H F H1 F1) (h : RV K ca B H F1 H1 v r) : ∃ F2, Ext ca H F H1 F2 ∧ RV K ca B H F2 H1 v r.fz := by
  cases r with
  | va d => exact ⟨F1, x, h⟩
  | tm ds =>
    obtain ⟨F2, x2, _, h2⟩ := RV.froze x h rfl
    exact ⟨F2, x2, h2⟩
  | bw j ds => exact ⟨F1, x, h⟩
theorem av_cons (ha : EV X ca e m) (hr : AV X ca es ms) (hs : starEach (e :: es) X.env = (false, eval e X.env) :: starEach es X.env := by rfl) : AV X ca (e :: es) (aC m ms) := by
  refine pa_imp (pa_cons ha hr hs) ?_
  rintro σ H Q ⟨H0, F0, F, Γ, z, S, e, q⟩
  unfold aC at e
  obtain ⟨x, ex, e⟩ := Option.bind_eq_some_iff.mp e
  obtain ⟨y, ey, e⟩ := Option.bind_eq_some_iff.mp e
  cases e
  refine ⟨H0, F0, F, Γ, x, S, ex, fun v H1 F1 x1 r1 => ?_⟩
  obtain ⟨F1', x1', r1'⟩ := RV.fz x1 r1
  exact ⟨H0, F0, F1', Γ, y, S.mono x1', ey, fun w H2 F2 x2 r2 => q _ _ F2 (x1'.trans x2) (.cons (r1'.mono x2) (r2.back x1'.hh))⟩
end
end BK
namespace BK
open PySem PySem.Spec L2
set_option autoImplicit false
/-! ### tests -/
def bE (a : Gm → Option R) : Gm → Option Bool := fun g => (a g).bind fun r => match r with
  | .va (.bl k) => some k
  | _ => none
def bNot (a : Gm → Option Bool) : Gm → Option Bool := fun g => (a g).map (!·)
def bAnd (a b : Gm → Option Bool) : Gm → Option Bool := fun g => (a g).bind fun k => if k = true then b g else some false
def bOr (a b : Gm → Option Bool) : Gm → Option Bool := fun g => (a g).bind fun k => if k = true then some true else b g
/-- .. as values -/
def eB (a : Gm → Option Bool) : Gm → Option R := fun g => (a g).map fun k => .va (.bl k)
def eAnd (a b : Gm → Option R) : Gm → Option R := fun g => (bE a g).bind fun k => if k = true then b g else some (.va (.bl false))
def eOr (a b : Gm → Option R) : Gm → Option R := fun g => (bE a g).bind fun k => if k = true then some (.va (.bl true)) else b g
section
variable {X : Cx} {ca : Nat → Addr} {a b e : Expr} {rest : List Expr} {m n : Gm → Option R} {k l : Gm → Option Bool} {pos : Pos}
theorem bE_some {g : Gm} {c : Bool} : bE m g = some c ↔ m g = some (.va (.bl c)) := by
  unfold bE
  cases q : m g with
  | none => simp
  | some r =>
    simp only [Option.bind_some]
    split
    · simp
    · rename_i h
      constructor
      · intro z; cases z
      · intro z; cases z; exact absurd rfl (h _)
theorem t_test {σ : L2.St} {H : Hp} {Q : Bool → Hp → Prop} (h : tTV X.K ca (bE m) σ H Q) : tEV X.K ca m σ H (fun x H1 => ∃ c, x = .bl c ∧ Q c H1) := by
  obtain ⟨H0, F0, F, Γ, c, S, e, q⟩ := h
  refine ⟨H0, F0, F, Γ, _, S, bE_some.mp e, fun v H' F' x r => ?_⟩
  cases r
  exact ⟨c, rfl, q H' F' x⟩
/-- a value that is a bool, as a test -/
theorem tv_val (h : EV X ca e m) (he : ∀ whole, isTrue e X.env whole = (do let v ← whole; standAt e.pos; holding [v] (truthy v)) := by intro _; rfl) : TV X ca e (bE m) := pt_imp (pt_val h he) fun σ H Q q => t_test q
theorem tv_cmp {op : CmpOp} {r : R2} {f : R → R → Option R} (ho : OpR X (compareOp op) r) (o : OpD X.K ca r f) (ha : EV X ca a m) (hb : EV X ca b n) (hm : behindInMarks op b = false) : TV X ca (.Compare a [op] [b] pos) (bE (e2 f m n)) :=
  pt_imp (pt_cmpR ho ha hb hm) fun σ H Q q => t_op o _ _ _ (t_test q)
theorem tv_not (h : TV X ca a k) : TV X ca (.UnaryOp .Not a pos) (bNot k) := by
  refine pt_imp (pt_not h) ?_
  rintro σ H Q ⟨H0, F0, F, Γ, c, S, e, q⟩
  unfold bNot at e
  cases z : k Γ with
  | none => rw [z] at e; cases e
  | some d =>
    rw [z] at e
    cases e
    exact ⟨H0, F0, F, Γ, d, S, z, q⟩
theorem wv_one (h : TV X ca a k) : WV X ca (.BoolOp .And [a] pos) k := pw_and1 h
theorem wv_one' (h : TV X ca a k) : WV X ca (.BoolOp .Or [a] pos) k := pw_or1 h
theorem wv_and (ha : TV X ca a k) (hb : WV X ca (.BoolOp .And (b :: rest) pos) l) : WV X ca (.BoolOp .And (a :: b :: rest) pos) (bAnd k l) := by
  refine pw_imp (pw_and ha hb) ?_
  rintro σ H Q ⟨H0, F0, F, Γ, c, S, e, q⟩
  unfold bAnd at e
  obtain ⟨d, ed, e⟩ := Option.bind_eq_some_iff.mp e
  refine ⟨H0, F0, F, Γ, d, S, ed, fun H1 F1 x1 => ?_⟩
  cases d with
  | true => exact iteT ⟨H0, F0, F1, Γ, c, S.mono x1, by simpa using e, fun H2 F2 x2 => q H2 F2 (x1.trans x2)⟩
  | false =>
    obtain rfl : false = c := by simpa using e
    exact iteF (q H1 F1 x1)
theorem wv_or (ha : TV X ca a k) (hb : WV X ca (.BoolOp .Or (b :: rest) pos) l) : WV X ca (.BoolOp .Or (a :: b :: rest) pos) (bOr k l) := by
  refine pw_imp (pw_or ha hb) ?_
  rintro σ H Q ⟨H0, F0, F, Γ, c, S, e, q⟩
  unfold bOr at e
  obtain ⟨d, ed, e⟩ := Option.bind_eq_some_iff.mp e
  refine ⟨H0, F0, F, Γ, d, S, ed, fun H1 F1 x1 => ?_⟩
  cases d with
  | false => exact iteF ⟨H0, F0, F1, Γ, c, S.mono x1, by simpa using e, fun H2 F2 x2 => q H2 F2 (x1.trans x2)⟩
  | true =>
    obtain rfl : true = c := by simpa using e
    exact iteT (q H1 F1 x1)
theorem tv_w (h : WV X ca e k) : TV X ca e k := h.pt
/-- and, or, not as values -/
theorem ev_one {op} (h : EV X ca a m) : EV X ca (.BoolOp op [a] pos) m := pe_one h
theorem ev_and (ha : EV X ca a m) (hb : EV X ca (.BoolOp .And (b :: rest) pos) n) : EV X ca (.BoolOp .And (a :: b :: rest) pos) (eAnd m n) := by
  refine pe_imp (pe_and ha hb) ?_
  rintro σ H Q ⟨H0, F0, F, Γ, z, S, e, q⟩
  unfold eAnd at e
  obtain ⟨d, ed, e⟩ := Option.bind_eq_some_iff.mp e
  refine ⟨H0, F0, F, Γ, _, S, bE_some.mp ed, fun v H1 F1 x1 r1 => ?_⟩
  cases r1
  refine ⟨d, rfl, ?_⟩
  cases d with
  | true => exact iteT ⟨H0, F0, F1, Γ, z, S.mono x1, by simpa using e, fun w H2 F2 x2 r2 => q w H2 F2 (x1.trans x2) (r2.back x1.hh)⟩
  | false =>
    obtain rfl : R.va (.bl false) = z := by simpa using e
    exact iteF (q _ H1 F1 x1 (.bl false))
/-- not x as a value -/
def eNot (a : Gm → Option R) : Gm → Option R := fun g => (bE a g).map fun k => .va (.bl (!k))
theorem ev_not (ha : EV X ca a m) : EV X ca (.UnaryOp .Not a pos) (eNot m) := by
  refine pe_imp (pe_not ha) ?_
  rintro σ H Q ⟨H0, F0, F, Γ, z, S, e, q⟩
  unfold eNot at e
  cases ed : bE m Γ with
  | none => rw [ed] at e; cases e
  | some d =>
    rw [ed] at e
    cases e
    refine ⟨H0, F0, F, Γ, _, S, bE_some.mp ed, fun v H1 F1 x1 r1 => ?_⟩
    cases r1
    exact ⟨d, rfl, q _ H1 F1 x1 (.bl _)⟩
end
/-! ### statements -/
def sNil : Gm → Option Out := fun g => some (.nx g)
def sCons (m n : Gm → Option Out) : Gm → Option Out := fun g => (m g).bind fun o => match o with
  | .nx g' => n g'
  | .rt r => some (.rt r)
  | .bk g' => some (.bk g')
  | .ct g' => some (.ct g')
  | .ex x => some (.ex x)
def retR : R → R
  | .bw _ ds => .tm ds
  | r => r
def sRet (m : Gm → Option R) : Gm → Option Out := fun g => (m g).map fun r => .rt (retR r)
def sRetN : Gm → Option Out := fun _ => some (.rt (.va .non))
def setR (g : Gm) (i : Nat) : R → Option Gm
  | .va d => some (g.set i (.va d))
  | .tm ds => some (g.set i (.ow ds))
  | .bw _ _ => none
def sSet (i : Nat) (m : Gm → Option R) : Gm → Option Out := fun g => (m g).bind fun r => (setR g i r).map .nx
def sIf (c : Gm → Option Bool) (t u : Gm → Option Out) : Gm → Option Out := fun g => (c g).bind fun k => if k = true then t g else u g
def sExp (m : Gm → Option R) : Gm → Option Out := fun g => (m g).map fun _ => .nx g
def sBk : Gm → Option Out := fun g => some (.bk g)
def sCt : Gm → Option Out := fun g => some (.ct g)
def sNv : Gm → Option Out := fun _ => none
/-- a while of at most so many turns -/
def sWh (c : Gm → Option Bool) (b : Gm → Option Out) : Nat → Gm → Option Out
  | 0, _ => none
  | n + 1, g => (c g).bind fun k => if k = true then (b g).bind fun o => match o with
      | .nx g' => sWh c b n g'
      | .ct g' => sWh c b n g'
      | .bk g' => some (.nx g')
      | .rt r => some (.rt r)
      | .ex x => some (.ex x)
    else some (.nx g)
section
variable {X : Cx} {ca : Nat → Addr} {st : Stmt} {rest : List Stmt} {m n : Gm → Option Out} {me : Gm → Option R} {e : Expr} {T T' : List Nat} {pos : Pos}
theorem Kp.refl {T : List Nat} {σ : L2.St} : Kp T σ σ := fun _ _ => rfl
theorem Kp.trans {T T' U : List Nat} {σ σ' σ'' : L2.St} (a : Kp T σ σ') (b : Kp T' σ' σ'') (h1 : ∀ j ∈ T, j ∈ U) (h2 : ∀ j ∈ T', j ∈ U) : Kp U σ σ'' := fun j hj => by
  rw [b j fun z => hj (h2 j z), a j fun z => hj (h1 j z)]
theorem Kp.mono {T U : List Nat} {σ σ' : L2.St} (a : Kp T σ σ') (h1 : ∀ j ∈ T, j ∈ U) : Kp U σ σ' := fun j hj => a j fun z => hj (h1 j z)
theorem KpG.mono {T U : List Nat} {g : Gm} {o : Out} (h1 : ∀ j ∈ T, j ∈ U) (a : KpG T g o) : KpG U g o := by
  cases o with
  | nx g' => exact fun j hj => a j fun z => hj (h1 j z)
  | rt r => trivial
  | bk g' => exact fun j hj => a j fun z => hj (h1 j z)
  | ct g' => exact fun j hj => a j fun z => hj (h1 j z)
  | ex x => trivial
theorem KpG.after {T T' U : List Nat} {g g' : Gm} {o : Out} (a : KpG T g (.nx g')) (b : KpG T' g' o) (h1 : ∀ j ∈ T, j ∈ U) (h2 : ∀ j ∈ T', j ∈ U) : KpG U g o := by
  have a : ∀ j, j ∉ T → g'[j]? = g[j]? := a
  cases o with
  | nx g2 => exact fun j hj => ((b : ∀ j, j ∉ T' → g2[j]? = g'[j]?) j fun z => hj (h2 j z)).trans (a j fun z => hj (h1 j z))
  | rt r => trivial
  | bk g2 => exact fun j hj => ((b : ∀ j, j ∉ T' → g2[j]? = g'[j]?) j fun z => hj (h2 j z)).trans (a j fun z => hj (h1 j z))
  | ct g2 => exact fun j hj => ((b : ∀ j, j ∉ T' → g2[j]? = g'[j]?) j fun z => hj (h2 j z)).trans (a j fun z => hj (h1 j z))
  | ex x => trivial
theorem PostO.mono {K : PySem.W.Frag} {D : Ends} {H0 F0 Fs F1 : Hp} {σ σ1 : L2.St} {T T' U : List Nat} {o : Out} (s : Same Fs F1) (k : Kp T σ σ1) (h1 : ∀ j ∈ T, j ∈ U) (h2 : ∀ j ∈ T', j ∈ U) (p : PostO K ca D H0 F0 Fs σ U o) : PostO K ca D H0 F0 F1 σ1 T' o := by
  cases o with
  | nx g => exact fun σ2 H2 F2 S2 s2 k2 => p σ2 H2 F2 S2 (s.trans s2) (k.trans k2 h1 h2)
  | rt r => exact p
  | bk g => exact fun σ2 H2 F2 S2 s2 k2 => p σ2 H2 F2 S2 (s.trans s2) (k.trans k2 h1 h2)
  | ct g => exact fun σ2 H2 F2 S2 s2 k2 => p σ2 H2 F2 S2 (s.trans s2) (k.trans k2 h1 h2)
  | ex x => exact p
theorem svs_nil : SVs X ca [] sNil [] := by
  refine ⟨pss_imp pss_nil ?_, fun g o e => ?_⟩
  · rintro D σ H ⟨H0, F0, F, Γ, o, S, e, p⟩
    cases e
    exact p σ H F S (Same.refl _) .refl
  · cases e
    exact fun j _ => rfl
theorem svs_cons (h1 : SV X ca st m T) (h2 : SVs X ca rest n T') : SVs X ca (st :: rest) (sCons m n) (T ++ T') := by
  have i1 : ∀ j ∈ T, j ∈ T ++ T' := fun j h => List.mem_append_left _ h
  have i2 : ∀ j ∈ T', j ∈ T ++ T' := fun j h => List.mem_append_right _ h
  refine ⟨pss_imp (pss_cons h1.ps h2.ps) ?_, fun g o e => ?_⟩
  · rintro D σ H ⟨H0, F0, F, Γ, o, S, e, p⟩
    unfold sCons at e
    obtain ⟨o1, e1, e⟩ := Option.bind_eq_some_iff.mp e
    refine ⟨H0, F0, F, Γ, o1, S, e1, ?_⟩
    cases o1 with
    | nx g1 =>
      intro σ1 H1 F1 S1 s1 k1
      exact ⟨H0, F0, F1, g1, o, S1, e, PostO.mono s1 k1 i1 i2 p⟩
    | rt r => cases e; exact p
    | bk g2 => cases e; exact fun σ2 H2 F2 S2 s2 k2 => p σ2 H2 F2 S2 s2 (k2.mono i1)
    | ct g2 => cases e; exact fun σ2 H2 F2 S2 s2 k2 => p σ2 H2 F2 S2 s2 (k2.mono i1)
    | ex x => cases e; exact p
  · unfold sCons at e
    obtain ⟨o1, e1, e⟩ := Option.bind_eq_some_iff.mp e
    have k1 := h1.kp g o1 e1
    cases o1 with
    | nx g1 => exact k1.after (h2.kp g1 o e) i1 i2
    | rt r => cases e; trivial
    | bk g1 => cases e; exact k1.mono i1
    | ct g1 => cases e; exact k1.mono i1
    | ex x => cases e; trivial
theorem ret_rv {K : PySem.W.Frag} {H0 F0 F H F' H' : Hp} {σ : L2.St} {Γ : Gm} {v : V} {r : R} (S : SR K ca H0 F0 σ H F Γ) (x : Ext ca H F H' F') (h : RV K ca (BB σ Γ) H F' H' v r) : RV K ca (fun _ _ _ => False) H0 F' H' v (retR r) := by
  cases r with
  | va d => exact h
  | tm ds =>
    obtain ⟨a, vs, rfl, h1, h2⟩ := h
    exact ⟨a, vs, rfl, S.ext.hh.free h1, h2⟩
  | bw j ds =>
    obtain ⟨a, vs, rfl, ⟨s, g⟩, h2, h3, h4⟩ := h
    obtain ⟨b, ws, s', g1, _⟩ := S.ow j ds g
    rw [s] at s'
    cases s'
    exact ⟨a, vs, rfl, g1, h2, h3, h4⟩
theorem sv_ret (he : EV X ca e me) : SV X ca (.Return (some e) pos) (sRet me) [] := by
  refine ⟨ps_imp (ps_ret he) ?_, fun g o e => ?_⟩
  · rintro D σ H ⟨H0, F0, F, Γ, o, S, e, p⟩
    unfold sRet at e
    cases z : me Γ with
    | none => rw [z] at e; cases e
    | some r =>
      rw [z] at e
      cases e
      exact ⟨H0, F0, F, Γ, r, S, z, fun v H' F' x h => p v H' F' (S.ext.trans x) (ret_rv S x h)⟩
  · unfold sRet at e
    cases z : me g with
    | none => rw [z] at e; cases e
    | some r => rw [z] at e; cases e; trivial
theorem kpg_set {i : Nat} {g : Gm} {s : Slot} : KpG [i] g (.nx (g.set i s)) := fun j hj => by
  rw [List.getElem?_set_ne]
  intro z
  exact hj (by simp [z])
theorem kp_set {i : Nat} {σ : L2.St} {v : Option V} : Kp [i] σ (σ.set i v) := fun j hj => by
  rw [List.getElem?_set_ne]
  intro z
  exact hj (by simp [z])
theorem setR_kp {i : Nat} {g g' : Gm} {r : R} (h : setR g i r = some g') : KpG [i] g (.nx g') := by
  cases r with
  | va d => cases h; exact kpg_set
  | tm ds => cases h; exact kpg_set
  | bw j ds => cases h
theorem SR.setR {K : PySem.W.Frag} {H0 F0 F H F' H' : Hp} {σ : L2.St} {Γ Γ' : Gm} {v : V} {r : R} {i : Nat} {B : BT} (S : SR K ca H0 F0 σ H F Γ) (x : Ext ca H F H' F') (h : RV K ca B H F' H' v r) (e : setR Γ i r = some Γ') : SR K ca H0 F0 (σ.set i (some v)) H' F' Γ' := by
  cases r with
  | va d => cases e; exact (S.mono x).setVa h
  | tm ds => cases e; exact S.setTm x h
  | bw j ds => cases e
theorem sv_set {i : Nat} {x : Str} {pos' : Pos} (hN : X.N.Nodup) (hi : X.N[i]? = some x) (hx : Loc X.env.scope x) (he : EV X ca e me) (hs : swapsWith e (some (.Name x pos')) pos.line X.env = pure false := by rfl) (hf : X.fn x = true ∨ X.env.scope.names.lookup x = some .local := by first | exact .inl rfl | exact .inr rfl | assumption) :
    SV X ca (.Assign [.Name x pos'] e pos) (sSet i me) [i] := by
  refine ⟨ps_imp (ps_set hN hi hx he hs hf) ?_, fun g o e => ?_⟩
  · rintro D σ H ⟨H0, F0, F, Γ, o, S, e, p⟩
    unfold sSet at e
    obtain ⟨r, er, e⟩ := Option.bind_eq_some_iff.mp e
    cases z : setR Γ i r with
    | none => rw [z] at e; cases e
    | some g' =>
      rw [z] at e
      cases e
      exact ⟨H0, F0, F, Γ, r, S, er, fun v H' F' x h => p _ H' F' (S.setR x h z) x.ff kp_set⟩
  · unfold sSet at e
    obtain ⟨r, er, e⟩ := Option.bind_eq_some_iff.mp e
    cases z : setR g i r with
    | none => rw [z] at e; cases e
    | some g' => rw [z] at e; cases e; exact setR_kp z
theorem sv_if {c : Expr} {a b : List Stmt} {mc : Gm → Option Bool} (hc : TV X ca c mc) (ha : SVs X ca a m T) (hb : SVs X ca b n T') : SV X ca (.If c a b pos) (sIf mc m n) (T ++ T') := by
  have i1 : ∀ j ∈ T, j ∈ T ++ T' := fun j h => List.mem_append_left _ h
  have i2 : ∀ j ∈ T', j ∈ T ++ T' := fun j h => List.mem_append_right _ h
  refine ⟨ps_imp (ps_if hc ha.ps hb.ps) ?_, fun g o e => ?_⟩
  · rintro D σ H ⟨H0, F0, F, Γ, o, S, e, p⟩
    unfold sIf at e
    obtain ⟨k, ek, e⟩ := Option.bind_eq_some_iff.mp e
    refine ⟨H0, F0, F, Γ, k, S, ek, fun H1 F1 x1 => ?_⟩
    cases k with
    | true => exact iteT ⟨H0, F0, F1, Γ, o, S.mono x1, by simpa using e, PostO.mono (T := []) x1.ff .refl (fun _ z => nomatch z) i1 p⟩
    | false => exact iteF ⟨H0, F0, F1, Γ, o, S.mono x1, by simpa using e, PostO.mono (T := []) x1.ff .refl (fun _ z => nomatch z) i2 p⟩
  · unfold sIf at e
    obtain ⟨k, ek, e⟩ := Option.bind_eq_some_iff.mp e
    split at e
    · exact (ha.kp g o e).mono i1
    · exact (hb.kp g o e).mono i2
theorem sv_expr (he : EV X ca e me) (hs : swapsWith e none pos.line X.env = pure false := by rfl) : SV X ca (.Expr e pos) (sExp me) [] := by
  refine ⟨ps_imp (ps_expr he hs) ?_, fun g o e => ?_⟩
  · rintro D σ H ⟨H0, F0, F, Γ, o, S, e, p⟩
    unfold sExp at e
    cases z : me Γ with
    | none => rw [z] at e; cases e
    | some r =>
      rw [z] at e
      cases e
      exact ⟨H0, F0, F, Γ, r, S, z, fun v H' F' x h => p σ H' F' (S.mono x) x.ff .refl⟩
  · unfold sExp at e
    cases z : me g with
    | none => rw [z] at e; cases e
    | some r => rw [z] at e; cases e; exact fun j _ => rfl
/-- what is never come to -/
theorem sv_never : SV X ca st sNv [] := by
  refine ⟨ps_imp ps_never ?_, fun g o e => ?_⟩
  · rintro D σ H ⟨H0, F0, F, Γ, o, S, e, p⟩
    cases e
  · cases e
theorem sv_while {c : Expr} {body : List Stmt} {mc : Gm → Option Bool} {N : Nat} (hp : PassesOwn (model X.prog X.w) X.A X.env X.xe) (hc : TV X ca c mc) (hb : SVs X ca body m T) : SV X ca (.While c body [] pos) (sWh mc m N) T := by
  have kp : ∀ n g o, sWh mc m n g = some o → KpG T g o := by
    intro n
    induction n with
    | zero => intro g o e; cases e
    | succ n ih =>
      intro g o e
      unfold sWh at e
      obtain ⟨k, ek, e⟩ := Option.bind_eq_some_iff.mp e
      split at e
      · obtain ⟨o1, e1, e⟩ := Option.bind_eq_some_iff.mp e
        have k1 := hb.kp g o1 e1
        cases o1 with
        | nx g1 => exact KpG.after k1 (ih g1 o e) (fun _ z => z) fun _ z => z
        | ct g1 => exact KpG.after (show KpG T g (.nx g1) from k1) (ih g1 o e) (fun _ z => z) fun _ z => z
        | bk g1 => cases e; exact k1
        | rt r => cases e; trivial
        | ex x => cases e; trivial
      · cases e; exact fun j _ => rfl
  refine ⟨ps_imp (ps_while hp hc hb.ps) ?_, kp N⟩
  rintro D σ H ⟨H0, F0, F, Γ, o, S, e, p⟩
  refine ⟨fun n σ1 H1 => ∃ F1 g, SR X.K ca H0 F0 σ1 H1 F1 g ∧ sWh mc m n g = some o ∧ PostO X.K ca D H0 F0 F1 σ1 T o, ⟨N, F, Γ, S, e, p⟩, ?_⟩
  rintro n σ1 H1 ⟨F1, g, S1, e1, p1⟩
  cases n with
  | zero => cases e1
  | succ n =>
    unfold sWh at e1
    obtain ⟨k, ek, e1⟩ := Option.bind_eq_some_iff.mp e1
    refine ⟨H0, F0, F1, g, k, S1, ek, fun H2 F2 x2 => ?_⟩
    cases k with
    | true =>
      refine iteT ?_
      rw [if_pos rfl] at e1
      obtain ⟨o1, eo, e1⟩ := Option.bind_eq_some_iff.mp e1
      refine ⟨fun σ' H' => ∃ F' g', SR X.K ca H0 F0 σ' H' F' g' ∧ sWh mc m n g' = some o ∧ PostO X.K ca D H0 F0 F' σ' T o, fun σ' H' h => ⟨n, Nat.lt_succ_self n, h⟩, H0, F0, F2, g, o1, S1.mono x2, eo, ?_⟩
      cases o1 with
      | nx g1 => exact fun σ3 H3 F3 S3 s3 k3 => ⟨F3, g1, S3, e1, PostO.mono (x2.ff.trans s3) k3 (fun _ z => z) (fun _ z => z) p1⟩
      | ct g1 => exact fun σ3 H3 F3 S3 s3 k3 => ⟨F3, g1, S3, e1, PostO.mono (x2.ff.trans s3) k3 (fun _ z => z) (fun _ z => z) p1⟩
      | bk g1 => cases e1; exact fun σ3 H3 F3 S3 s3 k3 => p1 σ3 H3 F3 S3 (x2.ff.trans s3) k3
      | rt r => cases e1; exact p1
      | ex x => cases e1; exact p1
    | false =>
      refine iteF ?_
      rw [if_neg Bool.false_ne_true] at e1
      cases e1
      exact p1 σ1 H2 F2 (S1.mono x2) x2.ff .refl
end
end BK
namespace BK
open PySem PySem.Spec L2
set_option autoImplicit false
/-! ### targets, what is walked, for -/
def gN (i : Nat) : D → Gm → Option Gm := fun d g => some (g.set i (.va d))
def gE : List D → Gm → Option Gm := fun ds g => match ds with
  | [] => some g
  | _ => none
def gC (f : D → Gm → Option Gm) (r : List D → Gm → Option Gm) : List D → Gm → Option Gm := fun ds g => match ds with
  | d :: ds => (f d g).bind (r ds)
  | _ => none
def gT (f : List D → Gm → Option Gm) : D → Gm → Option Gm := fun d g => match d with
  | .tup ds => f ds g
  | _ => none
def tGV (K : PySem.W.Frag) (ca : Nat → Addr) (f : D → Gm → Option Gm) (T : List Nat) : TG := fun v σ H Q => ∃ H0 F0 F Γ d Γ', SR K ca H0 F0 σ H F Γ ∧ Den K ca F v d ∧ f d Γ = some Γ' ∧ ∀ σ', SR K ca H0 F0 σ' H F Γ' → Kp T σ σ' → Q σ' H
def tGVs (K : PySem.W.Frag) (ca : Nat → Addr) (f : List D → Gm → Option Gm) (T : List Nat) : TGs := fun vs σ H Q => ∃ H0 F0 F Γ ds Γ', SR K ca H0 F0 σ H F Γ ∧ Dens K ca F vs ds ∧ f ds Γ = some Γ' ∧ ∀ σ', SR K ca H0 F0 σ' H F Γ' → Kp T σ σ' → Q σ' H
structure GV (X : Cx) (ca : Nat → Addr) (e : Expr) (f : D → Gm → Option Gm) (T : List Nat) : Prop where
  pg : PG X e (tGV X.K ca f T)
  kp : ∀ d g g', f d g = some g' → KpG T g (.nx g')
  ln : ∀ d g g', f d g = some g' → g'.length = g.length
structure GVs (X : Cx) (ca : Nat → Addr) (es : List Expr) (f : List D → Gm → Option Gm) (T : List Nat) : Prop where
  pg : PGs X es (tGVs X.K ca f T)
  kp : ∀ d g g', f d g = some g' → KpG T g (.nx g')
  ln : ∀ d g g', f d g = some g' → g'.length = g.length
section
variable {X : Cx}
theorem pg_imp {e : Expr} {t t' : TG} (h : PG X e t) (i : ∀ v σ H Q, t' v σ H Q → t v σ H Q) : PG X e t' := ⟨fun pins s σ H v u Q I r q => h.run pins s σ H v u Q I r (i v σ H Q q)⟩
theorem pgs_imp {es : List Expr} {t t' : TGs} (h : PGs X es t) (i : ∀ v σ H Q, t' v σ H Q → t v σ H Q) : PGs X es t' := ⟨fun pins s σ H v u Q I r q => h.run pins s σ H v u Q I r (i v σ H Q q)⟩
theorem pi_imp {tg e : Expr} {t t' : TI} (h : PI X tg e t) (i : ∀ σ H R, t' σ H R → t σ H R) : PI X tg e t' := ⟨fun pins s σ H R I q => h.run pins s σ H R I (i σ H R q)⟩
variable {ca : Nat → Addr} {pos : Pos}
theorem gv_name {i : Nat} {x : Str} (hN : X.N.Nodup) (hi : X.N[i]? = some x) (hx : Loc X.env.scope x) (hf : X.fn x = true ∨ X.env.scope.names.lookup x = some .local := by first | exact .inl rfl | exact .inr rfl | assumption) : GV X ca (.Name x pos) (gN i) [i] := by
  refine ⟨pg_imp (pg_name hN hi hx hf) ?_, fun d g g' e => ?_, fun d g g' e => by cases e; exact List.length_set⟩
  · rintro v σ H Q ⟨H0, F0, F, Γ, d, Γ', S, h, e, q⟩
    cases e
    exact q _ (S.setVa h) kp_set
  · cases e
    exact kpg_set
theorem gvs_nil : GVs X ca [] gE [] := by
  refine ⟨pgs_imp pgs_nil ?_, fun d g g' e => ?_, fun d g g' e => ?_⟩
  rotate_left 2
  · cases d with
    | nil => cases e; rfl
    | cons d ds => cases e
  · rintro vs σ H Q ⟨H0, F0, F, Γ, ds, Γ', S, h, e, q⟩
    cases ds with
    | nil => cases h; cases e; exact ⟨rfl, q σ S .refl⟩
    | cons d ds => cases e
  · cases d with
    | nil => cases e; exact fun j _ => rfl
    | cons d ds => cases e
theorem gvs_cons {e : Expr} {es : List Expr} {f : D → Gm → Option Gm} {r : List D → Gm → Option Gm} {T T' : List Nat} (h1 : GV X ca e f T) (h2 : GVs X ca es r T')
    (hs : (assignEach (e :: es) X.env).map (·.2) = assign e X.env :: (assignEach es X.env).map (·.2) := by rfl) : GVs X ca (e :: es) (gC f r) (T ++ T') := by
  have i1 : ∀ j ∈ T, j ∈ T ++ T' := fun j h => List.mem_append_left _ h
  have i2 : ∀ j ∈ T', j ∈ T ++ T' := fun j h => List.mem_append_right _ h
  refine ⟨pgs_imp (pgs_cons h1.pg h2.pg hs) ?_, fun d g g' e => ?_, fun d g g' e => ?_⟩
  rotate_left 2
  · cases d with
    | nil => cases e
    | cons d ds =>
      have e : (f d g).bind (r ds) = some g' := e
      obtain ⟨g1, e1, e2⟩ := Option.bind_eq_some_iff.mp e
      rw [h2.ln _ _ _ e2, h1.ln _ _ _ e1]
  · rintro vs σ H Q ⟨H0, F0, F, Γ, ds, Γ', S, h, e, q⟩
    cases ds with
    | nil => cases e
    | cons d ds =>
      cases h with
      | cons h hs =>
        have e : (f d Γ).bind (r ds) = some Γ' := e
        obtain ⟨g1, e1, e2⟩ := Option.bind_eq_some_iff.mp e
        exact ⟨_, _, rfl, H0, F0, F, Γ, d, g1, S, h, e1, fun σ1 S1 k1 => ⟨H0, F0, F, g1, ds, Γ', S1, hs, e2, fun σ2 S2 k2 => q σ2 S2 (k1.trans k2 i1 i2)⟩⟩
  · cases d with
    | nil => cases e
    | cons d ds =>
      have e : (f d g).bind (r ds) = some g' := e
      obtain ⟨g1, e1, e2⟩ := Option.bind_eq_some_iff.mp e
      exact KpG.after (h1.kp _ _ _ e1) (h2.kp _ _ _ e2) i1 i2
theorem gv_tup {es : List Expr} {k : Nat} {f : List D → Gm → Option Gm} {T : List Nat} (hc : X.calm = true) (h : GVs X ca es f T) (hl : ∀ ds g g', f ds g = some g' → ds.length = (assignEach es X.env).length)
    (hst : (assignEach es X.env).findIdx? (·.1) = none := by rfl) : GV X ca (.Tuple es k pos) (gT f) T := by
  refine ⟨pg_imp (pg_tup (n := (assignEach es X.env).length) hc h.pg rfl hst) ?_, fun d g g' e => ?_, fun d g g' e => ?_⟩
  rotate_left 2
  · unfold gT at e
    split at e
    · exact h.ln _ _ _ e
    · cases e
  · rintro v σ H Q ⟨H0, F0, F, Γ, d, Γ', S, h, e, q⟩
    unfold gT at e
    split at e
    · cases h with
      | tup h hs =>
        refine ⟨_, _, rfl, Same.seqT S.ext.fh h, ?_, H0, F0, F, Γ, _, Γ', S, hs, e, q⟩
        rw [hs.length]
        exact hl _ _ _ e
    · cases e
  · unfold gT at e
    split at e
    · exact h.kp _ _ _ e
    · cases e
/-- target = value, the target a tuple of names -/
def sAsg (m : Gm → Option R) (f : D → Gm → Option Gm) : Gm → Option Out := fun g => (m g).bind fun r => match r with
  | .va d => (f d g).map .nx
  | _ => none
theorem sv_asg {tg e : Expr} {m : Gm → Option R} {f : D → Gm → Option Gm} {T : List Nat} (he : EV X ca e m) (hg : GV X ca tg f T) (hs : swapsWithSole [tg] e pos.line X.env = pure false := by rfl) (hw : swappedStores [tg] e X.env = pure none := by rfl)
    (h1 : (assignEach [tg] X.env).map (·.2) = [assign tg X.env] := by rfl) : SV X ca (.Assign [tg] e pos) (sAsg m f) T := by
  refine ⟨ps_imp (ps_asg he hg.pg hs hw h1) ?_, fun g o e => ?_⟩
  · rintro D σ H ⟨H0, F0, F, Γ, o, S, e, p⟩
    unfold sAsg at e
    obtain ⟨r, er, e⟩ := Option.bind_eq_some_iff.mp e
    cases r with
    | va d =>
      obtain ⟨g', z, e⟩ := Option.map_eq_some_iff.mp (show (f d Γ).map Out.nx = some o from e)
      subst e
      exact ⟨H0, F0, F, Γ, _, S, er, fun v H' F' x h => ⟨H0, F0, F', Γ, d, g', S.mono x, h, z, fun σ' S' k' => p σ' H' F' S' x.ff k'⟩⟩
    | tm ds => cases e
    | bw j ds => cases e
  · unfold sAsg at e
    obtain ⟨r, er, e⟩ := Option.bind_eq_some_iff.mp e
    cases r with
    | va d =>
      obtain ⟨g', z, e⟩ := Option.map_eq_some_iff.mp (show (f d g).map Out.nx = some o from e)
      subst e
      exact hg.kp _ _ _ z
    | tm ds => cases e
    | bw j ds => cases e
/-- a, b = x, y with plain names: both are values -/
def sPar (i j : Nat) (a b : Gm → Option R) : Gm → Option Out := fun g => (a g).bind fun x => (b g).bind fun y => match x.fz, y.fz with
  | .va d, .va e => some (.nx ((g.set i (.va d)).set j (.va e)))
  | _, _ => none
theorem sv_par {i j : Nat} {x y : Str} {a b : Expr} {ma mb : Gm → Option R} {px py pt : Pos} {kt k2 pt2} (hc : X.calm = true) (hN : X.N.Nodup) (hi : X.N[i]? = some x) (hj : X.N[j]? = some y) (hij : i ≠ j)
    (hx : X.env.scope.names.lookup x = some .local) (hy : X.env.scope.names.lookup y = some .local) (ha : AV X ca [a, b] (aC ma (aC mb aN)))
    (hw : swappedStores [.Tuple [.Name x px, .Name y py] kt pt] (.Tuple [a, b] k2 pt2) X.env = pure (some [x, y]))
    (hs : swapsWithSole [.Tuple [.Name x px, .Name y py] kt pt] (.Tuple [a, b] k2 pt2) pos.line X.env = pure false := by rfl) :
    SV X ca (.Assign [.Tuple [.Name x px, .Name y py] kt pt] (.Tuple [a, b] k2 pt2) pos) (sPar i j ma mb) [i, j] := by
  refine ⟨ps_imp (ps_par hc hN hi hj hij hx hy ha hw hs) ?_, fun g o e => ?_⟩
  · rintro D σ H ⟨H0, F0, F, Γ, o, S, e, p⟩
    unfold sPar at e
    obtain ⟨u, eu, e⟩ := Option.bind_eq_some_iff.mp e
    obtain ⟨w, ew, e⟩ := Option.bind_eq_some_iff.mp e
    refine ⟨H0, F0, F, Γ, [u.fz, w.fz], S, by simp [aC, aN, eu, ew], fun vs H' F' x h => ?_⟩
    cases h with
    | cons h1 h =>
      cases h with
      | cons h2 h =>
        cases h
        refine ⟨_, _, rfl, ?_⟩
        split at e
        · rename_i q1 q2
          rw [q1] at h1
          rw [q2] at h2
          cases e
          exact p _ H' F' (((S.mono x).setVa h1).setVa h2) x.ff (Kp.trans kp_set kp_set (by simp) (by simp))
        · cases e
  · unfold sPar at e
    obtain ⟨u, eu, e⟩ := Option.bind_eq_some_iff.mp e
    obtain ⟨w, ew, e⟩ := Option.bind_eq_some_iff.mp e
    split at e
    · cases e
      exact KpG.after (g' := g.set i _) kpg_set kpg_set (by simp) (by simp)
    · cases e
/-- name op= e (op by values) -/
def sAug (i : Nat) (f : R → R → Option R) (m : Gm → Option R) : Gm → Option Out := fun g => (eV i g).bind fun x => (m g).bind fun y => (f x y).bind fun r => (setR g i r).map .nx
/-! ### what a for walks -/
/-- J yields the data ds, one a turn, as long as the frozen part F1 stands and the own lists in PL stand as they are -/
structure JOk (K : PySem.W.Frag) (ca : Nat → Addr) (F1 : Hp) (J : It) (PL : List (Nat × Addr × List D)) (ds : List D) : Prop where
  go : ∀ (i : Nat) (d : D) (H F : Hp), ds[i]? = some d → Same F1 F → Same F H → (∀ p ∈ PL, ∃ vs, H p.2.1 = some (.lst vs) ∧ Dens K ca F vs p.2.2) → J.go i H ∧ ∀ x H', J.yld i H x H' → ∃ F', Ext ca H F H' F' ∧ Den K ca F' x d
  stop : ∀ (H F : Hp), Same F1 F → Same F H → (∀ p ∈ PL, ∃ vs, H p.2.1 = some (.lst vs) ∧ Dens K ca F vs p.2.2) → J.stop ds.length H
def tIV (K : PySem.W.Frag) (ca : Nat → Addr) (mi : Gm → Option (List Nat × List D)) : TI := fun σ H R => ∃ H0 F0 F Γ p, SR K ca H0 F0 σ H F Γ ∧ mi Γ = some p ∧
  ∀ J H' F' PL, Ext ca H F H' F' → JOk K ca F' J PL p.2 → (∀ q ∈ PL, q.1 ∈ p.1 ∧ BB σ Γ q.1 q.2.1 q.2.2) → R J H'
abbrev IV (X : Cx) (ca : Nat → Addr) (tg e : Expr) (mi : Gm → Option (List Nat × List D)) : Prop := PI X tg e (tIV X.K ca mi)
def forL (f : D → Gm → Option Gm) (b : Gm → Option Out) : List D → Gm → Option Out
  | [], g => some (.nx g)
  | d :: ds, g => (f d g).bind fun g1 => (b g1).bind fun o => match o with
    | .nx g2 => forL f b ds g2
    | .ct g2 => forL f b ds g2
    | .bk g2 => some (.nx g2)
    | .rt r => some (.rt r)
    | .ex x => some (.ex x)
def sFor (mi : Gm → Option (List Nat × List D)) (f : D → Gm → Option Gm) (b : Gm → Option Out) (T : List Nat) : Gm → Option Out := fun g => (mi g).bind fun p => if p.1.all (fun j => !T.contains j) = true then forL f b p.2 g else none
theorem forL_kp {f : D → Gm → Option Gm} {b : Gm → Option Out} {T T' : List Nat} (hf : ∀ d g g', f d g = some g' → KpG T g (.nx g')) (hb : ∀ g o, b g = some o → KpG T' g o) : ∀ (ds : List D) (g : Gm) (o : Out), forL f b ds g = some o → KpG (T ++ T') g o
  | [], g, o, e => by
    cases e
    exact fun j _ => rfl
  | d :: ds, g, o, e => by
    have i1 : ∀ j ∈ T, j ∈ T ++ T' := fun j h => List.mem_append_left _ h
    have i2 : ∀ j ∈ T', j ∈ T ++ T' := fun j h => List.mem_append_right _ h
    unfold forL at e
    obtain ⟨g1, e1, e⟩ := Option.bind_eq_some_iff.mp e
    obtain ⟨o1, e2, e⟩ := Option.bind_eq_some_iff.mp e
    have k := KpG.after (hf _ _ _ e1) (hb _ _ e2) i1 i2
    cases o1 with
    | nx g2 => exact KpG.after k (forL_kp hf hb ds g2 o e) (fun _ z => z) fun _ z => z
    | ct g2 => exact KpG.after (show KpG (T ++ T') g (.nx g2) from k) (forL_kp hf hb ds g2 o e) (fun _ z => z) fun _ z => z
    | bk g2 => cases e; exact k
    | rt r => cases e; trivial
    | ex x => cases e; trivial
theorem sv_for {tg iter : Expr} {body : List Stmt} {mi : Gm → Option (List Nat × List D)} {f : D → Gm → Option Gm} {b : Gm → Option Out} {T T' U : List Nat} (hp : PassesOwn (model X.prog X.w) X.A X.env X.xe) (hc : X.calm = true) (hi : IV X ca tg iter mi) (hg : GV X ca tg f T) (hb : SVs X ca body b T')
    (hU : U = T ++ T') (hs : ∀ x, foldedSetIterable iter X.env x = pure x := by intro _; rfl) : SV X ca (.For tg iter body [] pos) (sFor mi f b U) U := by
  subst hU
  have i1 : ∀ j ∈ T, j ∈ T ++ T' := fun j h => List.mem_append_left _ h
  have i2 : ∀ j ∈ T', j ∈ T ++ T' := fun j h => List.mem_append_right _ h
  refine ⟨ps_imp (ps_for hp hc hi hg.pg hb.ps hs) ?_, fun g o e => ?_⟩
  · rintro D σ H ⟨H0, F0, F, Γ, o, S, e, p⟩
    unfold sFor at e
    obtain ⟨⟨ps, ds⟩, em, e⟩ := Option.bind_eq_some_iff.mp e
    by_cases hall : (ps.all fun j => !(T ++ T').contains j) = true
    · rw [if_pos hall] at e
      refine ⟨H0, F0, F, Γ, (ps, ds), S, em, fun J H1 F1 PL x1 jo hPL => ?_⟩
      have hj : ∀ q ∈ PL, q.1 ∉ T ++ T' := fun q hq hm => by
        have := List.all_eq_true.mp hall q.1 (hPL q hq).1
        simp at this
        rcases List.mem_append.mp hm with z | z
        · exact this.1 z
        · exact this.2 z
      refine ⟨fun i m σ' H' => ∃ F' g, m = ds.length - i ∧ SR X.K ca H0 F0 σ' H' F' g ∧ Same F1 F' ∧ forL f b (ds.drop i) g = some o ∧ PostO X.K ca D H0 F0 F' σ' (T ++ T') o ∧ i ≤ ds.length ∧ (∀ q ∈ PL, BB σ' g q.1 q.2.1 q.2.2),
        ⟨_, F1, Γ, rfl, S.mono x1, Same.refl _, e, PostO.mono (T := []) x1.ff .refl (fun _ z => nomatch z) (fun _ z => z) p, Nat.zero_le _, fun q hq => (hPL q hq).2⟩, ?_⟩
      rintro i m σ2 H2 ⟨F2, g, rfl, S2, s2, e2, p2, hi2, hb2⟩
      have hpin : ∀ q ∈ PL, ∃ vs, H2 q.2.1 = some (.lst vs) ∧ Dens X.K ca F2 vs q.2.2 := fun q hq => by
        obtain ⟨z1, z2⟩ := hb2 q hq
        obtain ⟨a, vs, y1, _, _, y4, y5⟩ := S2.ow _ _ z2
        rw [z1] at y1
        cases y1
        exact ⟨vs, y4, y5⟩
      by_cases hlt : i < ds.length
      · have hd : ds[i]? = some ds[i] := List.getElem?_eq_getElem hlt
        have ed : ds.drop i = ds[i] :: ds.drop (i + 1) := List.drop_eq_getElem_cons hlt
        rw [ed] at e2
        unfold forL at e2
        obtain ⟨g1, eg, e2⟩ := Option.bind_eq_some_iff.mp e2
        obtain ⟨o1, eo, e2⟩ := Option.bind_eq_some_iff.mp e2
        obtain ⟨jgo, jy⟩ := jo.go i _ H2 F2 hd s2 S2.ext.fh hpin
        refine .inr ⟨jgo, fun σ' H' => ∃ F' g, SR X.K ca H0 F0 σ' H' F' g ∧ Same F1 F' ∧ forL f b (ds.drop (i + 1)) g = some o ∧ PostO X.K ca D H0 F0 F' σ' (T ++ T') o ∧ (∀ q ∈ PL, BB σ' g q.1 q.2.1 q.2.2), fun σ' H' ⟨F', g', w1, w2, w3, w4, w5⟩ => ⟨ds.length - (i + 1), by omega, F', g', rfl, w1, w2, w3, w4, hlt, w5⟩, fun x H3 y => ?_⟩
        obtain ⟨F3, x3, d3⟩ := jy x H3 y
        refine ⟨H0, F0, F3, g, _, g1, S2.mono x3, d3, eg, fun σ4 S4 k4 => ⟨H0, F0, F3, g1, o1, S4, eo, ?_⟩⟩
        have kg1 : KpG (T ++ T') g (.nx g1) := (hg.kp _ _ _ eg).mono i1
        have kg := hb.kp _ _ eo
        have step : ∀ (g5 : Gm) (σ5 : L2.St) (H5 F5 : Hp), KpG T' g1 (.nx g5) → SR X.K ca H0 F0 σ5 H5 F5 g5 → Same F3 F5 → Kp T' σ4 σ5 → forL f b (ds.drop (i + 1)) g5 = some o →
            ∃ F' g, SR X.K ca H0 F0 σ5 H5 F' g ∧ Same F1 F' ∧ forL f b (ds.drop (i + 1)) g = some o ∧ PostO X.K ca D H0 F0 F' σ5 (T ++ T') o ∧ (∀ q ∈ PL, BB σ5 g q.1 q.2.1 q.2.2) := fun g5 σ5 H5 F5 kg S5 s5 k5 e5 => by
          have kk : Kp (T ++ T') σ2 σ5 := k4.trans k5 i1 i2
          have kkg : KpG (T ++ T') g (.nx g5) := KpG.after kg1 kg (fun _ z => z) i2
          have sf : Same F2 F5 := x3.ff.trans s5
          refine ⟨F5, g5, S5, s2.trans sf, e5, PostO.mono sf kk (fun _ z => z) (fun _ z => z) p2, fun q hq => ⟨?_, ?_⟩⟩
          · rw [kk _ (hj q hq)]; exact (hb2 q hq).1
          · rw [(kkg : ∀ j, j ∉ T ++ T' → g5[j]? = g[j]?) _ (hj q hq)]; exact (hb2 q hq).2
        cases o1 with
        | nx g5 => exact fun σ5 H5 F5 S5 s5 k5 => step g5 σ5 H5 F5 kg S5 s5 k5 e2
        | ct g5 => exact fun σ5 H5 F5 S5 s5 k5 => step g5 σ5 H5 F5 kg S5 s5 k5 e2
        | bk g5 => cases e2; exact fun σ5 H5 F5 S5 s5 k5 => p2 σ5 H5 F5 S5 (x3.ff.trans s5) (k4.trans k5 i1 i2)
        | rt r => cases e2; exact p2
        | ex x => cases e2; exact p2
      · have ei : i = ds.length := by omega
        subst ei
        rw [List.drop_length] at e2
        cases e2
        exact .inl ⟨jo.stop H2 F2 s2 S2.ext.fh hpin, p2 σ2 H2 F2 S2 (Same.refl _) .refl⟩
    · rw [if_neg hall] at e
      cases e
  · unfold sFor at e
    obtain ⟨⟨ps, ds⟩, em, e⟩ := Option.bind_eq_some_iff.mp e
    split at e
    · exact forL_kp hg.kp hb.kp ds g o e
    · cases e
end
end BK
namespace BK
open PySem PySem.Spec L2
set_option autoImplicit false
/-! ### operators on data -/
def LIM : Nat := 16777216
theorem lim_eq : sizeLine = LIM := sizeLine_eq
/-- equal data, to a depth -/
def eqL (f : D → D → Bool) : List D → List D → Bool
  | [], [] => true
  | x :: xs, y :: ys => f x y && eqL f xs ys
  | _, _ => false
def eqn : Nat → D → D → Bool
  | _, .non, .non => true
  | _, .bl a, .bl b => a == b
  | _, .bl a, .int j => (if a then 1 else 0) == j
  | _, .int i, .bl b => i == (if b then 1 else 0)
  | _, .int i, .int j => i == j
  | _, .str x, .str y => x == y
  | n + 1, .lst xs, .lst ys => eqL (eqn n) xs ys
  | n + 1, .tup xs, .tup ys => eqL (eqn n) xs ys
  | _, _, _ => false
/-- data that == reads, to a depth -/
def okn : Nat → D → Bool
  | _, .non => true
  | _, .bl _ => true
  | _, .int _ => true
  | _, .str x => PyData.strOk x
  | n + 1, .lst xs => xs.all (okn n)
  | n + 1, .tup xs => xs.all (okn n)
  | _, _ => false
mutual
def toPy : D → PyData
  | .non => .none
  | .bl b => .bool b
  | .int i => .int i
  | .str x => .str x
  | .lst xs => .list (toPys xs)
  | .tup xs => .tuple (toPys xs)
  | .ins _ _ => .dict []
  | .rol _ => .dict []
  | .dic _ _ => .dict []
  | .exc _ _ => .dict []
  | .opq _ => .dict []
def toPys : List D → List PyData
  | [] => []
  | x :: xs => toPy x :: toPys xs
end
theorem okn_lay : ∀ (n : Nat) (d : D), okn n d = true → (toPy d).canLay0 = true ∧ (toPy d).depth ≤ n := by
  intro n
  induction n with
  | zero =>
    intro d h
    cases d <;> simp_all [okn, toPy, PyData.canLay0, PyData.depth]
  | succ n ih =>
    have all : ∀ xs : List D, xs.all (okn n) = true → PyData.canLayAll0 (toPys xs) = true ∧ PyData.depthAll (toPys xs) ≤ n := by
      intro xs
      induction xs with
      | nil => intro _; simp [toPys, PyData.canLayAll0, PyData.depthAll]
      | cons x xs ihx =>
        intro h
        rw [List.all_cons, Bool.and_eq_true] at h
        obtain ⟨h1, h2⟩ := ih x h.1
        obtain ⟨h3, h4⟩ := ihx h.2
        simp only [toPys, PyData.canLayAll0, PyData.depthAll]
        refine ⟨by rw [h1, h3]; rfl, by omega⟩
    intro d h
    cases d with
    | lst xs =>
      obtain ⟨h1, h2⟩ := all xs h
      simp only [toPy, PyData.canLay0, PyData.depth]
      exact ⟨h1, by omega⟩
    | tup xs =>
      obtain ⟨h1, h2⟩ := all xs h
      simp only [toPy, PyData.canLay0, PyData.depth]
      exact ⟨h1, by omega⟩
    | _ => simp_all [okn, toPy, PyData.canLay0, PyData.depth]
theorem okn_shaped {n : Nat} {d : D} (h : okn n d = true) (hn : n ≤ 64) : SeqAt.shaped (toPy d) = true := by
  obtain ⟨h1, h2⟩ := okn_lay n d h
  unfold SeqAt.shaped
  rw [h1, decide_eq_true (by omega)]
  rfl
theorem eqn_py : ∀ (n : Nat) (d e : D), okn n d = true → okn n e = true → PyData.eqv (toPy d) (toPy e) = eqn n d e := by
  intro n
  induction n with
  | zero =>
    intro d e h1 h2
    cases d <;> cases e <;> simp_all [okn, eqn, toPy, PyData.eqv]
  | succ n ih =>
    have all : ∀ xs ys : List D, xs.all (okn n) = true → ys.all (okn n) = true → PyData.eqvAll (toPys xs) (toPys ys) = eqL (eqn n) xs ys := by
      intro xs
      induction xs with
      | nil =>
        intro ys _ _
        cases ys <;> simp [toPys, eqL, PyData.eqvAll]
      | cons x xs ihx =>
        intro ys h1 h2
        cases ys with
        | nil => simp [toPys, eqL, PyData.eqvAll]
        | cons y ys =>
          rw [List.all_cons, Bool.and_eq_true] at h1 h2
          simp only [toPys, eqL, PyData.eqvAll]
          rw [ih x y h1.1 h2.1, ihx ys h1.2 h2.2]
    intro d e h1 h2
    cases d <;> cases e <;> first
      | (simp only [toPy, PyData.eqv, eqn]; exact all _ _ h1 h2)
      | simp_all [okn, eqn, toPy, PyData.eqv]
section
variable {K : PySem.W.Frag} {ca : Nat → Addr} {F H : Hp}
theorem rd_l {a : Addr} {xs : List V} (h : Rd H a (.lst xs)) : SqL K H a xs := .inl h
mutual
theorem Den.dp (s : Same F H) : ∀ (d : D) {v : V}, (toPy d).canLay0 = true → Den K ca F v d → Dp K H v (toPy d)
  | .non, _, _, h => by cases h; exact .non
  | .bl b, _, _, h => by cases h; exact .bl b
  | .int i, _, _, h => by cases h; exact .int i
  | .str x, _, _, h => by cases h; exact .str x
  | .lst xs, _, e, h => by
    cases h with
    | lst h hs => exact .lst (rd_l (.inl (s _ _ h))) (Dens.dp s xs (by simpa [toPy, PyData.canLay0] using e) hs)
  | .tup xs, _, e, h => by
    cases h with
    | tup h hs => exact .tup (Same.seqT s h) (Dens.dp s xs (by simpa [toPy, PyData.canLay0] using e) hs)
  | .ins c fs, _, e, h => by simp [toPy, PyData.canLay0] at e
  | .rol fs, _, e, h => by simp [toPy, PyData.canLay0] at e
  | .dic ks fs, _, e, h => by simp [toPy, PyData.canLay0] at e
  | .exc c fs, _, e, h => by simp [toPy, PyData.canLay0] at e
  | .opq v, _, e, h => by simp [toPy, PyData.canLay0] at e
theorem Dens.dp (s : Same F H) : ∀ (ds : List D) {vs : List V}, PyData.canLayAll0 (toPys ds) = true → Dens K ca F vs ds → DpAll K H vs (toPys ds)
  | [], _, _, h => by cases h; exact .nil
  | d :: ds, _, e, h => by
    cases h with
    | cons h hs =>
      have e' : (toPy d).canLay0 = true ∧ PyData.canLayAll0 (toPys ds) = true := by simpa [toPys, PyData.canLayAll0] using e
      exact .cons (Den.dp s d e'.1 h) (Dens.dp s ds e'.2 hs)
end
theorem RV.dp {B : BT} {Hs : Hp} {v : V} {r : R} (s : Same F H) (h : RV K ca B Hs F H v r) {n : Nat} (o : okn n r.d = true) : Dp K H v (toPy r.d) := by
  have e := (okn_lay n _ o).1
  cases q : r.d with
  | lst ds =>
    rw [q] at e
    obtain ⟨a, vs, rfl, h1, h2⟩ := RV.lst s h q
    exact .lst (rd_l h1) (Dens.dp s ds (by simpa [toPy, PyData.canLay0] using e) h2)
  | _ => rw [q] at e; exact Den.dp s _ e (RV.den h q rfl)
end
/-! ### numbers -/
def CMulB (i j : Int) : Prop := i.natAbs.log2 + j.natAbs.log2 < 134000000
instance (i j : Int) : Decidable (CMulB i j) := by unfold CMulB; infer_instance
theorem CMulB.ok {i j : Int} (h : CMulB i j) : IntMulOk i j := by
  have b : ∀ x : Int, Builtin.Int.intBits x ≤ x.natAbs.log2 + 1 := fun x => by
    unfold Builtin.Int.intBits
    split <;> omega
  have h1 := b i
  have h2 := b j
  have h3 : i.natAbs.log2 + j.natAbs.log2 < 134000000 := h
  have e : bitsLine = 134217728 := by decide
  unfold IntMulOk
  intro z
  rw [Bool.and_eq_true] at z
  have z2 := z.2
  unfold Builtin.Int.intTooBig at z2
  have z3 := of_decide_eq_true z2
  rw [e] at z3
  omega
def CDivB (i j : Int) : Prop := j ≠ 0 ∧ j.natAbs.log2 < 9000
instance (i j : Int) : Decidable (CDivB i j) := by unfold CDivB; infer_instance
instance (i j : Int) : Decidable (CPow i j) := by unfold CPow; infer_instance
section
variable {X : Cx}
theorem op_mulB : OpR X (binaryOp .Mult) (rI CMulB fun i j => .int (i * j)) := opI fun _ _ _ _ _ _ _ hc q => PyProof.Rows.mul_int q hc.ok
theorem op_fdivB : OpR X (binaryOp .FloorDiv) (rI CDivB fun i j => .int (i.fdiv j)) := opI fun _ _ _ _ _ _ _ hc q => PyProof.Rows.floordiv_int hc.1 q (.inl (PyProof.noPylong_of_log2 hc.2))
/-- list + list, what is read -/
def rCatR : R2 := fun x y H Q => ∃ l b xs zs, x = .ref l ∧ y = .ref b ∧ Rd H l (.lst xs) ∧ Rd H b (.lst zs) ∧ xs.length + zs.length ≤ sizeLine ∧ ∀ p, H p = none → Q (.ref p) (upd H p (.lst (xs ++ zs)))
theorem op_catR : OpR X (binaryOp .Add) rCatR := by
  intro pins s σ H x y v u Q I rx ry h
  obtain ⟨l, b, xs, zs, rfl, rfl, hH, hB, hz, q⟩ := h
  cases rx
  cases ry
  obtain ⟨z, its, n, r, e⟩ := hH.ok I.hok
  obtain ⟨z2, its2, n2, r2, e2⟩ := hB.ok I.hok
  have hl := r.length
  have hl2 := r2.length
  refine PySem.P.add_list e e2 ?_ (by rw [List.size_toArray, List.size_toArray]; omega)
  have ea : its.toArray ++ its2.toArray = (its ++ its2).toArray := by simp
  rw [ea]
  exact ⟨.ref _, _, I.lnew (t' := s.toks) (r.append r2) (by rw [List.length_append]; omega), rfl, q _ I.fresh⟩
end
/-- a result of an operation on numbers -/
def oI (C : Int → Int → Prop) [∀ i j, Decidable (C i j)] (h : Int → Int → D) : R → R → Option R
  | .va (.int i), .va (.int j) => if C i j then some (.va (h i j)) else none
  | _, _ => none
section
variable {K : PySem.W.Frag} {ca : Nat → Addr}
theorem od_I {C : Int → Int → Prop} [∀ i j, Decidable (C i j)] {h : Int → Int → D} {g : Int → Int → V} (hg : ∀ F i j, Den K ca F (g i j) (h i j)) : OpD K ca (rI C g) (oI C h) := by
  intro B H0 F H v w x y z Q s rx ry e q
  unfold oI at e
  split at e
  · split at e
    · rename_i i j hc
      cases e
      cases rx
      cases ry
      exact ⟨i, j, rfl, rfl, hc, q _ H F (.refl s) (hg F i j)⟩
    · cases e
  · cases e
theorem od_I0 {h : Int → Int → D} {g : Int → Int → V} (hg : ∀ F i j, Den K ca F (g i j) (h i j)) : OpD K ca (rI0 g) (oI (fun _ _ => True) h) := by
  intro B H0 F H v w x y z Q s rx ry e q
  unfold oI at e
  split at e
  · rename_i i j
    rw [if_pos trivial] at e
    cases e
    cases rx
    cases ry
    exact ⟨i, j, rfl, rfl, q _ H F (.refl s) (hg F i j)⟩
  · cases e
def uI (h : Int → D) : R → Option R
  | .va (.int i) => some (.va (h i))
  | _ => none
theorem ud_I {h : Int → D} {g : Int → V} (hg : ∀ F i, Den K ca F (g i) (h i)) : UnD K ca (rU g) (uI h) := by
  intro B H0 F H v x z Q s rx e q
  unfold uI at e
  split at e
  · rename_i i
    cases e
    cases rx
    exact ⟨i, rfl, q _ H F (.refl s) (hg F i)⟩
  · cases e
end
/-- + -/
def oAdd : R → R → Option R := fun a b => match a.d, b.d with
  | .int i, .int j => some (.va (.int (i + j)))
  | .str x, .str y => if x.length + y.length ≤ LIM then some (.va (.str (x ++ y))) else none
  | .lst xs, .lst ys => if xs.length + ys.length ≤ LIM then some (.tm (xs ++ ys)) else none
  | .tup xs, .tup ys => if xs.length + ys.length ≤ LIM then some (.va (.tup (xs ++ ys))) else none
  | _, _ => none
def rAddA (K : PySem.W.Frag) : R2 := fun x y H Q => rI0 (fun i j => .int (i + j)) x y H Q ∨ (∃ i j, x = .str i ∧ y = .str j ∧ i.length + j.length ≤ sizeLine ∧ Q (.str (i ++ j)) H) ∨ rCatR x y H Q ∨ rCatA K x y H Q
theorem op_addA {X : Cx} : OpR X (binaryOp .Add) (rAddA X.K) := op_add.or (op_add_str.or (op_catR.or op_catA))
theorem od_add {K : PySem.W.Frag} {ca : Nat → Addr} : OpD K ca (rAddA K) oAdd := by
  intro B H0 F H v w x y z Q s rx ry e q
  unfold oAdd at e
  split at e
  · rename_i i j h1 h2
    cases e
    cases RV.den rx h1 rfl
    cases RV.den ry h2 rfl
    exact .inl ⟨i, j, rfl, rfl, q _ H F (.refl s) (.int _)⟩
  · rename_i i j h1 h2
    split at e
    · rename_i hl
      cases e
      cases RV.den rx h1 rfl
      cases RV.den ry h2 rfl
      exact .inr (.inl ⟨i, j, rfl, rfl, by rw [lim_eq]; exact hl, q _ H F (.refl s) (.str _)⟩)
    · cases e
  · rename_i xs ys h1 h2
    split at e
    · rename_i hl
      cases e
      obtain ⟨a, vs, rfl, r1, d1⟩ := RV.lst s rx h1
      obtain ⟨b, ws, rfl, r2, d2⟩ := RV.lst s ry h2
      refine .inr (.inr (.inl ⟨a, b, vs, ws, rfl, rfl, r1, r2, by rw [lim_eq, d1.length, d2.length]; exact hl, fun p hp => ?_⟩))
      exact q _ _ F (.newO s _ hp) ⟨p, _, rfl, noT_none hp, s.free hp, upd_same, d1.append d2⟩
    · cases e
  · rename_i xs ys h1 h2
    split at e
    · rename_i hl
      cases e
      cases RV.den rx h1 rfl with
      | tup t1 d1 =>
        cases RV.den ry h2 rfl with
        | tup t2 d2 =>
          refine .inr (.inr (.inr ⟨_, _, _, _, rfl, rfl, Same.seqT s t1, Same.seqT s t2, by rw [lim_eq, d1.length, d2.length]; exact hl, fun z => ?_, fun z1 z2 => ?_, fun _ _ p hp => ?_⟩))
          · subst z
            cases d1
            exact q _ H F (.refl s) (.tup t2 d2)
          · subst z2
            cases d2
            exact q _ H F (.refl s) (by rw [List.append_nil]; exact .tup t1 d1)
          · exact q _ _ _ (.new s (.tup _) hp) (.tup (SqT.of upd_same) ((d1.append d2).mono (same_upd (s.free hp))))
    · cases e
  · cases e
/-- * -/
def strRep (x : Str) (n : Int) : Str := ⟨((List.replicate n.toNat x.cps.toList).flatten).toArray⟩
theorem foldl_repA (x : Array Nat) : ∀ (k : Nat) (acc : List Nat), (List.replicate k x).foldl (· ++ ·) acc.toArray = (acc ++ (List.replicate k x.toList).flatten).toArray
  | 0, acc => by simp
  | k + 1, acc => by
    rw [List.replicate_succ, List.foldl_cons]
    have e : acc.toArray ++ x = (acc ++ x.toList).toArray := by simp
    rw [e, foldl_repA x k]
    simp [List.replicate_succ]
theorem strRep_len (x : Str) (n : Int) : (strRep x n).length = x.length * n.toNat := by
  show ((List.replicate n.toNat x.cps.toList).flatten).toArray.size = x.cps.size * n.toNat
  rw [List.size_toArray, PyProof.Rows.lm_len_rep_flat, Array.length_toList, Nat.mul_comm]
def rMulS : R2 := fun x y H Q => ∃ z n, x = .str z ∧ y = .int n ∧ -(2 ^ 63) ≤ n ∧ n < 2 ^ 63 ∧ z.length * n.toNat ≤ sizeLine ∧ Q (.str (strRep z n)) H
theorem op_mulS {X : Cx} : OpR X (binaryOp .Mult) rMulS := by
  intro pins s σ H x y v u Q I rx ry h
  obtain ⟨z, n, rfl, rfl, h1, h2, hz, q⟩ := h
  obtain ⟨t, rfl⟩ := rx
  obtain ⟨t', rfl⟩ := ry
  have hs : sizeLine = 16777216 := sizeLine_eq
  refine PySem.P.mul_str (by rw [decide_eq_false (by omega), decide_eq_false (by omega)]; rfl) (fun a b => ?_) (fun a b => ?_) ?_
  · rw [Bool.or_eq_false_iff] at b
    have n1 : 1 ≤ n := by omega
    intro c
    have hz' : (z.length : Int) * n ≤ 16777216 := by
      have : ((z.length * n.toNat : Nat) : Int) ≤ 16777216 := by omega
      rw [Int.natCast_mul, Int.toNat_of_nonneg (by omega)] at this
      exact this
    have c2 : (z.length : Int) * n > 2 ^ 63 - 1 := Int.lt_of_lt_of_le (Int.lt_mul_of_ediv_lt (by omega) c) (Int.le_refl _)
    omega
  · show decide (z.length * n.toNat > sizeLine) = false
    exact decide_eq_false (by omega)
  · by_cases a : n < 1
    · rw [if_pos a]
      have e : strRep z n = Str.empty := by
        unfold strRep
        rw [show n.toNat = 0 by omega]
        rfl
      refine ⟨by decide, ?_⟩
      exact ⟨.str _, H, I.tok _, ⟨_, rfl⟩, by rw [← e]; exact q⟩
    · rw [if_neg a]
      by_cases b : (n == 1 || z.length == 0) = true
      · rw [if_pos b]
        have e : strRep z n = z := by
          rw [Bool.or_eq_true, beq_iff_eq, beq_iff_eq] at b
          unfold strRep
          rcases b with b | b
          · subst b
            simp
          · have : z.cps = #[] := Array.eq_empty_of_size_eq_zero b
            obtain ⟨c⟩ := z
            simp only at this
            subst this
            simp
        exact ⟨.str _, H, I, ⟨_, rfl⟩, by rw [← e]; exact q⟩
      · rw [if_neg b]
        have e : (⟨(List.replicate n.toNat z.cps).foldl (· ++ ·) #[]⟩ : Str) = strRep z n := by
          have := foldl_repA z.cps n.toNat []
          unfold strRep
          rw [show (#[] : Array Nat) = ([] : List Nat).toArray from rfl, this, List.nil_append]
        rw [e]
        refine ⟨?_, ?_⟩
        · rw [strRep_len]; exact hz
        · exact ⟨.str _, H, I.tok _, ⟨_, rfl⟩, q⟩
def oMul : R → R → Option R := fun a b => match a.d, b.d with
  | .int i, .int j => if CMulB i j then some (.va (.int (i * j))) else none
  | .str x, .int n => if -(2 ^ 63) ≤ n ∧ n < 2 ^ 63 ∧ x.length * n.toNat ≤ LIM then some (.va (.str (strRep x n))) else none
  | .lst xs, .int n => if -(2 ^ 63) ≤ n ∧ n < 2 ^ 63 ∧ xs.length * n.toNat ≤ LIM then some (.tm (List.replicate n.toNat xs).flatten) else none
  | _, _ => none
def rMulA : R2 := fun x y H Q => rI CMulB (fun i j => .int (i * j)) x y H Q ∨ rMulS x y H Q ∨ rRep x y H Q
theorem op_mulA {X : Cx} : OpR X (binaryOp .Mult) rMulA := op_mulB.or (op_mulS.or op_rep)
theorem Dens.rep {K : PySem.W.Frag} {ca : Nat → Addr} {F : Hp} {vs : List V} {ds : List D} (h : Dens K ca F vs ds) : ∀ k : Nat, Dens K ca F (List.replicate k vs).flatten (List.replicate k ds).flatten
  | 0 => .nil
  | k + 1 => by
    rw [List.replicate_succ, List.replicate_succ, List.flatten_cons, List.flatten_cons]
    exact h.append (h.rep k)
/-- a list that a temporary or an own one is: it can be written -/
def R.wr : R → Bool
  | .va _ => false
  | _ => true
theorem RV.wrt {K : PySem.W.Frag} {ca : Nat → Addr} {B : BT} {H F' H' : Hp} {v : V} {r : R} {ds : List D} (h : RV K ca B H F' H' v r) (e : r.d = .lst ds) (w : r.wr = true) : ∃ a vs, v = .ref a ∧ H' a = some (.lst vs) ∧ Dens K ca F' vs ds := by
  cases r with
  | va d => cases w
  | tm es =>
    obtain rfl : es = ds := by injection e
    obtain ⟨a, vs, rfl, _, _, h3, h4⟩ := h
    exact ⟨a, vs, rfl, h3, h4⟩
  | bw j es =>
    obtain rfl : es = ds := by injection e
    obtain ⟨a, vs, rfl, _, _, h3, h4⟩ := h
    exact ⟨a, vs, rfl, h3, h4⟩
/-- * of a written list -/
def oMulA : R → R → Option R := fun a b => match a.d with
  | .lst _ => if a.wr = true then oMul a b else none
  | _ => oMul a b
theorem od_mul {K : PySem.W.Frag} {ca : Nat → Addr} : OpD K ca rMulA oMulA := by
  intro B H0 F H v w x y z Q s rx ry e q
  have e' : oMul x y = some z ∧ (∀ xs, x.d = .lst xs → x.wr = true) := by
    unfold oMulA at e
    split at e
    · split at e
      · exact ⟨e, fun _ _ => by assumption⟩
      · cases e
    · rename_i h
      exact ⟨e, fun xs z => absurd z (h xs)⟩
  obtain ⟨e, hw⟩ := e'
  unfold oMul at e
  split at e
  · rename_i i j h1 h2
    split at e
    · rename_i hc
      cases e
      cases RV.den rx h1 rfl
      cases RV.den ry h2 rfl
      exact .inl ⟨i, j, rfl, rfl, hc, q _ H F (.refl s) (.int _)⟩
    · cases e
  · rename_i i j h1 h2
    split at e
    · rename_i hc
      cases e
      cases RV.den rx h1 rfl
      cases RV.den ry h2 rfl
      exact .inr (.inl ⟨i, j, rfl, rfl, hc.1, hc.2.1, by rw [lim_eq]; exact hc.2.2, q _ H F (.refl s) (.str _)⟩)
    · cases e
  · rename_i xs j h1 h2
    split at e
    · rename_i hc
      cases e
      obtain ⟨a, vs, rfl, r1, d1⟩ := RV.wrt rx h1 (hw _ h1)
      cases RV.den ry h2 rfl
      refine .inr (.inr ⟨a, j, vs, rfl, rfl, r1, hc.1, hc.2.1, by rw [lim_eq, d1.length]; exact hc.2.2, fun p hp => ?_⟩)
      exact q _ _ F (.newO s _ hp) ⟨p, _, rfl, noT_none hp, s.free hp, upd_same, d1.rep _⟩
    · cases e
  · cases e
/-! ### comparisons -/
def oCmp (p : Int → Int → Bool) : R → R → Option R := oI (fun _ _ => True) fun i j => .bl (p i j)
section
variable {K : PySem.W.Frag} {ca : Nat → Addr}
theorem od_cmp {p : Int → Int → Bool} : OpD K ca (rI0 fun i j => .bl (p i j)) (oCmp p) := od_I0 fun _ _ _ => .bl _
def oLt := oCmp fun i j => decide (i < j)
def oLe := oCmp fun i j => decide (i ≤ j)
def oGt := oCmp fun i j => decide (j < i)
def eqR (a b : R) : Option Bool := match a.d, b.d with
  | .str x, .str y => some (decide (x = y))
  | d, e => if (okn 8 d && okn 8 e) = true then some (eqn 8 d e) else none
def oEq : R → R → Option R := fun a b => (eqR a b).map fun k => .va (.bl k)
def oNe : R → R → Option R := fun a b => (eqR a b).map fun k => .va (.bl (!k))
def rEqA (K : PySem.W.Frag) : R2 := fun x y H Q => rEq x y H Q ∨ rEqD K x y H Q
def rNeA (K : PySem.W.Frag) : R2 := fun x y H Q => rNe x y H Q ∨ rNeD K x y H Q
theorem op_eqA {X : Cx} (hu : X.A.units + 64 < cLine) : OpR X (compareOp .Eq) (rEqA X.K) := op_eq.or (op_eqD hu)
theorem op_neA {X : Cx} (hu : X.A.units + 64 < cLine) : OpR X (compareOp .NotEq) (rNeA X.K) := op_ne.or (op_neD hu)
theorem eqR_cases {B : BT} {Hs F H : Hp} {v w : V} {x y : R} {k : Bool} (s : Same F H) (rx : RV K ca B Hs F H v x) (ry : RV K ca B Hs F H w y) (e : eqR x y = some k) :
    (scal v w = true ∧ k = decide (v = w)) ∨ ∃ d f, Dp K H v d ∧ Dp K H w f ∧ SeqAt.shaped d = true ∧ SeqAt.shaped f = true ∧ k = PyData.eqv d f := by
  unfold eqR at e
  split at e
  · rename_i a b h1 h2
    cases e
    cases RV.den rx h1 rfl
    cases RV.den ry h2 rfl
    refine .inl ⟨rfl, ?_⟩
    by_cases h : a = b
    · subst h; simp
    · rw [decide_eq_false h, decide_eq_false (fun z => h (V.str.inj z))]
  · split at e
    · rename_i h
      cases e
      rw [Bool.and_eq_true] at h
      exact .inr ⟨_, _, RV.dp s rx h.1, RV.dp s ry h.2, okn_shaped h.1 (by decide), okn_shaped h.2 (by decide), (eqn_py 8 _ _ h.1 h.2).symm⟩
    · cases e
theorem od_eq : OpD K ca (rEqA K) oEq := by
  intro B H0 F H v w x y z Q s rx ry e q
  unfold oEq at e
  obtain ⟨k, ek, rfl⟩ := Option.map_eq_some_iff.mp e
  rcases eqR_cases s rx ry ek with ⟨h1, h2⟩ | ⟨d, f, h1, h2, h3, h4, h5⟩
  · exact .inl ⟨h1, by rw [← h2]; exact q _ H F (.refl s) (.bl _)⟩
  · exact .inr ⟨d, f, h1, h2, h3, h4, by rw [← h5]; exact q _ H F (.refl s) (.bl _)⟩
theorem od_ne : OpD K ca (rNeA K) oNe := by
  intro B H0 F H v w x y z Q s rx ry e q
  unfold oNe at e
  obtain ⟨k, ek, rfl⟩ := Option.map_eq_some_iff.mp e
  rcases eqR_cases s rx ry ek with ⟨h1, h2⟩ | ⟨d, f, h1, h2, h3, h4, h5⟩
  · exact .inl ⟨h1, by rw [← h2]; exact q _ H F (.refl s) (.bl _)⟩
  · exact .inr ⟨d, f, h1, h2, h3, h4, by rw [← h5]; exact q _ H F (.refl s) (.bl _)⟩
/-- is None -/
def D.isNon : D → Bool
  | .non => true
  | _ => false
theorem RV.non_iff {B : BT} {Hs F H : Hp} {v : V} {x : R} (rx : RV K ca B Hs F H v x) : decide (v = .non) = x.d.isNon := by
  cases x with
  | va d => cases rx <;> rfl
  | tm ds => obtain ⟨a, vs, rfl, _⟩ := rx; rfl
  | bw j ds => obtain ⟨a, vs, rfl, _⟩ := rx; rfl
def D.isBl (k : Bool) : D → Bool
  | .bl b => b == k
  | _ => false
theorem RV.bl_iff {B : BT} {Hs F H : Hp} {v : V} {x : R} {k : Bool} (rx : RV K ca B Hs F H v x) : decide (v = .bl k) = x.d.isBl k := by
  cases x with
  | va d => cases rx <;> first
    | rfl
    | (rename_i b; cases b <;> cases k <;> rfl)
  | tm ds => obtain ⟨a, vs, rfl, _⟩ := rx; rfl
  | bw j ds => obtain ⟨a, vs, rfl, _⟩ := rx; rfl
/-- is None, is True, is False -/
def rIsP : R2 := fun x y H Q => (y = .non ∨ ∃ b, y = .bl b) ∧ Q (.bl (decide (x = y))) H
theorem op_isP {X : Cx} : OpR X (compareOp .Is) rIsP := by
  rintro pins s σ H x y v u Q I rx ry ⟨hy, q⟩
  rcases hy with rfl | ⟨b, rfl⟩
  · exact op_isN pins s σ H x _ v u Q I rx ry ⟨rfl, q⟩
  · have eu : u = Value.bool b := ry
    subst eu
    cases x with
    | non =>
      have ev : v = Value.none := rx
      subst ev
      exact wpAny_is_plain rfl (fin_bl I q rfl)
    | bl c =>
      have ev : v = Value.bool c := rx
      subst ev
      exact wpAny_is_plain rfl (fin_bl I q (by cases c <;> cases b <;> rfl))
    | int i =>
      obtain ⟨t, rfl⟩ := rx
      exact wpAny_is_plain rfl (fin_bl I q rfl)
    | str z =>
      obtain ⟨t, rfl⟩ := rx
      exact wpAny_is_plain rfl (fin_bl I q rfl)
    | byt z =>
      obtain ⟨t, rfl⟩ := rx
      exact wpAny_is_plain rfl (fin_bl I q rfl)
    | flt z =>
      obtain ⟨t, rfl⟩ := rx
      exact wpAny_is_plain rfl (fin_bl I q rfl)
    | ref a =>
      have ev : v = Value.ref a := rx
      subst ev
      exact wpAny_is_plain rfl (fin_bl I q rfl)
    | ty n =>
      have ev : v = Value.type n := rx
      subst ev
      exact wpAny_is_plain rfl (fin_bl I q rfl)
def oIs : R → R → Option R := fun a b => match b with
  | .va .non => some (.va (.bl a.d.isNon))
  | .va (.bl k) => some (.va (.bl (a.d.isBl k)))
  | _ => none
def oIsN : R → R → Option R := fun a b => match b with
  | .va .non => some (.va (.bl (!a.d.isNon)))
  | _ => none
theorem od_is : OpD K ca rIsP oIs := by
  intro B H0 F H v w x y z Q s rx ry e q
  unfold oIs at e
  split at e
  · cases e
    cases ry
    exact ⟨.inl rfl, by rw [RV.non_iff rx]; exact q _ H F (.refl s) (.bl _)⟩
  · cases e
    cases ry
    exact ⟨.inr ⟨_, rfl⟩, by rw [RV.bl_iff rx]; exact q _ H F (.refl s) (.bl _)⟩
  · cases e
/-- in: flat items of a list or tuple; one sign in a text -/
def inR (a b : R) : Option Bool := match a.d, b.d with
  | .str ⟨c⟩, .str z => match c.toList with
    | [c] => some (decide (c ∈ z.cps.toList))
    | _ => none
  | d, .lst ds => if (okn 0 d && ds.all (okn 0)) = true then some (ds.any fun e => eqn 0 e d) else none
  | d, .tup ds => if (okn 0 d && ds.all (okn 0)) = true then some (ds.any fun e => eqn 0 e d) else none
  | _, _ => none
def oIn : R → R → Option R := fun a b => (inR a b).map fun k => .va (.bl k)
def oNin : R → R → Option R := fun a b => (inR a b).map fun k => .va (.bl (!k))
def rInA (K : PySem.W.Frag) : R2 := fun x y H Q => rIn K false x y H Q ∨ ∃ (c : Nat) (z : Str), x = .str ⟨#[c]⟩ ∧ y = .str z ∧ Q (.bl (decide (c ∈ z.cps.toList))) H
def rNinA (K : PySem.W.Frag) : R2 := fun x y H Q => rIn K true x y H Q ∨ ∃ (c : Nat) (z : Str), x = .str ⟨#[c]⟩ ∧ y = .str z ∧ Q (.bl (!decide (c ∈ z.cps.toList))) H
theorem op_inA {X : Cx} : OpR X (compareOp .In) (rInA X.K) := op_in_seq.or op_in_sign
theorem op_ninA {X : Cx} : OpR X (compareOp .NotIn) (rNinA X.K) := op_notIn_seq.or op_notIn_sign
theorem flat_of {F : Hp} {v : V} {d : D} (h : Den K ca F v d) (o : okn 0 d = true) : flatV v = true := by
  cases h <;> first | rfl | (simp [okn] at o)
theorem flats_of {F : Hp} : ∀ {vs : List V} {ds : List D}, Dens K ca F vs ds → ds.all (okn 0) = true → vs.all flatV = true
  | _, _, .nil, _ => rfl
  | _, _, .cons h hs, o => by
    rw [List.all_cons, Bool.and_eq_true] at o ⊢
    exact ⟨flat_of h o.1, flats_of hs o.2⟩
theorem eqV_of {F : Hp} {v w : V} {d e : D} (h : Den K ca F v d) (o : okn 0 d = true) (h' : Den K ca F w e) (o' : okn 0 e = true) : eqV v w = eqn 0 d e := by
  cases h <;> cases h' <;> first | rfl | (simp [okn] at o) | (simp [okn] at o')
theorem inV_of {F : Hp} {v : V} {d : D} (h : Den K ca F v d) (o : okn 0 d = true) : ∀ {vs : List V} {ds : List D}, Dens K ca F vs ds → ds.all (okn 0) = true → inV v vs = ds.any fun e => eqn 0 e d
  | _, _, .nil, _ => rfl
  | _, _, .cons g gs, o2 => by
    rw [List.all_cons, Bool.and_eq_true] at o2
    have ih := inV_of h o gs o2.2
    unfold inV at ih ⊢
    rw [List.any_cons, List.any_cons, ih, eqV_of g o2.1 h o]
theorem okn0_nolst {d : D} (o : okn 0 d = true) : d.isLst = false := by
  cases d <;> first | rfl | (simp [okn] at o)
theorem inR_cases {B : BT} {Hs F H : Hp} {v w : V} {x y : R} {k : Bool} (s : Same F H) (rx : RV K ca B Hs F H v x) (ry : RV K ca B Hs F H w y) (e : inR x y = some k) :
    (∃ p xs, w = .ref p ∧ (SqL K H p xs ∨ SqT K H p xs) ∧ flatV v = true ∧ xs.all flatV = true ∧ k = inV v xs) ∨ ∃ (c : Nat) (z : Str), v = .str ⟨#[c]⟩ ∧ w = .str z ∧ k = decide (c ∈ z.cps.toList) := by
  unfold inR at e
  split at e
  · rename_i c z h1 h2
    split at e
    · rename_i c' hc
      cases e
      cases RV.den rx h1 rfl
      cases RV.den ry h2 rfl
      have : c = #[c'] := by
        apply Array.ext'
        rw [hc]
      subst this
      exact .inr ⟨c', z, rfl, rfl, rfl⟩
    · cases e
  · rename_i ds h2 _
    split at e
    · rename_i h
      cases e
      rw [Bool.and_eq_true] at h
      obtain ⟨a, vs, rfl, r2, d2⟩ := RV.lst s ry (by assumption)
      have dx := RV.den rx rfl (okn0_nolst h.1)
      exact .inl ⟨a, vs, rfl, .inl (rd_l r2), flat_of dx h.1, flats_of d2 h.2, (inV_of dx h.1 d2 h.2).symm⟩
    · cases e
  · rename_i ds h2 _
    split at e
    · rename_i h
      cases e
      rw [Bool.and_eq_true] at h
      have dx := RV.den rx rfl (okn0_nolst h.1)
      cases RV.den ry (by assumption) rfl with
      | tup t1 d1 => exact .inl ⟨_, _, rfl, .inr (Same.seqT s t1), flat_of dx h.1, flats_of d1 h.2, (inV_of dx h.1 d1 h.2).symm⟩
    · cases e
  · cases e
theorem od_in : OpD K ca (rInA K) oIn := by
  intro B H0 F H v w x y z Q s rx ry e q
  unfold oIn at e
  obtain ⟨k, ek, rfl⟩ := Option.map_eq_some_iff.mp e
  rcases inR_cases s rx ry ek with ⟨p, xs, h1, h2, h3, h4, h5⟩ | ⟨c, z, h1, h2, h3⟩
  · exact .inl ⟨p, xs, h1, h2, h3, h4, by rw [if_neg Bool.false_ne_true, ← h5]; exact q _ H F (.refl s) (.bl _)⟩
  · exact .inr ⟨c, z, h1, h2, by rw [← h3]; exact q _ H F (.refl s) (.bl _)⟩
theorem od_nin : OpD K ca (rNinA K) oNin := by
  intro B H0 F H v w x y z Q s rx ry e q
  unfold oNin at e
  obtain ⟨k, ek, rfl⟩ := Option.map_eq_some_iff.mp e
  rcases inR_cases s rx ry ek with ⟨p, xs, h1, h2, h3, h4, h5⟩ | ⟨c, z, h1, h2, h3⟩
  · exact .inl ⟨p, xs, h1, h2, h3, h4, by rw [if_pos rfl, ← h5]; exact q _ H F (.refl s) (.bl _)⟩
  · exact .inr ⟨c, z, h1, h2, by rw [← h3]; exact q _ H F (.refl s) (.bl _)⟩
end
end BK
namespace BK
open PySem PySem.Spec L2
set_option autoImplicit false
/-! ### items, slices, displays -/
def oIx : R → R → Option R := fun a b => match a.d, b.d with
  | .lst xs, .int i => (atI xs i).map .va
  | .tup xs, .int i => (atI xs i).map .va
  | .rol xs, .int i => (atI xs i).map .va
  | .str z, .int i => if z.length ≤ LIM then (atI z.cps.toList i).map fun c => .va (.str ⟨#[c]⟩) else none
  | _, _ => none
section
variable {K : PySem.W.Frag} {ca : Nat → Addr}
theorem atI_den {F : Hp} {vs : List V} {ds : List D} (h : Dens K ca F vs ds) {i : Int} {d : D} (e : atI ds i = some d) : ∃ v, atI vs i = some v ∧ Den K ca F v d := by
  unfold atI at e ⊢
  rw [h.length]
  obtain ⟨j, e1, e2⟩ := Option.bind_eq_some_iff.mp e
  obtain ⟨v, e3, e4⟩ := h.getV e2
  exact ⟨v, by rw [e1]; exact e3, e4⟩
theorem od_ix : OpD K ca (rIx K) oIx := by
  intro B H0 F H v w x y z Q s rx ry e q
  unfold oIx at e
  split at e
  · rename_i xs i h1 h2
    obtain ⟨d, ed, rfl⟩ := Option.map_eq_some_iff.mp e
    obtain ⟨a, vs, rfl, r1, d1⟩ := RV.lst s rx h1
    cases RV.den ry h2 rfl
    obtain ⟨u, e1, e2⟩ := atI_den d1 ed
    exact .inl ⟨a, vs, i, u, rfl, rfl, rd_l r1, e1, q _ H F (.refl s) e2⟩
  · rename_i xs i h1 h2
    obtain ⟨d, ed, rfl⟩ := Option.map_eq_some_iff.mp e
    cases RV.den rx h1 rfl with
    | tup t1 d1 =>
      cases RV.den ry h2 rfl
      obtain ⟨u, e1, e2⟩ := atI_den d1 ed
      exact .inr (.inl ⟨_, _, i, u, rfl, rfl, Same.seqT s t1, e1, q _ H F (.refl s) e2⟩)
  · rename_i xs i h1 h2
    obtain ⟨d, ed, rfl⟩ := Option.map_eq_some_iff.mp e
    cases RV.den rx h1 rfl with
    | rol t1 d1 =>
      cases RV.den ry h2 rfl
      obtain ⟨u, e1, e2⟩ := atI_den d1 ed
      exact .inl ⟨_, _, i, u, rfl, rfl, s.seq t1, e1, q _ H F (.refl s) e2⟩
  · rename_i zz i h1 h2
    split at e
    · rename_i hl
      obtain ⟨c, ed, rfl⟩ := Option.map_eq_some_iff.mp e
      cases RV.den rx h1 rfl
      cases RV.den ry h2 rfl
      exact .inr (.inr ⟨zz, i, c, rfl, rfl, by rw [lim_eq]; exact hl, ed, q _ H F (.refl s) (.str _)⟩)
    · cases e
  · cases e
/-- the items of xs[lo:hi] -/
def cutL {α : Type} (xs : List α) (lo hi : Option Int) : List α := (xs.drop (HT.sIx xs.length 0 lo)).take (HT.sIx xs.length xs.length hi - HT.sIx xs.length 0 lo)
theorem Dens.cut {F : Hp} {vs : List V} {ds : List D} (h : Dens K ca F vs ds) (lo hi : Option Int) : Dens K ca F (cutV vs lo hi) (cutL ds lo hi) := by
  unfold cutV cutL
  rw [h.length]
  exact (h.drop _).take _
def tOV (K : PySem.W.Frag) (ca : Nat → Addr) (m : Gm → Option (Option Int)) : TO := fun σ H Q => ∃ H0 F0 F Γ o, SR K ca H0 F0 σ H F Γ ∧ m Γ = some o ∧ ∀ H' F', Ext ca H F H' F' → Q o H'
def pN : Gm → Option (Option Int) := fun _ => some none
def pS (m : Gm → Option R) : Gm → Option (Option Int) := fun g => (m g).bind fun r => match r with
  | .va (.int i) => some (some i)
  | _ => none
def oSl (a : R) (lo hi : Option Int) : Option R := match a.d with
  | .lst xs => some (.tm (cutL xs lo hi))
  | .tup xs => some (.va (.tup (cutL xs lo hi)))
  | .rol xs => some (.tm (cutL xs lo hi))
  | .str z => if z.length ≤ LIM then some (.va (.str (cutS z lo hi))) else none
  | _ => none
def eSl (m : Gm → Option R) (l h : Gm → Option (Option Int)) : Gm → Option R := fun g => (m g).bind fun a => (l g).bind fun lo => (h g).bind fun hi => oSl a lo hi
def rSlAll (K : PySem.W.Frag) : V → Option Int → Option Int → Hp → VK → Prop := fun x lo hi H Q => rSlL K x lo hi H Q ∨ rSlA K x lo hi H Q ∨ rSlS x lo hi H Q
end
section
variable {X : Cx} {ca : Nat → Addr} {a b e : Expr} {es : List Expr} {m n : Gm → Option R} {ms : Gm → Option (List R)} {pos p : Pos}
abbrev OV (X : Cx) (ca : Nat → Addr) (e : Option Expr) (m : Gm → Option (Option Int)) : Prop := PO X e (tOV X.K ca m)
theorem po_imp {e : Option Expr} {t t' : TO} (h : PO X e t) (i : ∀ σ H Q, t' σ H Q → t σ H Q) : PO X e t' := ⟨fun pins s σ H Q I q => h.run pins s σ H Q I (i σ H Q q)⟩
theorem ov_none : OV X ca none pN := by
  refine po_imp po_none ?_
  rintro σ H Q ⟨H0, F0, F, Γ, o, S, e, q⟩
  cases e
  exact q H F (.refl S.ext.fh)
theorem ov_some (h : EV X ca e m) : OV X ca (some e) (pS m) := by
  refine po_imp (po_some h) ?_
  rintro σ H Q ⟨H0, F0, F, Γ, o, S, e, q⟩
  unfold pS at e
  obtain ⟨r, er, e⟩ := Option.bind_eq_some_iff.mp e
  split at e
  · cases e
    refine ⟨H0, F0, F, Γ, _, S, er, fun v H' F' x h => ?_⟩
    cases h
    exact ⟨_, rfl, q H' F' x⟩
  · cases e
theorem sl_all : SlR X (rSlAll X.K) := sl_list.or (sl_tupA.or sl_str)
theorem ev_slice {l h : Option Expr} {ml mh : Gm → Option (Option Int)} {p2 : Pos} (he : EV X ca e m) (hl : OV X ca l ml) (hh : OV X ca h mh) : EV X ca (.Subscript e (.Slice l h none p2) pos) (eSl m ml mh) := by
  refine pe_imp (pe_slice sl_all he hl hh) ?_
  rintro σ H Q ⟨H0, F0, F, Γ, z, S, e, q⟩
  unfold eSl at e
  obtain ⟨r, er, e⟩ := Option.bind_eq_some_iff.mp e
  obtain ⟨lo, el, e⟩ := Option.bind_eq_some_iff.mp e
  obtain ⟨hi, eh, e⟩ := Option.bind_eq_some_iff.mp e
  refine ⟨H0, F0, F, Γ, r, S, er, fun v H1 F1 x1 r1 => ⟨H0, F0, F1, Γ, lo, S.mono x1, el, fun H2 F2 x2 => ⟨H0, F0, F2, Γ, hi, (S.mono x1).mono x2, eh, fun H3 F3 x3 => ?_⟩⟩⟩
  have x13 := x2.trans x3
  have x03 := x1.trans x13
  have s3 := x3.fh
  have r3 := r1.mono x13
  unfold oSl at e
  split at e
  · rename_i xs h1
    cases e
    obtain ⟨a, vs, rfl, g1, d1⟩ := RV.lst s3 r3 h1
    refine .inl ⟨a, vs, rfl, rd_l g1, fun p hp => ?_⟩
    exact q _ _ F3 (x03.trans (.newO s3 _ hp)) ⟨p, _, rfl, x03.hh.free (noT_none hp), s3.free hp, upd_same, d1.cut lo hi⟩
  · rename_i xs h1
    cases e
    cases RV.den r3 h1 rfl with
    | tup t1 d1 =>
      refine .inr (.inl ⟨_, _, rfl, Same.seqT s3 t1, fun w => ?_, fun _ p hp => ?_⟩)
      · refine q _ H3 F3 x03 ?_
        have : cutL xs lo hi = xs := by
          unfold cutL
          rw [d1.length] at w
          rw [w.1, w.2]
          simp
        rw [this]
        exact .tup t1 d1
      · exact q _ _ _ (x03.trans (.new s3 (.tup _) hp)) (.tup (SqT.of upd_same) ((d1.cut lo hi).mono (same_upd (s3.free hp))))
  · rename_i xs h1
    cases e
    cases RV.den r3 h1 rfl with
    | rol t1 d1 =>
      refine .inl ⟨_, _, rfl, s3.seq t1, fun p hp => ?_⟩
      exact q _ _ F3 (x03.trans (.newO s3 _ hp)) ⟨p, _, rfl, x03.hh.free (noT_none hp), s3.free hp, upd_same, d1.cut lo hi⟩
  · rename_i zz h1
    split at e
    · rename_i hl
      cases e
      cases RV.den r3 h1 rfl
      exact .inr (.inr ⟨zz, rfl, by rw [lim_eq]; exact hl, q _ H3 F3 x03 (.str _)⟩)
    · cases e
  · cases e
theorem RVs.den {K : PySem.W.Frag} {B : BT} {Hs F H : Hp} : ∀ {vs : List V} {rs : List R}, RVs K ca B Hs F H vs rs → (rs.all fun r => !r.wr) = true → Dens K ca F vs (rs.map R.d)
  | _, _, .nil, _ => .nil
  | _, _, .cons (b := r) h hs, o => by
    rw [List.all_cons, Bool.and_eq_true] at o
    cases r with
    | va d => exact .cons h (RVs.den hs o.2)
    | tm ds => exact absurd o.1 (by simp [R.wr])
    | bw j ds => exact absurd o.1 (by simp [R.wr])
theorem RVs.length {K : PySem.W.Frag} {B : BT} {Hs F H : Hp} {vs : List V} {rs : List R} (h : RVs K ca B Hs F H vs rs) : vs.length = rs.length := Paired.length h
/-- displays -/
def oTup (rs : List R) : Option R := if (rs.all (fun r => !r.wr) && decide (rs.length ≤ LIM)) = true then some (.va (.tup (rs.map R.d))) else none
def oLst (rs : List R) : Option R := if (rs.all (fun r => !r.wr) && decide (rs.length ≤ LIM)) = true then some (.tm (rs.map R.d)) else none
theorem ev_tup {x1 : Nat} (h : AV X ca es ms) : EV X ca (.Tuple es x1 pos) (eA oTup ms) := by
  refine pe_imp (pe_tup h) ?_
  rintro σ H Q ⟨H0, F0, F, Γ, z, S, e, q⟩
  unfold eA at e
  obtain ⟨rs, er, e⟩ := Option.bind_eq_some_iff.mp e
  refine ⟨H0, F0, F, Γ, rs, S, er, fun vs H1 F1 x1 r1 => ?_⟩
  unfold oTup at e
  split at e
  · rename_i h
    cases e
    rw [Bool.and_eq_true, decide_eq_true_eq] at h
    refine ⟨by rw [lim_eq, RVs.length r1]; exact h.2, fun p hp => ?_⟩
    exact q _ _ _ (x1.trans (.new x1.fh (.tup _) hp)) (.tup (SqT.of upd_same) ((RVs.den r1 h.1).mono (same_upd (x1.fh.free hp))))
  · cases e
theorem ev_lst (h : AV X ca es ms) : EV X ca (.List es pos) (eA oLst ms) := by
  refine pe_imp (pe_lst h) ?_
  rintro σ H Q ⟨H0, F0, F, Γ, z, S, e, q⟩
  unfold eA at e
  obtain ⟨rs, er, e⟩ := Option.bind_eq_some_iff.mp e
  refine ⟨H0, F0, F, Γ, rs, S, er, fun vs H1 F1 x1 r1 => ?_⟩
  unfold oLst at e
  split at e
  · rename_i h
    cases e
    rw [Bool.and_eq_true, decide_eq_true_eq] at h
    refine ⟨by rw [lim_eq, RVs.length r1]; exact h.2, fun p hp => ?_⟩
    exact q _ _ F1 (x1.trans (.newO x1.fh _ hp)) ⟨p, _, rfl, x1.hh.free (noT_none hp), x1.fh.free hp, upd_same, RVs.den r1 h.1⟩
  · cases e
/-- own lists grow: x.append(e) -/
def sApp (i : Nat) (m : Gm → Option R) : Gm → Option Out := fun g => match g[i]? with
  | some (.ow ds) => (m g).bind fun r => if (!r.isBw && decide (ds.length < LIM)) = true then some (.nx (g.set i (.ow (ds ++ [r.d])))) else none
  | _ => none
theorem sv_app {i : Nat} {x : Str} {pos p1 p2 p3 : Pos} (hx : PE X (.Name x p1) (tVar i)) (he : EV X ca e m) (hs1 : starEach [e] X.env = (false, eval e X.env) :: starEach [] X.env := by rfl)
    (h : PE X (.Call (.Attribute (.Name x p1) "append" p2) [e] [] p3) (tBM X.K "list" rAppend (tVar i) (tCons (tEV X.K ca m) tNil)))
    (hs : swapsWith (.Call (.Attribute (.Name x p1) "append" p2) [e] [] p3) none pos.line X.env = pure false := by rfl) : SV X ca (.Expr (.Call (.Attribute (.Name x p1) "append" p2) [e] [] p3) pos) (sApp i m) [i] := by
  refine ⟨ps_imp (ps_expr h hs) ?_, fun g o e => ?_⟩
  · rintro D σ H ⟨H0, F0, F, Γ, o, S, e, p⟩
    unfold sApp at e
    split at e
    · rename_i ds hg
      obtain ⟨r, er, e⟩ := Option.bind_eq_some_iff.mp e
      split at e
      · rename_i hc
        cases e
        rw [Bool.and_eq_true, decide_eq_true_eq] at hc
        obtain ⟨a, vs, s, h1, h2, h3, h4⟩ := S.ow i ds hg
        refine ⟨_, s, .inl ⟨rfl, vs, SqL.of h3⟩, H0, F0, F, Γ, r, S, er, fun v H1 F1 x1 r1 => ?_⟩
        obtain ⟨F2, x2, s2, d2⟩ := RV.froze x1 r1 (by simpa using hc.1)
        refine ⟨a, vs, v, rfl, rfl, x2.hh.l h3, by rw [lim_eq, h4.length]; exact hc.2, ?_⟩
        have S2 := S.mono x2
        exact p σ _ F2 (S2.upd hg s ((h4.mono x2.ff).append (.one d2))) x2.ff .refl
      · cases e
    · cases e
  · unfold sApp at e
    split at e
    · obtain ⟨r, er, e⟩ := Option.bind_eq_some_iff.mp e
      split at e
      · cases e
        exact kpg_set
      · cases e
    · cases e
/-- an own list is frozen, at no cost: ahead of a statement -/
def sFz (i : Nat) (m : Gm → Option Out) : Gm → Option Out := fun g => match g[i]? with
  | some (.ow ds) => m (g.set i (.va (.lst ds)))
  | _ => m g
theorem sv_fz {i : Nat} {st : Stmt} {m : Gm → Option Out} {T : List Nat} (h : SV X ca st m T) : SV X ca st (sFz i m) (i :: T) := by
  have i2 : ∀ j ∈ T, j ∈ i :: T := fun j h => List.mem_cons_of_mem _ h
  refine ⟨ps_imp h.ps ?_, fun g o e => ?_⟩
  · rintro D σ H ⟨H0, F0, F, Γ, o, S, e, p⟩
    unfold sFz at e
    split at e
    · rename_i ds hg
      obtain ⟨F', sf, S'⟩ := S.frz hg
      exact ⟨H0, F0, F', _, o, S', e, PostO.mono (T := []) sf .refl (fun _ z => nomatch z) i2 p⟩
    · exact ⟨H0, F0, F, Γ, o, S, e, PostO.mono (T := []) (Same.refl _) .refl (fun _ z => nomatch z) i2 p⟩
  · unfold sFz at e
    split at e
    · exact KpG.after (g' := g.set i _) (T := [i]) kpg_set (h.kp _ _ e) (by simp) i2
    · exact (h.kp _ _ e).mono i2
end
end BK
namespace BK
open PySem PySem.Spec L2
open PyProof.Rows (envOfC)
set_option autoImplicit false
/-! ### calls of the text's own defs -/
abbrev NB : BT := fun _ _ _ => False
abbrev Phi := List D → Option R
def spOf (K : PySem.W.Frag) (ca : Nat → Addr) (φ : Phi) : Sp := fun vs H Q _ => ∃ ds F r, Same F H ∧ NT F ∧ TabsC ca H ∧ Dens K ca F vs ds ∧ φ ds = some r ∧ ∀ v H' F', Ext ca H F H' F' → RV K ca NB H F' H' v r → Q v H'
/-- a def as its callers see it: its value is φ's; dds: the defaults that fill up -/
structure Callee (P : Program) (w : World) (K : PySem.W.Frag) (mg : Str → Option Value) (base : Heap) (ca : Nat → Addr) (k : Nat) (x : Str) (φ : Phi) (dds : List D) : Prop where
  ex : ∃ (f : Addr) (fd : FuncData) (ps : List Str) (dvs : List V) (ds : List Value), FnOk P w K mg base CX0 k f fd ps (spOf K ca φ) ∧ mg x = some (.ref f) ∧ PySem.W.keepIn K (.ref f) = true ∧ Binds K fd ps ds ∧ Vals dvs ds ∧ ∀ F, Dens K ca F dvs dds
theorem Callee.mono {P : Program} {w : World} {K : PySem.W.Frag} {mg : Str → Option Value} {base : Heap} {ca : Nat → Addr} {j k : Nat} {x : Str} {φ : Phi} {dds : List D} (C : Callee P w K mg base ca j x φ dds) (h : j ≤ k) : Callee P w K mg base ca k x φ dds := by
  obtain ⟨f, fd, ps, dvs, ds, F, r⟩ := C.ex
  exact ⟨f, fd, ps, dvs, ds, F.mono h, r⟩
/-- no list within -/
def lfn : Nat → D → Bool
  | _, .non => true
  | _, .bl _ => true
  | _, .int _ => true
  | _, .str _ => true
  | n + 1, .tup xs => xs.all (lfn n)
  | n + 1, .ins _ xs => xs.all (lfn n)
  | _, _ => false
def R.lf : R → Bool
  | .va d => lfn 8 d
  | .tm ds => ds.all (lfn 8)
  | .bw _ _ => false
theorem lf_den {K : PySem.W.Frag} {ca : Nat → Addr} {F F' : Hp} (h : ∀ b o, F b = some o → (∀ xs, o ≠ .lst xs) → F' b = some o) : ∀ (n : Nat) {d : D} {v : V}, lfn n d = true → Den K ca F v d → Den K ca F' v d := by
  have all : ∀ (g : D → Bool), (∀ {d : D} {v : V}, g d = true → Den K ca F v d → Den K ca F' v d) → ∀ {ds : List D} {vs : List V}, ds.all g = true → Dens K ca F vs ds → Dens K ca F' vs ds := by
    intro g hg ds vs e hd
    induction ds generalizing vs with
    | nil => cases hd; exact .nil
    | cons d ds ih =>
      cases hd with
      | cons h1 h2 =>
        rw [List.all_cons, Bool.and_eq_true] at e
        exact .cons (hg e.1 h1) (ih e.2 h2)
  have tup : ∀ {a : Addr} {xs : List V}, SqT K F a xs → SqT K F' a xs := by
    rintro a xs ((z | ⟨o, z⟩) | z)
    · exact .inl (.inl (h _ _ z (by intro ys; intro q; cases q)))
    · exact .inl (.inr ⟨o, h _ _ z (by intro ys; intro q; cases q)⟩)
    · exact .inr z
  intro n
  induction n with
  | zero =>
    intro d v e hd
    cases hd <;> first
      | (simp [lfn] at e; done)
      | constructor
  | succ n ih =>
    intro d v e hd
    cases hd with
    | lst _ _ => simp [lfn] at e
    | rol _ _ => simp [lfn] at e
    | dic _ _ _ => simp [lfn] at e
    | exc _ _ _ _ => simp [lfn] at e
    | tup t hs => exact .tup (tup t) (all (lfn n) ih e hs)
    | ins k t e2 hs => exact .ins k (h _ _ t (by intro ys; intro q; cases q)) e2 (all (lfn n) ih e hs)
    | non => exact .non
    | bl b => exact .bl b
    | int i => exact .int i
    | str x => exact .str x
    | opq a => exact .opq a
theorem lf_dens {K : PySem.W.Frag} {ca : Nat → Addr} {F F' : Hp} (h : ∀ b o, F b = some o → (∀ xs, o ≠ .lst xs) → F' b = some o) : ∀ {ds : List D} {vs : List V}, ds.all (lfn 8) = true → Dens K ca F vs ds → Dens K ca F' vs ds
  | [], _, _, hd => by cases hd; exact .nil
  | d :: ds, _, e, hd => by
    cases hd with
    | cons h1 h2 =>
      rw [List.all_cons, Bool.and_eq_true] at e
      exact .cons (lf_den h 8 e.1 h1) (lf_dens h e.2 h2)
/-- of what kind the first item of a list is -/
def hk : List D → Nat
  | [] => 0
  | .str _ :: _ => 1
  | _ => 2
theorem hk_uniq {K : PySem.W.Frag} {ca : Nat → Addr} {F F' : Hp} {vs : List V} {ds es : List D} (h : Dens K ca F vs ds) (h' : Dens K ca F' vs es) : hk ds = hk es := by
  cases h with
  | nil => cases h'; rfl
  | cons a _ =>
    cases h' with
    | cons b _ => cases a <;> cases b <;> rfl
/-- no list of such a kind within -/
def lfk : Nat → List Nat → D → Bool
  | _, _, .non => true
  | _, _, .bl _ => true
  | _, _, .int _ => true
  | _, _, .str _ => true
  | n + 1, ks, .tup xs => xs.all (lfk n ks)
  | n + 1, ks, .ins _ xs => xs.all (lfk n ks)
  | n + 1, ks, .lst xs => !ks.contains (hk xs) && xs.all (lfk n ks)
  | _, _, _ => false
def R.lfk (ks : List Nat) : R → Bool
  | .va d => BK.lfk 8 ks d
  | .tm ds => ds.all (BK.lfk 8 ks)
  | .bw _ _ => false
def lentK : List R → List Nat
  | [] => []
  | .bw _ ds :: rs => hk ds :: lentK rs
  | _ :: rs => lentK rs
theorem lentK_mem {j : Nat} {ds : List D} : ∀ {rs : List R}, R.bw j ds ∈ rs → hk ds ∈ lentK rs
  | r :: rs, h => by
    rcases List.mem_cons.mp h with e | h
    · subst e; exact List.mem_cons_self
    · have := lentK_mem h
      cases r <;> first | exact this | exact List.mem_cons_of_mem _ this
theorem lfk_den {K : PySem.W.Frag} {ca : Nat → Addr} {F F' : Hp} {ks : List Nat} (h : ∀ b o, F b = some o → (∀ xs, o ≠ .lst xs) → F' b = some o) (hl : ∀ b xs ds, F b = some (.lst xs) → Dens K ca F xs ds → ks.contains (hk ds) = false → F' b = some (.lst xs)) : ∀ (n : Nat) {d : D} {v : V}, lfk n ks d = true → Den K ca F v d → Den K ca F' v d := by
  have all : ∀ (g : D → Bool), (∀ {d : D} {v : V}, g d = true → Den K ca F v d → Den K ca F' v d) → ∀ {ds : List D} {vs : List V}, ds.all g = true → Dens K ca F vs ds → Dens K ca F' vs ds := by
    intro g hg ds vs e hd
    induction ds generalizing vs with
    | nil => cases hd; exact .nil
    | cons d ds ih =>
      cases hd with
      | cons h1 h2 =>
        rw [List.all_cons, Bool.and_eq_true] at e
        exact .cons (hg e.1 h1) (ih e.2 h2)
  have tup : ∀ {a : Addr} {xs : List V}, SqT K F a xs → SqT K F' a xs := by
    rintro a xs ((z | ⟨o, z⟩) | z)
    · exact .inl (.inl (h _ _ z (by intro ys; intro q; cases q)))
    · exact .inl (.inr ⟨o, h _ _ z (by intro ys; intro q; cases q)⟩)
    · exact .inr z
  intro n
  induction n with
  | zero =>
    intro d v e hd
    cases hd <;> first
      | (simp [lfk] at e; done)
      | constructor
  | succ n ih =>
    intro d v e hd
    cases hd with
    | lst t hs =>
      unfold lfk at e
      rw [Bool.and_eq_true, Bool.not_eq_true'] at e
      exact .lst (hl _ _ _ t hs e.1) (all (lfk n ks) ih e.2 hs)
    | rol _ _ => simp [lfk] at e
    | dic _ _ _ => simp [lfk] at e
    | exc _ _ _ _ => simp [lfk] at e
    | tup t hs => exact .tup (tup t) (all (lfk n ks) ih e hs)
    | ins k t e2 hs => exact .ins k (h _ _ t (by intro ys; intro q; cases q)) e2 (all (lfk n ks) ih e hs)
    | non => exact .non
    | bl b => exact .bl b
    | int i => exact .int i
    | str x => exact .str x
    | opq a => exact .opq a
theorem dens_by {K : PySem.W.Frag} {ca : Nat → Addr} {F F' : Hp} {g : D → Bool} (hg : ∀ {d : D} {v : V}, g d = true → Den K ca F v d → Den K ca F' v d) : ∀ {ds : List D} {vs : List V}, ds.all g = true → Dens K ca F vs ds → Dens K ca F' vs ds
  | [], _, _, hd => by cases hd; exact .nil
  | d :: ds, _, e, hd => by
    cases hd with
    | cons h1 h2 =>
      rw [List.all_cons, Bool.and_eq_true] at e
      exact .cons (hg e.1 h1) (dens_by hg e.2 h2)
def R.isTm : R → Bool
  | .tm _ => true
  | _ => false
/-- the call by values: where an own list is lent the answer has no list within, or none of the kind of a lent one -/
def callR (φ : Phi) (dds : List D) (rs : List R) : Option R := if (rs.any R.isTm) = true then none else (φ (rs.map R.d ++ dds)).bind fun r => if (!rs.any R.isBw || r.lf || r.lfk (lentK rs)) = true then some r else none
section
variable {X : Cx} {ca : Nat → Addr}
theorem call_core {H0 F0 H F : Hp} {σ : L2.St} {Γ : Gm} {vs dvs : List V} {rs : List R} {dds : List D} {φ : Phi} {z : R} {Hs : Hp} {Q : VK} {E : XK} (S : SR X.K ca H0 F0 σ H F Γ) (hr : RVs X.K ca (BB σ Γ) Hs F H vs rs) (hd : Dens X.K ca F dvs dds) (e : callR φ dds rs = some z)
    (q : ∀ v H' F', Ext ca H F H' F' → RV X.K ca (BB σ Γ) H F' H' v z → Q v H') : spOf X.K ca φ (vs ++ dvs) H Q E := by
  classical
  unfold callR at e
  split at e
  · cases e
  rename_i htm
  obtain ⟨r, er, e⟩ := Option.bind_eq_some_iff.mp e
  by_cases hlf : (!rs.any R.isBw || r.lf || r.lfk (lentK rs)) = true
  rotate_left
  · rw [if_neg hlf] at e
    cases e
  rw [if_pos hlf] at e
  cases e
  have s := S.ext.fh
  -- what is lent
  let Bp : Addr → Prop := fun b => ∃ j ds vs, BB σ Γ j b ds ∧ F b = none ∧ H b = some (.lst vs) ∧ Dens X.K ca F vs ds ∧ R.bw j ds ∈ rs
  let F3 : Hp := fun b => if Bp b then H b else F b
  have s13 : Same F F3 := fun b o h => by
    show (if Bp b then H b else F b) = some o
    by_cases hb : Bp b
    · obtain ⟨_, _, _, _, h2, _⟩ := hb
      rw [h2] at h; cases h
    · rw [if_neg hb]; exact h
  have s3 : Same F3 H := fun b o h => by
    have h : (if Bp b then H b else F b) = some o := h
    by_cases hb : Bp b
    · rw [if_pos hb] at h; exact h
    · rw [if_neg hb] at h; exact s b o h
  have dens : ∀ {us : List V} {ts : List R}, RVs X.K ca (BB σ Γ) Hs F H us ts → (∀ t ∈ ts, t.isTm = false) → (∀ t ∈ ts, t.isBw = true → t ∈ rs) → Dens X.K ca F3 us (ts.map R.d) := by
    intro us ts h
    induction h with
    | nil => intro _ _; exact .nil
    | cons h hs ih =>
      rename_i v t us ts
      intro g1 g2
      refine .cons ?_ (ih (fun t ht => g1 t (List.mem_cons_of_mem _ ht)) fun t ht => g2 t (List.mem_cons_of_mem _ ht))
      cases t with
      | va d => exact Den.mono s13 h
      | tm ds => exact absurd (g1 _ List.mem_cons_self) (by simp [R.isTm])
      | bw j ds =>
        obtain ⟨a, ws, rfl, hb, h2, h3, h4⟩ := h
        have hB : Bp a := ⟨j, ds, ws, hb, h2, h3, h4, g2 _ List.mem_cons_self rfl⟩
        refine .lst ?_ (h4.mono s13)
        show (if Bp a then H a else F a) = some (.lst ws)
        rw [if_pos hB]; exact h3
  have htm' : ∀ t ∈ rs, t.isTm = false := fun t ht => by
    cases q : t.isTm with
    | false => rfl
    | true => exact absurd (List.any_eq_true.mpr ⟨t, ht, q⟩) htm
  have nF : NT F := S.ext.nt S.nt0
  have n3 : NT F3 := fun b ps h => by
    have h : (if Bp b then H b else F b) = some (.tbl ps) := h
    by_cases hb : Bp b
    · rw [if_pos hb] at h
      obtain ⟨_, _, _, _, _, h3, _⟩ := hb
      rw [h3] at h; cases h
    · rw [if_neg hb] at h; exact nF b ps h
  refine ⟨rs.map R.d ++ dds, F3, z, s3, n3, S.tc0.mono S.ext.hh, (dens hr htm' fun t ht hb => ht).append (hd.mono s13), er, fun v H' F4 x4 r4 => ?_⟩
  let F5 : Hp := fun b => if Bp b then none else F4 b
  have s15 : Same F F5 := fun b o h => by
    show (if Bp b then none else F4 b) = some o
    by_cases hb : Bp b
    · obtain ⟨_, _, _, _, h2, _⟩ := hb
      rw [h2] at h; cases h
    · rw [if_neg hb]; exact x4.ff _ _ (s13 b o h)
  have s54 : Same F5 F4 := fun b o h => by
    have h : (if Bp b then none else F4 b) = some o := h
    by_cases hb : Bp b
    · rw [if_pos hb] at h; cases h
    · rw [if_neg hb] at h; exact h
  have x5 : Ext ca H F H' F5 := ⟨x4.hh, s15, s54.trans x4.fh, fun b h => by
    have h : (if Bp b then none else F4 b) ≠ none := h
    by_cases hb : Bp b
    · rw [if_pos hb] at h; exact absurd rfl h
    · rw [if_neg hb] at h
      rcases x4.nw b h with z | z
      · have z : (if Bp b then H b else F b) ≠ none := z
        rw [if_neg hb] at z
        exact .inl z
      · exact .inr z, fun _ b ps h => by
    have h : (if Bp b then none else F4 b) = some (.tbl ps) := h
    by_cases hb : Bp b
    · rw [if_pos hb] at h; cases h
    · rw [if_neg hb] at h; exact x4.nt n3 b ps h⟩
  by_cases hbw : rs.any R.isBw = true
  · have lf : z.lf = true ∨ z.lfk (lentK rs) = true := by
      rw [hbw] at hlf
      simpa using hlf
    have res : ∀ b o, F4 b = some o → (∀ xs, o ≠ .lst xs) → F5 b = some o := fun b o h hn => by
      show (if Bp b then none else F4 b) = some o
      by_cases hb : Bp b
      · exfalso
        obtain ⟨_, _, ws, _, h2, h3, _⟩ := id hb
        have h4 : F3 b = some (.lst ws) := by
          show (if Bp b then H b else F b) = _
          rw [if_pos hb]; exact h3
        have h5 := x4.ff _ _ h4
        rw [h] at h5
        cases h5
        exact hn ws rfl
      · rw [if_neg hb]; exact h
    have resl : ∀ b xs ds, F4 b = some (.lst xs) → Dens X.K ca F4 xs ds → (lentK rs).contains (hk ds) = false → F5 b = some (.lst xs) := fun b xs ds h hd hn => by
      show (if Bp b then none else F4 b) = some (.lst xs)
      by_cases hb : Bp b
      · exfalso
        obtain ⟨j, es, ws, _, h2, h3, h4, h5⟩ := id hb
        have h6 : F3 b = some (.lst ws) := by
          show (if Bp b then H b else F b) = _
          rw [if_pos hb]; exact h3
        have h7 := x4.ff _ _ h6
        rw [h] at h7
        cases h7
        have h8 := lentK_mem h5
        rw [← hk_uniq hd h4, ← List.contains_iff_mem, hn] at h8
        cases h8
      · rw [if_neg hb]; exact h
    have den : ∀ {d : D} {v : V}, (lfn 8 d = true ∨ BK.lfk 8 (lentK rs) d = true) → Den X.K ca F4 v d → Den X.K ca F5 v d := fun h hd => by
      rcases h with h | h
      · exact lf_den res 8 h hd
      · exact lfk_den res resl 8 h hd
    refine q v H' F5 x5 ?_
    cases z with
    | va d => exact den lf r4
    | tm ds =>
      obtain ⟨a, ws, rfl, h1, h2, h3, h4⟩ := r4
      refine ⟨a, ws, rfl, h1, ?_, h3, ?_⟩
      · show (if Bp a then none else F4 a) = none
        split
        · rfl
        · exact h2
      · rcases lf with lf | lf
        · exact dens_by (fun e => den (.inl e)) lf h4
        · exact dens_by (fun e => den (.inr e)) lf h4
    | bw j ds => rcases lf with lf | lf <;> cases lf
  · have e5 : F5 = F4 := funext fun b => by
      show (if Bp b then none else F4 b) = F4 b
      rw [if_neg fun ⟨_, _, _, _, _, _, _, z⟩ => hbw (List.any_eq_true.mpr ⟨_, z, rfl⟩)]
    rw [e5] at x5
    refine q v H' F4 x5 ?_
    cases z with
    | va d => exact r4
    | tm ds => exact r4
    | bw j ds =>
      obtain ⟨_, _, _, h, _⟩ := r4
      exact h.elim
variable {k j : Nat} {x : Str} {φ : Phi} {dds : List D} {p pos : Pos} {e : Expr} {es : List Expr} {ms : Gm → Option (List R)}
theorem t_fn {dvs : List V} {E : XK} (hd : ∀ F, Dens X.K ca F dvs dds) {σ : L2.St} {H : Hp} {Q : VK} (h : tEV X.K ca (eA (callR φ dds) ms) σ H Q) : tCall (spOf X.K ca φ) dvs E (tAV X.K ca ms) σ H Q := by
  obtain ⟨H0, F0, F, Γ, z, S, e, q⟩ := h
  unfold eA at e
  obtain ⟨rs, er, e⟩ := Option.bind_eq_some_iff.mp e
  refine ⟨H0, F0, F, Γ, rs, S, er, fun vs H1 F1 x1 r1 => ?_⟩
  exact call_core (S.mono x1) r1 (hd F1) e fun v H2 F2 x2 r2 => q v H2 F2 (x1.trans x2) (r2.back x1.hh)
theorem ev_fn (C : Callee X.prog X.w X.K X.mg X.base ca j x φ dds) (hr : Room j X.A) (hg : Gl X x) (ha : AV X ca (e :: es) ms) (hdb : (x == ("__debug__" : Str)) = false := by decide)
    (he : starEach (e :: es) X.env = (false, eval e X.env) :: starEach es X.env := by rfl) (hpl : (backTo pos (starEach es X.env)).any (·.1) = false := by rfl) : EV X ca (.Call (.Name x p) (e :: es) [] pos) (eA (callR φ dds) ms) := by
  obtain ⟨f, fd, ps, dvs, ds, G, hm, hk, hb, hv, hd⟩ := C.ex
  exact pe_imp (pe_call G hr hg hm hk hb hv pass0 ha hdb he hpl) fun σ H Q h => t_fn hd h
end
/-! ### a def by its body -/
/-- the def as a function of data -/
def phi (m : Gm → Option Out) (N n : Nat) : Phi := fun ds => if ds.length = n then match m (ds.map Slot.va ++ List.replicate (N - n) Slot.un) with
  | some (.rt r) => some (retR r)
  | some (.nx _) => some (.va .non)
  | _ => none
  else none
theorem start_get {N : List Str} {vs : List V} {i : Nat} {v : V} (h : vs[i]? = some v) : (L2.start N vs)[i]? = some (some v) := by
  unfold L2.start
  have hi : i < vs.length := (List.getElem?_eq_some_iff.mp h).1
  rw [List.getElem?_append_left (by simpa using hi), List.getElem?_map, h]
  rfl
theorem sr_start {K : PySem.W.Frag} {ca : Nat → Addr} {H F : Hp} {N : List Str} {vs : List V} {ds : List D} (s : Same F H) (nt : NT F) (tc : TabsC ca H) (h : Dens K ca F vs ds) : SR K ca H F (L2.start N vs) H F (ds.map Slot.va ++ List.replicate (N.length - ds.length) Slot.un) := by
  have key : ∀ (i : Nat) (x : Slot), (ds.map Slot.va ++ List.replicate (N.length - ds.length) Slot.un)[i]? = some x → x = .un ∨ ∃ d, x = .va d ∧ ds[i]? = some d := by
    intro i x e
    by_cases hi : i < ds.length
    · rw [List.getElem?_append_left (by simpa using hi), List.getElem?_map] at e
      cases q : ds[i]? with
      | none => rw [q] at e; cases e
      | some d => rw [q] at e; cases e; exact .inr ⟨d, rfl, rfl⟩
    · rw [List.getElem?_append_right (by simpa using hi), List.getElem?_replicate] at e
      split at e
      · cases e; exact .inl rfl
      · cases e
  refine ⟨.refl s, nt, tc, ?_, fun i d e => ?_, fun i es e => ?_, fun i j es fs a n e1 e2 => ?_, Own.nil fun i u e => ?_⟩
  · unfold L2.start
    rw [List.length_append, List.length_append, List.length_map, List.length_map, List.length_replicate, List.length_replicate, h.length]
  · rcases key i _ e with z | ⟨d', z, g⟩
    · cases z
    · cases z
      obtain ⟨v, h1, h2⟩ := h.getV g
      exact ⟨v, start_get h1, h2⟩
  · rcases key i _ e with z | ⟨d', z, g⟩ <;> cases z
  · rcases key i _ e1 with z | ⟨d', z, g⟩ <;> cases z
  · rcases key i _ e with z | ⟨d', z, g⟩ <;> cases z
section
variable {P : Program} {w : World} {K : PySem.W.Frag} {mg : Str → Option Value} {base : Heap} {ca : Nat → Addr}
/-- a def as it stands, its defaults of any kind -/
structure FunA (K : PySem.W.Frag) (x qual : Str) (st : Stmt) (f : Addr) (fd : FuncData) : Prop where
  ex : ∃ (oc : Value) (od : Option Addr) (dV kV doc pm : Value) (an : Option Addr) (cdv ct : Value) (osl : Array (Option Value)),
    fd = PySem.W.fnOf x qual (defArgs st) (defBody st) (defScope st) dV kV doc pm an cdv ct ∧ K.lookup f = some ⟨oc, od, .func fd, osl⟩ ∧ PySem.W.codeIn K cdv qual = true
  kp : PySem.W.keepIn K (.ref f) = true
theorem _root_.L2.Fun.toA {x qual : Str} {st : Stmt} {f : Addr} {fd : FuncData} (F : Fun K x qual st f fd) : FunA K x qual st f fd := by
  obtain ⟨oc, od, kV, doc, pm, an, cdv, ct, osl, e, lk, hcd⟩ := F.ex
  exact ⟨⟨oc, od, _, kV, doc, pm, an, cdv, ct, osl, e, lk, hcd⟩, F.kp⟩
theorem FunA.ok {x qual : Str} {st : Stmt} {f : Addr} {fd : FuncData} {N ps : List Str} {k : Nat} {sp : Sp} (F : FunA K x qual st f fd) (S : FnScope N ps (defScope st)) (len : ∀ vs H Q E, sp vs H Q E → vs.length = ps.length)
    (hbody : ∀ (cdv : Value), fd.code = cdv → ∀ (A : Around) (outer : List Env) (s : Shared) (H : Hp) (vs : List V) (Q : VK) (E : XK), Room k (A.deeper (envOfC qual (defScope st) s.heap.objs.size f cdv)) → sp vs H Q E →
      ∃ t, PSs (cxOf CX0 P w K mg base N qual (defScope st) f cdv A outer s H E).nox (defBody st) t ∧ t { nx := fun _ H' => Q .non H', rt := Q } (L2.start N vs) H) : FnOk P w K mg base CX0 (k + 1) f fd ps sp := by
  obtain ⟨oc, od, dV, kV, doc, pm, an, cdv, ct, osl, rfl, lk, hcd⟩ := F.ex
  refine fn_of lk hcd S len fun A outer s H vs Q E hr hsp => ?_
  obtain ⟨t, h, q⟩ := hbody cdv rfl A outer s H vs Q E hr hsp
  exact ⟨t, h.nox, q⟩
theorem fn_okC {x qual : Str} {st : Stmt} {f : Addr} {fd : FuncData} {N ps : List Str} {k n nN : Nat} {m : Gm → Option Out} {T : List Nat} {φ : Phi} (F : FunA K x qual st f fd) (S : FnScope N ps (defScope st)) (hn : ps.length = n) (hN : N.length = nN) (hφ : φ = phi m nN n)
    (hbody : ∀ (cdv : Value), fd.code = cdv → ∀ (A : Around) (outer : List Env) (s : Shared) (H : Hp) (E : XK), Room k (A.deeper (envOfC qual (defScope st) s.heap.objs.size f cdv)) →
      SVs (cxOf CX0 P w K mg base N qual (defScope st) f cdv A outer s H E).nox ca (defBody st) m T) : FnOk P w K mg base CX0 (k + 1) f fd ps (spOf K ca φ) := by
  subst hφ
  subst hn
  subst hN
  refine F.ok S (fun vs H Q E ⟨ds, F0, r, s, _, _, h, e, _⟩ => ?_) (fun cdv hcd A outer s H vs Q E hr ⟨ds, F0, r, sm, nt, tc, h, e, q⟩ => ?_)
  · unfold phi at e
    split at e
    · rw [h.length]; assumption
    · cases e
  · have hb := hbody cdv hcd A outer s H E hr
    refine ⟨_, hb.ps, ?_⟩
    unfold phi at e
    split at e
    · rename_i hl
      have S0 : SR K ca H F0 (L2.start N vs) H F0 (ds.map Slot.va ++ List.replicate (N.length - ps.length) Slot.un) := by
        rw [← hl]
        exact sr_start sm nt tc h
      split at e
      · rename_i r' em
        cases e
        refine ⟨H, F0, F0, _, _, S0, em, fun v H' F' x rv => q v H' F' x ?_⟩
        cases r' with
        | va d => exact rv
        | tm ds => exact rv
        | bw j ds =>
          obtain ⟨_, _, _, z, _⟩ := rv
          exact z.elim
      · rename_i g em
        cases e
        exact ⟨H, F0, F0, _, _, S0, em, fun σ' H' F' S' _ _ => q _ H' F' S'.ext .non⟩
      · cases e
    · cases e
theorem fn_ok {x qual : Str} {st : Stmt} {f : Addr} {fd : FuncData} {N ps : List Str} {k n nN : Nat} {m : Gm → Option Out} {T : List Nat} {φ : Phi} (F : FunA K x qual st f fd) (S : FnScope N ps (defScope st)) (hn : ps.length = n) (hN : N.length = nN) (hφ : φ = phi m nN n)
    (hbody : ∀ (cdv : Value) (A : Around) (outer : List Env) (s : Shared) (H : Hp) (E : XK), Room k (A.deeper (envOfC qual (defScope st) s.heap.objs.size f cdv)) →
      SVs (cxOf CX0 P w K mg base N qual (defScope st) f cdv A outer s H E).nox ca (defBody st) m T) : FnOk P w K mg base CX0 (k + 1) f fd ps (spOf K ca φ) :=
  fn_okC F S hn hN hφ fun cdv _ => hbody cdv
theorem fn_callee {x qual : Str} {st : Stmt} {f : Addr} {fd : FuncData} {ps : List Str} {k : Nat} {φ : Phi} {ds : List Value} {dvs : List V} {dds : List D} (F : FunA K x qual st f fd) (G : FnOk P w K mg base CX0 k f fd ps (spOf K ca φ)) (hm : mg x = some (.ref f)) (hb : Binds K fd ps ds) (hv : Vals dvs ds) (hd : ∀ F, Dens K ca F dvs dds) :
    Callee P w K mg base ca k x φ dds := ⟨f, fd, ps, dvs, ds, G, hm, F.kp, hb, hv, hd⟩
end
end BK
namespace BK
open PySem PySem.Spec L2
open PyProof.Rows (envOfC)
set_option autoImplicit false
/-! ### what is walked -/
def listR : R → Option (List Nat × List D)
  | .bw j ds => some ([j], ds)
  | .tm ds => some ([], ds)
  | .va (.lst ds) => some ([], ds)
  | .va (.rol ds) => some ([], ds)
  | _ => none
def signs (z : Str) : List D := z.cps.toList.map fun c => .str ⟨#[c]⟩
def seqR : R → Option (List Nat × List D)
  | .va (.tup ds) => some ([], ds)
  | .va (.str z) => some ([], signs z)
  | r => listR r
def iSeq (m : Gm → Option R) : Gm → Option (List Nat × List D) := fun g => (m g).bind seqR
section
variable {X : Cx} {ca : Nat → Addr}
theorem pi_or {tg e : Expr} {t t' : TI} (h : PI X tg e t) (h' : PI X tg e t') : PI X tg e (fun σ H R => t σ H R ∨ t' σ H R) := ⟨fun pins s σ H R I q => by
  rcases q with q | q
  · exact h.run pins s σ H R I q
  · exact h'.run pins s σ H R I q⟩
/-- a list walked: what J needs -/
structure LOk (K : PySem.W.Frag) (ca : Nat → Addr) (F1 : Hp) (a : Addr) (PL : List (Nat × Addr × List D)) (ds : List D) : Prop where
  rd : ∀ (H F : Hp), Same F1 F → Same F H → (∀ p ∈ PL, ∃ vs, H p.2.1 = some (.lst vs) ∧ Dens K ca F vs p.2.2) → ∃ vs, SqL K H a vs ∧ Dens K ca F vs ds
theorem LOk.mono {K : PySem.W.Frag} {F1 F2 : Hp} {a : Addr} {PL PL' : List (Nat × Addr × List D)} {ds : List D} (h : LOk K ca F1 a PL ds) (s : Same F1 F2) (i : ∀ p ∈ PL, p ∈ PL') : LOk K ca F2 a PL' ds :=
  ⟨fun H F s1 s2 q => h.rd H F (s.trans s1) s2 fun p hp => q p (i p hp)⟩
/-- a list result is ready to be walked -/
theorem RV.walk {K : PySem.W.Frag} {σ : L2.St} {Γ : Gm} {H F H1 F1 : Hp} {v : V} {r : R} {ps : List Nat} {ds : List D} (x : Ext ca H F H1 F1) (h : RV K ca (BB σ Γ) H F1 H1 v r) (e : listR r = some (ps, ds)) :
    ∃ a F2 PL, v = .ref a ∧ Ext ca H F H1 F2 ∧ Same F1 F2 ∧ LOk K ca F2 a PL ds ∧ ∀ q ∈ PL, q.1 ∈ ps ∧ BB σ Γ q.1 q.2.1 q.2.2 := by
  cases r with
  | bw j es =>
    cases e
    obtain ⟨a, vs, rfl, hb, h2, h3, h4⟩ := h
    refine ⟨a, F1, [(j, a, ds)], rfl, x, Same.refl _, ⟨fun H' F' s1 s2 q => ?_⟩, fun q hq => ?_⟩
    · obtain ⟨ws, g1, g2⟩ := q _ (List.mem_singleton.mpr rfl)
      exact ⟨ws, SqL.of g1, g2⟩
    · rw [List.mem_singleton] at hq
      subst hq
      exact ⟨by simp, hb⟩
  | tm es =>
    cases e
    obtain ⟨a, vs, rfl, h1, h2, h3, h4⟩ := h
    exact ⟨a, upd F1 a (.lst vs), [], rfl, x.frz h1 h3 h2, same_upd h2, ⟨fun H' F' s1 s2 _ => ⟨vs, SqL.of (s2 _ _ (s1 _ _ upd_same)), h4.mono ((same_upd h2).trans s1)⟩⟩, fun q hq => by cases hq⟩
  | va d =>
    cases d <;> first
      | (cases e; done)
      | (cases e
         cases h with
         | lst h hs => exact ⟨_, F1, [], rfl, x, Same.refl _, ⟨fun H' F' s1 s2 _ => ⟨_, rd_l (.inl ((s1.trans s2) _ _ h)), hs.mono s1⟩⟩, fun q hq => by cases hq⟩)
      | (cases e
         cases h with
         | rol h hs => exact ⟨_, F1, [], rfl, x, Same.refl _, ⟨fun H' F' s1 s2 _ => ⟨_, (s1.trans s2).seq h, hs.mono s1⟩⟩, fun q hq => by cases hq⟩)
/-- .. of an argument (no temporary) -/
def listA : R → Option (List Nat × List D)
  | .bw j ds => some ([j], ds)
  | .va (.lst ds) => some ([], ds)
  | .va (.rol ds) => some ([], ds)
  | _ => none
theorem RV.walkA {K : PySem.W.Frag} {σ : L2.St} {Γ : Gm} {Hs H1 F1 : Hp} {v : V} {r : R} {ps : List Nat} {ds : List D} (h : RV K ca (BB σ Γ) Hs F1 H1 v r) (e : listA r = some (ps, ds)) :
    ∃ a PL, v = .ref a ∧ LOk K ca F1 a PL ds ∧ ∀ q ∈ PL, q.1 ∈ ps ∧ BB σ Γ q.1 q.2.1 q.2.2 := by
  cases r with
  | bw j es =>
    cases e
    obtain ⟨a, vs, rfl, hb, h2, h3, h4⟩ := h
    refine ⟨a, [(j, a, ds)], rfl, ⟨fun H' F' s1 s2 q => ?_⟩, fun q hq => ?_⟩
    · obtain ⟨ws, g1, g2⟩ := q _ (List.mem_singleton.mpr rfl)
      exact ⟨ws, SqL.of g1, g2⟩
    · rw [List.mem_singleton] at hq
      subst hq
      exact ⟨by simp, hb⟩
  | tm es => cases e
  | va d =>
    cases d <;> first
      | (cases e; done)
      | (cases e
         cases h with
         | lst h hs => exact ⟨_, [], rfl, ⟨fun H' F' s1 s2 _ => ⟨_, rd_l (.inl ((s1.trans s2) _ _ h)), hs.mono s1⟩⟩, fun q hq => by cases hq⟩)
      | (cases e
         cases h with
         | rol h hs => exact ⟨_, [], rfl, ⟨fun H' F' s1 s2 _ => ⟨_, (s1.trans s2).seq h, hs.mono s1⟩⟩, fun q hq => by cases hq⟩)
theorem jok_list {K : PySem.W.Frag} {F1 : Hp} {a : Addr} {PL : List (Nat × Addr × List D)} {ds : List D} (h : LOk K ca F1 a PL ds) : JOk K ca F1 (Itl K a) PL ds := by
  refine ⟨fun i d H F e s1 s2 q => ?_, fun H F s1 s2 q => ?_⟩
  · obtain ⟨vs, g1, g2⟩ := h.rd H F s1 s2 q
    obtain ⟨v, e1, e2⟩ := g2.getV e
    refine ⟨⟨vs, v, g1, e1⟩, ?_⟩
    rintro x H' ⟨rfl, y⟩
    have := y vs g1
    rw [e1] at this
    cases this
    exact ⟨F, .refl s2, e2⟩
  · obtain ⟨vs, g1, g2⟩ := h.rd H F s1 s2 q
    exact ⟨vs, g1, by rw [g2.length]; exact Nat.le_refl _⟩
variable {tg e : Expr} {es : List Expr} {m : Gm → Option R} {ms : Gm → Option (List R)} {p pos : Pos}
theorem iv_seq (he : EV X ca e m) : IV X ca tg e (iSeq m) := by
  refine pi_imp (pi_or (pi_list he) (pi_or (pi_tup he) (pi_str he))) ?_
  rintro σ H R' ⟨H0, F0, F, Γ, ⟨ps, ds⟩, S, e, q⟩
  unfold iSeq at e
  obtain ⟨r, er, e⟩ := Option.bind_eq_some_iff.mp e
  have lst : listR r = some (ps, ds) → iList X.K (tEV X.K ca m) σ H R' := fun e => by
    refine ⟨H0, F0, F, Γ, r, S, er, fun v H1 F1 x1 r1 => ?_⟩
    obtain ⟨a, F2, PL, rfl, x2, s2, lo, hb⟩ := RV.walk x1 r1 e
    refine ⟨a, rfl, ?_, q _ H1 F2 PL x2 (jok_list lo) hb⟩
    have hpin : ∀ p ∈ PL, ∃ vs, H1 p.2.1 = some (.lst vs) ∧ Dens X.K ca F2 vs p.2.2 := fun p hp => by
      obtain ⟨z1, z2⟩ := (hb p hp).2
      obtain ⟨a, vs, y1, _, _, y4, y5⟩ := (S.mono x2).ow _ _ z2
      rw [z1] at y1
      cases y1
      exact ⟨vs, y4, y5⟩
    obtain ⟨vs, g1, _⟩ := lo.rd H1 F2 (Same.refl _) x2.fh hpin
    exact ⟨vs, g1⟩
  unfold seqR at e
  split at e
  · rename_i es
    cases e
    refine .inr (.inl ⟨H0, F0, F, Γ, _, S, er, fun v H1 F1 x1 r1 => ?_⟩)
    cases r1 with
    | @tup a xs _ t hs =>
      refine ⟨_, rfl, ⟨_, Same.seqT x1.fh t⟩, q _ H1 F1 [] x1 ⟨fun i d H2 F2 e s1 s2 _ => ?_, fun H2 F2 s1 s2 _ => ?_⟩ fun q hq => by cases hq⟩
      · obtain ⟨v, e1, e2⟩ := hs.getV e
        have t2 := Same.seqT (s1.trans s2) t
        refine ⟨⟨_, v, t2, e1⟩, ?_⟩
        rintro x H' ⟨rfl, y⟩
        have := y _ t2
        rw [e1] at this
        cases this
        exact ⟨F2, .refl s2, e2.mono s1⟩
      · exact ⟨_, Same.seqT (s1.trans s2) t, by rw [hs.length]; exact Nat.le_refl _⟩
  · rename_i z
    cases e
    refine .inr (.inr ⟨H0, F0, F, Γ, _, S, er, fun v H1 F1 x1 r1 => ?_⟩)
    cases r1
    refine ⟨z, rfl, q _ H1 F1 [] x1 ⟨fun i d H2 F2 e s1 s2 _ => ?_, fun H2 F2 s1 s2 _ => ?_⟩ fun q hq => by cases hq⟩
    · have hi : i < (signs z).length := (List.getElem?_eq_some_iff.mp e).1
      have hz : (signs z).length = z.cps.size := by simp [signs]
      refine ⟨by show i < z.cps.size; omega, ?_⟩
      rintro x H' ⟨rfl, c, hc, rfl⟩
      refine ⟨F2, .refl s2, ?_⟩
      have hs : (signs z)[i]? = some (.str ⟨#[c]⟩) := by
        unfold signs
        rw [List.getElem?_map, Array.getElem?_toList, hc]
        rfl
      have e : (signs z)[i]? = some d := e
      rw [hs] at e
      cases e
      exact .str _
    · show z.cps.size ≤ (signs z).length
      simp [signs]
  · exact .inl (lst e)
/-! ranges -/
def rangeL (lo : Int) : Nat → List D
  | 0 => []
  | n + 1 => .int lo :: rangeL (lo + 1) n
theorem rangeL_length (n : Nat) : ∀ lo, (rangeL lo n).length = n := by
  induction n with
  | zero => intro _; rfl
  | succ n ih => intro lo; show (rangeL (lo + 1) n).length + 1 = n + 1; rw [ih]
theorem rangeL_get (n : Nat) : ∀ (lo : Int) (i : Nat), i < n → (rangeL lo n)[i]? = some (.int (lo + i)) := by
  induction n with
  | zero => intro _ i h; omega
  | succ n ih =>
    intro lo i h
    cases i with
    | zero => show some (D.int lo) = _; simp
    | succ i =>
      show (rangeL (lo + 1) n)[i]? = _
      rw [ih (lo + 1) i (by omega)]
      congr 2
      omega
def rg1R (rs : List R) : Option (List Nat × List D) := match rs with
  | [.va (.int j)] => if -(2 ^ 62) ≤ j ∧ j < 2 ^ 62 then some ([], rangeL 0 j.toNat) else none
  | _ => none
def iA (f : List R → Option (List Nat × List D)) (ms : Gm → Option (List R)) : Gm → Option (List Nat × List D) := fun g => (ms g).bind f
theorem jok_rng {K : PySem.W.Frag} {F1 : Hp} {PL : List (Nat × Addr × List D)} (lo : Int) (n : Nat) : JOk K ca F1 (Itr lo n) PL (rangeL lo n) := by
  refine ⟨fun i d H F e s1 s2 q => ?_, fun H F s1 s2 q => ?_⟩
  · have hi : i < n := by
      have := (List.getElem?_eq_some_iff.mp e).1
      rw [rangeL_length] at this
      exact this
    rw [rangeL_get n lo i hi] at e
    cases e
    refine ⟨hi, ?_⟩
    rintro x H' ⟨rfl, rfl⟩
    exact ⟨F, .refl s2, .int _⟩
  · show n ≤ (rangeL lo n).length
    rw [rangeL_length]
    exact Nat.le_refl _
theorem iv_rg1 {a : Expr} (hg : Gl X "range") (hm : X.mg "range" = none) (ha : AV X ca [a] ms) (hs : starEach [a] X.env = [(false, eval a X.env)] := by rfl) : IV X ca tg (.Call (.Name "range" p) [a] [] pos) (iA rg1R ms) := by
  refine pi_imp (pi_range1 hg hm ha hs) ?_
  rintro σ H R' ⟨H0, F0, F, Γ, ⟨ps, ds⟩, S, e, q⟩
  unfold iA at e
  obtain ⟨rs, er, e⟩ := Option.bind_eq_some_iff.mp e
  refine ⟨H0, F0, F, Γ, rs, S, er, fun vs H1 F1 x1 r1 => ?_⟩
  unfold rg1R at e
  split at e
  · split at e
    · rename_i h
      cases e
      cases r1 with
      | cons h1 hs =>
        cases hs
        cases h1
        exact ⟨_, rfl, h.1, h.2, q _ H1 F1 [] x1 (jok_rng 0 _) fun q hq => by cases hq⟩
    · cases e
  · cases e
/-! enumerate, zip, reversed -/
def enumL : Nat → List D → List D
  | _, [] => []
  | n, d :: ds => .tup [.int (n : Int), d] :: enumL (n + 1) ds
theorem enumL_get : ∀ (ds : List D) (n i : Nat), (enumL n ds)[i]? = (ds[i]?).map fun d => .tup [.int ((n + i : Nat) : Int), d]
  | [], n, i => by simp [enumL]
  | d :: ds, n, 0 => by simp [enumL]
  | d :: ds, n, i + 1 => by
    show (enumL (n + 1) ds)[i]? = (ds[i]?).map _
    rw [enumL_get ds (n + 1) i, show n + 1 + i = n + (i + 1) by omega]
theorem enumL_length : ∀ (ds : List D) (n : Nat), (enumL n ds).length = ds.length
  | [], _ => rfl
  | d :: ds, n => congrArg (· + 1) (enumL_length ds (n + 1))
def zipL : List D → List D → List D
  | a :: as, b :: bs => .tup [a, b] :: zipL as bs
  | _, _ => []
theorem zipL_get : ∀ (as bs : List D) (i : Nat) (d : D), (zipL as bs)[i]? = some d → ∃ a b, as[i]? = some a ∧ bs[i]? = some b ∧ d = .tup [a, b]
  | [], _, i, d, h => by simp [zipL] at h
  | a :: as, [], i, d, h => by simp [zipL] at h
  | a :: as, b :: bs, 0, d, h => by
    cases h
    exact ⟨a, b, rfl, rfl, rfl⟩
  | a :: as, b :: bs, i + 1, d, h => zipL_get as bs i d h
theorem zipL_length : ∀ (as bs : List D), (zipL as bs).length = min as.length bs.length
  | [], _ => by simp [zipL]
  | a :: as, [] => by simp [zipL]
  | a :: as, b :: bs => by
    show (zipL as bs).length + 1 = _
    rw [zipL_length as bs, List.length_cons, List.length_cons]
    omega
def enR (rs : List R) : Option (List Nat × List D) := match rs with
  | [r] => (listA r).map fun p => (p.1, enumL 0 p.2)
  | _ => none
def zpR (rs : List R) : Option (List Nat × List D) := match rs with
  | [.va (.tup xs), .va (.tup ys)] => some ([], zipL xs ys)
  | [r, s] => (listA r).bind fun p => (listA s).map fun q => (p.1 ++ q.1, zipL p.2 q.2)
  | _ => none
def rvR (rs : List R) : Option (List Nat × List D) := match rs with
  | [r] => (listA r).map fun p => (p.1, p.2.reverse)
  | _ => none
theorem pair_den {K : PySem.W.Frag} {H F : Hp} {a : Addr} {v w : V} {d e : D} (s : Same F H) (n : H a = none) (h1 : Den K ca F v d) (h2 : Den K ca F w e) : ∃ F', Ext ca H F (upd H a (.tup [v, w])) F' ∧ Den K ca F' (.ref a) (.tup [d, e]) :=
  ⟨_, .new s _ n, .tup (SqT.of upd_same) (.cons (h1.mono (same_upd (s.free n))) (.cons (h2.mono (same_upd (s.free n))) .nil))⟩
theorem pins_ok {K : PySem.W.Frag} {H0 F0 H F : Hp} {σ : L2.St} {Γ : Gm} {PL : List (Nat × Addr × List D)} {ps : List Nat} (S : SR K ca H0 F0 σ H F Γ) (hb : ∀ q ∈ PL, q.1 ∈ ps ∧ BB σ Γ q.1 q.2.1 q.2.2) : ∀ p ∈ PL, ∃ vs, H p.2.1 = some (.lst vs) ∧ Dens K ca F vs p.2.2 := fun p hp => by
  obtain ⟨z1, z2⟩ := (hb p hp).2
  obtain ⟨a, vs, y1, _, _, y4, y5⟩ := S.ow _ _ z2
  rw [z1] at y1
  cases y1
  exact ⟨vs, y4, y5⟩
theorem iv_enum {elts : List Expr} {kk : Nat} {tpos : Pos} (hg : Gl X "enumerate") (hm : X.mg "enumerate" = none) (ha : AV X ca [e] ms) (hs : starEach [e] X.env = [(false, eval e X.env)] := by rfl) : IV X ca (.Tuple elts kk tpos) (.Call (.Name "enumerate" p) [e] [] pos) (iA enR ms) := by
  refine pi_imp (pi_enum hg hm ha hs) ?_
  rintro σ H R' ⟨H0, F0, F, Γ, ⟨ps, ds⟩, S, e, q⟩
  unfold iA at e
  obtain ⟨rs, er, e⟩ := Option.bind_eq_some_iff.mp e
  refine ⟨H0, F0, F, Γ, rs, S, er, fun vs H1 F1 x1 r1 => ?_⟩
  unfold enR at e
  split at e
  · rename_i r
    obtain ⟨⟨ps1, ds1⟩, el, e⟩ := Option.map_eq_some_iff.mp e
    cases e
    cases r1 with
    | cons h1 hs =>
      cases hs
      obtain ⟨a, PL, rfl, lo, hb⟩ := RV.walkA h1 el
      obtain ⟨ws, g1, _⟩ := lo.rd H1 F1 (Same.refl _) x1.fh (pins_ok (S.mono x1) hb)
      refine ⟨a, ws, rfl, g1, q _ H1 F1 PL x1 ⟨fun i d H3 F3 e s1 s3 qp => ?_, fun H3 F3 s1 s3 qp => ?_⟩ hb⟩
      · obtain ⟨us, k1, k2⟩ := lo.rd H3 F3 s1 s3 qp
        have e : (enumL 0 ds1)[i]? = some d := e
        rw [enumL_get] at e
        obtain ⟨d', ed, rfl⟩ := Option.map_eq_some_iff.mp e
        obtain ⟨v, e1, e2⟩ := k2.getV ed
        refine ⟨⟨us, v, k1, e1⟩, ?_⟩
        rintro x H' ⟨T, y, rfl, hT, rfl, hy⟩
        have := hy us k1
        rw [e1] at this
        cases this
        rw [Nat.zero_add]
        exact pair_den s3 hT (.int _) e2
      · obtain ⟨us, k1, k2⟩ := lo.rd H3 F3 s1 s3 qp
        refine ⟨us, k1, ?_⟩
        rw [k2.length]
        show ds1.length ≤ (enumL 0 ds1).length
        rw [enumL_length]
        exact Nat.le_refl _
  · cases e
theorem iv_zip {e2 : Expr} {elts : List Expr} {kk : Nat} {tpos : Pos} (hg : Gl X "zip") (hm : X.mg "zip" = none) (ha : AV X ca [e, e2] ms)
    (hs : starEach [e, e2] X.env = (false, eval e X.env) :: starEach [e2] X.env := by rfl) (hpl : (backTo pos (starEach [e2] X.env)).any (·.1) = false := by rfl) : IV X ca (.Tuple elts kk tpos) (.Call (.Name "zip" p) [e, e2] [] pos) (iA zpR ms) := by
  refine pi_imp (RZ.pi_zipA hg hm ha hs hpl) ?_
  rintro σ H R' ⟨H0, F0, F, Γ, ⟨ps, ds⟩, S, e, q⟩
  unfold iA at e
  obtain ⟨rs, er, e⟩ := Option.bind_eq_some_iff.mp e
  refine ⟨H0, F0, F, Γ, rs, S, er, fun vs H1 F1 x1 r1 => ?_⟩
  unfold zpR at e
  split at e
  · rename_i ds1 ds2
    cases e
    cases r1 with
    | cons h1 hs =>
      cases hs with
      | cons h2 hs =>
        cases hs
        cases h1 with
        | tup t1 d1 =>
          cases h2 with
          | tup t2 d2 =>
            refine ⟨_, _, _, _, rfl, .inr ⟨Same.seqT x1.fh t1, Same.seqT x1.fh t2, q _ H1 F1 [] x1 ⟨fun i d H3 F3 e s1 s3 qp => ?_, fun H3 F3 s1 s3 qp => ?_⟩ (fun q hq => by cases hq)⟩⟩
            · have k1 := Same.seqT s3 (Same.seqT s1 t1)
              have k1' := Same.seqT s3 (Same.seqT s1 t2)
              obtain ⟨da, db, ea, eb, rfl⟩ := zipL_get ds1 ds2 i d e
              obtain ⟨v, e1, e2⟩ := (d1.mono s1).getV ea
              obtain ⟨v', e1', e2'⟩ := (d2.mono s1).getV eb
              refine ⟨⟨_, _, v, v', k1, k1', e1, e1'⟩, ?_⟩
              rintro x H' ⟨T, y, y', rfl, hT, rfl, hy, hy'⟩
              have q1 := hy _ k1
              have q2 := hy' _ k1'
              rw [e1] at q1
              rw [e1'] at q2
              cases q1
              cases q2
              exact pair_den s3 hT e2 e2'
            · refine ⟨_, _, Same.seqT s3 (Same.seqT s1 t1), Same.seqT s3 (Same.seqT s1 t2), ?_⟩
              rw [d1.length, d2.length]
              show ds1.length ≤ (zipL ds1 ds2).length ∨ ds2.length ≤ (zipL ds1 ds2).length
              rw [zipL_length]
              omega
  · rename_i r s
    obtain ⟨⟨ps1, ds1⟩, el, e⟩ := Option.bind_eq_some_iff.mp e
    obtain ⟨⟨ps2, ds2⟩, el2, e⟩ := Option.map_eq_some_iff.mp e
    cases e
    cases r1 with
    | cons h1 hs =>
      cases hs with
      | cons h2 hs =>
        cases hs
        obtain ⟨a, PL, rfl, lo, hb⟩ := RV.walkA h1 el
        obtain ⟨b, PL', rfl, lo', hb'⟩ := RV.walkA h2 el2
        have hbb : ∀ q ∈ PL ++ PL', q.1 ∈ ps1 ++ ps2 ∧ BB σ Γ q.1 q.2.1 q.2.2 := fun q hq => by
          rcases List.mem_append.mp hq with z | z
          · exact ⟨List.mem_append_left _ (hb q z).1, (hb q z).2⟩
          · exact ⟨List.mem_append_right _ (hb' q z).1, (hb' q z).2⟩
        have lo := lo.mono (PL' := PL ++ PL') (Same.refl _) fun p hp => List.mem_append_left _ hp
        have lo' := lo'.mono (PL' := PL ++ PL') (Same.refl _) fun p hp => List.mem_append_right _ hp
        have pk := pins_ok (S.mono x1) hbb
        obtain ⟨ws, g1, _⟩ := lo.rd H1 F1 (Same.refl _) x1.fh pk
        obtain ⟨ws', g1', _⟩ := lo'.rd H1 F1 (Same.refl _) x1.fh pk
        refine ⟨a, b, ws, ws', rfl, .inl ⟨g1, g1', q _ H1 F1 _ x1 ⟨fun i d H3 F3 e s1 s3 qp => ?_, fun H3 F3 s1 s3 qp => ?_⟩ hbb⟩⟩
        · obtain ⟨us, k1, k2⟩ := lo.rd H3 F3 s1 s3 qp
          obtain ⟨us', k1', k2'⟩ := lo'.rd H3 F3 s1 s3 qp
          obtain ⟨da, db, ea, eb, rfl⟩ := zipL_get ds1 ds2 i d e
          obtain ⟨v, e1, e2⟩ := k2.getV ea
          obtain ⟨v', e1', e2'⟩ := k2'.getV eb
          refine ⟨⟨us, us', v, v', k1, k1', e1, e1'⟩, ?_⟩
          rintro x H' ⟨T, y, y', rfl, hT, rfl, hy, hy'⟩
          have q1 := hy us k1
          have q2 := hy' us' k1'
          rw [e1] at q1
          rw [e1'] at q2
          cases q1
          cases q2
          exact pair_den s3 hT e2 e2'
        · obtain ⟨us, k1, k2⟩ := lo.rd H3 F3 s1 s3 qp
          obtain ⟨us', k1', k2'⟩ := lo'.rd H3 F3 s1 s3 qp
          refine ⟨us, us', k1, k1', ?_⟩
          rw [k2.length, k2'.length]
          show ds1.length ≤ (zipL ds1 ds2).length ∨ ds2.length ≤ (zipL ds1 ds2).length
          rw [zipL_length]
          omega
  · cases e
end
/-! ### comprehensions -/
def wipeG (g : Gm) : List Nat → Gm
  | [] => g
  | v :: vs => (wipeG g vs).set v .un
def compL (f : D → Gm → Option Gm) (c : Gm → Option Bool) (el : Gm → Option R) (g : Gm) : List D → Option (List D)
  | [] => some []
  | d :: ds => (f d g).bind fun g1 => (c g1).bind fun k => if k = true then (el g1).bind fun r => if r.isBw = true then none else (compL f c el g ds).map (r.d :: ·) else compL f c el g ds
def bY : Gm → Option Bool := fun _ => some true
def eLc (mi : Gm → Option (List Nat × List D)) (f : D → Gm → Option Gm) (c : Gm → Option Bool) (el : Gm → Option R) (own : List Nat) : Gm → Option R := fun g => (mi g).bind fun p => if p.2.length ≤ LIM then (compL f c el (wipeG g own) p.2).map .tm else none
theorem SR.wipe {K : PySem.W.Frag} {ca : Nat → Addr} {H0 F0 H F : Hp} {σ : L2.St} {Γ : Gm} (S : SR K ca H0 F0 σ H F Γ) : ∀ vs : List Nat, SR K ca H0 F0 (L2.wipe σ vs) H F (wipeG Γ vs)
  | [] => S
  | v :: vs => (SR.wipe S vs).setUn none
theorem wipe_kp {σ σ' : L2.St} : ∀ {vs : List Nat}, σ.length = σ'.length → (∀ j, j ∉ vs → σ'[j]? = σ[j]?) → L2.wipe σ' vs = L2.wipe σ vs := by
  intro vs hl h
  have key : ∀ (vs : List Nat) (τ : L2.St) (j : Nat), (L2.wipe τ vs)[j]? = if j ∈ vs then (if j < τ.length then some none else none) else τ[j]? := by
    intro vs
    induction vs with
    | nil => intro τ j; simp [L2.wipe]
    | cons v vs ih =>
      intro τ j
      unfold L2.wipe
      rw [List.getElem?_set, ih τ j, wipe_length]
      by_cases e : v = j
      · subst e
        simp
      · simp [e, List.mem_cons, Ne.symm e]
  apply List.ext_getElem?
  intro j
  rw [key, key]
  by_cases hj : j ∈ vs
  · rw [if_pos hj, if_pos hj, hl]
  · rw [if_neg hj, if_neg hj]
    exact h j hj
section
variable {X : Cx} {ca : Nat → Addr}
theorem pts_imp {ifs : List Expr} {t t' : TT} (h : PTs X ifs t) (i : ∀ σ H Q, t' σ H Q → t σ H Q) : PTs X ifs t' := ⟨fun pins s σ H Q I q => h.run pins s σ H Q I (i σ H Q q)⟩
abbrev CV (X : Cx) (ca : Nat → Addr) (ifs : List Expr) (c : Gm → Option Bool) : Prop := PTs X ifs (tTV X.K ca c)
theorem cv_nil : CV X ca [] bY := by
  refine pts_imp pts_nil ?_
  rintro σ H Q ⟨H0, F0, F, Γ, b, S, e, q⟩
  cases e
  exact q H F (.refl S.ext.fh)
theorem wipe_get {σ : L2.St} : ∀ {vs : List Nat} {j : Nat}, j ∉ vs → (L2.wipe σ vs)[j]? = σ[j]?
  | [], j, h => rfl
  | v :: vs, j, h => by
    unfold L2.wipe
    rw [List.getElem?_set_ne fun e => h (by simp [e]), wipe_get fun e => h (List.mem_cons_of_mem _ e)]
theorem wipeG_length (g : Gm) : ∀ vs : List Nat, (wipeG g vs).length = g.length
  | [] => rfl
  | v :: vs => by unfold wipeG; rw [List.length_set, wipeG_length g vs]
theorem t_lc {K : PySem.W.Frag} {mi : Gm → Option (List Nat × List D)} {f : D → Gm → Option Gm} {c : Gm → Option Bool} {el : Gm → Option R} {own T : List Nat} (hT : ∀ j ∈ T, j ∈ own) (hln : ∀ d g g', f d g = some g' → g'.length = g.length) : ∀ σ H Q, tEV K ca (eLc mi f c el own) σ H Q → tLc (tIV K ca mi) (tGV K ca f T) (tTV K ca c) (tEV K ca el) own σ H Q := by
  rintro σ H Q ⟨H0, F0, F, Γ, z, S, e, q⟩
  unfold eLc at e
  obtain ⟨⟨ps, ds⟩, em, e⟩ := Option.bind_eq_some_iff.mp e
  by_cases hlen : ds.length ≤ LIM
  rotate_left
  · rw [if_neg hlen] at e; cases e
  rw [if_pos hlen] at e
  obtain ⟨es, ee, rfl⟩ := Option.map_eq_some_iff.mp e
  refine ⟨H0, F0, F, Γ, (ps, ds), S, em, fun J H1 F1 PL x1 jo hPL A hA => ?_⟩
  have S1 := S.mono x1
  -- the comprehension's list stands at A, not frozen
  refine ⟨fun i m H' => ∃ F' acc out, m = ds.length - i ∧ i ≤ ds.length ∧ Ext ca H1 F1 H' F' ∧ F' A = none ∧ H' A = some (.lst acc) ∧ Dens K ca F' acc out ∧ out.length ≤ i ∧ (compL f c el (wipeG Γ own) (ds.drop i)).map (out ++ ·) = some es,
    ⟨_, F1, [], [], rfl, Nat.zero_le _, .newO x1.fh _ hA, x1.fh.free hA, upd_same, .nil, Nat.zero_le _, by
      show (compL f c el (wipeG Γ own) ds).map _ = _
      rw [show compL f c el (wipeG Γ own) ds = some es from ee]; rfl⟩, ?_⟩
  rintro i m H2 ⟨F2, acc, out, rfl, hi, x2, fA, hA2, hd, ho, he⟩
  have S2 := S1.mono x2
  have pk := pins_ok S2 hPL
  by_cases hlt : i < ds.length
  · have hd' : ds[i]? = some ds[i] := List.getElem?_eq_getElem hlt
    have ed : ds.drop i = ds[i] :: ds.drop (i + 1) := List.drop_eq_getElem_cons hlt
    obtain ⟨fs, e1, rfl⟩ := Option.map_eq_some_iff.mp he
    rw [ed] at e1
    unfold compL at e1
    obtain ⟨g1, eg, e1⟩ := Option.bind_eq_some_iff.mp e1
    obtain ⟨k, ek, e1⟩ := Option.bind_eq_some_iff.mp e1
    obtain ⟨jgo, jy⟩ := jo.go i _ H2 F2 hd' x2.ff x2.fh pk
    refine .inr ⟨jgo, fun H' => ∃ F' acc out', Ext ca H1 F1 H' F' ∧ F' A = none ∧ H' A = some (.lst acc) ∧ Dens K ca F' acc out' ∧ out'.length ≤ i + 1 ∧ (compL f c el (wipeG Γ own) (ds.drop (i + 1))).map (out' ++ ·) = some (out ++ fs), fun H' ⟨F', acc', out', w1, w2, w3, w4, w5, w6⟩ => ⟨ds.length - (i + 1), by omega, F', acc', out', rfl, hlt, w1, w2, w3, w4, w5, w6⟩, fun x H3 y => ?_⟩
    obtain ⟨F3, x3, d3⟩ := jy x H3 y
    have S3 := (S2.mono x3).wipe own
    refine ⟨H0, F0, F3, _, _, g1, S3, d3, eg, fun σ4 S4 k4 => ⟨?_, ?_⟩⟩
    · refine wipe_kp ?_ fun j hj => ?_
      · rw [S4.len, hln _ _ _ eg, wipeG_length, S.len]
      · rw [k4 j fun z => hj (hT j z), wipe_get hj]
    · have x23 := x2.trans x3
      have fA3 : F3 A = none := x3.keepN hA2 fA
      refine ⟨H0, F0, F3, g1, k, S4, ek, fun H5 F5 x5 => ?_⟩
      have x25 := x23.trans x5
      have x35 := x3.trans x5
      have hA5 : H5 A = some (.lst acc) := x35.hh.l hA2
      have fA5 : F5 A = none := x35.keepN hA2 fA
      have hd5 := hd.mono x35.ff
      cases k with
      | true =>
        refine iteT ?_
        rw [if_pos rfl] at e1
        obtain ⟨r, er, e1⟩ := Option.bind_eq_some_iff.mp e1
        by_cases hb : r.isBw = true
        · rw [if_pos hb] at e1; cases e1
        rw [if_neg hb] at e1
        obtain ⟨rest, erest, rfl⟩ := Option.map_eq_some_iff.mp e1
        refine ⟨H0, F0, F5, g1, r, S4.mono x5, er, fun v H6 F6 x6 r6 => ?_⟩
        have hA6 : H6 A = some (.lst acc) := x6.hh.l hA5
        obtain ⟨F7, x7, s7, d7⟩ := RV.froze x6 r6 (by simpa using hb)
        have fA7 : F7 A = none := x7.keepN hA5 fA5
        have x27 := x25.trans x7
        refine ⟨acc, hA6, ?_, F7, acc ++ [v], out ++ [r.d], ?_, fA7, upd_same, (hd5.mono x7.ff).append (.one d7), ?_, ?_⟩
        · rw [lim_eq, hd.length]
          omega
        · refine ⟨x27.hh.updO (noT_none hA) (Pl.lst hA6), x27.ff, fun b o h => ?_, x27.nw, x27.nt⟩
          · rw [upd_ne (ne_of_none h fA7)]; exact x27.fh b o h
        · rw [List.length_append]
          simp only [List.length_cons, List.length_nil]
          omega
        · rw [erest]
          simp
      | false =>
        refine iteF ?_
        rw [if_neg Bool.false_ne_true] at e1
        refine ⟨F5, acc, out, x25, fA5, hA5, hd5, by omega, ?_⟩
        rw [e1]
        rfl
  · have ei : i = ds.length := by omega
    subst ei
    rw [List.drop_length] at he
    have he : some (out ++ []) = some es := he
    rw [List.append_nil] at he
    cases he
    refine .inl ⟨jo.stop H2 F2 x2.ff x2.fh pk, ?_⟩
    exact q _ H2 F2 (x1.trans x2) ⟨A, acc, rfl, x1.hh.free (noT_none hA), fA, hA2, hd⟩
theorem gN_ln {i : Nat} : ∀ d g g', gN i d g = some g' → g'.length = g.length := fun d g g' e => by cases e; exact List.length_set
theorem gE_ln : ∀ d g g', gE d g = some g' → g'.length = g.length := fun d g g' e => by
  cases d with
  | nil => cases e; rfl
  | cons d ds => cases e
theorem gC_ln {f : D → Gm → Option Gm} {r : List D → Gm → Option Gm} (h1 : ∀ d g g', f d g = some g' → g'.length = g.length) (h2 : ∀ d g g', r d g = some g' → g'.length = g.length) : ∀ d g g', gC f r d g = some g' → g'.length = g.length := fun d g g' e => by
  cases d with
  | nil => cases e
  | cons d ds =>
    have e : (f d g).bind (r ds) = some g' := e
    obtain ⟨g1, e1, e2⟩ := Option.bind_eq_some_iff.mp e
    rw [h2 _ _ _ e2, h1 _ _ _ e1]
theorem gT_ln {r : List D → Gm → Option Gm} (h : ∀ d g g', r d g = some g' → g'.length = g.length) : ∀ d g g', gT r d g = some g' → g'.length = g.length := fun d g g' e => by
  unfold gT at e
  split at e
  · exact h _ _ _ e
  · cases e
theorem ev_lc {elt tg iter : Expr} {ifs : List Expr} {scope : Scope} {own : List (Str × Nat)} {pos : Pos} {mi : Gm → Option (List Nat × List D)} {f : D → Gm → Option Gm} {c : Gm → Option Bool} {el : Gm → Option R} {T ow : List Nat} (hc : X.calm = true) (hN : X.N.Nodup) (hi : IV X ca tg iter mi) (ok : BlkOk X.N X.env.scope scope own) (how : ow = own.map (·.2))
    (hg : ∀ (s : Shared) (H : Hp) (C : Addr) (cl : List (Str × Addr)) (fp : List Addr), GV (X.blk s H scope (compEnvC scope cl C X.env) fp) ca tg f T) (ht : ∀ (s : Shared) (H : Hp) (C : Addr) (cl : List (Str × Addr)) (fp : List Addr), CV (X.blk s H scope (compEnvC scope cl C X.env) fp) ca ifs c)
    (he : ∀ (s : Shared) (H : Hp) (C : Addr) (cl : List (Str × Addr)) (fp : List Addr), EV (X.blk s H scope (compEnvC scope cl C X.env) fp) ca elt el) (hT : ∀ j ∈ T, j ∈ ow) (ln : ∀ d g g', f d g = some g' → g'.length = g.length) (hs : ∀ x, foldedSetIterable iter X.env x = pure x := by intro _; rfl) :
    EV X ca (.ListComp elt [⟨tg, iter, ifs, 0⟩] scope pos) (eLc mi f c el ow) := by
  subst how
  exact pe_imp (pe_lc (wi := tIV X.K ca mi) (g := tGV X.K ca f T) (tt := tTV X.K ca c) (te := tEV X.K ca el) hc hN hi ok (fun s H C cl fp => (hg s H C cl fp).pg) ht he hs) (t_lc hT ln)
/-- name = [..] on one line -/
theorem sv_setLc {i : Nat} {y : Str} {py : Pos} {elt tg iter : Expr} {ifs : List Expr} {scope : Scope} {own : List (Str × Nat)} {pos spos : Pos} {mi : Gm → Option (List Nat × List D)} {f : D → Gm → Option Gm} {c : Gm → Option Bool} {el : Gm → Option R} {T ow : List Nat} (hc : X.calm = true) (hN : X.N.Nodup) (hy : X.N[i]? = some y) (hyl : X.env.scope.names.lookup y = some .local)
    (hsw : swapsWith (.ListComp elt [⟨tg, iter, ifs, 0⟩] scope pos) (some (.Name y py)) spos.line X.env = pure true) (hi : IV X ca tg iter mi) (ok : BlkOk X.N X.env.scope scope own) (how : ow = own.map (·.2))
    (hg : ∀ (s : Shared) (H : Hp) (C : Addr) (cl : List (Str × Addr)) (fp : List Addr), GV (X.blk s H scope (compEnvC scope cl C X.env) fp) ca tg f T) (ht : ∀ (s : Shared) (H : Hp) (C : Addr) (cl : List (Str × Addr)) (fp : List Addr), CV (X.blk s H scope (compEnvC scope cl C X.env) fp) ca ifs c)
    (he : ∀ (s : Shared) (H : Hp) (C : Addr) (cl : List (Str × Addr)) (fp : List Addr), EV (X.blk s H scope (compEnvC scope cl C X.env) fp) ca elt el) (hT : ∀ j ∈ T, j ∈ ow) (ln : ∀ d g g', f d g = some g' → g'.length = g.length) (hs : ∀ x, foldedSetIterable iter X.env x = pure x := by intro _; rfl) :
    SV X ca (.Assign [.Name y py] (.ListComp elt [⟨tg, iter, ifs, 0⟩] scope pos) spos) (sSet i (eLc mi f c el ow)) [i] := by
  subst how
  refine ⟨ps_imp (ps_setLc (wi := tIV X.K ca mi) (g := tGV X.K ca f T) (tt := tTV X.K ca c) (te := tEV X.K ca el) hc hN hy hyl hsw hi ok (fun s H C cl fp => (hg s H C cl fp).pg) ht he hs) ?_, fun g o e => ?_⟩
  · rintro D σ H ⟨H0, F0, F, Γ, o, S, e, p⟩
    unfold sSet at e
    obtain ⟨r, er, e⟩ := Option.bind_eq_some_iff.mp e
    cases z : setR Γ i r with
    | none => rw [z] at e; cases e
    | some g' =>
      rw [z] at e
      cases e
      exact t_lc hT ln σ H _ ⟨H0, F0, F, Γ, r, S, er, fun v H' F' x h => p _ H' F' (S.setR x h z) x.ff kp_set⟩
  · unfold sSet at e
    obtain ⟨r, er, e⟩ := Option.bind_eq_some_iff.mp e
    cases z : setR g i r with
    | none => rw [z] at e; cases e
    | some g' => rw [z] at e; cases e; exact setR_kp z
end
end BK
namespace BK
open PySem PySem.Spec L2
open PyProof.Rows (envOfC)
set_option autoImplicit false
/-! ### built-ins -/
section
variable {X : Cx} {ca : Nat → Addr} {e : Expr} {es : List Expr} {m n : Gm → Option R} {ms : Gm → Option (List R)} {pos p : Pos} {x : Str}
theorem ev_callB {id : String} {r : List V → Hp → VK → Prop} {f : List R → Option R} (hc : CallR X (.builtin id) r) (o : CallD X.K ca r f) (hg : Gl X x) (hm : X.mg x = none) (hv : bootBuiltins x = some (.builtin id)) (ha : AV X ca (e :: es) ms) (hn : x ≠ "__name__" := by decide) (hdb : (x == ("__debug__" : Str)) = false := by decide)
    (he : starEach (e :: es) X.env = (false, eval e X.env) :: starEach es X.env := by rfl) (hpl : (backTo pos (starEach es X.env)).any (·.1) = false := by rfl) : EV X ca (.Call (.Name x p) (e :: es) [] pos) (eA f ms) := pe_imp (pe_callB hc hg hm hv ha hn hdb he hpl) (t_call o)
theorem ev_callT {T : String} {r : List V → Hp → VK → Prop} {f : List R → Option R} (hc : CallR X (.type T) r) (o : CallD X.K ca r f) (hg : Gl X x) (hm : X.mg x = none) (hv : bootBuiltins x = some (.type T)) (ha : AV X ca (e :: es) ms) (hn : x ≠ "__name__" := by decide) (hdb : (x == ("__debug__" : Str)) = false := by decide)
    (he : starEach (e :: es) X.env = (false, eval e X.env) :: starEach es X.env := by rfl) (hpl : (backTo pos (starEach es X.env)).any (·.1) = false := by rfl) : EV X ca (.Call (.Name x p) (e :: es) [] pos) (eA f ms) := pe_imp (pe_callTy hc hg hm hv ha hn hdb he hpl) (t_call o)
end
section
variable {K : PySem.W.Frag} {ca : Nat → Addr}
def cLen (rs : List R) : Option R := match rs with
  | [r] => match r.d with
    | .lst ds => some (.va (.int ds.length))
    | .tup ds => some (.va (.int ds.length))
    | .rol ds => some (.va (.int ds.length))
    | .str z => if z.length ≤ LIM then some (.va (.int z.length)) else none
    | _ => none
  | _ => none
def rLenA (K : PySem.W.Frag) : List V → Hp → VK → Prop := fun xs H Q => (∃ p ys, xs = [.ref p] ∧ (SqL K H p ys ∨ SqT K H p ys) ∧ Q (.int ys.length) H) ∨ ∃ z, xs = [.str z] ∧ z.length ≤ sizeLine ∧ Q (.int z.length) H
theorem call_lenA {X : Cx} : CallR X (.builtin "len") (rLenA X.K) := call_len_seq.or call_len_str
theorem cd_len : CallD K ca (rLenA K) cLen := by
  intro B Hs F H vs xs z Q s hr e q
  unfold cLen at e
  split at e
  · cases hr with
    | cons h hs =>
      cases hs
      split at e
      · rename_i ds hd
        cases e
        obtain ⟨a, us, rfl, r1, d1⟩ := RV.lst s h hd
        exact .inl ⟨a, us, rfl, .inl (rd_l r1), by rw [d1.length]; exact q _ H F (.refl s) (.int _)⟩
      · rename_i ds hd
        cases e
        cases RV.den h hd rfl with
        | tup t d1 => exact .inl ⟨_, _, rfl, .inr (Same.seqT s t), by rw [d1.length]; exact q _ H F (.refl s) (.int _)⟩
      · rename_i ds hd
        cases e
        cases RV.den h hd rfl with
        | rol t d1 => exact .inl ⟨_, _, rfl, .inl (s.seq t), by rw [d1.length]; exact q _ H F (.refl s) (.int _)⟩
      · rename_i zz hd
        split at e
        · rename_i hl
          cases e
          cases RV.den h hd rfl
          exact .inr ⟨zz, rfl, by rw [lim_eq]; exact hl, q _ H F (.refl s) (.int _)⟩
        · cases e
      · cases e
  · cases e
/-- one int -/
def cI1 (C : Int → Prop) [∀ i, Decidable (C i)] (h : Int → D) (rs : List R) : Option R := match rs with
  | [.va (.int i)] => if C i then some (.va (h i)) else none
  | _ => none
theorem cd_I1 {C : Int → Prop} [∀ i, Decidable (C i)] {h : Int → D} {g : Int → V} (hg : ∀ F i, Den K ca F (g i) (h i)) : CallD K ca (fun xs H Q => ∃ i, xs = [.int i] ∧ C i ∧ Q (g i) H) (cI1 C h) := by
  intro B Hs F H vs xs z Q s hr e q
  unfold cI1 at e
  split at e
  · split at e
    · rename_i i hc
      cases e
      cases hr with
      | cons h hs =>
        cases hs
        cases h
        exact ⟨i, rfl, hc, q _ H F (.refl s) (hg F i)⟩
    · cases e
  · cases e
def cAbs : List R → Option R := cI1 (fun _ => True) fun i => .int (if i < 0 then -i else i)
theorem call_abs' {X : Cx} : CallR X (.builtin "abs") (fun xs H Q => ∃ i, xs = [.int i] ∧ True ∧ Q (.int (if i < 0 then -i else i)) H) := fun pins s σ H xs us Q I r ⟨i, h1, _, h2⟩ => call_abs pins s σ H xs us Q I r ⟨i, h1, h2⟩
theorem cd_abs : CallD K ca (fun xs H Q => ∃ i, xs = [.int i] ∧ True ∧ Q (.int (if i < 0 then -i else i)) H) cAbs := cd_I1 fun _ _ => .int _
/-- str of an int -/
def rStrA : List V → Hp → VK → Prop := fun xs H Q => (∃ i, xs = [.int i] ∧ i.natAbs.log2 < 1920 ∧ Q (.str (toString i)) H) ∨ (∃ a, xs = [.str a] ∧ Q (.str a) H)
theorem call_strA {X : Cx} : CallR X (.type "str") rStrA := call_str_int.or SkE.call_str_str
def cStrI (rs : List R) : Option R := match rs with
  | [.va (.int i)] => if i.natAbs.log2 < 1920 then some (.va (.str (toString i))) else none
  | [.va (.str a)] => some (.va (.str a))
  | _ => none
theorem cd_strI : CallD K ca rStrA cStrI := by
  intro B Hs F H vs xs z Q s hr e q
  unfold cStrI at e
  split at e
  · split at e
    · rename_i i hc
      cases e
      cases hr with
      | cons h hs =>
        cases hs
        cases h
        exact .inl ⟨i, rfl, hc, q _ H F (.refl s) (.str _)⟩
    · cases e
  · rename_i a
    cases e
    cases hr with
    | cons h hs =>
      cases hs
      cases h
      exact .inr ⟨a, rfl, q _ H F (.refl s) (.str _)⟩
  · cases e
/-- int of an int, a bool, a text -/
def cInt (rs : List R) : Option R := match rs with
  | [.va (.int i)] => some (.va (.int i))
  | [.va (.bl k)] => some (.va (.int (if k then 1 else 0)))
  | [.va (.str a)] => if a.length ≤ 640 then (PySem.intText? a).map fun n => .va (.int n) else none
  | _ => none
def rIntA : List V → Hp → VK → Prop := fun xs H Q => ((∃ i, xs = [.int i] ∧ Q (.int i) H) ∨ ∃ k, xs = [.bl k] ∧ Q (.int (if k then 1 else 0)) H) ∨ ∃ a n, xs = [.str a] ∧ PySem.intText? a = some n ∧ a.length ≤ 640 ∧ Q (.int n) H
theorem call_intA {X : Cx} : CallR X (.type "int") rIntA := call_int1.or call_int_str
theorem cd_int : CallD K ca rIntA cInt := by
  intro B Hs F H vs xs z Q s hr e q
  unfold cInt at e
  split at e
  · cases e
    cases hr with
    | cons h hs => cases hs; cases h; exact .inl (.inl ⟨_, rfl, q _ H F (.refl s) (.int _)⟩)
  · cases e
    cases hr with
    | cons h hs => cases hs; cases h; exact .inl (.inr ⟨_, rfl, q _ H F (.refl s) (.int _)⟩)
  · split at e
    · rename_i hl
      obtain ⟨n, en, rfl⟩ := Option.map_eq_some_iff.mp e
      cases hr with
      | cons h hs => cases hs; cases h; exact .inr ⟨_, n, rfl, en, hl, q _ H F (.refl s) (.int _)⟩
    · cases e
  · cases e
/-- max, min of two ints -/
def cI2 (h : Int → Int → D) (rs : List R) : Option R := match rs with
  | [.va (.int i), .va (.int j)] => some (.va (h i j))
  | _ => none
theorem cd_I2 {h : Int → Int → D} {g : Int → Int → V} (hg : ∀ F i j, Den K ca F (g i j) (h i j)) : CallD K ca (fun xs H Q => ∃ i j, xs = [.int i, .int j] ∧ Q (g i j) H) (cI2 h) := by
  intro B Hs F H vs xs z Q s hr e q
  unfold cI2 at e
  split at e
  · rename_i i j
    cases e
    cases hr with
    | cons h hs =>
      cases hs with
      | cons h2 hs =>
        cases hs
        cases h
        cases h2
        exact ⟨i, j, rfl, q _ H F (.refl s) (hg F i j)⟩
  · cases e
def cMin2 := cI2 fun i j => .int (if j < i then j else i)
theorem cd_min2 : CallD K ca (fun xs H Q => ∃ i j, xs = [.int i, .int j] ∧ Q (.int (if j < i then j else i)) H) cMin2 := cd_I2 fun _ _ _ => .int _
def blsOf : List D → Option (List Bool)
  | [] => some []
  | .bl i :: ds => (blsOf ds).map (i :: ·)
  | _ => none
theorem blsOf_eq : ∀ {ds : List D} {ns : List Bool}, blsOf ds = some ns → ds = ns.map D.bl
  | [], ns, h => by cases h; rfl
  | d :: ds, ns, h => by
    cases d <;> first
      | (obtain ⟨ms, e, rfl⟩ := Option.map_eq_some_iff.mp (show (blsOf ds).map _ = some ns from h)
         rw [blsOf_eq e]
         rfl)
      | cases h
theorem blsOf_map : ∀ ns : List Bool, blsOf (ns.map D.bl) = some ns
  | [] => rfl
  | n :: ns => by show (blsOf (ns.map D.bl)).map _ = _; rw [blsOf_map ns]; rfl
def lstD : D → Option (List D)
  | .lst ds => some ds
  | _ => none
theorem lstD_eq {d : D} {ds : List D} (h : lstD d = some ds) : d = .lst ds := by
  cases d <;> first | (cases h; rfl) | cases h
def c1 (f : R → Option R) (rs : List R) : Option R := match rs with
  | [r] => f r
  | _ => none
def cAll : List R → Option R := c1 fun r => ((lstD r.d).bind blsOf).map fun ns => .va (.bl (ns.all id))
theorem one_of {f : R → Option R} {rs : List R} {z : R} (h : c1 f rs = some z) : ∃ r, rs = [r] ∧ f r = some z := by
  unfold c1 at h
  split at h
  · exact ⟨_, rfl, h⟩
  · cases h
theorem cd_all : CallD K ca (rAll K) cAll := by
  intro B Hs F H vs xs z Q s hr e q
  obtain ⟨r, rfl, e⟩ := one_of e
  obtain ⟨ns, en, rfl⟩ := Option.map_eq_some_iff.mp e
  obtain ⟨ds, ed, en⟩ := Option.bind_eq_some_iff.mp en
  cases hr with
  | cons h hs =>
    cases hs
    obtain ⟨a, us, rfl, r1, d1⟩ := RV.lst s h (lstD_eq ed)
    rw [blsOf_eq en] at d1
    have := d1.bls_of
    subst this
    exact ⟨a, ns, rfl, rd_l r1, q _ H F (.refl s) (.bl _)⟩
/-- list(x), tuple(x) -/
def cList : List R → Option R := c1 fun r => match r.d with
  | .lst ds => some (.tm ds)
  | .tup ds => some (.tm ds)
  | _ => none
theorem cd_list : CallD K ca (fun xs H Q => ∃ p ys, xs = [.ref p] ∧ (SqL K H p ys ∨ SqT K H p ys) ∧ ∀ l, H l = none → Q (.ref l) (upd H l (.lst ys))) cList := by
  intro B Hs F H vs xs z Q s hr e q
  obtain ⟨r, rfl, e2⟩ := one_of e
  clear e
  cases hr with
  | cons h hs =>
    cases hs
    split at e2
    · rename_i ds hd
      cases e2
      obtain ⟨a, us, rfl, r1, d1⟩ := RV.lst s h hd
      exact ⟨a, us, rfl, .inl (rd_l r1), fun l hl => q _ _ F (.newO s _ hl) ⟨l, us, rfl, noT_none hl, s.free hl, upd_same, d1⟩⟩
    · rename_i ds hd
      cases e2
      cases RV.den h hd rfl with
      | tup t d1 => exact ⟨_, _, rfl, .inr (Same.seqT s t), fun l hl => q _ _ F (.newO s _ hl) ⟨l, _, rfl, noT_none hl, s.free hl, upd_same, d1⟩⟩
    · cases e2
def cTuple : List R → Option R := c1 fun r => match r.d with
  | .lst ds => some (.va (.tup ds))
  | .tup ds => some (.va (.tup ds))
  | _ => none
end
/-! ### isinstance of built-in types -/
inductive BTy where
  | int | bool | str | list | tuple
def BTy.nm : BTy → String
  | .int => "int"
  | .bool => "bool"
  | .str => "str"
  | .list => "list"
  | .tuple => "tuple"
def isB : BTy → D → Option Bool
  | _, .ins _ _ => none
  | _, .rol _ => none
  | _, .dic _ _ => none
  | _, .exc _ _ => none
  | _, .opq _ => none
  | .int, .int _ => some true
  | .int, .bl _ => some true
  | .bool, .bl _ => some true
  | .str, .str _ => some true
  | .list, .lst _ => some true
  | .tuple, .tup _ => some true
  | _, _ => some false
def tyN : D → String
  | .non => "NoneType"
  | .bl _ => "bool"
  | .int _ => "int"
  | .str _ => "str"
  | .lst _ => "list"
  | .tup _ => "tuple"
  | .ins _ _ => ""
  | .rol _ => ""
  | .dic _ _ => ""
  | .exc _ _ => ""
  | .opq _ => ""
theorem isB_kit : ∀ (T : BTy) (d : D) (b : Bool), isB T d = some b → kitB (tyN d) T.nm = some b := by
  intro T d b h
  cases d <;> cases T <;> cases b <;> first
    | (exfalso; simp [isB] at h; done)
    | (clear h; show kitB _ _ = _; simp only [tyN, BTy.nm]; decide +kernel)
theorem RV.ty {K : PySem.W.Frag} {ca : Nat → Addr} {B : BT} {Hs F H : Hp} {v : V} {r : R} (s : Same F H) (h : RV K ca B Hs F H v r) (n : ∀ c fs, r.d ≠ .ins c fs) (n2 : ∀ fs, r.d ≠ .rol fs) (n3 : ∀ ks fs, r.d ≠ .dic ks fs) (n4 : (∀ c fs, r.d ≠ .exc c fs) ∧ ∀ a, r.d ≠ .opq a) : TyX K H v (.type (tyN r.d)) := by
  have lst : ∀ ds, r.d = .lst ds → TyX K H v (.type "list") := fun ds e => by
    obtain ⟨a, us, rfl, r1, _⟩ := RV.lst s h e
    rcases r1 with z | ⟨o, z⟩
    · exact .base (.lst z)
    · exact .base (.frz z)
  cases e : r.d with
  | non => cases RV.den h e rfl; exact .base .non
  | bl b => cases RV.den h e rfl; exact .base (.bl _)
  | int i => cases RV.den h e rfl; exact .base (.int _)
  | str x => cases RV.den h e rfl; exact .base (.str _)
  | lst ds => exact lst ds e
  | tup ds =>
    cases RV.den h e rfl with
    | tup t d1 =>
      rcases Same.seqT s t with (z | ⟨o, z⟩) | ⟨o, its, n, z1, z2, _⟩
      · exact .base (.tup z)
      · exact .fTuple z
      · exact .kTuple z1 z2
  | ins c fs => exact absurd e (n c fs)
  | rol fs => exact absurd e (n2 fs)
  | dic ks fs => exact absurd e (n3 ks fs)
  | exc c fs => exact absurd e (n4.1 c fs)
  | opq a => exact absurd e (n4.2 a)
def eIs (T : BTy) (m : Gm → Option R) : Gm → Option R := fun g => (m g).bind fun r => if r.isTm = true then none else (isB T r.d).map fun b => .va (.bl b)
/-- isinstance(x, (A, B)) -/
def eIs2 (T U : BTy) (m : Gm → Option R) : Gm → Option R := fun g => (m g).bind fun r => if r.isTm = true then none else (isB T r.d).bind fun a => (isB U r.d).map fun b => .va (.bl (a || b))
section
variable {X : Cx} {ca : Nat → Addr} {e : Expr} {m : Gm → Option R} {pos p p1 p2 p3 : Pos}
theorem isB_ins {T : BTy} {r : R} {b : Bool} (h : isB T r.d = some b) : ∀ c fs, r.d ≠ .ins c fs := fun c fs e => by
  rw [e] at h
  cases T <;> cases h
theorem isB_exc {T : BTy} {r : R} {b : Bool} (h : isB T r.d = some b) : (∀ c fs, r.d ≠ .exc c fs) ∧ ∀ a, r.d ≠ .opq a := by
  refine ⟨fun c fs e => ?_, fun a e => ?_⟩ <;> (rw [e] at h; cases T <;> cases h)
theorem isB_dic {T : BTy} {r : R} {b : Bool} (h : isB T r.d = some b) : ∀ ks fs, r.d ≠ .dic ks fs := fun ks fs e => by
  rw [e] at h
  cases T <;> cases h
theorem isB_rol {T : BTy} {r : R} {b : Bool} (h : isB T r.d = some b) : ∀ fs, r.d ≠ .rol fs := fun fs e => by
  rw [e] at h
  cases T <;> cases h
theorem ev_isi {T : BTy} {x : Str} (hg : Gl X "isinstance") (hm : X.mg "isinstance" = none) (hv : bootBuiltins "isinstance" = some (.builtin "isinstance")) (he : EV X ca e m) (hT : PE X (.Name x p1) (tC (.ty T.nm)))
    (hs1 : starEach [e, .Name x p1] X.env = (false, eval e X.env) :: starEach [.Name x p1] X.env := by rfl) (hs2 : starEach [.Name x p1] X.env = (false, eval (.Name x p1) X.env) :: starEach [] X.env := by rfl)
    (hpl : (backTo pos (starEach [.Name x p1] X.env)).any (·.1) = false := by rfl) : EV X ca (.Call (.Name "isinstance" p) [e, .Name x p1] [] pos) (eIs T m) := by
  refine pe_imp (pe_callB call_isi hg hm hv (pa_cons he (pa_cons hT pa_nil hs2) hs1) (by decide) (by decide) hs1 hpl) ?_
  rintro σ H Q ⟨H0, F0, F, Γ, z, S, e, q⟩
  unfold eIs at e
  obtain ⟨r, er, e⟩ := Option.bind_eq_some_iff.mp e
  by_cases ht : r.isTm = true
  · rw [if_pos ht] at e; cases e
  rw [if_neg ht] at e
  obtain ⟨b, eb, rfl⟩ := Option.map_eq_some_iff.mp e
  refine ⟨H0, F0, F, Γ, r, S, er, fun v H1 F1 x1 r1 => ?_⟩
  exact ⟨v, _, _, _, b, rfl, .ty _, RV.ty x1.fh r1 (isB_ins eb) (isB_rol eb) (isB_dic eb) (isB_exc eb), kit_ty (isB_kit T _ b eb), q _ H1 F1 x1 (.bl b)⟩
theorem ev_isi2 {T U : BTy} {x y : Str} {kt : Nat} (hg : Gl X "isinstance") (hm : X.mg "isinstance" = none) (hv : bootBuiltins "isinstance" = some (.builtin "isinstance")) (he : EV X ca e m) (hT : PE X (.Name x p1) (tC (.ty T.nm))) (hU : PE X (.Name y p2) (tC (.ty U.nm)))
    (hs1 : starEach [e, .Tuple [.Name x p1, .Name y p2] kt p3] X.env = (false, eval e X.env) :: starEach [.Tuple [.Name x p1, .Name y p2] kt p3] X.env := by rfl)
    (hs2 : starEach [.Tuple [.Name x p1, .Name y p2] kt p3] X.env = (false, eval (.Tuple [.Name x p1, .Name y p2] kt p3) X.env) :: starEach [] X.env := by rfl)
    (hs3 : starEach [.Name x p1, .Name y p2] X.env = (false, eval (.Name x p1) X.env) :: starEach [.Name y p2] X.env := by rfl) (hs4 : starEach [.Name y p2] X.env = (false, eval (.Name y p2) X.env) :: starEach [] X.env := by rfl)
    (hpl : (backTo pos (starEach [.Tuple [.Name x p1, .Name y p2] kt p3] X.env)).any (·.1) = false := by rfl) : EV X ca (.Call (.Name "isinstance" p) [e, .Tuple [.Name x p1, .Name y p2] kt p3] [] pos) (eIs2 T U m) := by
  refine pe_imp (pe_callB call_isiT hg hm hv (pa_cons he (pa_cons (pe_tup (pa_cons hT (pa_cons hU pa_nil hs4) hs3)) pa_nil hs2) hs1) (by decide) (by decide) hs1 hpl) ?_
  rintro σ H Q ⟨H0, F0, F, Γ, z, S, e, q⟩
  unfold eIs2 at e
  obtain ⟨r, er, e⟩ := Option.bind_eq_some_iff.mp e
  by_cases ht : r.isTm = true
  · rw [if_pos ht] at e; cases e
  rw [if_neg ht] at e
  obtain ⟨a, ea, e⟩ := Option.bind_eq_some_iff.mp e
  obtain ⟨b, eb, rfl⟩ := Option.map_eq_some_iff.mp e
  refine ⟨H0, F0, F, Γ, r, S, er, fun v H1 F1 x1 r1 => ⟨by show 2 ≤ sizeLine; decide, fun t ht2 => ?_⟩⟩
  have x2 := x1.trans (Ext.newO x1.fh (.tup [.ty T.nm, .ty U.nm]) ht2)
  have r2 := r1.mono (Ext.newO x1.fh (.tup [.ty T.nm, .ty U.nm]) ht2)
  refine ⟨v, t, _, _, [.type T.nm, .type U.nm], a || b, rfl, upd_same, .cons (.ty _) (.cons (.ty _) .nil), RV.ty x2.fh r2 (isB_ins ea) (isB_rol ea) (isB_dic ea) (isB_exc ea), ?_, q _ _ F1 x2 (.bl _)⟩
  refine kitAny_cons (kit_ty (isB_kit T _ a ea)) (fun h => ?_) (fun h => by subst h; rfl)
  subst h
  refine kitAny_cons (kit_ty (isB_kit U _ b eb)) (fun h => ?_) (fun h => by subst h; rfl)
  subst h
  exact kitAny_nil
end
end BK
namespace BK
open PySem PySem.Spec L2
open PyProof.Rows (envOfC)
set_option autoImplicit false
/-! ### the other operators on ints -/
section
variable {K : PySem.W.Frag} {ca : Nat → Addr}
def oSub := oI (fun _ _ => True) fun i j => .int (i - j)
def oDiv := oI CDivB fun i j => .int (i.fdiv j)
def oMod := oI (fun _ j => j ≠ 0) fun i j => .int (i.fmod j)
def oPow := oI CPow fun i j => .int (i ^ j.toNat)
def uNeg := uI fun i => .int (-i)
theorem od_sub : OpD K ca (rI0 fun i j => .int (i - j)) oSub := od_I0 fun _ _ _ => .int _
theorem od_div : OpD K ca (rI CDivB fun i j => .int (i.fdiv j)) oDiv := od_I fun _ _ _ => .int _
theorem od_mod : OpD K ca (rI (fun _ j => j ≠ 0) fun i j => .int (i.fmod j)) oMod := od_I fun _ _ _ => .int _
theorem od_pow : OpD K ca (rI CPow fun i j => .int (i ^ j.toNat)) oPow := od_I fun _ _ _ => .int _
theorem ud_neg : UnD K ca (rU fun i => .int (-i)) uNeg := ud_I fun _ _ => .int _
end
theorem b_isinstance : bootBuiltins "isinstance" = some (.builtin "isinstance") := by decide +kernel
theorem b_len : bootBuiltins "len" = some (.builtin "len") := by decide +kernel
theorem b_abs : bootBuiltins "abs" = some (.builtin "abs") := by decide +kernel
theorem b_min : bootBuiltins "min" = some (.builtin "min") := by decide +kernel
theorem b_all : bootBuiltins "all" = some (.builtin "all") := by decide +kernel
theorem b_int : bootBuiltins "int" = some (.type "int") := by decide +kernel
theorem b_bool : bootBuiltins "bool" = some (.type "bool") := by decide +kernel
theorem b_str : bootBuiltins "str" = some (.type "str") := by decide +kernel
theorem b_list : bootBuiltins "list" = some (.type "list") := by decide +kernel
theorem b_tuple : bootBuiltins "tuple" = some (.type "tuple") := by decide +kernel
/-- a built-in type's name as a value -/
theorem pe_ty {X : Cx} {x : Str} {n : String} {pos : Pos} (hg : Gl X x) (hm : X.mg x = none) (hv : bootBuiltins x = some (.type n)) (hn : x ≠ "__name__" := by decide) (hd : (x == ("__debug__" : Str)) = false := by decide) : PE X (.Name x pos) (tC (.ty n)) := pe_bltn hg hm hv rfl hn hd
end BK
namespace BK
open PySem PySem.Spec L2
open PyProof.Rows (envOfC)
set_option autoImplicit false
/-- turns that a while may take -/
@[irreducible] def FUEL : Nat := 2 ^ 1000000
theorem gE_le : ∀ ds g g', gE ds g = some g' → ds.length = 0 := fun ds g g' e => by
  cases ds with
  | nil => rfl
  | cons d ds => cases e
theorem gC_le {f : D → Gm → Option Gm} {r : List D → Gm → Option Gm} {n : Nat} (h : ∀ ds g g', r ds g = some g' → ds.length = n) : ∀ ds g g', gC f r ds g = some g' → ds.length = n + 1 := fun ds g g' e => by
  cases ds with
  | nil => cases e
  | cons d ds =>
    have e : (f d g).bind (r ds) = some g' := e
    obtain ⟨g1, e1, e2⟩ := Option.bind_eq_some_iff.mp e
    rw [List.length_cons, h _ _ _ e2]
/-! += -/
def oIAdd : R → R → Option R := fun a b => match a.d, b.d with
  | .int i, .int j => some (.va (.int (i + j)))
  | .str x, .str y => if x.length + y.length ≤ LIM then some (.va (.str (x ++ y))) else none
  | _, _ => none
end BK
namespace BK
open PySem PySem.Spec L2
set_option autoImplicit false
/-! ### how a def's function is reckoned out: rules for simp -/
def rdS (i : Nat) : Option Slot → Option R
  | some (.va d) => some (.va d)
  | some (.ow ds) => some (.bw i ds)
  | _ => none
@[simp] theorem eV_def (i : Nat) (g : Gm) : eV i g = rdS i (g[i]?) := by
  unfold eV
  cases h : g[i]? with
  | none => rfl
  | some s => cases s <;> rfl
@[simp] theorem rdS_va (i : Nat) (d : D) : rdS i (some (.va d)) = some (.va d) := rfl
@[simp] theorem rdS_ow (i : Nat) (ds : List D) : rdS i (some (.ow ds)) = some (.bw i ds) := rfl
@[simp] theorem eC_def (d : D) (g : Gm) : eC d g = some (.va d) := rfl
def b1 {α β : Type} (x : Option α) (f : α → Option β) : Option β := x.bind f
@[simp] theorem b1_some {α β : Type} (x : α) (f : α → Option β) : b1 (some x) f = f x := (rfl)
def b2 {α β γ : Type} (x : Option α) (y : Option β) (f : α → β → Option γ) : Option γ := x.bind fun x => y.bind fun y => f x y
@[simp] theorem b2_some {α β γ : Type} (x : α) (y : β) (f : α → β → Option γ) : b2 (some x) (some y) f = f x y := (rfl)
@[simp] theorem e1_def (f : R → Option R) (a : Gm → Option R) (g : Gm) : e1 f a g = b1 (a g) f := rfl
@[simp] theorem e2_def (f : R → R → Option R) (a b : Gm → Option R) (g : Gm) : e2 f a b g = b2 (a g) (b g) f := rfl
@[simp] theorem aN_def (g : Gm) : aN g = some [] := rfl
def cF (x : R) (y : List R) : Option (List R) := some (x.fz :: y)
@[simp] theorem aC_def (a : Gm → Option R) (b : Gm → Option (List R)) (g : Gm) : aC a b g = b2 (a g) (b g) cF := rfl
@[simp] theorem cF_def (x : R) (y : List R) : cF x y = some (x.fz :: y) := rfl
@[simp] theorem fz_va (d : D) : (R.va d).fz = .va d := rfl
@[simp] theorem fz_tm (ds : List D) : (R.tm ds).fz = .va (.lst ds) := rfl
@[simp] theorem fz_bw (j : Nat) (ds : List D) : (R.bw j ds).fz = .bw j ds := rfl
@[simp] theorem d_va (d : D) : (R.va d).d = d := rfl
@[simp] theorem d_tm (ds : List D) : (R.tm ds).d = .lst ds := rfl
@[simp] theorem d_bw (j : Nat) (ds : List D) : (R.bw j ds).d = .lst ds := rfl
@[simp] theorem bw_va (d : D) : (R.va d).isBw = false := rfl
@[simp] theorem bw_tm (ds : List D) : (R.tm ds).isBw = false := rfl
@[simp] theorem bw_bw (j : Nat) (ds : List D) : (R.bw j ds).isBw = true := rfl
@[simp] theorem tm_va (d : D) : (R.va d).isTm = false := rfl
@[simp] theorem tm_tm (ds : List D) : (R.tm ds).isTm = true := rfl
@[simp] theorem tm_bw (j : Nat) (ds : List D) : (R.bw j ds).isTm = false := rfl
@[simp] theorem wr_va (d : D) : (R.va d).wr = false := rfl
@[simp] theorem wr_tm (ds : List D) : (R.tm ds).wr = true := rfl
@[simp] theorem wr_bw (j : Nat) (ds : List D) : (R.bw j ds).wr = true := rfl
@[simp] theorem lf_va (d : D) : (R.va d).lf = lfn 8 d := rfl
@[simp] theorem lf_tm (ds : List D) : (R.tm ds).lf = ds.all (lfn 8) := rfl
@[simp] theorem lfn_non (n : Nat) : lfn n .non = true := by cases n <;> rfl
@[simp] theorem lfn_bl (n : Nat) (b : Bool) : lfn n (.bl b) = true := by cases n <;> rfl
@[simp] theorem lfn_int (n : Nat) (b : Int) : lfn n (.int b) = true := by cases n <;> rfl
@[simp] theorem lfn_str (n : Nat) (b : Str) : lfn n (.str b) = true := by cases n <;> rfl
@[simp] theorem lfn_tup (n : Nat) (xs : List D) : lfn (n + 1) (.tup xs) = xs.all (lfn n) := rfl
@[simp] theorem lfn_ins (n c : Nat) (xs : List D) : lfn (n + 1) (.ins c xs) = xs.all (lfn n) := rfl
@[simp] theorem eA_def (f : List R → Option R) (a : Gm → Option (List R)) (g : Gm) : eA f a g = b1 (a g) f := rfl
/-- a value of a call -/
def kR (bw : Bool) (ks : List Nat) (r : R) : Option R := if (!bw || r.lf || r.lfk ks) = true then some r else none
@[simp] theorem kR_false (ks : List Nat) (r : R) : kR false ks r = some r := rfl
@[simp] theorem kR_true (ks : List Nat) (r : R) : kR true ks r = if (r.lf || r.lfk ks) = true then some r else none := by unfold kR; simp
@[simp] theorem callR_def (φ : Phi) (dds : List D) (rs : List R) : callR φ dds rs = if (rs.any R.isTm) = true then none else b1 (φ (rs.map R.d ++ dds)) (kR (rs.any R.isBw) (lentK rs)) := rfl
@[simp] theorem eB_def (a : Gm → Option Bool) (g : Gm) : eB a g = (a g).map fun k => .va (.bl k) := rfl
def bB : R → Option Bool
  | .va (.bl k) => some k
  | _ => none
@[simp] theorem bB_bl (k : Bool) : bB (.va (.bl k)) = some k := rfl
@[simp] theorem bE_def (a : Gm → Option R) (g : Gm) : bE a g = b1 (a g) bB := by
  unfold bE b1
  cases a g with
  | none => rfl
  | some r =>
    cases r with
    | va d => cases d <;> rfl
    | _ => rfl
@[simp] theorem bNot_def (a : Gm → Option Bool) (g : Gm) : bNot a g = (a g).map (!·) := rfl
def anB (b : Gm → Option Bool) (g : Gm) (k : Bool) : Option Bool := if k = true then b g else some false
def orB (b : Gm → Option Bool) (g : Gm) (k : Bool) : Option Bool := if k = true then some true else b g
@[simp] theorem bAnd_def (a b : Gm → Option Bool) (g : Gm) : bAnd a b g = b1 (a g) (anB b g) := rfl
@[simp] theorem bOr_def (a b : Gm → Option Bool) (g : Gm) : bOr a b g = b1 (a g) (orB b g) := rfl
@[simp] theorem anB_def (b : Gm → Option Bool) (g : Gm) (k : Bool) : anB b g k = if k = true then b g else some false := rfl
@[simp] theorem orB_def (b : Gm → Option Bool) (g : Gm) (k : Bool) : orB b g k = if k = true then some true else b g := rfl
def anR (b : Gm → Option R) (g : Gm) (k : Bool) : Option R := if k = true then b g else some (.va (.bl false))
def orR (b : Gm → Option R) (g : Gm) (k : Bool) : Option R := if k = true then some (.va (.bl true)) else b g
@[simp] theorem eAnd_def (a b : Gm → Option R) (g : Gm) : eAnd a b g = b1 (bE a g) (anR b g) := rfl
@[simp] theorem eOr_def (a b : Gm → Option R) (g : Gm) : eOr a b g = b1 (bE a g) (orR b g) := rfl
@[simp] theorem anR_def (b : Gm → Option R) (g : Gm) (k : Bool) : anR b g k = if k = true then b g else some (.va (.bl false)) := rfl
@[simp] theorem orR_def (b : Gm → Option R) (g : Gm) (k : Bool) : orR b g k = if k = true then some (.va (.bl true)) else b g := rfl
@[simp] theorem eNot_def (a : Gm → Option R) (g : Gm) : eNot a g = (bE a g).map fun k => .va (.bl (!k)) := rfl
/-! statements -/
def bO (o : Option Out) (n : Gm → Option Out) : Option Out := o.bind fun o => match o with
  | .nx g' => n g'
  | .rt r => some (.rt r)
  | .bk g' => some (.bk g')
  | .ct g' => some (.ct g')
  | .ex x => some (.ex x)
@[simp] theorem sNil_def (g : Gm) : sNil g = some (.nx g) := rfl
@[simp] theorem sCons_def (m n : Gm → Option Out) (g : Gm) : sCons m n g = bO (m g) n := rfl
@[simp] theorem bO_nx (g : Gm) (n : Gm → Option Out) : bO (some (.nx g)) n = n g := rfl
@[simp] theorem bO_rt (r : R) (n : Gm → Option Out) : bO (some (.rt r)) n = some (.rt r) := rfl
@[simp] theorem bO_bk (g : Gm) (n : Gm → Option Out) : bO (some (.bk g)) n = some (.bk g) := rfl
@[simp] theorem bO_ct (g : Gm) (n : Gm → Option Out) : bO (some (.ct g)) n = some (.ct g) := rfl
@[simp] theorem bO_ex (x : Exc) (n : Gm → Option Out) : bO (some (.ex x)) n = some (.ex x) := rfl
@[simp] theorem bO_ite (c : Prop) [Decidable c] (a b : Option Out) (n : Gm → Option Out) : bO (if c then a else b) n = if c then bO a n else bO b n := by split <;> rfl
def rtO (r : R) : Option Out := some (.rt (retR r))
@[simp] theorem rtO_def (r : R) : rtO r = some (.rt (retR r)) := rfl
@[simp] theorem retR_va (d : D) : retR (.va d) = .va d := rfl
@[simp] theorem retR_tm (ds : List D) : retR (.tm ds) = .tm ds := rfl
@[simp] theorem retR_bw (j : Nat) (ds : List D) : retR (.bw j ds) = .tm ds := rfl
@[simp] theorem sRet_def (m : Gm → Option R) (g : Gm) : sRet m g = b1 (m g) rtO := by
  unfold sRet b1 rtO
  cases m g <;> rfl
@[simp] theorem sRetN_def (g : Gm) : sRetN g = some (.rt (.va .non)) := rfl
def stO (i : Nat) (g : Gm) (r : R) : Option Out := (setR g i r).map .nx
@[simp] theorem sSet_def (i : Nat) (m : Gm → Option R) (g : Gm) : sSet i m g = b1 (m g) (stO i g) := rfl
@[simp] theorem stO_va (i : Nat) (g : Gm) (d : D) : stO i g (.va d) = some (.nx (g.set i (.va d))) := rfl
@[simp] theorem stO_tm (i : Nat) (g : Gm) (ds : List D) : stO i g (.tm ds) = some (.nx (g.set i (.ow ds))) := rfl
def ifO (t u : Gm → Option Out) (g : Gm) (k : Bool) : Option Out := if k = true then t g else u g
@[simp] theorem sIf_def (c : Gm → Option Bool) (t u : Gm → Option Out) (g : Gm) : sIf c t u g = b1 (c g) (ifO t u g) := rfl
@[simp] theorem ifO_def (t u : Gm → Option Out) (g : Gm) (k : Bool) : ifO t u g k = if k = true then t g else u g := rfl
def exO (g : Gm) (r : R) : Option Out := some (.nx g)
@[simp] theorem exO_def (g : Gm) (r : R) : exO g r = some (.nx g) := rfl
@[simp] theorem sExp_def (m : Gm → Option R) (g : Gm) : sExp m g = b1 (m g) (exO g) := by
  unfold sExp b1 exO
  cases m g <;> rfl
@[simp] theorem sBk_def (g : Gm) : sBk g = some (.bk g) := rfl
@[simp] theorem sCt_def (g : Gm) : sCt g = some (.ct g) := rfl
def prO (i j : Nat) (g : Gm) (x y : R) : Option Out := match x.fz, y.fz with
  | .va d, .va e => some (.nx ((g.set i (.va d)).set j (.va e)))
  | _, _ => none
@[simp] theorem sPar_def (i j : Nat) (a b : Gm → Option R) (g : Gm) : sPar i j a b g = b2 (a g) (b g) (prO i j g) := rfl
@[simp] theorem prO_va (i j : Nat) (g : Gm) (d e : D) : prO i j g (.va d) (.va e) = some (.nx ((g.set i (.va d)).set j (.va e))) := rfl
def agO (i : Nat) (f : R → R → Option R) (g : Gm) (x y : R) : Option Out := b1 (f x y) (stO i g)
@[simp] theorem sAug_def (i : Nat) (f : R → R → Option R) (m : Gm → Option R) (g : Gm) : sAug i f m g = b2 (eV i g) (m g) (agO i f g) := rfl
@[simp] theorem agO_def (i : Nat) (f : R → R → Option R) (g : Gm) (x y : R) : agO i f g x y = b1 (f x y) (stO i g) := rfl
def asO (f : D → Gm → Option Gm) (g : Gm) (r : R) : Option Out := match r with
  | .va d => (f d g).map .nx
  | _ => none
@[simp] theorem sAsg_def (m : Gm → Option R) (f : D → Gm → Option Gm) (g : Gm) : sAsg m f g = b1 (m g) (asO f g) := rfl
@[simp] theorem asO_va (f : D → Gm → Option Gm) (g : Gm) (d : D) : asO f g (.va d) = (f d g).map .nx := rfl
@[simp] theorem gN_def (i : Nat) (d : D) (g : Gm) : gN i d g = some (g.set i (.va d)) := rfl
@[simp] theorem gE_def (g : Gm) : gE [] g = some g := rfl
@[simp] theorem gC_def (f : D → Gm → Option Gm) (r : List D → Gm → Option Gm) (d : D) (ds : List D) (g : Gm) : gC f r (d :: ds) g = b1 (f d g) (r ds) := rfl
@[simp] theorem gT_def (f : List D → Gm → Option Gm) (ds : List D) (g : Gm) : gT f (.tup ds) g = f ds g := rfl
def apO (i : Nat) (g : Gm) (ds : List D) (r : R) : Option Out := if (!r.isBw && decide (ds.length < LIM)) = true then some (.nx (g.set i (.ow (ds ++ [r.d])))) else none
def apS (i : Nat) (g : Gm) (x : Option R) : Option Slot → Option Out
  | some (.ow ds) => b1 x (apO i g ds)
  | _ => none
@[simp] theorem sApp_def (i : Nat) (m : Gm → Option R) (g : Gm) : sApp i m g = apS i g (m g) (g[i]?) := by
  unfold sApp
  cases h : g[i]? with
  | none => rfl
  | some s => cases s <;> rfl
@[simp] theorem apS_ow (i : Nat) (g : Gm) (x : Option R) (ds : List D) : apS i g x (some (.ow ds)) = b1 x (apO i g ds) := rfl
theorem apO_ok {i : Nat} {g : Gm} {ds : List D} {r : R} (h : r.isBw = false) (hl : ds.length < LIM) : apO i g ds r = some (.nx (g.set i (.ow (ds ++ [r.d])))) := by
  unfold apO
  rw [h, decide_eq_true hl]
  rfl
@[simp] theorem apO_va (i : Nat) (g : Gm) (ds : List D) (d : D) : apO i g ds (.va d) = if ds.length < LIM then some (.nx (g.set i (.ow (ds ++ [d])))) else none := by
  unfold apO
  by_cases h : ds.length < LIM <;> simp [h]
@[simp] theorem apO_tm (i : Nat) (g : Gm) (ds es : List D) : apO i g ds (.tm es) = if ds.length < LIM then some (.nx (g.set i (.ow (ds ++ [.lst es])))) else none := by
  unfold apO
  by_cases h : ds.length < LIM <;> simp [h]
def fzS (i : Nat) (m : Gm → Option Out) (g : Gm) : Option Slot → Option Out
  | some (.ow ds) => m (g.set i (.va (.lst ds)))
  | _ => m g
@[simp] theorem sFz_def (i : Nat) (m : Gm → Option Out) (g : Gm) : sFz i m g = fzS i m g (g[i]?) := by
  unfold sFz
  cases h : g[i]? with
  | none => rfl
  | some s => cases s <;> rfl
@[simp] theorem fzS_ow (i : Nat) (m : Gm → Option Out) (g : Gm) (ds : List D) : fzS i m g (some (.ow ds)) = m (g.set i (.va (.lst ds))) := rfl
@[simp] theorem fzS_va (i : Nat) (m : Gm → Option Out) (g : Gm) (d : D) : fzS i m g (some (.va d)) = m g := rfl
@[simp] theorem fzS_un (i : Nat) (m : Gm → Option Out) (g : Gm) : fzS i m g (some .un) = m g := rfl
/-! loops -/
def foO (f : D → Gm → Option Gm) (b : Gm → Option Out) (T : List Nat) (g : Gm) (p : List Nat × List D) : Option Out := if p.1.all (fun j => !T.contains j) = true then forL f b p.2 g else none
@[simp] theorem sFor_def (mi : Gm → Option (List Nat × List D)) (f : D → Gm → Option Gm) (b : Gm → Option Out) (T : List Nat) (g : Gm) : sFor mi f b T g = b1 (mi g) (foO f b T g) := rfl
@[simp] theorem foO_def (f : D → Gm → Option Gm) (b : Gm → Option Out) (T : List Nat) (g : Gm) (ps : List Nat) (ds : List D) : foO f b T g (ps, ds) = if ps.all (fun j => !T.contains j) = true then forL f b ds g else none := rfl
@[simp] theorem iA_def (f : List R → Option (List Nat × List D)) (ms : Gm → Option (List R)) (g : Gm) : iA f ms g = b1 (ms g) f := (rfl)
@[simp] theorem iSeq_def (m : Gm → Option R) (g : Gm) : iSeq m g = b1 (m g) seqR := (rfl)
/-- one turn of a for -/
def fL (f : D → Gm → Option Gm) (b : Gm → Option Out) (ds : List D) (o : Option Out) : Option Out := o.bind fun o => match o with
  | .nx g2 => forL f b ds g2
  | .ct g2 => forL f b ds g2
  | .bk g2 => some (.nx g2)
  | .rt r => some (.rt r)
  | .ex x => some (.ex x)
@[simp] theorem forL_nil (f : D → Gm → Option Gm) (b : Gm → Option Out) (g : Gm) : forL f b [] g = some (.nx g) := rfl
theorem forL_cons (f : D → Gm → Option Gm) (b : Gm → Option Out) (d : D) (ds : List D) (g : Gm) : forL f b (d :: ds) g = fL f b ds (b1 (f d g) b) := by
  unfold fL b1
  show (f d g).bind _ = _
  cases f d g <;> rfl
@[simp] theorem fL_nx (f : D → Gm → Option Gm) (b : Gm → Option Out) (ds : List D) (g : Gm) : fL f b ds (some (.nx g)) = forL f b ds g := rfl
@[simp] theorem fL_ct (f : D → Gm → Option Gm) (b : Gm → Option Out) (ds : List D) (g : Gm) : fL f b ds (some (.ct g)) = forL f b ds g := rfl
@[simp] theorem fL_bk (f : D → Gm → Option Gm) (b : Gm → Option Out) (ds : List D) (g : Gm) : fL f b ds (some (.bk g)) = some (.nx g) := rfl
@[simp] theorem fL_rt (f : D → Gm → Option Gm) (b : Gm → Option Out) (ds : List D) (r : R) : fL f b ds (some (.rt r)) = some (.rt r) := rfl
@[simp] theorem fL_ex (f : D → Gm → Option Gm) (b : Gm → Option Out) (ds : List D) (x : Exc) : fL f b ds (some (.ex x)) = some (.ex x) := rfl
@[simp] theorem fL_ite (f : D → Gm → Option Gm) (b : Gm → Option Out) (ds : List D) (c : Prop) [Decidable c] (x y : Option Out) : fL f b ds (if c then x else y) = if c then fL f b ds x else fL f b ds y := by split <;> rfl
def wL (c : Gm → Option Bool) (b : Gm → Option Out) (n : Nat) (o : Option Out) : Option Out := o.bind fun o => match o with
  | .nx g' => sWh c b n g'
  | .ct g' => sWh c b n g'
  | .bk g' => some (.nx g')
  | .rt r => some (.rt r)
  | .ex x => some (.ex x)
def whK (c : Gm → Option Bool) (b : Gm → Option Out) (n : Nat) (g : Gm) (k : Bool) : Option Out := if k = true then wL c b n (b g) else some (.nx g)
theorem sWh_succ (c : Gm → Option Bool) (b : Gm → Option Out) (n : Nat) (g : Gm) : sWh c b (n + 1) g = b1 (c g) (whK c b n g) := rfl
@[simp] theorem whK_def (c : Gm → Option Bool) (b : Gm → Option Out) (n : Nat) (g : Gm) (k : Bool) : whK c b n g k = if k = true then wL c b n (b g) else some (.nx g) := rfl
@[simp] theorem wL_nx (c : Gm → Option Bool) (b : Gm → Option Out) (n : Nat) (g : Gm) : wL c b n (some (.nx g)) = sWh c b n g := rfl
@[simp] theorem wL_ct (c : Gm → Option Bool) (b : Gm → Option Out) (n : Nat) (g : Gm) : wL c b n (some (.ct g)) = sWh c b n g := rfl
@[simp] theorem wL_bk (c : Gm → Option Bool) (b : Gm → Option Out) (n : Nat) (g : Gm) : wL c b n (some (.bk g)) = some (.nx g) := rfl
@[simp] theorem wL_rt (c : Gm → Option Bool) (b : Gm → Option Out) (n : Nat) (r : R) : wL c b n (some (.rt r)) = some (.rt r) := rfl
@[simp] theorem wL_ex (c : Gm → Option Bool) (b : Gm → Option Out) (n : Nat) (x : Exc) : wL c b n (some (.ex x)) = some (.ex x) := rfl
@[simp] theorem wL_ite (c : Gm → Option Bool) (b : Gm → Option Out) (n : Nat) (p : Prop) [Decidable p] (x y : Option Out) : wL c b n (if p then x else y) = if p then wL c b n x else wL c b n y := by split <;> rfl
/-! comprehensions -/
def lcO (f : D → Gm → Option Gm) (c : Gm → Option Bool) (el : Gm → Option R) (g : Gm) (p : List Nat × List D) : Option R := if p.2.length ≤ LIM then (compL f c el g p.2).map .tm else none
@[simp] theorem eLc_def (mi : Gm → Option (List Nat × List D)) (f : D → Gm → Option Gm) (c : Gm → Option Bool) (el : Gm → Option R) (own : List Nat) (g : Gm) : eLc mi f c el own g = b1 (mi g) (lcO f c el (wipeG g own)) := rfl
@[simp] theorem lcO_def (f : D → Gm → Option Gm) (c : Gm → Option Bool) (el : Gm → Option R) (g : Gm) (ps : List Nat) (ds : List D) : lcO f c el g (ps, ds) = if ds.length ≤ LIM then (compL f c el g ds).map .tm else none := rfl
@[simp] theorem bY_def (g : Gm) : bY g = some true := rfl
@[simp] theorem compL_nil (f : D → Gm → Option Gm) (c : Gm → Option Bool) (el : Gm → Option R) (g : Gm) : compL f c el g [] = some [] := rfl
def cpR (rest : Option (List D)) (r : R) : Option (List D) := if r.isBw = true then none else rest.map (r.d :: ·)
def cpK (el : Gm → Option R) (rest : Option (List D)) (g1 : Gm) (k : Bool) : Option (List D) := if k = true then b1 (el g1) (cpR rest) else rest
def cpG (c : Gm → Option Bool) (el : Gm → Option R) (rest : Option (List D)) (g1 : Gm) : Option (List D) := b1 (c g1) (cpK el rest g1)
theorem compL_cons (f : D → Gm → Option Gm) (c : Gm → Option Bool) (el : Gm → Option R) (g : Gm) (d : D) (ds : List D) : compL f c el g (d :: ds) = b1 (f d g) (cpG c el (compL f c el g ds)) := rfl
@[simp] theorem cpG_def (c : Gm → Option Bool) (el : Gm → Option R) (rest : Option (List D)) (g1 : Gm) : cpG c el rest g1 = b1 (c g1) (cpK el rest g1) := rfl
@[simp] theorem cpK_def (el : Gm → Option R) (rest : Option (List D)) (g1 : Gm) (k : Bool) : cpK el rest g1 k = if k = true then b1 (el g1) (cpR rest) else rest := rfl
@[simp] theorem cpR_va (rest : Option (List D)) (d : D) : cpR rest (.va d) = rest.map (d :: ·) := rfl
@[simp] theorem cpR_tm (rest : Option (List D)) (ds : List D) : cpR rest (.tm ds) = rest.map (.lst ds :: ·) := rfl
@[simp] theorem wipeG_nil (g : Gm) : wipeG g [] = g := rfl
@[simp] theorem wipeG_cons (g : Gm) (v : Nat) (vs : List Nat) : wipeG g (v :: vs) = (wipeG g vs).set v .un := rfl
/-- a comprehension whose elements are known -/
theorem compL_map {α : Type} (f : D → Gm → Option Gm) (c : Gm → Option Bool) (el : Gm → Option R) (g : Gm) (enc : α → D) (out : α → D) : ∀ (xs : List α), (∀ x ∈ xs, ∀ rest : List D, b1 (f (enc x) g) (cpG c el (some rest)) = some (out x :: rest)) → compL f c el g (xs.map enc) = some (xs.map out)
  | [], _ => rfl
  | x :: xs, h => by
    rw [List.map_cons, compL_cons, compL_map f c el g enc out xs fun y hy => h y (List.mem_cons_of_mem _ hy), h x List.mem_cons_self]
    rfl
/-! operators -/
@[simp] theorem oI_def (C : Int → Int → Prop) [∀ i j, Decidable (C i j)] (h : Int → Int → D) (i j : Int) : oI C h (.va (.int i)) (.va (.int j)) = if C i j then some (.va (h i j)) else none := rfl
@[simp] theorem uI_def (h : Int → D) (i : Int) : uI h (.va (.int i)) = some (.va (h i)) := rfl
@[simp] theorem uNeg_def (i : Int) : uNeg (.va (.int i)) = some (.va (.int (-i))) := rfl
@[simp] theorem oAdd_int (i j : Int) : oAdd (.va (.int i)) (.va (.int j)) = some (.va (.int (i + j))) := rfl
@[simp] theorem oIAdd_int (i j : Int) : oIAdd (.va (.int i)) (.va (.int j)) = some (.va (.int (i + j))) := rfl
@[simp] theorem oIAdd_str (i j : Str) : oIAdd (.va (.str i)) (.va (.str j)) = if i.length + j.length ≤ LIM then some (.va (.str (i ++ j))) else none := rfl
@[simp] theorem oAdd_str (i j : Str) : oAdd (.va (.str i)) (.va (.str j)) = if i.length + j.length ≤ LIM then some (.va (.str (i ++ j))) else none := rfl
@[simp] theorem oAdd_tup (i j : List D) : oAdd (.va (.tup i)) (.va (.tup j)) = if i.length + j.length ≤ LIM then some (.va (.tup (i ++ j))) else none := rfl
@[simp] theorem oAdd_tmtm (i j : List D) : oAdd (.tm i) (.tm j) = if i.length + j.length ≤ LIM then some (.tm (i ++ j)) else none := rfl
@[simp] theorem oAdd_bwtm (k : Nat) (i j : List D) : oAdd (.bw k i) (.tm j) = if i.length + j.length ≤ LIM then some (.tm (i ++ j)) else none := rfl
@[simp] theorem oAdd_tmbw (k : Nat) (i j : List D) : oAdd (.tm i) (.bw k j) = if i.length + j.length ≤ LIM then some (.tm (i ++ j)) else none := rfl
@[simp] theorem oAdd_bwbw (k l : Nat) (i j : List D) : oAdd (.bw k i) (.bw l j) = if i.length + j.length ≤ LIM then some (.tm (i ++ j)) else none := rfl
@[simp] theorem oAdd_vatm (i j : List D) : oAdd (.va (.lst i)) (.tm j) = if i.length + j.length ≤ LIM then some (.tm (i ++ j)) else none := rfl
@[simp] theorem oAdd_tmva (i j : List D) : oAdd (.tm i) (.va (.lst j)) = if i.length + j.length ≤ LIM then some (.tm (i ++ j)) else none := rfl
@[simp] theorem oAdd_vava (i j : List D) : oAdd (.va (.lst i)) (.va (.lst j)) = if i.length + j.length ≤ LIM then some (.tm (i ++ j)) else none := rfl
@[simp] theorem oAdd_bwva (k : Nat) (i j : List D) : oAdd (.bw k i) (.va (.lst j)) = if i.length + j.length ≤ LIM then some (.tm (i ++ j)) else none := rfl
@[simp] theorem oAdd_vabw (k : Nat) (i j : List D) : oAdd (.va (.lst i)) (.bw k j) = if i.length + j.length ≤ LIM then some (.tm (i ++ j)) else none := rfl
@[simp] theorem oSub_def (i j : Int) : oSub (.va (.int i)) (.va (.int j)) = some (.va (.int (i - j))) := rfl
@[simp] theorem oDiv_def (i j : Int) : oDiv (.va (.int i)) (.va (.int j)) = if CDivB i j then some (.va (.int (i.fdiv j))) else none := rfl
@[simp] theorem oMod_def (i j : Int) : oMod (.va (.int i)) (.va (.int j)) = if j ≠ 0 then some (.va (.int (i.fmod j))) else none := rfl
@[simp] theorem oPow_def (i j : Int) : oPow (.va (.int i)) (.va (.int j)) = if CPow i j then some (.va (.int (i ^ j.toNat))) else none := rfl
@[simp] theorem oMulA_int (i j : Int) : oMulA (.va (.int i)) (.va (.int j)) = if CMulB i j then some (.va (.int (i * j))) else none := rfl
@[simp] theorem oMulA_str (i : Str) (j : Int) : oMulA (.va (.str i)) (.va (.int j)) = if -(2 ^ 63) ≤ j ∧ j < 2 ^ 63 ∧ i.length * j.toNat ≤ LIM then some (.va (.str (strRep i j))) else none := rfl
@[simp] theorem oMulA_lst (i : List D) (j : Int) : oMulA (.tm i) (.va (.int j)) = if -(2 ^ 63) ≤ j ∧ j < 2 ^ 63 ∧ i.length * j.toNat ≤ LIM then some (.tm (List.replicate j.toNat i).flatten) else none := rfl
@[simp] theorem oLt_def (i j : Int) : oLt (.va (.int i)) (.va (.int j)) = some (.va (.bl (decide (i < j)))) := rfl
@[simp] theorem oLe_def (i j : Int) : oLe (.va (.int i)) (.va (.int j)) = some (.va (.bl (decide (i ≤ j)))) := rfl
@[simp] theorem oGt_def (i j : Int) : oGt (.va (.int i)) (.va (.int j)) = some (.va (.bl (decide (j < i)))) := rfl
@[simp] theorem oEq_int (i j : Int) : oEq (.va (.int i)) (.va (.int j)) = some (.va (.bl (decide (i = j)))) := by
  show some (R.va (.bl (i == j))) = _
  rw [Bool.beq_eq_decide_eq]
@[simp] theorem oNe_int (i j : Int) : oNe (.va (.int i)) (.va (.int j)) = some (.va (.bl (!decide (i = j)))) := by
  show some (R.va (.bl (!(i == j)))) = _
  rw [Bool.beq_eq_decide_eq]
@[simp] theorem oEq_str (i j : Str) : oEq (.va (.str i)) (.va (.str j)) = some (.va (.bl (decide (i = j)))) := rfl
@[simp] theorem oNe_str (i j : Str) : oNe (.va (.str i)) (.va (.str j)) = some (.va (.bl (!decide (i = j)))) := rfl
@[simp] theorem oEq_bl (i j : Bool) : oEq (.va (.bl i)) (.va (.bl j)) = some (.va (.bl (i == j))) := rfl
@[simp] theorem oNe_bl (i j : Bool) : oNe (.va (.bl i)) (.va (.bl j)) = some (.va (.bl (!(i == j)))) := rfl
@[simp] theorem oEq_tup (i j : List D) : oEq (.va (.tup i)) (.va (.tup j)) = if (i.all (okn 7) && j.all (okn 7)) = true then some (.va (.bl (eqL (eqn 7) i j))) else none := by
  show (if (i.all (okn 7) && j.all (okn 7)) = true then some (eqL (eqn 7) i j) else none).map _ = _
  split <;> rfl
@[simp] theorem oNe_tup (i j : List D) : oNe (.va (.tup i)) (.va (.tup j)) = if (i.all (okn 7) && j.all (okn 7)) = true then some (.va (.bl (!eqL (eqn 7) i j))) else none := by
  show (if (i.all (okn 7) && j.all (okn 7)) = true then some (eqL (eqn 7) i j) else none).map _ = _
  split <;> rfl
@[simp] theorem okn_non (n : Nat) : okn n .non = true := by cases n <;> rfl
@[simp] theorem okn_bl (n : Nat) (b : Bool) : okn n (.bl b) = true := by cases n <;> rfl
@[simp] theorem okn_int (n : Nat) (b : Int) : okn n (.int b) = true := by cases n <;> rfl
@[simp] theorem okn_str (n : Nat) (b : Str) : okn n (.str b) = PyData.strOk b := by cases n <;> rfl
@[simp] theorem okn_tup (n : Nat) (xs : List D) : okn (n + 1) (.tup xs) = xs.all (okn n) := rfl
@[simp] theorem okn_lst (n : Nat) (xs : List D) : okn (n + 1) (.lst xs) = xs.all (okn n) := rfl
@[simp] theorem eqn_int (n : Nat) (i j : Int) : eqn n (.int i) (.int j) = decide (i = j) := by cases n <;> exact Bool.beq_eq_decide_eq _ _
@[simp] theorem eqn_bl (n : Nat) (i j : Bool) : eqn n (.bl i) (.bl j) = (i == j) := by cases n <;> rfl
@[simp] theorem eqn_str (n : Nat) (i j : Str) : eqn n (.str i) (.str j) = decide (i = j) := by cases n <;> exact Bool.beq_eq_decide_eq _ _
@[simp] theorem eqn_non (n : Nat) : eqn n .non .non = true := by cases n <;> rfl
@[simp] theorem eqn_tup (n : Nat) (i j : List D) : eqn (n + 1) (.tup i) (.tup j) = eqL (eqn n) i j := rfl
@[simp] theorem eqn_lst (n : Nat) (i j : List D) : eqn (n + 1) (.lst i) (.lst j) = eqL (eqn n) i j := rfl
@[simp] theorem eqL_nil (f : D → D → Bool) : eqL f [] [] = true := rfl
@[simp] theorem eqL_cons (f : D → D → Bool) (x y : D) (xs ys : List D) : eqL f (x :: xs) (y :: ys) = (f x y && eqL f xs ys) := rfl
@[simp] theorem eqL_nc (f : D → D → Bool) (y : D) (ys : List D) : eqL f [] (y :: ys) = false := rfl
@[simp] theorem eqL_cn (f : D → D → Bool) (y : D) (ys : List D) : eqL f (y :: ys) [] = false := rfl
theorem eqL_map {α : Type} [DecidableEq α] {f : D → D → Bool} {enc : α → D} (h : ∀ x y, f (enc x) (enc y) = decide (x = y)) : ∀ xs ys : List α, eqL f (xs.map enc) (ys.map enc) = decide (xs = ys)
  | [], [] => rfl
  | [], _ :: _ => by simp
  | _ :: _, [] => by simp
  | x :: xs, y :: ys => by
    rw [List.map_cons, List.map_cons, eqL_cons, h, eqL_map h xs ys]
    by_cases e : x = y <;> by_cases e2 : xs = ys <;> simp [e, e2]
theorem all_map {α β : Type} (f : β → Bool) (g : α → β) (xs : List α) (h : ∀ x ∈ xs, f (g x) = true) : (xs.map g).all f = true := by
  rw [List.all_eq_true]
  intro y hy
  obtain ⟨x, hx, rfl⟩ := List.mem_map.mp hy
  exact h x hx
@[simp] theorem oIs_bl (r : R) (k : Bool) : oIs r (.va (.bl k)) = some (.va (.bl (r.d.isBl k))) := rfl
@[simp] theorem isBl_bl (k b : Bool) : D.isBl k (.bl b) = (b == k) := rfl
@[simp] theorem isBl_non (k : Bool) : D.isBl k .non = false := rfl
@[simp] theorem isBl_int (k : Bool) (i : Int) : D.isBl k (.int i) = false := rfl
@[simp] theorem isBl_str (k : Bool) (i : Str) : D.isBl k (.str i) = false := rfl
@[simp] theorem isBl_lst (k : Bool) (i : List D) : D.isBl k (.lst i) = false := rfl
@[simp] theorem isBl_tup (k : Bool) (i : List D) : D.isBl k (.tup i) = false := rfl
@[simp] theorem isBl_ins (k : Bool) (c : Nat) (i : List D) : D.isBl k (.ins c i) = false := rfl
@[simp] theorem oIs_def (r : R) : oIs r (.va .non) = some (.va (.bl r.d.isNon)) := rfl
@[simp] theorem oIsN_def (r : R) : oIsN r (.va .non) = some (.va (.bl (!r.d.isNon))) := rfl
@[simp] theorem isNon_non : D.isNon .non = true := rfl
@[simp] theorem isNon_int (i : Int) : D.isNon (.int i) = false := rfl
@[simp] theorem isNon_bl (i : Bool) : D.isNon (.bl i) = false := rfl
@[simp] theorem isNon_str (i : Str) : D.isNon (.str i) = false := rfl
@[simp] theorem isNon_tup (i : List D) : D.isNon (.tup i) = false := rfl
@[simp] theorem isNon_lst (i : List D) : D.isNon (.lst i) = false := rfl
@[simp] theorem isNon_ins (c : Nat) (i : List D) : D.isNon (.ins c i) = false := rfl
theorem oIx_lst {a : R} {xs : List D} {i : Int} (h : a.d = .lst xs) : oIx a (.va (.int i)) = (atI xs i).map .va := by
  unfold oIx
  rw [h]
  rfl
@[simp] theorem oIx_vlst (xs : List D) (i : Int) : oIx (.va (.lst xs)) (.va (.int i)) = (atI xs i).map .va := rfl
@[simp] theorem oIx_tm (xs : List D) (i : Int) : oIx (.tm xs) (.va (.int i)) = (atI xs i).map .va := rfl
@[simp] theorem oIx_bw (j : Nat) (xs : List D) (i : Int) : oIx (.bw j xs) (.va (.int i)) = (atI xs i).map .va := rfl
@[simp] theorem oIx_tup (xs : List D) (i : Int) : oIx (.va (.tup xs)) (.va (.int i)) = (atI xs i).map .va := rfl
@[simp] theorem oIx_rol (xs : List D) (i : Int) : oIx (.va (.rol xs)) (.va (.int i)) = (atI xs i).map .va := rfl
@[simp] theorem oIx_str (z : Str) (i : Int) : oIx (.va (.str z)) (.va (.int i)) = if z.length ≤ LIM then (atI z.cps.toList i).map fun c => .va (.str ⟨#[c]⟩) else none := rfl
theorem atI_ofNat {α : Type} (xs : List α) (k : Nat) : atI xs (k : Int) = xs[k]? := by
  unfold atI ixN
  rw [if_pos (by omega)]
  by_cases h : (k : Int) < (xs.length : Int)
  · rw [if_pos h]
    simp
  · rw [if_neg h]
    have : xs.length ≤ k := by omega
    rw [List.getElem?_eq_none this]
    rfl
@[simp] theorem atI_zero {α : Type} (x : α) (xs : List α) : atI (x :: xs) 0 = some x := by
  have := atI_ofNat (x :: xs) 0
  simpa using this
@[simp] theorem atI_one {α : Type} (x y : α) (xs : List α) : atI (x :: y :: xs) 1 = some y := by
  have := atI_ofNat (x :: y :: xs) 1
  simpa using this
@[simp] theorem atI_two {α : Type} (x y z : α) (xs : List α) : atI (x :: y :: z :: xs) 2 = some z := by
  have := atI_ofNat (x :: y :: z :: xs) 2
  simpa using this
@[simp] theorem atI_three {α : Type} (x y z u : α) (xs : List α) : atI (x :: y :: z :: u :: xs) 3 = some u := by
  have := atI_ofNat (x :: y :: z :: u :: xs) 3
  simpa using this
@[simp] theorem atI_four {α : Type} (x y z u v : α) (xs : List α) : atI (x :: y :: z :: u :: v :: xs) 4 = some v := by
  have := atI_ofNat (x :: y :: z :: u :: v :: xs) 4
  simpa using this
theorem atI_map {α β : Type} (f : α → β) (xs : List α) (i : Int) : atI (xs.map f) i = (atI xs i).map f := by
  unfold atI
  rw [List.length_map]
  cases ixN xs.length i with
  | none => rfl
  | some j => simp
/-- an item of a written list at a remainder -/
theorem atI_lt {α : Type} (xs : List α) (i : Int) (h0 : 0 ≤ i) (h1 : i < xs.length) : ∃ x ∈ xs, atI xs i = some x := by
  obtain ⟨k, rfl⟩ := Int.eq_ofNat_of_zero_le h0
  have hk : k < xs.length := by omega
  exact ⟨xs[k], List.getElem_mem hk, by rw [atI_ofNat, List.getElem?_eq_getElem hk]⟩
@[simp] theorem oTup_def (rs : List R) : oTup rs = if (rs.all (fun r => !r.wr) && decide (rs.length ≤ LIM)) = true then some (.va (.tup (rs.map R.d))) else none := rfl
@[simp] theorem oLst_def (rs : List R) : oLst rs = if (rs.all (fun r => !r.wr) && decide (rs.length ≤ LIM)) = true then some (.tm (rs.map R.d)) else none := rfl
@[simp] theorem cLen_vlst (ds : List D) : cLen [.va (.lst ds)] = some (.va (.int ds.length)) := rfl
@[simp] theorem cLen_tm (ds : List D) : cLen [.tm ds] = some (.va (.int ds.length)) := rfl
@[simp] theorem cLen_bw (j : Nat) (ds : List D) : cLen [.bw j ds] = some (.va (.int ds.length)) := rfl
@[simp] theorem cLen_tup (ds : List D) : cLen [.va (.tup ds)] = some (.va (.int ds.length)) := rfl
@[simp] theorem cLen_rol (ds : List D) : cLen [.va (.rol ds)] = some (.va (.int ds.length)) := rfl
@[simp] theorem cLen_str (z : Str) : cLen [.va (.str z)] = if z.length ≤ LIM then some (.va (.int z.length)) else none := rfl
@[simp] theorem cAbs_def (i : Int) : cAbs [.va (.int i)] = some (.va (.int (if i < 0 then -i else i))) := rfl
@[simp] theorem cStrI_def (i : Int) : cStrI [.va (.int i)] = if i.natAbs.log2 < 1920 then some (.va (.str (toString i))) else none := rfl
@[simp] theorem cInt_int (i : Int) : cInt [.va (.int i)] = some (.va (.int i)) := rfl
@[simp] theorem cInt_bl (i : Bool) : cInt [.va (.bl i)] = some (.va (.int (if i then 1 else 0))) := rfl
@[simp] theorem cInt_str (a : Str) : cInt [.va (.str a)] = if a.length ≤ 640 then (PySem.intText? a).map fun n => .va (.int n) else none := rfl
@[simp] theorem cMin2_def (i j : Int) : cMin2 [.va (.int i), .va (.int j)] = some (.va (.int (min i j))) := by
  show some (R.va (.int (if j < i then j else i))) = _
  congr 3
  split <;> omega
@[simp] theorem c1_def (f : R → Option R) (r : R) : c1 f [r] = f r := rfl
theorem cAll_def {r : R} {ns : List Bool} (h : r.d = .lst (ns.map D.bl)) : cAll [r] = some (.va (.bl (ns.all id))) := by
  show ((lstD r.d).bind blsOf).map _ = _
  rw [h]
  show (blsOf (ns.map D.bl)).map _ = _
  rw [blsOf_map]
  rfl
@[simp] theorem cList_vlst (ds : List D) : cList [.va (.lst ds)] = some (.tm ds) := rfl
@[simp] theorem cList_tup (ds : List D) : cList [.va (.tup ds)] = some (.tm ds) := rfl
@[simp] theorem cList_bw (j : Nat) (ds : List D) : cList [.bw j ds] = some (.tm ds) := rfl
@[simp] theorem cTuple_vlst (ds : List D) : cTuple [.va (.lst ds)] = some (.va (.tup ds)) := rfl
@[simp] theorem cTuple_tup (ds : List D) : cTuple [.va (.tup ds)] = some (.va (.tup ds)) := rfl
@[simp] theorem cTuple_bw (j : Nat) (ds : List D) : cTuple [.bw j ds] = some (.va (.tup ds)) := rfl
def isO (T : BTy) (r : R) : Option R := if r.isTm = true then none else (isB T r.d).map fun b => .va (.bl b)
@[simp] theorem eIs_def (T : BTy) (m : Gm → Option R) (g : Gm) : eIs T m g = b1 (m g) (isO T) := rfl
@[simp] theorem isO_def (T : BTy) (r : R) : isO T r = if r.isTm = true then none else (isB T r.d).map fun b => .va (.bl b) := rfl
def isO2 (T U : BTy) (r : R) : Option R := if r.isTm = true then none else b2 (isB T r.d) (isB U r.d) fun a b => some (.va (.bl (a || b)))
@[simp] theorem eIs2_def (T U : BTy) (m : Gm → Option R) (g : Gm) : eIs2 T U m g = b1 (m g) (isO2 T U) := by
  unfold eIs2 b1 isO2
  cases m g with
  | none => rfl
  | some r =>
    show (if r.isTm = true then none else _) = (if r.isTm = true then none else _)
    split
    · rfl
    · unfold b2
      cases isB T r.d with
      | none => rfl
      | some a => cases isB U r.d <;> rfl
@[simp] theorem isO2_def (T U : BTy) (r : R) : isO2 T U r = if r.isTm = true then none else b2 (isB T r.d) (isB U r.d) fun a b => some (.va (.bl (a || b))) := rfl
@[simp] theorem isB_int_int (i : Int) : isB .int (.int i) = some true := rfl
@[simp] theorem isB_int_bl (i : Bool) : isB .int (.bl i) = some true := rfl
@[simp] theorem isB_int_non : isB .int .non = some false := rfl
@[simp] theorem isB_int_str (i : Str) : isB .int (.str i) = some false := rfl
@[simp] theorem isB_int_tup (i : List D) : isB .int (.tup i) = some false := rfl
@[simp] theorem isB_int_lst (i : List D) : isB .int (.lst i) = some false := rfl
@[simp] theorem isB_bool_int (i : Int) : isB .bool (.int i) = some false := rfl
@[simp] theorem isB_bool_bl (i : Bool) : isB .bool (.bl i) = some true := rfl
@[simp] theorem isB_bool_non : isB .bool .non = some false := rfl
@[simp] theorem isB_bool_str (i : Str) : isB .bool (.str i) = some false := rfl
@[simp] theorem isB_bool_tup (i : List D) : isB .bool (.tup i) = some false := rfl
@[simp] theorem isB_bool_lst (i : List D) : isB .bool (.lst i) = some false := rfl
@[simp] theorem isB_str_int (i : Int) : isB .str (.int i) = some false := rfl
@[simp] theorem isB_str_bl (i : Bool) : isB .str (.bl i) = some false := rfl
@[simp] theorem isB_str_non : isB .str .non = some false := rfl
@[simp] theorem isB_str_str (i : Str) : isB .str (.str i) = some true := rfl
@[simp] theorem isB_str_tup (i : List D) : isB .str (.tup i) = some false := rfl
@[simp] theorem isB_str_lst (i : List D) : isB .str (.lst i) = some false := rfl
@[simp] theorem isB_list_int (i : Int) : isB .list (.int i) = some false := rfl
@[simp] theorem isB_list_bl (i : Bool) : isB .list (.bl i) = some false := rfl
@[simp] theorem isB_list_non : isB .list .non = some false := rfl
@[simp] theorem isB_list_str (i : Str) : isB .list (.str i) = some false := rfl
@[simp] theorem isB_list_tup (i : List D) : isB .list (.tup i) = some false := rfl
@[simp] theorem isB_list_lst (i : List D) : isB .list (.lst i) = some true := rfl
@[simp] theorem isB_tuple_int (i : Int) : isB .tuple (.int i) = some false := rfl
@[simp] theorem isB_tuple_bl (i : Bool) : isB .tuple (.bl i) = some false := rfl
@[simp] theorem isB_tuple_non : isB .tuple .non = some false := rfl
@[simp] theorem isB_tuple_str (i : Str) : isB .tuple (.str i) = some false := rfl
@[simp] theorem isB_tuple_tup (i : List D) : isB .tuple (.tup i) = some true := rfl
@[simp] theorem isB_tuple_lst (i : List D) : isB .tuple (.lst i) = some false := rfl
@[simp] theorem listR_bw (j : Nat) (ds : List D) : listR (.bw j ds) = some ([j], ds) := rfl
@[simp] theorem listR_tm (ds : List D) : listR (.tm ds) = some ([], ds) := rfl
@[simp] theorem listR_va (ds : List D) : listR (.va (.lst ds)) = some ([], ds) := rfl
@[simp] theorem seqR_bw (j : Nat) (ds : List D) : seqR (.bw j ds) = some ([j], ds) := rfl
@[simp] theorem seqR_tm (ds : List D) : seqR (.tm ds) = some ([], ds) := rfl
@[simp] theorem seqR_va (ds : List D) : seqR (.va (.lst ds)) = some ([], ds) := rfl
@[simp] theorem seqR_rol (ds : List D) : seqR (.va (.rol ds)) = some ([], ds) := rfl
@[simp] theorem seqR_tup (ds : List D) : seqR (.va (.tup ds)) = some ([], ds) := rfl
@[simp] theorem seqR_str (z : Str) : seqR (.va (.str z)) = some ([], signs z) := rfl
@[simp] theorem listA_bw (j : Nat) (ds : List D) : listA (.bw j ds) = some ([j], ds) := rfl
@[simp] theorem listA_va (ds : List D) : listA (.va (.lst ds)) = some ([], ds) := rfl
@[simp] theorem listA_rol (ds : List D) : listA (.va (.rol ds)) = some ([], ds) := rfl
theorem rg1R_def (j : Int) : rg1R [.va (.int j)] = if -(2 ^ 62) ≤ j ∧ j < 2 ^ 62 then some ([], rangeL 0 j.toNat) else none := rfl
@[simp] theorem enR_def (r : R) : enR [r] = (listA r).map fun p => (p.1, enumL 0 p.2) := rfl
@[simp] theorem zpR_tt (xs ys : List D) : zpR [.va (.tup xs), .va (.tup ys)] = some ([], zipL xs ys) := rfl
@[simp] theorem zpR_ll (xs ys : List D) : zpR [.va (.lst xs), .va (.lst ys)] = some ([], zipL xs ys) := rfl
@[simp] theorem zpR_bl (j : Nat) (xs ys : List D) : zpR [.bw j xs, .va (.lst ys)] = some ([j], zipL xs ys) := rfl
@[simp] theorem zpR_lb (j : Nat) (xs ys : List D) : zpR [.va (.lst xs), .bw j ys] = some ([j], zipL xs ys) := rfl
@[simp] theorem zpR_bb (i j : Nat) (xs ys : List D) : zpR [.bw i xs, .bw j ys] = some ([i, j], zipL xs ys) := rfl
@[simp] theorem rvR_def (r : R) : rvR [r] = (listA r).map fun p => (p.1, p.2.reverse) := rfl
@[simp] theorem eSl_def (m : Gm → Option R) (l h : Gm → Option (Option Int)) (g : Gm) : eSl m l h g = b1 (m g) fun a => b2 (l g) (h g) (oSl a) := rfl
@[simp] theorem pN_def (g : Gm) : pN g = some none := rfl
def pI : R → Option (Option Int)
  | .va (.int i) => some (some i)
  | _ => none
@[simp] theorem pI_def (i : Int) : pI (.va (.int i)) = some (some i) := rfl
@[simp] theorem pS_def (m : Gm → Option R) (g : Gm) : pS m g = b1 (m g) pI := by
  unfold pS b1
  cases m g with
  | none => rfl
  | some r =>
    cases r with
    | va d => cases d <;> rfl
    | _ => rfl
@[simp] theorem oSl_vlst (xs : List D) (lo hi : Option Int) : oSl (.va (.lst xs)) lo hi = some (.tm (cutL xs lo hi)) := rfl
@[simp] theorem oSl_tm (xs : List D) (lo hi : Option Int) : oSl (.tm xs) lo hi = some (.tm (cutL xs lo hi)) := rfl
@[simp] theorem oSl_bw (j : Nat) (xs : List D) (lo hi : Option Int) : oSl (.bw j xs) lo hi = some (.tm (cutL xs lo hi)) := rfl
@[simp] theorem oSl_tup (xs : List D) (lo hi : Option Int) : oSl (.va (.tup xs)) lo hi = some (.va (.tup (cutL xs lo hi))) := rfl
@[simp] theorem oSl_rol (xs : List D) (lo hi : Option Int) : oSl (.va (.rol xs)) lo hi = some (.tm (cutL xs lo hi)) := rfl
@[simp] theorem oSl_str (z : Str) (lo hi : Option Int) : oSl (.va (.str z)) lo hi = if z.length ≤ LIM then some (.va (.str (cutS z lo hi))) else none := rfl
/-- the end of a def -/
def fnR : Option Out → Option R
  | some (.rt r) => some (retR r)
  | some (.nx _) => some (.va .non)
  | _ => none
theorem phi_def (m : Gm → Option Out) (N n : Nat) (ds : List D) : phi m N n ds = if ds.length = n then fnR (m (ds.map Slot.va ++ List.replicate (N - n) Slot.un)) else none := by
  unfold phi
  by_cases h : ds.length = n
  · rw [if_pos h, if_pos h]
    cases m (ds.map Slot.va ++ List.replicate (N - n) Slot.un) with
    | none => rfl
    | some o => cases o <;> rfl
  · rw [if_neg h, if_neg h]
@[simp] theorem fnR_rt (r : R) : fnR (some (.rt r)) = some (retR r) := rfl
@[simp] theorem fnR_nx (g : Gm) : fnR (some (.nx g)) = some (.va .non) := rfl
@[simp] theorem fnR_ite (c : Prop) [Decidable c] (a b : Option Out) : fnR (if c then a else b) = if c then fnR a else fnR b := by split <;> rfl
@[simp] theorem lim_num : LIM = 16777216 := rfl
theorem cut_map {α β : Type} (f : α → β) (xs : List α) (lo hi : Option Int) : cutL (xs.map f) lo hi = (cutL xs lo hi).map f := by
  unfold cutL
  simp
theorem cdiv_small {a b : Int} (h0 : 0 < b) (h : b < 2 ^ 64) : CDivB a b := ⟨by omega, by
  have : b.natAbs < 2 ^ 64 := by omega
  have := PySem.Flt.log2_lt_of (by omega : 0 < 64) this
  omega⟩
theorem log_lt {x : Int} {n : Nat} (h0 : 0 < n) (h : x.natAbs < 2 ^ n) : x.natAbs.log2 < n := PySem.Flt.log2_lt_of h0 h
theorem cmul_of {a b : Int} {m n : Nat} (h0 : 0 < m) (h1 : 0 < n) (ha : a.natAbs < 2 ^ m) (hb : b.natAbs < 2 ^ n) (h : m + n ≤ 134000000) : CMulB a b := by
  have x := log_lt h0 ha
  have y := log_lt h1 hb
  unfold CMulB
  omega
theorem abs_add_lt {a b : Int} {m : Nat} (ha : a.natAbs < 2 ^ m) (hb : b.natAbs < 2 ^ m) : (a + b).natAbs < 2 ^ (m + 1) := by
  rw [Nat.pow_succ]
  omega
end BK
namespace BK
open PySem PySem.Spec L2
set_option autoImplicit false
/-! ### steps -/
@[simp] theorem cdivB_small {a b : Int} (h0 : 0 < b) (h : b < 18446744073709551616) : CDivB a b := cdiv_small h0 h
@[simp] theorem fdiv_nn {a b : Int} (h : 0 ≤ b) : a.fdiv b = a / b := Int.fdiv_eq_ediv_of_nonneg a h
@[simp] theorem fmod_nn {a b : Int} (h : 0 ≤ b) : a.fmod b = a % b := Int.fmod_eq_emod_of_nonneg a h
@[simp] theorem cpow_small {a b : Int} (h0 : -18446744073709551616 < a) (h : a < 18446744073709551616) (h1 : 0 ≤ b) (h2 : b ≤ 1000000) : CPow a b := ⟨h1, h2, by omega⟩
/-- of at most so many bits -/
structure Sz (n : Nat) (z : Int) : Prop where
  lt : z.natAbs < 2 ^ n
theorem Sz.mono {m n : Nat} {z : Int} (h : Sz m z) (l : m ≤ n) : Sz n z := ⟨Nat.lt_of_lt_of_le h.lt (Nat.pow_le_pow_right (by omega) l)⟩
theorem Sz.zero (n : Nat) : Sz n 0 := ⟨Nat.two_pow_pos n⟩
theorem Sz.add {m n : Nat} {a b : Int} (h : Sz m a) (k : Sz n b) : Sz (max m n + 1) (a + b) := ⟨abs_add_lt (h.mono (Nat.le_max_left ..)).lt (k.mono (Nat.le_max_right ..)).lt⟩
theorem Sz.le {n : Nat} {a b : Int} (h0 : 0 ≤ a) (h : a ≤ b) (k : Sz n b) : Sz n a := ⟨Nat.lt_of_le_of_lt (by omega) k.lt⟩
theorem Sz.mod {n : Nat} {a b : Int} (h : 0 < b) (k : Sz n b) : Sz n (a % b) := Sz.le (Int.emod_nonneg _ (by omega)) (Int.le_of_lt (Int.emod_lt_of_pos _ h)) k
theorem Sz.small {z : Int} (h : z.natAbs < 18446744073709551616) : Sz 64 z := ⟨h⟩
theorem Sz.log {n : Nat} {z : Int} (h : Sz n z) (h0 : 0 < n) : z.natAbs.log2 < n := log_lt h0 h.lt
theorem Sz.cmul {m n : Nat} {a b : Int} (h : Sz m a) (k : Sz n b) (h0 : 0 < m) (h1 : 0 < n) (l : m + n ≤ 134000000) : CMulB a b := cmul_of h0 h1 h.lt k.lt l
theorem Sz.cdiv {n : Nat} {a b : Int} (h : Sz n b) (h0 : 0 < n) (hn : n ≤ 9000) (hb : b ≠ 0) : CDivB a b := ⟨hb, by have := h.log h0; omega⟩
theorem bits_sz {z : Int} (h : Builtin.Int.intBits z ≤ 1048576) : Sz 1048576 z := by
  unfold Builtin.Int.intBits at h
  by_cases e : z = 0
  · subst e
    exact Sz.zero _
  · have e' : ¬ (z == 0) = true := by simpa using e
    rw [if_neg e'] at h
    exact ⟨Nat.lt_of_lt_of_le (Nat.lt_log2_self (n := z.natAbs)) (Nat.pow_le_pow_right (by omega) (by omega))⟩
/-- a cell of the script, nought where there is none -/
def cellN (ns : List Int) (k : Nat) : Int := ns.getD k 0
theorem cellN_sz {ns : List Int} (h : ∀ z ∈ ns, Sz 1048576 z) (k : Nat) : Sz 1048576 (cellN ns k) := by
  unfold cellN
  rw [List.getD_eq_getElem?_getD]
  cases e : ns[k]? with
  | none => exact Sz.zero _
  | some z => exact h z (List.mem_of_getElem? e)
theorem get_split {α : Type} {xs pre : List α} {x : α} (h : ∃ post, xs = pre ++ x :: post) : xs[pre.length]? = some x ∧ pre = xs.take pre.length ∧ pre.length < xs.length := by
  obtain ⟨post, rfl⟩ := h
  simp
theorem range_split {n : Nat} {pre : List Nat} {x : Nat} (h : ∃ post, List.range n = pre ++ x :: post) : x < n ∧ pre = List.range x := by
  obtain ⟨h1, h2, h3⟩ := get_split h
  rw [List.length_range] at h3
  rw [List.getElem?_range h3] at h1
  cases h1
  refine ⟨h3, h2.trans ?_⟩
  rw [List.take_range, Nat.min_eq_left (by omega)]
end BK
namespace BK
open PySem PySem.Spec L2
set_option autoImplicit false
/-! ### own classes: fields, instances made, the method is_bridge -/
def fldD (c : Nat) (ds : List D) (f : Str) : Option D := ((fldsOf c).zip ds).lookup f
def oFld (f : Str) (r : R) : Option R := match r with
  | .va (.ins c ds) => (fldD c ds f).map .va
  | _ => none
section
variable {K : PySem.W.Frag} {ca : Nat → Addr} {F : Hp}
theorem lookup_den {f : Str} : ∀ {fs : List (Str × V)} {names : List Str} {ds : List D} {d : D}, fs.map (·.1) = names → Dens K ca F (fs.map (·.2)) ds → (names.zip ds).lookup f = some d → f ∈ names ∧ ∃ v, fs.lookup f = some v ∧ Den K ca F v d
  | [], _, ds, d, e, h, q => by
    subst e
    cases q
  | (g, u) :: fs, _, ds, d, e, h, q => by
    subst e
    cases h with
    | cons h1 h2 =>
      rename_i d1 ds
      rw [List.map_cons, List.zip_cons_cons, List.lookup_cons] at q
      by_cases hg : (f == g) = true
      · rw [hg] at q
        cases q
        refine ⟨by rw [eq_of_beq hg]; exact List.mem_cons_self, u, by rw [List.lookup_cons, hg], h1⟩
      · rw [Bool.not_eq_true] at hg
        rw [hg] at q
        obtain ⟨m, v, e1, e2⟩ := lookup_den rfl h2 q
        exact ⟨List.mem_cons_of_mem _ m, v, by rw [List.lookup_cons, hg]; exact e1, e2⟩
end
section
variable {X : Cx} {ca : Nat → Addr} {e : Expr} {m : Gm → Option R} {pos p apos : Pos}
/-- is_bridge: a def of each of two classes -/
def cIsB (r : R) : Option R := match r with
  | .va (.ins 0 _) => some (.va (.bl false))
  | .va (.ins 1 _) => some (.va (.bl true))
  | _ => none
/-- what the c-th class answers by a method without arguments -/
structure MCallee (P : Program) (w : World) (K : PySem.W.Frag) (mg : Str → Option Value) (base : Heap) (ca : Nat → Addr) (k c : Nat) (m : Str) (φ : Phi) : Prop where
  ex : ∃ (f : Addr) (fd : FuncData) (ps : List Str), FnOk P w K mg base CX0 k f fd ps (spOf K ca φ) ∧ Cls K (ca c) ∧ Meth K (ca c) m f ∧ Binds K fd ps []
theorem MCallee.mono {P : Program} {w : World} {K : PySem.W.Frag} {mg : Str → Option Value} {base : Heap} {ca : Nat → Addr} {j k c : Nat} {m : Str} {φ : Phi} (C : MCallee P w K mg base ca j c m φ) (h : j ≤ k) : MCallee P w K mg base ca k c m φ := by
  obtain ⟨f, fd, ps, F, r⟩ := C.ex
  exact ⟨f, fd, ps, F.mono h, r⟩
theorem pe_or {e : Expr} {t u : TE} (h : PE X e t) (k : PE X e u) : PE X e fun σ H Q => t σ H Q ∨ u σ H Q := ⟨fun pins s σ H Q I q => by
  rcases q with q | q
  · exact h.run pins s σ H Q I q
  · exact k.run pins s σ H Q I q⟩
end
/-! ### instances -/
/-- the fields, each by its expression over the arguments -/
def inis : List (Gm → Option R) → Gm → Option (List D)
  | [], _ => some []
  | m :: ms, g => (m g).bind fun r => if r.isBw = true then none else (inis ms g).map (r.d :: ·)
def allVa : List R → Option (List D)
  | [] => some []
  | .va d :: rs => (allVa rs).map (d :: ·)
  | _ => none
def cMk (c : Nat) (ms : List (Gm → Option R)) (rs : List R) : Option R := (allVa rs).bind fun ds => (inis ms (.un :: ds.map .va)).map fun es => .va (.ins c es)
/-- a result as a tree -/
def R.t : R → BK.T
  | .va d => .fz d
  | .tm ds => .lst (ds.map .fz)
  | .bw _ ds => .fz (.lst ds)
/-- values of new trees: apart from what was, and from x -/
def TFs (K : PySem.W.Frag) (ca : Nat → Addr) (H0 F H : Hp) (x : Addr) (vs : List V) (ts : List BK.T) : Prop := ∃ as, OTs K ca F H vs ts as ∧ as.Nodup ∧ ∀ b ∈ as, noT H0 b = none ∧ F b = none ∧ b ≠ x
theorem TFs.mono {K : PySem.W.Frag} {ca : Nat → Addr} {H0 F H F' H' : Hp} {x : Addr} {vs : List V} {ts : List BK.T} (h : TFs K ca H0 F H x vs ts) (e : Ext ca H F H' F') : TFs K ca H0 F' H' x vs ts := by
  obtain ⟨as, h1, h2, h3⟩ := h
  have key : ∀ b ∈ as, H' b = H b ∧ F' b = none := fun b hb => by
    obtain ⟨u, hu, hn⟩ := h1.at b hb
    exact ⟨by rw [hu, e.hh.st b u hu hn], e.keepN hu (h3 b hb).2.1 hn⟩
  exact ⟨as, h1.mono e.ff fun b hb => (key b hb).1, h2, fun b hb => ⟨(h3 b hb).1, (key b hb).2, (h3 b hb).2.2⟩⟩
theorem TFs.upd {K : PySem.W.Frag} {ca : Nat → Addr} {H0 F H : Hp} {x : Addr} {o : HO} {vs : List V} {ts : List BK.T} (h : TFs K ca H0 F H x vs ts) : TFs K ca H0 F (L2.upd H x o) x vs ts := by
  obtain ⟨as, h1, h2, h3⟩ := h
  exact ⟨as, h1.mono (Same.refl _) fun b hb => upd_ne (h3 b hb).2.2, h2, h3⟩
def cMkN (c n : Nat) (ms : List (Gm → Option R)) (rs : List R) : Option R := if rs.length = n then cMk c ms rs else none
end BK
namespace BK
open PySem PySem.Spec L2
set_option autoImplicit false
theorem noT_sq {K : PySem.W.Frag} {H : Hp} {a : Addr} {xs : List V} (h : SqL K H a xs) : SqL K (noT H) a xs := by
  rcases h with (h | ⟨o, h⟩) | h
  · exact .inl (.inl (noT_get h fun ps z => nomatch z))
  · exact .inl (.inr ⟨o, noT_get h fun ps z => nomatch z⟩)
  · exact .inr h
theorem tabsC0 {ca : Nat → Addr} {H : Hp} (h : ca 20 = 0) (k : ca 22 = 0) : TabsC ca H := ⟨fun z => (by rw [h] at z; cases z), fun z => (by rw [k] at z; cases z)⟩
end BK
namespace BK
open PySem PySem.Spec L2
set_option autoImplicit false
theorem fn_none {P : Program} {w : World} {K : PySem.W.Frag} {mg : Str → Option Value} {base : Heap} {CX : CXT} {k : Nat} {f : Addr} {fd : FuncData} {ps : List Str} {ca : Nat → Addr} : FnOk P w K mg base CX k f fd ps (spOf K ca fun _ => none) :=
  ⟨fun vs H Q E ⟨ds, F, r, _, _, _, _, e, _⟩ => (by cases e), fun A outer s H args us vs Q E hr he hb hv ⟨ds, F, r, _, _, _, _, e, _⟩ => (by cases e)⟩
end BK
namespace BK
open PySem PySem.Spec L2
set_option autoImplicit false
theorem blk_by {X : Cx} {N : List Str} {sc scope : Scope} {own : List (Str × Nat)} (hN : X.N = N) (hs : X.env.scope = sc) (h : blkC N sc scope own = true) : BlkOk X.N X.env.scope scope own := by
  rw [hN, hs]
  exact blkOk_by h
end BK
namespace BK
open PySem PySem.Spec L2
set_option autoImplicit false
/-! ### chains, methods of texts and lists, stores -/
/-- a < b < c -/
def eCh (f f' : R → R → Option R) (a b c : Gm → Option R) : Gm → Option R := fun g => (a g).bind fun x => (b g).bind fun y => (f x y).bind fun z => match z with
  | .va (.bl true) => (c g).bind fun w => f' y.fz w
  | .va (.bl false) => some (.va (.bl false))
  | _ => none
section
variable {X : Cx} {ca : Nat → Addr} {a b c : Expr} {m n k : Gm → Option R} {pos apos p : Pos}
theorem t_chain {r r' : R2} {f f' : R → R → Option R} (o : OpD X.K ca r f) (o' : OpD X.K ca r' f') : ∀ σ H Q, tEV X.K ca (eCh f f' m n k) σ H Q → tChain r r' (tEV X.K ca m) (tEV X.K ca n) (tEV X.K ca k) σ H Q := by
  rintro σ H Q ⟨H0, F0, F, Γ, z, S, e, q⟩
  unfold eCh at e
  obtain ⟨x, ex, e⟩ := Option.bind_eq_some_iff.mp e
  obtain ⟨y, ey, e⟩ := Option.bind_eq_some_iff.mp e
  obtain ⟨t, et, e⟩ := Option.bind_eq_some_iff.mp e
  refine ⟨H0, F0, F, Γ, x, S, ex, fun v H1 F1 x1 r1 => ⟨H0, F0, F1, Γ, y, S.mono x1, ey, fun w H2 F2 x2 r2 => ?_⟩⟩
  refine o x2.fh (r1.mono x2) (r2.back x1.hh) et fun u H3 F3 x3 r3 => ?_
  split at e
  · cases r3
    refine ⟨true, rfl, ?_⟩
    rw [if_pos rfl]
    obtain ⟨cw, ec, e⟩ := Option.bind_eq_some_iff.mp e
    have x23 := (x1.trans x2).trans x3
    obtain ⟨F4, x4, r4⟩ := RV.fz (x2.trans x3) (r2.mono x3)
    have x14 := x1.trans x4
    refine ⟨H0, F0, F4, Γ, cw, S.mono x14, ec, fun w' H5 F5 x5 r5 => ?_⟩
    refine o' x5.fh ((r4.back x1.hh).mono x5) (r5.back x14.hh) e fun u H6 F6 x6 r6 => ?_
    exact q u H6 F6 ((x14.trans x5).trans x6) (r6.back (x14.trans x5).hh)
  · cases r3
    refine ⟨false, rfl, ?_⟩
    rw [if_neg (by decide)]
    cases e
    exact q _ H3 F3 ((x1.trans x2).trans x3) (.bl false)
  · cases e
theorem ev_chain {op op' : CmpOp} {r r' : R2} {f f' : R → R → Option R} (ho : OpR X (compareOp op) r) (o : OpD X.K ca r f) (ho' : OpR X (compareOp op') r') (o' : OpD X.K ca r' f') (ha : EV X ca a m) (hb : EV X ca b n) (hc : EV X ca c k) (hl : lastMarks [op, op'] [b, c] = false := by rfl) : EV X ca (.Compare a [op, op'] [b, c] pos) (eCh f f' m n k) := pe_imp (pe_chain ho ho' ha hb hc hl) (t_chain o o')
/-! texts -/
def MD1 (K : PySem.W.Frag) (ca : Nat → Addr) (r : V → List V → Hp → VK → Prop) (f : R → R → Option R) : Prop :=
  ∀ {B : BT} {Hs F H : Hp} {v w : V} {x y z : R} {Q : VK}, Same F H → RV K ca B Hs F H v x → RV K ca B Hs F H w y → f x y = some z → (∀ u H' F', Ext ca H F H' F' → RV K ca B H F' H' u z → Q u H') → (∃ t, v = .str t) ∧ r v [w] H Q
theorem t_m1 {r : V → List V → Hp → VK → Prop} {f : R → R → Option R} (o : MD1 X.K ca r f) (hf : ∀ x y z, f x y = some z → ∃ t, x = .va (.str t)) : ∀ σ H Q, tEV X.K ca (e2 f m n) σ H Q → tM1 r (tEV X.K ca m) (tEV X.K ca n) σ H Q := by
  rintro σ H Q ⟨H0, F0, F, Γ, z, S, e, q⟩
  unfold e2 at e
  obtain ⟨x, ex, e⟩ := Option.bind_eq_some_iff.mp e
  obtain ⟨y, ey, e⟩ := Option.bind_eq_some_iff.mp e
  obtain ⟨t, rfl⟩ := hf x y z e
  refine ⟨H0, F0, F, Γ, _, S, ex, fun v H1 F1 x1 r1 => ?_⟩
  have r1' := r1
  cases r1
  refine ⟨⟨t, rfl⟩, H0, F0, F1, Γ, y, S.mono x1, ey, fun w H2 F2 x2 r2 => ?_⟩
  exact (o x2.fh (r1'.mono x2) (r2.back x1.hh) e fun u H3 F3 x3 r3 => q u H3 F3 ((x1.trans x2).trans x3) (r3.back (x1.hh.trans x2.hh))).2
/-- two texts -/
def f2s (g : Str → Str → Option R) (x y : R) : Option R := match x with
  | .va (.str a) => match y with
    | .va (.str b) => g a b
    | _ => none
  | _ => none
theorem f2s_some {g : Str → Str → Option R} {x y z : R} (h : f2s g x y = some z) : ∃ a b, x = .va (.str a) ∧ y = .va (.str b) ∧ g a b = some z := by
  unfold f2s at h
  split at h
  · split at h
    · exact ⟨_, _, rfl, rfl, h⟩
    · cases h
  · cases h
theorem ev_m1s {g : Str → Str → Option R} {id : String} {name : Str} {r : V → List V → Hp → VK → Prop} (slot : PySem.Slot "str" name id) (ty : typeOf (.builtin id) = pure (.type "method_descriptor")) (rule : MtR X id r) (o : ∀ {B : BT} {F H : Hp} {a b : Str} {z : R} {Q : VK}, Same F H → g a b = some z → (∀ u H' F', Ext ca H F H' F' → RV X.K ca B H F' H' u z → Q u H') → r (.str a) [.str b] H Q)
    (ha : EV X ca a m) (hb : EV X ca b n) (h1 : starEach [b] X.env = [(false, eval b X.env)] := by rfl) (h2 : attributeBase a name X.env (eval a X.env) = eval a X.env := by rfl) (h3 : (apos.endLine == pos.line) = true := by decide) : EV X ca (.Call (.Attribute a name apos) [b] [] pos) (e2 (f2s g) m n) :=
  pe_imp (pe_m1 slot ty rule ha hb h1 h2 h3) (t_m1 (fun {B Hs F H v w x y z Q} s rx ry e q => by
    obtain ⟨ta, tb, rfl, rfl, e⟩ := f2s_some e
    cases rx
    cases ry
    exact ⟨⟨ta, rfl⟩, o s e q⟩) fun x y z e => by
      obtain ⟨ta, tb, h, _⟩ := f2s_some e
      exact ⟨ta, h⟩)
def gSw (a b : Str) : Option R := some (.va (.bl (Txt.startswith a b)))
def gPart (a b : Str) : Option R := if (b.length == 0) = false ∧ a.length ≤ LIM then some (.va (.tup [.str (Txt.partition a b).1, .str (Txt.partition a b).2.1, .str (Txt.partition a b).2.2])) else none
def gSplit (a b : Str) : Option R := if (b.length == 0) = false ∧ a.length + 2 ≤ LIM then some (.tm ((Txt.split a b).map .str)) else none
theorem ev_sw (ha : EV X ca a m) (hb : EV X ca b n) (h1 : starEach [b] X.env = [(false, eval b X.env)] := by rfl) (h2 : attributeBase a "startswith" X.env (eval a X.env) = eval a X.env := by rfl) (h3 : (apos.endLine == pos.line) = true := by decide) : EV X ca (.Call (.Attribute a "startswith" apos) [b] [] pos) (e2 (f2s gSw) m n) :=
  ev_m1s PySem.F.slot_str_startswith PySem.F.type_str_startswith mt_startswith (fun {B F H a b z Q} s e q => by
    cases e
    exact ⟨a, b, rfl, rfl, q _ H F (.refl s) (.bl _)⟩) ha hb h1 h2 h3
theorem ev_part (ha : EV X ca a m) (hb : EV X ca b n) (h1 : starEach [b] X.env = [(false, eval b X.env)] := by rfl) (h2 : attributeBase a "partition" X.env (eval a X.env) = eval a X.env := by rfl) (h3 : (apos.endLine == pos.line) = true := by decide) : EV X ca (.Call (.Attribute a "partition" apos) [b] [] pos) (e2 (f2s gPart) m n) :=
  pe_imp (pe_partition ha hb h1 h2 h3) (t_m1 (fun {B Hs F H v w x y z Q} s rx ry e q => by
    obtain ⟨ta, tb, rfl, rfl, e'⟩ := f2s_some e
    clear e
    cases rx
    cases ry
    have e := e'
    unfold gPart at e
    split at e
    · rename_i hc
      cases e
      refine ⟨⟨ta, rfl⟩, ta, tb, rfl, rfl, hc.1, by rw [lim_eq]; exact hc.2, fun p hp => ?_⟩
      exact q _ _ _ (.new s (.tup _) hp) (.tup (SqT.of upd_same) (.cons (.str _) (.cons (.str _) (.cons (.str _) .nil))))
    · cases e) fun x y z e => by
      obtain ⟨ta, tb, h, _⟩ := f2s_some e
      exact ⟨ta, h⟩)
theorem dens_strs {K : PySem.W.Frag} {F : Hp} : ∀ (zs : List Str), Dens K ca F (zs.map V.str) (zs.map D.str)
  | [] => .nil
  | z :: zs => .cons (.str z) (dens_strs zs)
theorem ev_split (ha : EV X ca a m) (hb : EV X ca b n) (h1 : starEach [b] X.env = [(false, eval b X.env)] := by rfl) (h2 : attributeBase a "split" X.env (eval a X.env) = eval a X.env := by rfl) (h3 : (apos.endLine == pos.line) = true := by decide) : EV X ca (.Call (.Attribute a "split" apos) [b] [] pos) (e2 (f2s gSplit) m n) :=
  pe_imp (pe_split ha hb h1 h2 h3) (t_m1 (fun {B Hs F H v w x y z Q} s rx ry e q => by
    obtain ⟨ta, tb, rfl, rfl, e'⟩ := f2s_some e
    clear e
    cases rx
    cases ry
    have e := e'
    unfold gSplit at e
    split at e
    · rename_i hc
      cases e
      refine ⟨⟨ta, rfl⟩, ta, tb, rfl, rfl, hc.1, by rw [lim_eq]; exact hc.2, fun p hp => ?_⟩
      exact q _ _ _ (Ext.newO s _ hp) ⟨p, _, rfl, noT_none hp, s.free hp, upd_same, dens_strs _⟩
    · cases e) fun x y z e => by
      obtain ⟨ta, tb, h, _⟩ := f2s_some e
      exact ⟨ta, h⟩)
/-- sep.join(xs) -/
def strsD : List D → Option (List Str)
  | [] => some []
  | .str z :: ds => (strsD ds).map (z :: ·)
  | _ => none
def R.seq (r : R) : Option (List D) := match r.d with
  | .lst ds => some ds
  | .tup ds => some ds
  | .rol ds => some ds
  | _ => none
def fJoin (x y : R) : Option R := match x with
  | .va (.str a) => y.seq.bind fun ds => (strsD ds).bind fun zs => if (zs.map (·.length)).sum + zs.length * a.length ≤ 16777216 then some (.va (.str (Txt.join a zs))) else none
  | _ => none
theorem strsD_den {K : PySem.W.Frag} {F : Hp} : ∀ {ds : List D} {zs : List Str} {vs : List V}, strsD ds = some zs → Dens K ca F vs ds → vs = zs.map V.str
  | [], zs, vs, e, h => by cases e; cases h; rfl
  | d :: ds, zs, vs, e, h => by
    cases d with
    | str z =>
      obtain ⟨ys, ey, rfl⟩ := Option.map_eq_some_iff.mp e
      cases h with
      | cons h1 h2 =>
        cases h1
        rw [strsD_den ey h2]
        rfl
    | _ => cases e
theorem RV.seqD {K : PySem.W.Frag} {B : BT} {Hs F H : Hp} {v : V} {r : R} {ds : List D} (s : Same F H) (h : RV K ca B Hs F H v r) (e : r.seq = some ds) : ∃ p vs, v = .ref p ∧ (SqL K H p vs ∨ SqT K H p vs) ∧ Dens K ca F vs ds := by
  unfold R.seq at e
  split at e
  · rename_i es q
    cases e
    obtain ⟨p, vs, rfl, h1, h2⟩ := RV.lst s h q
    refine ⟨p, vs, rfl, .inl ?_, h2⟩
    rcases h1 with z | ⟨o, z⟩
    · exact SqL.of z
    · exact .inl (.inr ⟨o, z⟩)
  · rename_i es q
    cases e
    cases RV.den h q rfl with
    | tup t d1 => exact ⟨_, _, rfl, .inr (Same.seqT s t), d1⟩
  · rename_i es q
    cases e
    cases RV.den h q rfl with
    | rol t d1 => exact ⟨_, _, rfl, .inl (s.seq t), d1⟩
  · cases e
theorem ev_join (ha : EV X ca a m) (hb : EV X ca b n) (h1 : starEach [b] X.env = [(false, eval b X.env)] := by rfl) (h2 : attributeBase a "join" X.env (eval a X.env) = eval a X.env := by rfl) (h3 : (apos.endLine == pos.line) = true := by decide) : EV X ca (.Call (.Attribute a "join" apos) [b] [] pos) (e2 fJoin m n) :=
  pe_imp (pe_join ha hb h1 h2 h3) (t_m1 (fun {B Hs F H v w x y z Q} s rx ry e q => by
    unfold fJoin at e
    split at e
    · rename_i ta
      obtain ⟨ds, ed, e⟩ := Option.bind_eq_some_iff.mp e
      obtain ⟨zs, ez, e⟩ := Option.bind_eq_some_iff.mp e
      split at e
      · rename_i hc
        cases e
        cases rx
        obtain ⟨p, vs, rfl, hp, hd⟩ := RV.seqD s ry ed
        have := strsD_den ez hd
        subst this
        exact ⟨⟨ta, rfl⟩, ta, p, zs, rfl, rfl, hp, hc, q _ H F (.refl s) (.str _)⟩
      · cases e
    · cases e) fun x y z e => by
      unfold fJoin at e
      split at e
      · exact ⟨_, rfl⟩
      · cases e)
end
end BK
namespace BK
open PySem PySem.Spec L2
set_option autoImplicit false
section
variable {X : Cx} {ca : Nat → Addr}
theorem ev_globI {x : Str} {pos : Pos} {i : Int} (h : ∃ t, X.mg x = some (.int i t)) (hg : Gl X x := by rfl) (hdb : (x == ("__debug__" : Str)) = false := by decide) : EV X ca (.Name x pos) (eC (.int i)) := by
  obtain ⟨t, ht⟩ := h
  exact ev_c (v := .int i) (pe_glob hg ht ⟨_, rfl⟩ hdb) fun _ => .int _
theorem ev_globS {x : Str} {pos : Pos} {z : Str} (h : ∃ t, X.mg x = some (.str z t)) (hg : Gl X x := by rfl) (hdb : (x == ("__debug__" : Str)) = false := by decide) : EV X ca (.Name x pos) (eC (.str z)) := by
  obtain ⟨t, ht⟩ := h
  exact ev_c (v := .str z) (pe_glob hg ht ⟨_, rfl⟩ hdb) fun _ => .str _
end
end BK
namespace BK
open PySem PySem.Spec L2
set_option autoImplicit false
/-! ### own lists changed otherwise -/
/-- the place that a pop or a store names -/
def ixD (ds : List D) (r : R) : Option Nat := match r with
  | .va (.int k) => if -(2 ^ 63) ≤ k ∧ k < 2 ^ 63 then seqIndex? k ds.length else none
  | _ => none
/-- y = xs.pop(k) -/
def sPopS (j i : Nat) (a : Gm → Option R) : Gm → Option Out := fun g => match g[i]? with
  | some (.ow ds) => (a g).bind fun r => (ixD ds r).bind fun t => ds[t]?.map fun d => .nx ((g.set i (.ow (ds.eraseIdx t))).set j (.va d))
  | _ => none
/-- xs.pop(k) -/
def sPopX (i : Nat) (a : Gm → Option R) : Gm → Option Out := fun g => match g[i]? with
  | some (.ow ds) => (a g).bind fun r => (ixD ds r).bind fun t => ds[t]?.map fun _ => .nx (g.set i (.ow (ds.eraseIdx t)))
  | _ => none
def sRev (i : Nat) : Gm → Option Out := fun g => match g[i]? with
  | some (.ow ds) => some (.nx (g.set i (.ow ds.reverse)))
  | _ => none
def sClr (i : Nat) : Gm → Option Out := fun g => match g[i]? with
  | some (.ow _) => some (.nx (g.set i (.ow [])))
  | _ => none
/-- xs[k] = v -/
def sSt (i : Nat) (a v : Gm → Option R) : Gm → Option Out := fun g => match g[i]? with
  | some (.ow ds) => (v g).bind fun r => if r.isBw = true then none else (a g).bind fun q => match q with
    | .va (.int k) => (ixN ds.length k).map fun t => .nx (g.set i (.ow (ds.set t r.d)))
    | _ => none
  | _ => none
section
variable {X : Cx} {ca : Nat → Addr} {e : Expr} {m : Gm → Option R} {pos pos' p1 p2 p3 : Pos} {i j : Nat} {x y : Str}
theorem sv_store {v : Expr} {mv : Gm → Option R} (hv : EV X ca v mv) (hx : PE X (.Name x p1) (tVar i)) (he : EV X ca e m) (hp : PG X (.Subscript (.Name x p1) e pos') (gSub (tVar i) (tEV X.K ca m) rSetL)) (h1 : swapsWithSole [.Subscript (.Name x p1) e pos'] v pos.line X.env = pure false := by rfl) (h2 : swappedStores [.Subscript (.Name x p1) e pos'] v X.env = pure none := by rfl)
    (h3 : (assignEach [.Subscript (.Name x p1) e pos'] X.env).map (·.2) = [assign (.Subscript (.Name x p1) e pos') X.env] := by rfl) : SV X ca (.Assign [.Subscript (.Name x p1) e pos'] v pos) (sSt i m mv) [i] := by
  refine ⟨ps_imp (ps_asg hv hp h1 h2 h3) ?_, fun g o e => ?_⟩
  · rintro D σ H ⟨H0, F0, F, Γ, o, S, e, p⟩
    unfold sSt at e
    split at e
    · rename_i ds hg
      obtain ⟨r, er, e⟩ := Option.bind_eq_some_iff.mp e
      split at e
      · cases e
      rename_i hb
      obtain ⟨q, eq', e⟩ := Option.bind_eq_some_iff.mp e
      split at e
      · rename_i k
        obtain ⟨t, et, rfl⟩ := Option.map_eq_some_iff.mp e
        refine ⟨H0, F0, F, Γ, r, S, er, fun w H1 F1 x1 r1 => ?_⟩
        obtain ⟨F2, x2, s2, d2⟩ := RV.froze x1 r1 (by simpa using hb)
        have S2 := S.mono x2
        obtain ⟨a, vs, s, h1, h2, h3, h4⟩ := S2.ow i ds hg
        refine ⟨_, s, H0, F0, F2, Γ, _, S2, eq', fun u H3 F3 x3 r3 => ?_⟩
        cases r3
        have S3 := S2.mono x3
        refine ⟨a, vs, k, t, rfl, rfl, x3.hh.l h3, by rw [h4.length]; exact et, ?_⟩
        exact p σ _ F3 (S3.upd hg s ((h4.mono x3.ff).set t (d2.mono x3.ff))) (x2.trans x3).ff .refl
      · cases e
    · cases e
  · unfold sSt at e
    split at e
    · obtain ⟨r, er, e⟩ := Option.bind_eq_some_iff.mp e
      split at e
      · cases e
      obtain ⟨q, eq', e⟩ := Option.bind_eq_some_iff.mp e
      split at e
      · obtain ⟨t, et, rfl⟩ := Option.map_eq_some_iff.mp e
        exact kpg_set
      · cases e
    · cases e
end
end BK
namespace BK
open PySem PySem.Spec L2
set_option autoImplicit false
/-- xs += ys -/
def sExt (i : Nat) (m : Gm → Option R) : Gm → Option Out := fun g => match g[i]? with
  | some (.ow ds) => (m g).bind fun r => match r.d with
    | .lst es => if ds.length + es.length ≤ LIM then some (.nx (g.set i (.ow (ds ++ es)))) else none
    | _ => none
  | _ => none
end BK
namespace BK
open PySem PySem.Spec L2
set_option autoImplicit false
/-! isinstance of an own class -/
def cIsC (cs : List Nat) (c : Nat) (r : R) : Option R := match r with
  | .va (.ins c2 _) => if cs.contains c2 = true then some (.va (.bl (c2 == c))) else none
  | _ => none
end BK
namespace BK
open PySem PySem.Spec L2
set_option autoImplicit false
end BK
namespace BK
open PySem PySem.Spec L2
set_option autoImplicit false
/-- ys = xs, xs no more used -/
def sMv (i j : Nat) : Gm → Option Out := fun g => match g[j]? with
  | some (.ow ds) => if i = j then none else some (.nx ((g.set j .un).set i (.ow ds)))
  | some (.va d) => some (.nx (g.set i (.va d)))
  | _ => none
end BK
namespace BK
open PySem PySem.Spec L2
set_option autoImplicit false
/-! ### evaluation of the later combinators -/
/-- fields -/
@[simp] theorem oFld_ins (f : Str) (c : Nat) (ds : List D) : oFld f (.va (.ins c ds)) = (fldD c ds f).map .va := rfl
@[simp] theorem fld_0 (a : D) : fldD 0 [a] "length" = some a := rfl
@[simp] theorem fld_1a (a b c d e : D) : fldD 1 [a, b, c, d, e] "length" = some a := rfl
@[simp] theorem fld_1b (a b c d e : D) : fldD 1 [a, b, c, d, e] "name" = some b := rfl
@[simp] theorem fld_1c (a b c d e : D) : fldD 1 [a, b, c, d, e] "bears" = some c := rfl
@[simp] theorem fld_1d (a b c d e : D) : fldD 1 [a, b, c, d, e] "wide" = some d := rfl
@[simp] theorem fld_1e (a b c d e : D) : fldD 1 [a, b, c, d, e] "most" = some e := rfl
@[simp] theorem fld_2a (a b c : D) : fldD 2 [a, b, c] "pieces" = some a := rfl
@[simp] theorem fld_2b (a b c : D) : fldD 2 [a, b, c] "rounds" = some b := rfl
@[simp] theorem fld_2c (a b c : D) : fldD 2 [a, b, c] "shuts" = some c := rfl
@[simp] theorem fld_3a (a b c : D) : fldD 3 [a, b, c] "name" = some a := rfl
@[simp] theorem fld_3b (a b c : D) : fldD 3 [a, b, c] "speed" = some b := rfl
@[simp] theorem fld_3c (a b c : D) : fldD 3 [a, b, c] "wheels" = some c := rfl
@[simp] theorem fld_4a (a b c d e : D) : fldD 4 [a, b, c, d, e] "cart" = some a := rfl
@[simp] theorem fld_4b (a b c d e : D) : fldD 4 [a, b, c, d, e] "way" = some b := rfl
@[simp] theorem fld_4c (a b c d e : D) : fldD 4 [a, b, c, d, e] "start" = some c := rfl
@[simp] theorem fld_4d (a b c d e : D) : fldD 4 [a, b, c, d, e] "crossings" = some d := rfl
@[simp] theorem fld_4e (a b c d e : D) : fldD 4 [a, b, c, d, e] "ended" = some e := rfl
@[simp] theorem fld_5a (a b c : D) : fldD 5 [a, b, c] "road" = some a := rfl
@[simp] theorem fld_5b (a b c : D) : fldD 5 [a, b, c] "loads" = some b := rfl
@[simp] theorem fld_5c (a b c : D) : fldD 5 [a, b, c] "sends" = some c := rfl
@[simp] theorem cIsB_0 (ds : List D) : cIsB (.va (.ins 0 ds)) = some (.va (.bl false)) := rfl
@[simp] theorem cIsB_1 (ds : List D) : cIsB (.va (.ins 1 ds)) = some (.va (.bl true)) := rfl
@[simp] theorem allVa_nil : allVa [] = some [] := rfl
@[simp] theorem allVa_cons (d : D) (rs : List R) : allVa (.va d :: rs) = (allVa rs).map (d :: ·) := rfl
def iniK (o : Option (List D)) (r : R) : Option (List D) := if r.isBw = true then none else o.map (r.d :: ·)
@[simp] theorem iniK_va (d : D) (o : Option (List D)) : iniK o (.va d) = o.map (d :: ·) := rfl
@[simp] theorem iniK_tm (ds : List D) (o : Option (List D)) : iniK o (.tm ds) = o.map (D.lst ds :: ·) := rfl
@[simp] theorem inis_nil (g : Gm) : inis [] g = some [] := rfl
@[simp] theorem inis_cns (m : Gm → Option R) (ms : List (Gm → Option R)) (g : Gm) : inis (m :: ms) g = b1 (m g) (iniK (inis ms g)) := rfl
@[simp] theorem cMk_def (c : Nat) (ms : List (Gm → Option R)) (rs : List R) : cMk c ms rs = b1 (allVa rs) fun ds => (inis ms (.un :: ds.map .va)).map fun es => .va (.ins c es) := rfl
@[simp] theorem cMkN_def (c n : Nat) (ms : List (Gm → Option R)) (rs : List R) : cMkN c n ms rs = if rs.length = n then cMk c ms rs else none := rfl
/-- chains -/
def chK (f : R → R → Option R) (y : R) (w : Option R) : R → Option R
  | .va (.bl k) => if k = true then b1 w (f y) else some (.va (.bl false))
  | _ => none
@[simp] theorem chK_bl (f : R → R → Option R) (y : R) (w : Option R) (k : Bool) : chK f y w (.va (.bl k)) = if k = true then b1 w (f y) else some (.va (.bl false)) := rfl
@[simp] theorem eCh_def (f f' : R → R → Option R) (a b c : Gm → Option R) (g : Gm) : eCh f f' a b c g = b2 (a g) (b g) fun x y => b1 (f x y) (chK f' y.fz (c g)) := by
  unfold eCh b2
  cases a g with
  | none => rfl
  | some x =>
    cases b g with
    | none => rfl
    | some y =>
      show (f x y).bind _ = b1 (f x y) _
      cases f x y with
      | none => rfl
      | some z =>
        cases z with
        | va d =>
          cases d with
          | bl k => cases k <;> rfl
          | _ => rfl
        | _ => rfl
/-- texts -/
@[simp] theorem f2s_str (g : Str → Str → Option R) (a b : Str) : f2s g (.va (.str a)) (.va (.str b)) = g a b := rfl
@[simp] theorem gSw_def (a b : Str) : gSw a b = some (.va (.bl (Txt.startswith a b))) := rfl
@[simp] theorem gPart_def (a b : Str) : gPart a b = if (b.length == 0) = false ∧ a.length ≤ LIM then some (.va (.tup [.str (Txt.partition a b).1, .str (Txt.partition a b).2.1, .str (Txt.partition a b).2.2])) else none := rfl
@[simp] theorem gSplit_def (a b : Str) : gSplit a b = if (b.length == 0) = false ∧ a.length + 2 ≤ LIM then some (.tm ((Txt.split a b).map .str)) else none := rfl
@[simp] theorem strsD_nil : strsD [] = some [] := rfl
@[simp] theorem strsD_cons (z : Str) (ds : List D) : strsD (.str z :: ds) = (strsD ds).map (z :: ·) := rfl
@[simp] theorem strsD_map (zs : List Str) : strsD (zs.map .str) = some zs := by
  induction zs with
  | nil => rfl
  | cons z zs ih => rw [List.map_cons, strsD_cons, ih]; rfl
@[simp] theorem seq_lst (ds : List D) : (R.va (.lst ds)).seq = some ds := rfl
@[simp] theorem seq_tup (ds : List D) : (R.va (.tup ds)).seq = some ds := rfl
@[simp] theorem seq_rol (ds : List D) : (R.va (.rol ds)).seq = some ds := rfl
@[simp] theorem seq_tm (ds : List D) : (R.tm ds).seq = some ds := rfl
@[simp] theorem seq_bw (j : Nat) (ds : List D) : (R.bw j ds).seq = some ds := rfl
@[simp] theorem fJoin_str (a : Str) (y : R) : fJoin (.va (.str a)) y = b1 y.seq fun ds => b1 (strsD ds) fun zs => if (zs.map (·.length)).sum + zs.length * a.length ≤ 16777216 then some (.va (.str (Txt.join a zs))) else none := rfl
/-- own lists -/
def pop1 (ds : List D) (k : Int) : Option Nat := if -(2 ^ 63) ≤ k ∧ k < 2 ^ 63 then seqIndex? k ds.length else none
@[simp] theorem ixD_int (ds : List D) (k : Int) : ixD ds (.va (.int k)) = pop1 ds k := rfl
def popK (j i : Nat) (g : Gm) (ds : List D) (t : Nat) : Option Out := ds[t]?.map fun d => .nx ((g.set i (.ow (ds.eraseIdx t))).set j (.va d))
def popS (j i : Nat) (g : Gm) (r : Option R) : Option Slot → Option Out
  | some (.ow ds) => b1 r fun r => b1 (ixD ds r) (popK j i g ds)
  | _ => none
@[simp] theorem popS_ow (j i : Nat) (g : Gm) (r : Option R) (ds : List D) : popS j i g r (some (.ow ds)) = b1 r fun r => b1 (ixD ds r) (popK j i g ds) := rfl
@[simp] theorem sPopS_def (j i : Nat) (a : Gm → Option R) (g : Gm) : sPopS j i a g = popS j i g (a g) (g[i]?) := by
  unfold sPopS
  cases h : g[i]? with
  | none => rfl
  | some s => cases s <;> rfl
@[simp] theorem pop1_zero (d : D) (ds : List D) : pop1 (d :: ds) 0 = some 0 := by
  unfold pop1 seqIndex?
  rw [if_pos ⟨by decide, by decide⟩]
  simp
@[simp] theorem popK_zero (j i : Nat) (g : Gm) (d : D) (ds : List D) : popK j i g (d :: ds) 0 = some (.nx ((g.set i (.ow ds)).set j (.va d))) := rfl
def popXK (i : Nat) (g : Gm) (ds : List D) (t : Nat) : Option Out := ds[t]?.map fun _ => .nx (g.set i (.ow (ds.eraseIdx t)))
def popX (i : Nat) (g : Gm) (r : Option R) : Option Slot → Option Out
  | some (.ow ds) => b1 r fun r => b1 (ixD ds r) (popXK i g ds)
  | _ => none
@[simp] theorem popX_ow (i : Nat) (g : Gm) (r : Option R) (ds : List D) : popX i g r (some (.ow ds)) = b1 r fun r => b1 (ixD ds r) (popXK i g ds) := rfl
@[simp] theorem sPopX_def (i : Nat) (a : Gm → Option R) (g : Gm) : sPopX i a g = popX i g (a g) (g[i]?) := by
  unfold sPopX
  cases h : g[i]? with
  | none => rfl
  | some s => cases s <;> rfl
def revS (i : Nat) (g : Gm) : Option Slot → Option Out
  | some (.ow ds) => some (.nx (g.set i (.ow ds.reverse)))
  | _ => none
@[simp] theorem revS_ow (i : Nat) (g : Gm) (ds : List D) : revS i g (some (.ow ds)) = some (.nx (g.set i (.ow ds.reverse))) := rfl
@[simp] theorem sRev_def (i : Nat) (g : Gm) : sRev i g = revS i g (g[i]?) := by
  unfold sRev
  cases h : g[i]? with
  | none => rfl
  | some s => cases s <;> rfl
def clrS (i : Nat) (g : Gm) : Option Slot → Option Out
  | some (.ow _) => some (.nx (g.set i (.ow [])))
  | _ => none
@[simp] theorem clrS_ow (i : Nat) (g : Gm) (ds : List D) : clrS i g (some (.ow ds)) = some (.nx (g.set i (.ow []))) := rfl
@[simp] theorem sClr_def (i : Nat) (g : Gm) : sClr i g = clrS i g (g[i]?) := by
  unfold sClr
  cases h : g[i]? with
  | none => rfl
  | some s => cases s <;> rfl
def stK (i : Nat) (g : Gm) (ds : List D) (r q : R) : Option Out := if r.isBw = true then none else match q with
  | .va (.int k) => (ixN ds.length k).map fun t => .nx (g.set i (.ow (ds.set t r.d)))
  | _ => none
@[simp] theorem stK_va (i : Nat) (g : Gm) (ds : List D) (d : D) (k : Int) : stK i g ds (.va d) (.va (.int k)) = (ixN ds.length k).map fun t => .nx (g.set i (.ow (ds.set t d))) := rfl
@[simp] theorem stK_tm (i : Nat) (g : Gm) (ds es : List D) (k : Int) : stK i g ds (.tm es) (.va (.int k)) = (ixN ds.length k).map fun t => .nx (g.set i (.ow (ds.set t (.lst es)))) := rfl
def stS (i : Nat) (g : Gm) (v a : Option R) : Option Slot → Option Out
  | some (.ow ds) => b2 v a (stK i g ds)
  | _ => none
@[simp] theorem stS_ow (i : Nat) (g : Gm) (v a : Option R) (ds : List D) : stS i g v a (some (.ow ds)) = b2 v a (stK i g ds) := rfl
@[simp] theorem sSt_def (i : Nat) (a v : Gm → Option R) (g : Gm) : sSt i a v g = stS i g (v g) (a g) (g[i]?) := by
  unfold sSt
  cases h : g[i]? with
  | none => rfl
  | some s =>
    cases s with
    | ow ds =>
      show (v g).bind _ = b2 (v g) (a g) _
      unfold b2
      cases v g with
      | none => rfl
      | some r =>
        show (if r.isBw = true then none else _) = _
        cases hb : r.isBw with
        | true =>
          cases a g with
          | none => simp
          | some q =>
            show _ = stK i g ds r q
            unfold stK
            rw [hb]
            rfl
        | false =>
          rw [if_neg (by decide)]
          cases a g with
          | none => rfl
          | some q =>
            show _ = stK i g ds r q
            unfold stK
            rw [hb, if_neg (by decide)]
            rfl
    | _ => rfl
@[simp] theorem atI_end {α : Type} (xs : List α) (x : α) : atI (xs ++ [x]) (-1) = some x := by
  unfold atI ixN
  rw [if_neg (by omega), if_pos (by simp; omega)]
  show (xs ++ [x])[(-1 + ((xs ++ [x]).length : Int)).toNat]? = some x
  have e : (-1 + ((xs ++ [x]).length : Int)).toNat = xs.length := by
    rw [List.length_append, List.length_singleton]
    omega
  rw [e]
  simp
theorem ixN_nat {n m : Nat} {k : Int} (e : k = m) (h : m < n) : ixN n k = some m := by
  subst e
  unfold ixN
  rw [if_pos (by omega), if_pos (by omega), Int.toNat_natCast]
end BK
namespace BK
open PySem PySem.Spec L2
set_option autoImplicit false
end BK
namespace BK
open PySem PySem.Spec L2
set_option autoImplicit false
def extO (i : Nat) (g : Gm) (ds : List D) (r : R) : Option Out := match r.d with
  | .lst es => if ds.length + es.length ≤ LIM then some (.nx (g.set i (.ow (ds ++ es)))) else none
  | _ => none
@[simp] theorem extO_tm (i : Nat) (g : Gm) (ds es : List D) : extO i g ds (.tm es) = if ds.length + es.length ≤ LIM then some (.nx (g.set i (.ow (ds ++ es)))) else none := rfl
@[simp] theorem extO_bw (i j : Nat) (g : Gm) (ds es : List D) : extO i g ds (.bw j es) = if ds.length + es.length ≤ LIM then some (.nx (g.set i (.ow (ds ++ es)))) else none := rfl
@[simp] theorem extO_va (i : Nat) (g : Gm) (ds es : List D) : extO i g ds (.va (.lst es)) = if ds.length + es.length ≤ LIM then some (.nx (g.set i (.ow (ds ++ es)))) else none := rfl
def extS (i : Nat) (g : Gm) (v : Option R) : Option Slot → Option Out
  | some (.ow ds) => b1 v (extO i g ds)
  | _ => none
@[simp] theorem extS_ow (i : Nat) (g : Gm) (v : Option R) (ds : List D) : extS i g v (some (.ow ds)) = b1 v (extO i g ds) := rfl
@[simp] theorem sExt_def (i : Nat) (m : Gm → Option R) (g : Gm) : sExt i m g = extS i g (m g) (g[i]?) := by
  unfold sExt
  cases h : g[i]? with
  | none => rfl
  | some s => cases s <;> rfl
end BK
namespace BK
open PySem PySem.Spec L2
set_option autoImplicit false
@[simp] theorem cIsC_ins (cs : List Nat) (c c2 : Nat) (ds : List D) : cIsC cs c (.va (.ins c2 ds)) = if cs.contains c2 = true then some (.va (.bl (c2 == c))) else none := rfl
end BK
namespace BK
open PySem PySem.Spec L2
set_option autoImplicit false
def mvS (i j : Nat) (g : Gm) : Option Slot → Option Out
  | some (.ow ds) => if i = j then none else some (.nx ((g.set j .un).set i (.ow ds)))
  | some (.va d) => some (.nx (g.set i (.va d)))
  | _ => none
@[simp] theorem mvS_ow (i j : Nat) (g : Gm) (ds : List D) : mvS i j g (some (.ow ds)) = if i = j then none else some (.nx ((g.set j .un).set i (.ow ds))) := rfl
@[simp] theorem mvS_va (i j : Nat) (g : Gm) (d : D) : mvS i j g (some (.va d)) = some (.nx (g.set i (.va d))) := rfl
@[simp] theorem sMv_def (i j : Nat) (g : Gm) : sMv i j g = mvS i j g (g[j]?) := by
  unfold sMv
  cases h : g[j]? with
  | none => rfl
  | some s => cases s <;> rfl
end BK
namespace BK
open PySem PySem.Spec L2
set_option autoImplicit false
@[simp] theorem atI_five {α : Type} (a b c d e f : α) (xs : List α) : atI (a :: b :: c :: d :: e :: f :: xs) 5 = some f := by
  have := atI_ofNat (a :: b :: c :: d :: e :: f :: xs) 5
  simpa using this
end BK
namespace BK
open PySem PySem.Spec L2
set_option autoImplicit false
end BK
namespace BK
open PySem PySem.Spec L2
set_option autoImplicit false
/-! a block that ends in a state of which something holds -/
end BK
namespace BK
open PySem PySem.Spec L2
set_option autoImplicit false
theorem cut_mid {α : Type} (xs : List α) (a b : Nat) : cutL xs (some (a : Int)) (some (b : Int)) = (xs.take b).drop a := by
  unfold cutL
  rw [HT.sIx_nat, HT.sIx_nat, List.drop_take]
  by_cases h : a ≤ xs.length
  · rw [Nat.min_eq_left h]
    by_cases h2 : b ≤ xs.length
    · rw [Nat.min_eq_left h2]
    · rw [Nat.min_eq_right (by omega), List.take_of_length_le (by rw [List.length_drop]; omega), List.take_of_length_le (by rw [List.length_drop]; omega)]
  · rw [List.drop_eq_nil_of_le (show xs.length ≤ min a xs.length by omega), List.drop_eq_nil_of_le (show xs.length ≤ a by omega)]
    simp
end BK
namespace BK
open PySem PySem.Spec L2
set_option autoImplicit false
theorem enumL_map {α : Type} (enc : α → D) : ∀ (xs : List α) (k : Nat), enumL k (xs.map enc) = (xs.zipIdx k).map fun p => .tup [.int (p.2 : Nat), enc p.1]
  | [], _ => rfl
  | x :: xs, k => by
    rw [List.map_cons, List.zipIdx_cons, List.map_cons, ← enumL_map enc xs (k + 1)]
    rfl
end BK
namespace BK
open PySem PySem.Spec L2
set_option autoImplicit false
/-! ### reckonings in plain types, and that a def's function follows them -/
def Sm {α β : Type} (o : Option β) (s : Option α) (P : α → β → Prop) : Prop := ∀ x, s = some x → ∃ y, o = some y ∧ P x y
def grd {α : Type} (p : Prop) [Decidable p] (t : Option α) : Option α := if p then t else none
def lt {α β : Type} (v : α) (t : α → Option β) : Option β := t v
theorem grd_pos {α : Type} {p : Prop} [Decidable p] {t : Option α} (h : p) : grd p t = t := if_pos h
theorem lt_def {α β : Type} (v : α) (t : α → Option β) : lt v t = t v := rfl
def forO {α σ : Type} (body : α → σ → Option σ) : List α → σ → Option σ
  | [], s => some s
  | x :: xs, s => b1 (body x s) (forO body xs)
def whO {σ : Type} (c : σ → Option Bool) (body : σ → Option σ) : Nat → σ → Option σ
  | 0, _ => none
  | n + 1, s => b1 (c s) fun k => if k = true then b1 (body s) (whO c body n) else some s
/-- comprehensions whose elements are reckoned partly -/
def mapO {α β : Type} (f : α → Option β) : List α → Option (List β)
  | [] => some []
  | x :: xs => b1 (f x) fun y => b1 (mapO f xs) fun ys => some (y :: ys)
section
variable {α β γ : Type} {o : Option β} {P : α → β → Prop}
theorem sm_ret {x : α} {y : β} (h : o = some y) (p : P x y) : Sm o (some x) P := fun x e => by cases e; exact ⟨y, h, p⟩
theorem sm_b1 {p : Option γ} {t : γ → Option α} (h : ∀ x, p = some x → Sm o (t x) P) : Sm o (b1 p t) P := by
  cases p with
  | none => exact fun _ e => by cases e
  | some x => exact h x rfl
theorem sm_grd {p : Prop} [Decidable p] {t : Option α} (h : p → Sm o t P) : Sm o (grd p t) P := by
  unfold grd
  split
  · rename_i c; exact h c
  · exact fun _ e => by cases e
theorem sm_none : Sm o none P := fun _ e => by cases e
theorem Sm.get {s : Option α} (h : Sm o s P) {x : α} (e : s = some x) : ∃ y, o = some y ∧ P x y := h x e
theorem Sm.eq {s : Option α} {k : α → β} (h : Sm o s fun x y => y = k x) {x : α} (e : s = some x) : o = some (k x) := by
  obtain ⟨y, h1, rfl⟩ := h x e
  exact h1
end
/-! blocks -/
def nxt : Gm → Option Out := fun g => some (.nx g)
def cont (b n : Gm → Option Out) : Gm → Option Out := fun g => bO (b g) n
def J {α : Type} (m n : Gm → Option Out) (g : Gm) (s : Option α) (P : α → Out → Prop) : Prop := Sm (bO (m g) n) s P
def PN {σ : Type} (St : σ → Gm → Prop) : σ → Out → Prop := fun s o => ∃ g, o = .nx g ∧ St s g
/-- a loop's turn -/
def PT {σ : Type} (St : σ → Gm → Prop) : σ → Out → Prop := fun s o => ∃ g, (o = .nx g ∨ o = .ct g) ∧ St s g
def PF {α : Type} (k : α → R) : α → Out → Prop := fun v o => fnR (some o) = some (k v)
theorem bO_assoc (x : Option Out) (m n : Gm → Option Out) : bO (bO x m) n = bO x (cont m n) := by
  cases x with
  | none => rfl
  | some o => cases o <;> rfl
theorem bO_nxt (x : Option Out) : bO x nxt = x := by
  cases x with
  | none => rfl
  | some o => cases o <;> rfl
section
variable {α γ : Type} {b n : Gm → Option Out} {g g1 : Gm} {P : α → Out → Prop} {s : Option α} {t : γ → Option α} {i : Nat}
theorem j_b1 {m : Gm → Option Out} {p : Option γ} (h : ∀ x, p = some x → J m n g (t x) P) : J m n g (b1 p t) P := sm_b1 h
theorem j_grd {m : Gm → Option Out} {p : Prop} [Decidable p] (h : p → J m n g s P) : J m n g (grd p s) P := sm_grd h
theorem j_none {m : Gm → Option Out} : J m n g none P := sm_none
theorem j_seq {a : Gm → Option Out} (h : a g = some (.nx g1)) (k : J b n g1 s P) : J (sCons a b) n g s P := by
  unfold J
  rw [sCons_def, h, bO_nx]
  exact k
/-- a store whose value is a name already -/
theorem j_setN {e : Gm → Option R} {d : D} (h : e g = some (.va d)) (h1 : g.set i (.va d) = g1) (k : J b n g1 s P) : J (sCons (sSet i e) b) n g s P :=
  j_seq (a := sSet i e) (g1 := g1) (by rw [sSet_def, h, b1_some, stO_va, h1]) k
theorem j_setTN {e : Gm → Option R} {d : List D} (h : e g = some (.tm d)) (h1 : g.set i (.ow d) = g1) (k : J b n g1 s P) : J (sCons (sSet i e) b) n g s P :=
  j_seq (a := sSet i e) (g1 := g1) (by rw [sSet_def, h, b1_some, stO_tm, h1]) k
theorem j_asg {e : Gm → Option R} {f : D → Gm → Option Gm} {d : D} (h : e g = some (.va d)) (h1 : f d g = some g1) (k : J b n g1 s P) : J (sCons (sAsg e f) b) n g s P :=
  j_seq (a := sAsg e f) (g1 := g1) (by rw [sAsg_def, h, b1_some, asO_va, h1]; rfl) k
theorem j_par {a c : Gm → Option R} {x y : R} {j : Nat} {d d' : D} (h : a g = some x) (h' : c g = some y) (hx : x.fz = .va d) (hy : y.fz = .va d') (h1 : (g.set i (.va d)).set j (.va d') = g1) (k : J b n g1 s P) : J (sCons (sPar i j a c) b) n g s P :=
  j_seq (a := sPar i j a c) (g1 := g1) (by
    show (a g).bind _ = _
    rw [h]
    show (c g).bind _ = _
    rw [h']
    show (match x.fz, y.fz with | .va d, .va e => _ | _, _ => none : Option Out) = _
    rw [hx, hy, ← h1]) k
theorem j_app {e : Gm → Option R} {ds : List D} {r : R} (h0 : g[i]? = some (.ow ds)) (h : e g = some r) (hb : r.isBw = false) (hl : ds.length < 16777216) (h1 : g.set i (.ow (ds ++ [r.d])) = g1) (k : J b n g1 s P) : J (sCons (sApp i e) b) n g s P :=
  j_seq (a := sApp i e) (g1 := g1) (by rw [sApp_def, h0, h, apS_ow, b1_some, apO_ok hb hl, h1]) k
theorem j_fzO {m : Gm → Option Out} {ds : List D} (h0 : g[i]? = some (.ow ds)) (h1 : g.set i (.va (.lst ds)) = g1) (k : J (sCons m b) n g1 s P) : J (sCons (sFz i m) b) n g s P := by
  unfold J at k ⊢
  rw [sCons_def, sFz_def, h0, fzS_ow, h1]
  exact k
theorem j_fzV {m : Gm → Option Out} {d : D} (h0 : g[i]? = some (.va d)) (k : J (sCons m b) n g s P) : J (sCons (sFz i m) b) n g s P := by
  unfold J at k ⊢
  rw [sCons_def, sFz_def, h0, fzS_va]
  exact k
theorem j_ret {e : Gm → Option R} {r : R} {v : α} (h : e g = some r) (p : P v (.rt (retR r))) : J (sCons (sRet e) b) n g (some v) P := by
  unfold J
  rw [sCons_def, sRet_def, h, b1_some, rtO_def]
  exact sm_ret rfl p
theorem j_nil {v : α} (p : P v (.nx g)) : J sNil nxt g (some v) P := sm_ret rfl p
theorem j_nilC (k : J b n g s P) : J sNil (cont b n) g s P := k
theorem j_if {c : Gm → Option Bool} {A B : Gm → Option Out} {k : Bool} {sA sB : Option α} (h : c g = some k) (hA : k = true → J A (cont b n) g sA P) (hB : k = false → J B (cont b n) g sB P) : J (sCons (sIf c A B) b) n g (if k = true then sA else sB) P := by
  unfold J
  rw [sCons_def, sIf_def, h, b1_some, ifO_def, bO_assoc]
  cases k with
  | true => exact hA rfl
  | false => exact hB rfl
theorem j_cut {m : Gm → Option Out} {σ : Type} {St : σ → Gm → Prop} {u : Option σ} {t : σ → Option α} (h : J m nxt g u (PN St)) (k : ∀ st g', St st g' → J b n g' (t st) P) : J (sCons m b) n g (b1 u t) P := by
  refine sm_b1 fun st e => ?_
  obtain ⟨o, e1, g', rfl, h2⟩ := h st e
  rw [bO_nxt] at e1
  exact j_seq e1 (k st g' h2)
theorem j_joinB {c : Gm → Option Bool} {A B : Gm → Option Out} {k : Bool} {σ : Type} {St : σ → Gm → Prop} {sA sB : Option σ} {t : σ → Option α} (h : c g = some k) (hA : k = true → J A nxt g sA (PN St)) (hB : k = false → J B nxt g sB (PN St)) (q : ∀ st g', St st g' → J b n g' (t st) P) : J (sCons (sIf c A B) b) n g (b1 (if k = true then sA else sB) t) P := by
  refine j_cut (St := St) ?_ q
  unfold J
  rw [sIf_def, h, b1_some, ifO_def]
  cases k with
  | true => exact hA rfl
  | false => exact hB rfl
theorem jn_end {σ : Type} {St : σ → Gm → Prop} {st : σ} (h : St st g) : J sNil nxt g (some st) (PN St) := j_nil ⟨g, rfl, h⟩
theorem jt_end {σ : Type} {St : σ → Gm → Prop} {st : σ} (h : St st g) : J sNil nxt g (some st) (PT St) := j_nil ⟨g, .inl rfl, h⟩
theorem forO_sm {α σ : Type} {f : D → Gm → Option Gm} {m : Gm → Option Out} (enc : α → D) (St : σ → Gm → Prop) (body : α → σ → Option σ) : ∀ (xs : List α), (∀ x ∈ xs, ∀ st g, St st g → ∃ g1, f (enc x) g = some g1 ∧ J m nxt g1 (body x st) (PT St)) → ∀ st g, St st g → ∀ st', forO body xs st = some st' → ∃ g', forL f m (xs.map enc) g = some (.nx g') ∧ St st' g'
  | [], _, st, g, h, st', e => by cases e; exact ⟨g, rfl, h⟩
  | x :: xs, step, st, g, h, st', e => by
    obtain ⟨g1, e1, j⟩ := step x List.mem_cons_self st g h
    cases e2 : body x st with
    | none => rw [forO, e2] at e; cases e
    | some s2 =>
      rw [forO, e2, b1_some] at e
      obtain ⟨o, e3, g2, ho, h2⟩ := j s2 e2
      rw [bO_nxt] at e3
      obtain ⟨g', e4, h4⟩ := forO_sm enc St body xs (fun y hy => step y (List.mem_cons_of_mem _ hy)) s2 g2 h2 st' e
      refine ⟨g', ?_, h4⟩
      rw [List.map_cons, forL_cons, e1, b1_some, e3]
      rcases ho with rfl | rfl
      · rw [fL_nx, e4]
      · rw [fL_ct, e4]
theorem j_for {δ σ : Type} {mi : Gm → Option (List Nat × List D)} {f : D → Gm → Option Gm} {m : Gm → Option Out} {T : List Nat} {ps : List Nat} (enc : δ → D) (St : σ → Gm → Prop) {body : δ → σ → Option σ} {xs : List δ} {st0 : σ} {t : σ → Option α}
    (hm : mi g = some (ps, xs.map enc)) (hp : ps.all (fun j => !T.contains j) = true) (h0 : St st0 g) (step : ∀ x ∈ xs, ∀ st g, St st g → ∃ g1, f (enc x) g = some g1 ∧ J m nxt g1 (body x st) (PT St)) (k : ∀ st g', St st g' → J b n g' (t st) P) : J (sCons (sFor mi f m T) b) n g (b1 (forO body xs st0) t) P := by
  refine sm_b1 fun st e => ?_
  obtain ⟨g', e1, h1⟩ := forO_sm enc St body xs step st0 g h0 st e
  refine j_seq (g1 := g') ?_ (k st g' h1)
  rw [sFor_def, hm]
  show (if ps.all (fun j => !T.contains j) = true then _ else _) = _
  rw [if_pos hp, e1]
theorem whO_sm {σ : Type} {c : Gm → Option Bool} {m : Gm → Option Out} (St : σ → Gm → Prop) (cs : σ → Option Bool) (body : σ → Option σ) (hc : ∀ st g, St st g → Sm (c g) (cs st) fun x y => y = x) (step : ∀ st g, St st g → J m nxt g (body st) (PT St)) : ∀ (n : Nat) st g, St st g → ∀ st', whO cs body n st = some st' → ∃ g', sWh c m n g = some (.nx g') ∧ St st' g'
  | 0, st, g, h, st', e => by cases e
  | n + 1, st, g, h, st', e => by
    cases e1 : cs st with
    | none => rw [whO, e1] at e; cases e
    | some k =>
      have ec := (hc st g h).eq (k := id) e1
      rw [whO, e1, b1_some] at e
      rw [sWh_succ, ec, b1_some, whK_def]
      cases k with
      | false => cases e; exact ⟨g, rfl, h⟩
      | true =>
        rw [if_pos rfl] at e
        show ∃ g', (if true = true then _ else _) = _ ∧ _
        rw [if_pos rfl]
        cases e2 : body st with
        | none => rw [e2] at e; cases e
        | some s2 =>
          rw [e2, b1_some] at e
          obtain ⟨o, e3, g2, ho, h2⟩ := step st g h s2 e2
          rw [bO_nxt] at e3
          obtain ⟨g', e4, h4⟩ := whO_sm St cs body hc step n s2 g2 h2 st' e
          refine ⟨g', ?_, h4⟩
          rw [e3]
          rcases ho with rfl | rfl
          · rw [wL_nx, e4]
          · rw [wL_ct, e4]
theorem j_wh {σ : Type} {c : Gm → Option Bool} {m : Gm → Option Out} {F : Nat} (St : σ → Gm → Prop) {cs : σ → Option Bool} {body : σ → Option σ} {st0 : σ} {t : σ → Option α} (h0 : St st0 g) (hc : ∀ st g, St st g → Sm (c g) (cs st) fun x y => y = x) (step : ∀ st g, St st g → J m nxt g (body st) (PT St)) (k : ∀ st g', St st g' → J b n g' (t st) P) : J (sCons (sWh c m F) b) n g (b1 (whO cs body F st0) t) P := by
  refine sm_b1 fun st e => ?_
  obtain ⟨g', e1, h1⟩ := whO_sm St cs body hc step F st0 g h0 st e
  exact j_seq e1 (k st g' h1)
end
theorem sim_phi {α : Type} {m : Gm → Option Out} {N n : Nat} {ds : List D} {s : Option α} {k : α → R} (hl : ds.length = n) (h : J m nxt (ds.map Slot.va ++ List.replicate (N - n) Slot.un) s (PF k)) {x : α} (e : s = some x) : phi m N n ds = some (k x) := by
  obtain ⟨o, e1, e2⟩ := h x e
  rw [bO_nxt] at e1
  rw [phi_def, if_pos hl, e1, e2]
end BK
namespace BK
open PySem PySem.Spec L2
set_option autoImplicit false
/-! ### plain types as data -/
abbrev eD (d : D) : D := d
abbrev eL {α : Type} (e : α → D) (xs : List α) : D := .lst (xs.map e)
abbrev eRL (ns : List Int) : D := .rol (ns.map D.int)
def eO {α : Type} (e : α → D) : Option α → D
  | none => .non
  | some x => e x
abbrev eP2 {α β : Type} (a : α → D) (b : β → D) (x : α × β) : D := .tup [a x.1, b x.2]
abbrev eP4 {α β γ δ : Type} (a : α → D) (b : β → D) (c : γ → D) (d : δ → D) (x : α × β × γ × δ) : D := .tup [a x.1, b x.2.1, c x.2.2.1, d x.2.2.2]
/-- a bridge -/
structure Bg where
  name : Str
  length : Int
  bears : Int
  wide : Int
  most : Int
abbrev Wh := Int × Int × Int
abbrev Fr := Int × Int
/-! ### expressions -/
section
variable {g : Gm} {α β γ : Type}
theorem x1 {f : R → Option R} {a : Gm → Option R} {x z : R} (h : a g = some x) (k : f x = some z) : e1 f a g = some z := by
  rw [e1_def, h, b1_some, k]
theorem x2 {f : R → R → Option R} {a b : Gm → Option R} {x y z : R} (h : a g = some x) (h' : b g = some y) (k : f x y = some z) : e2 f a b g = some z := by
  rw [e2_def, h, h', b2_some, k]
theorem xA {f : List R → Option R} {a : Gm → Option (List R)} {rs : List R} {z : R} (h : a g = some rs) (k : f rs = some z) : eA f a g = some z := by
  rw [eA_def, h, b1_some, k]
theorem xaN : aN g = some [] := rfl
theorem xaC {a : Gm → Option R} {b : Gm → Option (List R)} {x : R} {rs : List R} (h : a g = some x) (h' : b g = some rs) : aC a b g = some (x.fz :: rs) := by
  rw [aC_def, h, h', b2_some, cF_def]
theorem xV {i : Nat} {d : D} (h : g[i]? = some (.va d)) : eV i g = some (.va d) := by rw [eV_def, h]; rfl
theorem xW {i : Nat} {ds : List D} (h : g[i]? = some (.ow ds)) : eV i g = some (.bw i ds) := by rw [eV_def, h]; rfl
/-! tests -/
theorem t_val {a : Gm → Option R} {k : Bool} (h : a g = some (.va (.bl k))) : bE a g = some k := by rw [bE_def, h]; rfl
theorem t_not {c : Gm → Option Bool} {k : Bool} (h : c g = some k) : bNot c g = some (!k) := by rw [bNot_def, h]; rfl
theorem t_and {c d : Gm → Option Bool} {k l : Bool} (h : c g = some k) (h' : d g = some l) : bAnd c d g = some (k && l) := by
  rw [bAnd_def, h, b1_some, anB_def, h']; cases k <;> rfl
theorem t_or {c d : Gm → Option Bool} {k l : Bool} (h : c g = some k) (h' : d g = some l) : bOr c d g = some (k || l) := by
  rw [bOr_def, h, b1_some, orB_def, h']; cases k <;> rfl
theorem t_andP {c d : Gm → Option Bool} {k z : Bool} {s : Option Bool} (h : c g = some k) (h' : k = true → Sm (d g) s fun x y => y = x) (e : (if k = true then s else some false) = some z) : bAnd c d g = some z := by
  rw [bAnd_def, h, b1_some, anB_def]
  cases k with
  | false => exact e
  | true => exact (h' rfl).eq (k := id) (by simpa using e)
theorem t_orP {c d : Gm → Option Bool} {k z : Bool} {s : Option Bool} (h : c g = some k) (h' : k = false → Sm (d g) s fun x y => y = x) (e : (if k = true then some true else s) = some z) : bOr c d g = some z := by
  rw [bOr_def, h, b1_some, orB_def]
  cases k with
  | true => exact e
  | false => exact (h' rfl).eq (k := id) (by simpa using e)
theorem v_andP {a b : Gm → Option R} {k z : Bool} {s : Option Bool} (h : a g = some (.va (.bl k))) (h' : k = true → Sm (b g) s fun x y => y = .va (.bl x)) (e : (if k = true then s else some false) = some z) : eAnd a b g = some (.va (.bl z)) := by
  rw [eAnd_def, t_val h, b1_some, anR_def]
  cases k with
  | false => cases e; rfl
  | true => exact (h' rfl).eq (k := fun x => R.va (.bl x)) (by simpa using e)
theorem v_chain {f f' : R → R → Option R} {a b c : Gm → Option R} {x y w : R} {k l : Bool} (h : a g = some x) (h' : b g = some y) (h'' : c g = some w) (e1 : f x y = some (.va (.bl k))) (e2 : f' y.fz w = some (.va (.bl l))) : eCh f f' a b c g = some (.va (.bl (k && l))) := by
  rw [eCh_def, h, h', b2_some, e1, b1_some, chK_bl, h'', b1_some, e2]
  cases k <;> rfl
/-! operators -/
theorem f_mul {i j : Int} (h : CMulB i j) : oMulA (.va (.int i)) (.va (.int j)) = some (.va (.int (i * j))) := by rw [oMulA_int, if_pos h]
theorem f_div {i j : Int} (h : CDivB i j) : oDiv (.va (.int i)) (.va (.int j)) = some (.va (.int (i.fdiv j))) := by rw [oDiv_def, if_pos h]
theorem f_mod {i j : Int} (h : j ≠ 0) : oMod (.va (.int i)) (.va (.int j)) = some (.va (.int (i.fmod j))) := by rw [oMod_def, if_pos h]
theorem f_addS {i j : Str} (h : i.length + j.length ≤ 16777216) : oAdd (.va (.str i)) (.va (.str j)) = some (.va (.str (i ++ j))) := by rw [oAdd_str, if_pos (show _ ≤ LIM from h)]
/-- == of plain types -/
structure EQ (n : Nat) [DecidableEq α] (e : α → D) : Prop where
  eq : ∀ x y, eqn n (e x) (e y) = decide (x = y)
structure OK (n : Nat) (e : α → D) : Prop where
  ok : ∀ x, okn n (e x) = true
theorem eqR_gen {a b : R} {x y : D} (ha : a.d = x) (hb : b.d = y) (h1 : okn 8 x = true) (h2 : okn 8 y = true) : eqR a b = some (eqn 8 x y) := by
  subst ha; subst hb
  unfold eqR
  split
  · rename_i u v e1 e2
    rw [e1, e2]; rfl
  · rw [h1, h2]; rfl
theorem f_eq {a b : R} {k : Bool} (h : eqR a b = some k) : oEq a b = some (.va (.bl k)) := by unfold oEq; rw [h]; rfl
theorem f_ne {a b : R} {k : Bool} (h : eqR a b = some k) : oNe a b = some (.va (.bl (!k))) := by unfold oNe; rw [h]; rfl
theorem eqR_T [DecidableEq α] {a b : R} {e : α → D} {x y : α} (E : EQ 8 e) (ha : a.d = e x) (hb : b.d = e y) (h : okn 8 (e x) = true ∧ okn 8 (e y) = true) : eqR a b = some (decide (x = y)) := by rw [eqR_gen ha hb h.1 h.2, E.eq]
theorem eqR_K [DecidableEq α] {a b : R} {e : α → D} {x y : α} (E : EQ 8 e) (O : OK 8 e) (ha : a.d = e x) (hb : b.d = e y) : eqR a b = some (decide (x = y)) := eqR_T E ha hb ⟨O.ok x, O.ok y⟩
theorem eqR_str {x y : Str} : eqR (.va (.str x)) (.va (.str y)) = some (decide (x = y)) := rfl
theorem EQ_int (n : Nat) : EQ n D.int := ⟨fun _ _ => eqn_int ..⟩
theorem EQ_str (n : Nat) : EQ n D.str := ⟨fun _ _ => eqn_str ..⟩
theorem EQ_bl (n : Nat) : EQ n D.bl := ⟨fun x y => by rw [eqn_bl]; cases x <;> cases y <;> rfl⟩
theorem OK_bl (n : Nat) : OK n D.bl := ⟨fun _ => okn_bl ..⟩
theorem OK_L {n : Nat} {e : α → D} (h : OK n e) : OK (n + 1) (eL e) := ⟨fun xs => by
  rw [okn_lst, List.all_map, List.all_eq_true]; exact fun x _ => h.ok x⟩
theorem EQ_L {n : Nat} [DecidableEq α] {e : α → D} (h : EQ n e) : EQ (n + 1) (eL e) := ⟨fun xs ys => by rw [eqn_lst]; exact eqL_map h.eq xs ys⟩
theorem EQ_P2 {n : Nat} [DecidableEq α] [DecidableEq β] {a : α → D} {b : β → D} (ha : EQ n a) (hb : EQ n b) : EQ (n + 1) (eP2 a b) := ⟨fun x y => by
  rw [Bool.eq_iff_iff]; simp [ha.eq, hb.eq, Prod.ext_iff]⟩
theorem EQ_P4 {δ : Type} {n : Nat} [DecidableEq α] [DecidableEq β] [DecidableEq γ] [DecidableEq δ] {a : α → D} {b : β → D} {c : γ → D} {d : δ → D} (ha : EQ n a) (hb : EQ n b) (hc : EQ n c) (hd : EQ n d) : EQ (n + 1) (eP4 a b c d) := ⟨fun x y => by
  rw [Bool.eq_iff_iff]; simp [ha.eq, hb.eq, hc.eq, hd.eq, Prod.ext_iff]⟩
theorem f_isN (r : R) : oIs r (.va .non) = some (.va (.bl r.d.isNon)) := rfl
theorem isNon_eO {e : α → D} (h : ∀ x, (e x).isNon = false) (o : Option α) : D.isNon (eO e o) = o.isNone := by
  cases o with
  | none => rfl
  | some x => exact h x
theorem f_isO {e : α → D} (h : ∀ x, (e x).isNon = false) (o : Option α) : oIs (.va (eO e o)) (.va .non) = some (.va (.bl o.isNone)) := by rw [f_isN]; exact congrArg (fun k => some (R.va (.bl k))) (isNon_eO h o)
/-- in, of texts and of ints -/
theorem any_strs (zs : List Str) (z : Str) : (zs.map D.str).any (fun e => eqn 0 e (.str z)) = decide (z ∈ zs) := by
  induction zs with
  | nil => rfl
  | cons y zs ih =>
    rw [List.map_cons, List.any_cons, ih, eqn_str, ← Bool.decide_or]
    exact decide_eq_decide.mpr ⟨fun h => h.elim (fun e => e ▸ List.mem_cons_self) (List.mem_cons_of_mem _), fun h => (List.mem_cons.mp h).elim (fun e => .inl e.symm) .inr⟩
theorem any_ints (zs : List Int) (z : Int) : (zs.map D.int).any (fun e => eqn 0 e (.int z)) = decide (z ∈ zs) := by
  induction zs with
  | nil => rfl
  | cons y zs ih =>
    rw [List.map_cons, List.any_cons, ih, eqn_int, ← Bool.decide_or]
    exact decide_eq_decide.mpr ⟨fun h => h.elim (fun e => e ▸ List.mem_cons_self) (List.mem_cons_of_mem _), fun h => (List.mem_cons.mp h).elim (fun e => .inl e.symm) .inr⟩
theorem all_strs (zs : List Str) : (zs.map D.str).all (okn 0) = zs.all PyData.strOk := by
  rw [List.all_map]
  congr 1
theorem all_ints (zs : List Int) : (zs.map D.int).all (okn 0) = true := by
  rw [List.all_map, List.all_eq_true]
  intro x _
  rfl
theorem inR_str {a b : R} {z : Str} {zs : List Str} (ha : a.d = .str z) (hb : b.d = .lst (zs.map D.str) ∨ b.d = .tup (zs.map D.str)) (h : PyData.strOk z = true ∧ zs.all PyData.strOk = true) : inR a b = some (decide (z ∈ zs)) := by
  have e : (okn 0 (.str z) && (zs.map D.str).all (okn 0)) = true := by rw [all_strs, h.2, okn_str, h.1]; rfl
  have e2 := any_strs zs z
  unfold inR
  rcases hb with hb | hb
  · rw [ha, hb]
    show (if _ then some _ else none) = _
    rw [if_pos e, e2]
  · rw [ha, hb]
    show (if _ then some _ else none) = _
    rw [if_pos e, e2]
theorem inR_int {a b : R} {z : Int} {zs : List Int} (ha : a.d = .int z) (hb : b.d = .lst (zs.map D.int) ∨ b.d = .tup (zs.map D.int)) : inR a b = some (decide (z ∈ zs)) := by
  have e : (okn 0 (.int z) && (zs.map D.int).all (okn 0)) = true := by rw [all_ints]; rfl
  have e2 := any_ints zs z
  unfold inR
  rcases hb with hb | hb
  · rw [ha, hb]
    show (if _ then some _ else none) = _
    rw [if_pos e, e2]
  · rw [ha, hb]
    show (if _ then some _ else none) = _
    rw [if_pos e, e2]
/-- one sign in a text -/
def sgIn (a z : Str) : Option Bool := match a.cps.toList with
  | [c] => some (decide (c ∈ z.cps.toList))
  | _ => none
theorem inR_sg {a z : Str} {k : Bool} (h : sgIn a z = some k) : inR (.va (.str a)) (.va (.str z)) = some k := h
/-- items -/
theorem f_ixL {a : R} {e : α → D} {xs : List α} {i : Int} {x : α} (h : a.d = .lst (xs.map e)) (k : atI xs i = some x) : oIx a (.va (.int i)) = some (.va (e x)) := by
  rw [oIx_lst h, atI_map, k]; rfl
theorem f_ixR {ns : List Int} {us : List D} {i x : Int} (h : us = ns.map D.int) (k : atI ns i = some x) : oIx (.va (.rol us)) (.va (.int i)) = some (.va (.int x)) := by
  subst h
  rw [oIx_rol, atI_map, k]; rfl
def sgAt (z : Str) (i : Int) : Option Str := (atI z.cps.toList i).map fun c => ⟨#[c]⟩
theorem f_ixS {z x : Str} {i : Int} (h : z.length ≤ 16777216) (k : sgAt z i = some x) : oIx (.va (.str z)) (.va (.int i)) = some (.va (.str x)) := by
  rw [oIx_str, if_pos (show _ ≤ LIM from h)]
  unfold sgAt at k
  obtain ⟨c, e, rfl⟩ := Option.map_eq_some_iff.mp k
  rw [e]; rfl
theorem f_ixC {xs : List D} {x : D} (i : Nat) (h : xs[i]? = some x) : oIx (.va (.tup xs)) (.va (.int (i : Int))) = some (.va x) := by
  rw [oIx_tup, atI_ofNat, h]; rfl
/-- slices -/
theorem x_sl {m : Gm → Option R} {l h : Gm → Option (Option Int)} {a z : R} {lo hi : Option Int} (e1 : m g = some a) (e2 : l g = some lo) (e3 : h g = some hi) (k : oSl a lo hi = some z) : eSl m l h g = some z := by
  show (m g).bind _ = _
  rw [e1]
  show (l g).bind _ = _
  rw [e2]
  show (h g).bind _ = _
  rw [e3]
  exact k
theorem x_pN : pN g = some none := rfl
theorem x_pS {m : Gm → Option R} {i : Int} (h : m g = some (.va (.int i))) : pS m g = some (some i) := by
  show (m g).bind _ = _
  rw [h]; rfl
theorem f_slR {ns : List Int} {us : List D} {lo hi : Option Int} (h : us = ns.map D.int) : oSl (.va (.rol us)) lo hi = some (.tm ((cutL ns lo hi).map D.int)) := by
  subst h
  rw [← cut_map]; rfl
theorem f_slS {z : Str} {lo hi : Option Int} (h : z.length ≤ 16777216) : oSl (.va (.str z)) lo hi = some (.va (.str (cutS z lo hi))) := if_pos (show _ ≤ LIM from h)
/-- displays -/
theorem f_tup {rs : List R} {ds : List D} (h : rs.all (fun r => !r.wr) = true) (hl : decide (rs.length ≤ LIM) = true) (hd : rs.map R.d = ds) : oTup rs = some (.va (.tup ds)) := by
  subst hd
  rw [oTup_def, if_pos (by rw [h, hl]; rfl)]
theorem f_lst {rs : List R} {ds : List D} (h : rs.all (fun r => !r.wr) = true) (hl : decide (rs.length ≤ LIM) = true) (hd : rs.map R.d = ds) : oLst rs = some (.tm ds) := by
  subst hd
  rw [oLst_def, if_pos (by rw [h, hl]; rfl)]
/-- calls of built-in names -/
theorem f_lenL {a : R} {e : α → D} {xs : List α} (h : a.d = .lst (xs.map e)) : cLen [a] = some (.va (.int xs.length)) := by
  cases a with
  | va d =>
    obtain rfl : d = .lst (xs.map e) := h
    rw [cLen_vlst, List.length_map]
  | tm ds =>
    obtain rfl : ds = xs.map e := by injection h
    rw [cLen_tm, List.length_map]
  | bw j ds =>
    obtain rfl : ds = xs.map e := by injection h
    rw [cLen_bw, List.length_map]
theorem f_lenR {us : List D} {ns : List Int} (h : us = ns.map D.int) : cLen [.va (.rol us)] = some (.va (.int ns.length)) := by
  subst h
  rw [cLen_rol, List.length_map]
theorem f_lenS {z : Str} (h : z.length ≤ 16777216) : cLen [.va (.str z)] = some (.va (.int z.length)) := by rw [cLen_str, if_pos (show _ ≤ LIM from h)]
theorem f_strI {i : Int} (h : i.natAbs.log2 < 1920) : cStrI [.va (.int i)] = some (.va (.str (toString i))) := by rw [cStrI_def, if_pos h]
def intS (a : Str) : Option Int := if a.length ≤ 640 then PySem.intText? a else none
theorem f_intS {a : Str} {i : Int} (h : intS a = some i) : cInt [.va (.str a)] = some (.va (.int i)) := by
  unfold intS at h
  split at h
  · rename_i c
    rw [cInt_str, if_pos c, h]; rfl
  · cases h
theorem f_all {r : R} {ns : List Bool} (h : r.d = .lst (ns.map D.bl)) : cAll [r] = some (.va (.bl (ns.all id))) := cAll_def h
theorem f_list {r : R} {ds : List D} (h : r.d = .lst ds ∨ r.d = .tup ds) : cList [r] = some (.tm ds) := by
  show (match r.d with | .lst ds => some (R.tm ds) | .tup ds => some (R.tm ds) | _ => none) = _
  rcases h with h | h <;> rw [h]
/-- own defs -/
theorem f_call {φ : Phi} {dds : List D} {rs : List R} {z : R} (h : φ (rs.map R.d ++ dds) = some z) (ht : rs.any R.isTm = false) (hb : rs.any R.isBw = false ∨ z.lf = true ∨ z.lfk (lentK rs) = true) : callR φ dds rs = some z := by
  rw [callR_def, ht, if_neg (by decide), h, b1_some]
  unfold kR
  rcases hb with hb | hb | hb
  · rw [hb]; rfl
  · rw [hb, Bool.or_true, Bool.true_or, if_pos rfl]
  · rw [hb, Bool.or_true, if_pos rfl]
/-- texts -/
theorem f_sw (a b : Str) : f2s gSw (.va (.str a)) (.va (.str b)) = some (.va (.bl (Txt.startswith a b))) := rfl
theorem f_part {a b : Str} (h : (b.length == 0) = false ∧ a.length ≤ 16777216) : f2s gPart (.va (.str a)) (.va (.str b)) = some (.va (.tup [.str (Txt.partition a b).1, .str (Txt.partition a b).2.1, .str (Txt.partition a b).2.2])) := if_pos (show _ ∧ _ ≤ LIM from h)
theorem f_split {a b : Str} (h : (b.length == 0) = false ∧ a.length + 2 ≤ 16777216) : f2s gSplit (.va (.str a)) (.va (.str b)) = some (.tm ((Txt.split a b).map .str)) := if_pos (show _ ∧ _ ≤ LIM from h)
theorem f_join {a : Str} {r : R} {zs : List Str} (hr : r.seq = some (zs.map D.str)) (h : (zs.map (·.length)).sum + zs.length * a.length ≤ 16777216) : fJoin (.va (.str a)) r = some (.va (.str (Txt.join a zs))) := by
  show (r.seq.bind fun ds => (strsD ds).bind fun zs => if (zs.map (·.length)).sum + zs.length * a.length ≤ 16777216 then some (R.va (.str (Txt.join a zs))) else none) = _
  rw [hr]
  show ((strsD (zs.map D.str)).bind _) = _
  rw [strsD_map]
  exact if_pos h
/-- walks -/
theorem i_seq {m : Gm → Option R} {r : R} {p : List Nat × List D} (h : m g = some r) (k : seqR r = some p) : iSeq m g = some p := by rw [iSeq_def, h, b1_some, k]
theorem i_A {f : List R → Option (List Nat × List D)} {ms : Gm → Option (List R)} {rs : List R} {p : List Nat × List D} (h : ms g = some rs) (k : f rs = some p) : iA f ms g = some p := by rw [iA_def, h, b1_some, k]
def rgI (a b : Int) : List Int := (List.range (b - a).toNat).map fun i : Nat => a + (i : Int)
theorem rangeL_rgI (lo : Int) (n : Nat) : rangeL lo n = ((List.range n).map fun i : Nat => lo + (i : Int)).map D.int := by
  apply List.ext_getElem?
  intro i
  by_cases h : i < n
  · rw [rangeL_get n lo i h, List.getElem?_map, List.getElem?_map, List.getElem?_range h]; rfl
  · rw [List.getElem?_eq_none (by rw [rangeL_length]; omega), List.getElem?_eq_none (by simp; omega)]
theorem f_rg1 {j : Int} (h : -4611686018427387904 ≤ j ∧ j < 4611686018427387904) : rg1R [.va (.int j)] = some ([], (rgI 0 j).map D.int) := by
  rw [rg1R_def, if_pos (by omega), rangeL_rgI, rgI, Int.sub_zero]
def enI {α : Type} (xs : List α) : List (Int × α) := xs.zipIdx.map fun p => ((p.2 : Int), p.1)
theorem f_en {r : R} {ps : List Nat} {e : α → D} {xs : List α} (h : listA r = some (ps, xs.map e)) : enR [r] = some (ps, (enI xs).map (eP2 D.int e)) := by
  rw [enR_def, h]
  show some (ps, enumL 0 (xs.map e)) = _
  rw [enumL_map, enI, List.map_map]
  rfl
def sgs (z : Str) : List Str := z.cps.toList.map fun c => ⟨#[c]⟩
theorem signs_sgs (z : Str) : signs z = (sgs z).map D.str := by
  unfold signs sgs
  rw [List.map_map]; rfl
theorem compL_mapO {f : D → Gm → Option Gm} {el : Gm → Option R} {g0 : Gm} {e : α → D} {e' : β → D} (p : α → Option β) (r : β → R) (hr : ∀ x, (r x).isBw = false ∧ (r x).d = e' x) : ∀ (xs : List α), (∀ x ∈ xs, ∃ g1, f (e x) g0 = some g1 ∧ Sm (el g1) (p x) fun y z => z = r y) → ∀ ys, mapO p xs = some ys → compL f bY el g0 (xs.map e) = some (ys.map e')
  | [], _, ys, h => by cases h; rfl
  | x :: xs, step, ys, h => by
    obtain ⟨g1, h1, h2⟩ := step x List.mem_cons_self
    cases e1 : p x with
    | none => rw [mapO, e1] at h; cases h
    | some y =>
      rw [mapO, e1, b1_some] at h
      cases e2 : mapO p xs with
      | none => rw [e2] at h; cases h
      | some zs =>
        rw [e2, b1_some] at h
        cases h
        obtain ⟨h3, h4⟩ := hr y
        rw [List.map_cons, compL_cons, h1, b1_some, cpG_def, bY_def, b1_some, cpK_def, if_pos rfl, h2.eq e1, b1_some, compL_mapO p r hr xs (fun z hz => step z (List.mem_cons_of_mem _ hz)) zs e2]
        unfold cpR
        rw [h3, h4]; rfl
theorem x_lcO {mi : Gm → Option (List Nat × List D)} {f : D → Gm → Option Gm} {el : Gm → Option R} {own : List Nat} {ps : List Nat} {e : α → D} {e' : β → D} {xs : List α} {p : α → Option β} {ys : List β} (r : β → R) (hm : mi g = some (ps, xs.map e)) (hl : xs.length ≤ 16777216) (h : ∀ x ∈ xs, ∃ g1, f (e x) (wipeG g own) = some g1 ∧ Sm (el g1) (p x) fun y z => z = r y) (hy : mapO p xs = some ys) (hr : ∀ x, (r x).isBw = false ∧ (r x).d = e' x := by exact fun _ => ⟨rfl, rfl⟩) : eLc mi f bY el own g = some (.tm (ys.map e')) := by
  rw [eLc_def, hm, b1_some, lcO_def, if_pos (by rw [List.length_map]; exact hl), compL_mapO p r hr xs h ys hy]; rfl
end
end BK
namespace BK
open PySem PySem.Spec L2
set_option autoImplicit false
theorem j_lt {α γ : Type} {m n : Gm → Option Out} {P : α → Out → Prop} {t : γ → Option α} (G : γ → Gm) {v : γ} (h : ∀ x, J m n (G x) (t x) P) : J m n (G v) (lt v t) P := h v
section
variable {g : Gm} {α β γ δ ε ζ : Type}
theorem x_get {m : Gm → Option R} {e : α → D} {o : Option α} {x : α} (p : m g = some (.va (eO e o))) (h : o = some x) : m g = some (.va (e x)) := by rw [p, h]; rfl
theorem f_divK {i k : Int} (h : 0 < k ∧ k < 18446744073709551616) : oDiv (.va (.int i)) (.va (.int k)) = some (.va (.int (i / k))) := by
  rw [oDiv_def, if_pos (cdivB_small h.1 h.2), fdiv_nn (by omega)]
theorem f_modK {i k : Int} (h : 0 < k) : oMod (.va (.int i)) (.va (.int k)) = some (.va (.int (i % k))) := by
  rw [oMod_def, if_pos (by omega), fmod_nn (by omega)]
theorem f_powK {i j k : Int} (h : (0 ≤ i ∧ i < 18446744073709551616) ∧ 0 ≤ j ∧ j ≤ 1000000) (e : i ^ j.toNat = k) : oPow (.va (.int i)) (.va (.int j)) = some (.va (.int k)) := by
  rw [oPow_def, if_pos (cpow_small (by omega) h.1.2 h.2.1 h.2.2), e]
/-- no list within -/
structure LF (n : Nat) (e : α → D) : Prop where
  lf : ∀ x, lfn n (e x) = true
theorem lf_vaE {e : α → D} {x : α} (h : LF 8 e) : (R.va (e x)).lf = true := h.lf x
theorem LF_bool (n : Nat) : LF n D.bl := ⟨fun _ => lfn_bl ..⟩
end
instance iq1 : DecidableEq (List (Int × Int × Int)) := inferInstance
instance iq2 : DecidableEq (Int × List (Int × Int × Int)) := inferInstance
instance iq3 : DecidableEq ((Int × Int) × Int × List (Int × Int × Int)) := inferInstance
instance iq4 : DecidableEq (Str × (Int × Int) × Int × (List (Int × Int × Int))) := inferInstance
end BK
namespace BK
open PySem PySem.Spec L2
set_option autoImplicit false
/-! ### reckonings shown -/
def Gs {α : Type} (s : Option α) (P : α → Prop) : Prop := ∃ r, s = some r ∧ P r
section
variable {α β γ σ ρ : Type} {P : α → Prop} {s : Option α}
theorem gs_some {v : α} (h : P v) : Gs (some v) P := ⟨v, rfl, h⟩
theorem Gs.mono {Q : α → Prop} (h : Gs s Q) (k : ∀ x, Q x → P x) : Gs s P := by
  obtain ⟨r, e, q⟩ := h
  exact ⟨r, e, k r q⟩
theorem Gs.eq {v : α} (h : Gs s fun x => x = v) : s = some v := by
  obtain ⟨r, e, rfl⟩ := h
  exact e
theorem gs_b1 {p : Option γ} {t : γ → Option α} {Q : γ → Prop} (h : Gs p Q) (k : ∀ x, Q x → Gs (t x) P) : Gs (b1 p t) P := by
  obtain ⟨x, e, q⟩ := h
  rw [e, b1_some]
  exact k x q
theorem gs_eq {p : Option γ} {t : γ → Option α} {x : γ} (h : p = some x) (k : Gs (t x) P) : Gs (b1 p t) P := by
  rw [h, b1_some]
  exact k
theorem gs_lt {v : γ} {t : γ → Option α} (k : Gs (t v) P) : Gs (lt v t) P := k
theorem gs_ltE {v : γ} {t : γ → Option α} (k : ∀ x, x = v → Gs (t x) P) : Gs (lt v t) P := k v rfl
theorem gs_grd {p : Prop} [Decidable p] (h : p) (k : Gs s P) : Gs (grd p s) P := by rw [grd_pos h]; exact k
theorem gs_if {c : Bool} {a b : Option α} (h1 : c = true → Gs a P) (h2 : c = false → Gs b P) : Gs (if c = true then a else b) P := by
  cases c
  · exact h2 rfl
  · exact h1 rfl
theorem gs_ifT {c : Bool} {a b : Option α} (h : c = true) (k : Gs a P) : Gs (if c = true then a else b) P := by rw [if_pos h]; exact k
theorem gs_ifF {c : Bool} {a b : Option α} (h : c = false) (k : Gs b P) : Gs (if c = true then a else b) P := by rw [h, if_neg (by decide)]; exact k
theorem forO_inv {body : α → σ → Option σ} (I : List α → σ → Prop) (xs : List α) (step : ∀ pre x st, (∃ post, xs = pre ++ x :: post) → I pre st → Gs (body x st) (I (pre ++ [x]))) : ∀ st, I [] st → Gs (forO body xs st) (I xs) := by
  have key : ∀ (post pre : List α) st, xs = pre ++ post → I pre st → Gs (forO body post st) (I xs) := by
    intro post
    induction post with
    | nil =>
      intro pre st e h
      rw [List.append_nil] at e
      subst e
      exact gs_some h
    | cons x post ih =>
      intro pre st e h
      exact gs_b1 (step pre x st ⟨post, e⟩ h) fun st' h' => ih (pre ++ [x]) st' (by rw [e, List.append_assoc]; rfl) h'
  exact fun st h => key xs [] st rfl h
theorem gs_forO {γ : Type} {body : γ → σ → Option σ} {xs : List γ} {st0 : σ} {t : σ → Option α} (I : List γ → σ → Prop) (h0 : I [] st0) (step : ∀ pre x st, (∃ post, xs = pre ++ x :: post) → I pre st → Gs (body x st) (I (pre ++ [x]))) (k : ∀ st, I xs st → Gs (t st) P) : Gs (b1 (forO body xs st0) t) P := gs_b1 (forO_inv I xs step st0 h0) k
theorem forO_map {f : β → α} {body : α → σ → Option σ} : ∀ (xs : List β) st, forO body (xs.map f) st = forO (fun x => body (f x)) xs st
  | [], _ => rfl
  | x :: xs, st => by
    show b1 (body (f x) st) (forO body (xs.map f)) = b1 (body (f x) st) (forO (fun x => body (f x)) xs)
    congr 1
    funext st
    exact forO_map xs st
theorem rgI_nat {m : Int} {n : Nat} (h : m = n) : rgI 0 m = (List.range n).map fun i : Nat => (i : Int) := by
  subst h
  unfold rgI
  rw [Int.sub_zero, Int.toNat_natCast]
  exact List.map_congr_left fun i _ => Int.zero_add _
theorem gs_rg {body : Int → σ → Option σ} {st0 : σ} {t : σ → Option α} {m : Int} (n : Nat) (I : Nat → σ → Prop) (hm : m = n) (h0 : I 0 st0) (step : ∀ (k : Nat) st, k < n → I k st → Gs (body (k : Int) st) (I (k + 1))) (q : ∀ st, I n st → Gs (t st) P) : Gs (b1 (forO body (rgI 0 m) st0) t) P := by
  rw [rgI_nat hm, forO_map]
  refine gs_forO (fun pre st => I pre.length st) h0 ?_ ?_
  · intro pre x st hx h
    obtain ⟨h1, h2⟩ := range_split hx
    have e : pre.length = x := by rw [h2, List.length_range]
    rw [e] at h
    rw [List.length_append, e]
    exact step x st h1 h
  · intro st h
    rw [List.length_range] at h
    exact q st h
theorem whO_inv {c : σ → Option Bool} {body : σ → Option σ} (I : σ → Prop) (Q : σ → Prop) (μ : σ → Nat) (step : ∀ st, I st → (c st = some false ∧ Q st) ∨ (c st = some true ∧ Gs (body st) fun st' => I st' ∧ μ st' < μ st)) : ∀ (n : Nat) st, I st → μ st < n → Gs (whO c body n st) Q
  | 0, _, _, h => absurd h (by omega)
  | n + 1, st, h, hm => by
    rw [whO]
    rcases step st h with ⟨h1, h2⟩ | ⟨h1, h2⟩
    · rw [h1, b1_some, if_neg (by decide)]
      exact gs_some h2
    · rw [h1, b1_some, if_pos rfl]
      exact gs_b1 h2 fun st' q => whO_inv I Q μ step n st' q.1 (by omega)
theorem mapO_eq {f : α → Option β} {g : α → β} : ∀ (xs : List α), (∀ x ∈ xs, f x = some (g x)) → mapO f xs = some (xs.map g)
  | [], _ => rfl
  | x :: xs, h => by
    rw [mapO, h x List.mem_cons_self, b1_some, mapO_eq xs fun y hy => h y (List.mem_cons_of_mem _ hy), b1_some, List.map_cons]
theorem mapO_all {f : α → Option β} (Q : α → β → Prop) : ∀ (xs : List α), (∀ x ∈ xs, Gs (f x) (Q x)) → Gs (mapO f xs) fun ys => ys.length = xs.length ∧ ∀ (i : Nat) (x : α) (y : β), xs[i]? = some x → ys[i]? = some y → Q x y
  | [], _ => gs_some ⟨rfl, fun i x y h => by simp at h⟩
  | x :: xs, h => by
    rw [mapO]
    refine gs_b1 (h x List.mem_cons_self) fun y hy => ?_
    refine gs_b1 (mapO_all Q xs fun y hy => h y (List.mem_cons_of_mem _ hy)) fun ys hys => ?_
    refine gs_some ⟨by simp [hys.1], fun i a b ha hb => ?_⟩
    cases i with
    | zero =>
      rw [List.getElem?_cons_zero] at ha hb
      cases ha; cases hb
      exact hy
    | succ i =>
      rw [List.getElem?_cons_succ] at ha hb
      exact hys.2 i a b ha hb
end
/-! ### plain data compared -/
/-- plain data to a depth -/
def pl : Nat → D → Bool
  | _, .non => true
  | _, .bl _ => true
  | _, .int _ => true
  | _, .str _ => true
  | n + 1, .lst xs => decide (xs.length ≤ 1000000) && xs.all (pl n)
  | n + 1, .tup xs => decide (xs.length ≤ 1000000) && xs.all (pl n)
  | _, _ => false
noncomputable def sameG (a b : D) : Option Bool := @grd _ (a = b ∧ pl 9 a = true) (Classical.propDecidable _) (some true)
theorem sameG_ok {a b : D} (h : a = b) (hp : pl 9 b = true) : sameG a b = some true := by
  subst h
  exact @grd_pos _ _ (Classical.propDecidable _) _ ⟨rfl, hp⟩
theorem sameG_inv {a b : D} {r : Bool} (h : sameG a b = some r) : a = b ∧ pl 9 a = true ∧ r = true := by
  unfold sameG grd at h
  split at h
  · rename_i c
    cases h
    exact ⟨c.1, c.2, rfl⟩
  · cases h
structure PL (n : Nat) {α : Type} (e : α → D) : Prop where
  pl : ∀ x, pl n (e x) = true
@[simp] theorem pl_non (n : Nat) : pl n .non = true := by cases n <;> rfl
@[simp] theorem pl_bl (n : Nat) (b : Bool) : pl n (.bl b) = true := by cases n <;> rfl
@[simp] theorem pl_int (n : Nat) (b : Int) : pl n (.int b) = true := by cases n <;> rfl
@[simp] theorem pl_str (n : Nat) (b : Str) : pl n (.str b) = true := by cases n <;> rfl
theorem pl_lst (n : Nat) (xs : List D) : pl (n + 1) (.lst xs) = (decide (xs.length ≤ 1000000) && xs.all (pl n)) := rfl
theorem pl_tup (n : Nat) (xs : List D) : pl (n + 1) (.tup xs) = (decide (xs.length ≤ 1000000) && xs.all (pl n)) := rfl
@[simp] theorem pl_t2 (n : Nat) (a b : D) : pl (n + 1) (.tup [a, b]) = (pl n a && pl n b) := by simp [pl_tup]
@[simp] theorem pl_t3 (n : Nat) (a b c : D) : pl (n + 1) (.tup [a, b, c]) = (pl n a && (pl n b && pl n c)) := by simp [pl_tup]
@[simp] theorem pl_t4 (n : Nat) (a b c d : D) : pl (n + 1) (.tup [a, b, c, d]) = (pl n a && (pl n b && (pl n c && pl n d))) := by simp [pl_tup]
@[simp] theorem pl_l1 (n : Nat) (a : D) : pl (n + 1) (.lst [a]) = pl n a := by simp [pl_lst]
@[simp] theorem pl_l2 (n : Nat) (a b : D) : pl (n + 1) (.lst [a, b]) = (pl n a && pl n b) := by simp [pl_lst]
@[simp] theorem pl_l3 (n : Nat) (a b c : D) : pl (n + 1) (.lst [a, b, c]) = (pl n a && (pl n b && pl n c)) := by simp [pl_lst]
theorem pl_L {n : Nat} {α : Type} {e : α → D} {xs : List α} (hl : xs.length ≤ 1000000) (h : ∀ x ∈ xs, pl n (e x) = true) : pl (n + 1) (eL e xs) = true := by
  rw [pl_lst, List.length_map, decide_eq_true hl, Bool.true_and, List.all_map, List.all_eq_true]
  exact h
end BK
namespace BK
open PySem PySem.Spec L2
set_option autoImplicit false
/-! ### numbers, fractions -/
theorem fuel_gt {n : Nat} {z : Int} (h : Sz n z) (hn : n ≤ 1000000) : z.natAbs < FUEL := by
  unfold FUEL
  exact (h.mono hn).lt
theorem gcd_fmod (a b : Int) : Int.gcd b (a.fmod b) = Int.gcd a b := by
  have e : a.fmod b = a - b * a.fdiv b := Int.fmod_def a b
  apply Nat.dvd_antisymm
  · apply Int.dvd_gcd
    · have h1 : ((Int.gcd b (a.fmod b) : Nat) : Int) ∣ b := Int.gcd_dvd_left ..
      have h2 : ((Int.gcd b (a.fmod b) : Nat) : Int) ∣ a.fmod b := Int.gcd_dvd_right ..
      have h3 : a = a.fmod b + b * a.fdiv b := (Int.fmod_add_mul_fdiv a b).symm
      rw [h3]
      exact Int.dvd_add (by rw [← h3]; exact h2) (Int.dvd_trans (by rw [← h3]; exact h1) (Int.dvd_mul_right _ _))
    · exact Int.gcd_dvd_left ..
  · apply Int.dvd_gcd
    · exact Int.gcd_dvd_right ..
    · rw [e]
      exact Int.dvd_sub (Int.gcd_dvd_left ..) (Int.dvd_trans (Int.gcd_dvd_right ..) (Int.dvd_mul_right _ _))
theorem fmod_abs_lt (a b : Int) (h : b ≠ 0) : (a.fmod b).natAbs < b.natAbs := by
  rcases Int.lt_or_gt_of_ne h with h1 | h1
  · have e := Int.neg_fmod_neg a b
    have h2 := Int.fmod_lt_of_pos (-a) (show 0 < -b by omega)
    have h3 := Int.fmod_nonneg_of_pos (-a) (show 0 < -b by omega)
    omega
  · have h2 := Int.fmod_lt_of_pos a h1
    have h3 := Int.fmod_nonneg_of_pos a h1
    omega
theorem gcd_pos {a b : Int} (h : b ≠ 0) : 0 < Int.gcd a b := Nat.pos_of_ne_zero fun z => h (Int.gcd_eq_zero_iff.mp z).2
theorem gcd_le_right {a b : Int} (h : b ≠ 0) : Int.gcd a b ≤ b.natAbs := Int.gcd_le_natAbs_right _ h
/-- a fraction as a pair -/
def qt (q : Rat) : Fr := (q.num, (q.den : Int))
theorem qt_divInt {a b : Int} (h : b ≠ 0) : qt (Rat.divInt a b) = (a.fdiv (if b < 0 then -(Int.gcd a b : Int) else Int.gcd a b), b.fdiv (if b < 0 then -(Int.gcd a b : Int) else Int.gcd a b)) := by
  have g0 : (0 : Int) < Int.gcd a b := by have := gcd_pos (a := a) h; omega
  obtain ⟨x, hx⟩ : (Int.gcd a b : Int) ∣ a := Int.gcd_dvd_left ..
  obtain ⟨y, hy⟩ : (Int.gcd a b : Int) ∣ b := Int.gcd_dvd_right ..
  generalize hg : (Int.gcd a b : Int) = g at *
  have hgc : (Int.gcd b a : Int) = g := by rw [Int.gcd_comm]; exact hg
  have hgn : Int.gcd b a = g.natAbs := by omega
  unfold qt
  rw [Rat.num_divInt, Rat.den_divInt, if_neg h, hgc, hgn]
  have hb2 : b.natAbs / g.natAbs = y.natAbs := by
    rw [hy, Int.natAbs_mul]
    exact Nat.mul_div_cancel_left _ (by omega)
  rw [hb2]
  by_cases hn : b < 0
  · have y0 : y < 0 := by
      rw [hy] at hn
      by_cases z : y < 0
      · exact z
      · have := Int.mul_nonneg (Int.le_of_lt g0) (show 0 ≤ y by omega)
        omega
    rw [if_pos hn, Int.sign_eq_neg_one_of_neg hn]
    have e1 : a.fdiv (-g) = -x := by
      rw [hx, show g * x = (-g) * (-x) by rw [Int.neg_mul_neg]]
      exact Int.mul_fdiv_cancel_left _ (by omega)
    have e2 : b.fdiv (-g) = -y := by
      rw [hy, show g * y = (-g) * (-y) by rw [Int.neg_mul_neg]]
      exact Int.mul_fdiv_cancel_left _ (by omega)
    have e3 : -1 * a / g = -x := by
      rw [hx, show -1 * (g * x) = g * (-x) by rw [Int.neg_one_mul, Int.mul_neg]]
      exact Int.mul_ediv_cancel_left _ (by omega)
    rw [e1, e2, e3]
    refine Prod.ext rfl ?_
    show ((y.natAbs : Nat) : Int) = _
    omega
  · have y0 : 0 < y := by
      rcases Int.lt_trichotomy y 0 with z | z | z
      · exfalso
        have : g * y < 0 := Int.mul_neg_of_pos_of_neg g0 z
        omega
      · subst z; simp at hy; omega
      · exact z
    rw [if_neg hn, Int.sign_eq_one_of_pos (by omega)]
    have e1 : a.fdiv g = x := by
      rw [hx]
      exact Int.mul_fdiv_cancel_left _ (by omega)
    have e2 : b.fdiv g = y := by
      rw [hy]
      exact Int.mul_fdiv_cancel_left _ (by omega)
    have e3 : 1 * a / g = x := by
      rw [hx, Int.one_mul]
      exact Int.mul_ediv_cancel_left _ (by omega)
    rw [e1, e2, e3]
    refine Prod.ext rfl ?_
    show ((y.natAbs : Nat) : Int) = _
    omega
@[simp] theorem qt_1 (q : Rat) : (qt q).1 = q.num := rfl
@[simp] theorem qt_2 (q : Rat) : (qt q).2 = (q.den : Int) := rfl
/-! partly reckoned operators -/
theorem cmul_s {a b : Int} (ha : a.natAbs < 18446744073709551616) (hb : b.natAbs < 18446744073709551616) : CMulB a b := (Sz.small ha).cmul (Sz.small hb) (by omega) (by omega) (by omega)
section
variable {α β σ : Type}
/-- an item of a written list -/
theorem gs_pick {xs : List α} {i : Int} (h0 : 0 ≤ i) (h1 : i < xs.length) : Gs (atI xs i) fun x => x ∈ xs := by
  obtain ⟨x, hx, e⟩ := atI_lt xs i h0 h1
  exact ⟨x, e, hx⟩
theorem cut_from (xs : List α) (k : Nat) : cutL xs (some (k : Int)) none = xs.drop k := by
  unfold cutL
  rw [HT.sIx_nat]
  show (xs.drop _).take (xs.length - _) = _
  by_cases h : k ≤ xs.length
  · rw [Nat.min_eq_left h, List.take_of_length_le (by rw [List.length_drop]; omega)]
  · rw [Nat.min_eq_right (by omega), List.drop_eq_nil_of_le (show xs.length ≤ k by omega), List.drop_eq_nil_of_le (by omega), List.take_nil]
theorem enI_split {xs : List α} {pre : List (Int × α)} {x : Int × α} (h : ∃ post, enI xs = pre ++ x :: post) : x.1 = pre.length ∧ (∃ post, xs = pre.map (·.2) ++ x.2 :: post) := by
  obtain ⟨post, h⟩ := h
  have h1 : (enI xs)[pre.length]? = some x := by rw [h]; simp
  have h2 : (enI xs).map (·.2) = xs := by
    unfold enI
    rw [List.map_map]
    exact List.zipIdx_map_fst 0 xs
  constructor
  · unfold enI at h1
    rw [List.getElem?_map, List.getElem?_zipIdx] at h1
    obtain ⟨a, ha, e⟩ := Option.map_eq_some_iff.mp h1
    obtain ⟨b, hb, e2⟩ := Option.map_eq_some_iff.mp ha
    rw [← e, ← e2]
    simp
  · rw [h] at h2
    exact ⟨post.map (·.2), by rw [← h2]; simp⟩
end
end BK
namespace BK
open PySem PySem.Spec L2
set_option autoImplicit false
/-! ### moments by 27720th parts -/
def gr (z : Int) : Rat := Rat.divInt z 27720
/-- parts of a minute for a length, by a speed -/
def stp (sp : Int) : Int := 27720 / sp
/-! wheels -/
def farW (ws : List Wh) : Int := ((ws.drop 1).map (·.1)).sum
def offs (ws : List Wh) : List Int := (List.range ws.length).map fun i => farW (ws.take (i + 1))
/-- a crossing by parts of a minute -/
structure XZ where
  name : Str
  at_ : Int
  speed : Int
  wheels : List Wh
/-- when each wheel is on a bridge of a length -/
def timesZ (len : Int) (x : XZ) : List (Int × Int) := (offs x.wheels).map fun o => (x.at_ + o * stp x.speed, x.at_ + o * stp x.speed + len * stp x.speed)
abbrev SpZ := Int × Int × Int × Int
def spanZ (len : Int) (x : XZ) : List SpZ := ((timesZ len x).zip x.wheels).map fun p => (p.1.1, p.1.2, p.2.2.1, p.2.2.2)
def spansZ (len : Int) (name : Str) (xs : List XZ) : List SpZ := (xs.filter fun x => decide (x.name = name)).flatMap (spanZ len)
def onZ (m : Int) (s : SpZ) : Bool := decide (s.1 ≤ m) && decide (m < s.2.1)
def sumsZ (ss : List SpZ) (m : Int) : Int × Int := (((ss.filter (onZ m)).map (·.2.2.1)).sum, ((ss.filter (onZ m)).map (·.2.2.2)).sum)
/-- a crossing of sizes that are reckoned with -/
structure XOk (x : XZ) : Prop where
  a0 : -1000000000000000 ≤ x.at_ ∧ x.at_ ≤ 1000000000000000
  sp : 1 ≤ x.speed ∧ x.speed ≤ 12
  wl : x.wheels.length ≤ 64
  wg : ∀ w ∈ x.wheels, 0 ≤ w.1 ∧ w.1 ≤ 1000
def SpOk (s : SpZ) : Prop := s.1.natAbs < 18446744073709551616 ∧ s.2.1.natAbs < 18446744073709551616
end BK
namespace BK
open PySem PySem.Spec L2
set_option autoImplicit false
/-! ### drawn bridges, roads, wheels -/
abbrev P5 := Str × Int × Int × Int × Int
def LET : Str := "abcdefghijklmnopqrstuvwxyz"
theorem LET_len : LET.length = 26 := by decide +kernel
theorem LET_at {i : Int} (h0 : 0 ≤ i) (h1 : i < 26) : sgAt LET i = some ⟨#[97 + i.toNat]⟩ := by
  obtain ⟨k, rfl⟩ := Int.eq_ofNat_of_zero_le h0
  unfold sgAt
  rw [atI_ofNat]
  have hk : k < 26 := by omega
  have key : ∀ k : Fin 26, LET.cps.toList[k.val]? = some (97 + k.val) := by decide +kernel
  rw [key ⟨k, hk⟩]
  rfl
/-- a drawn shut hour, of one of the bridges -/
structure HOk (bs : List P5) (s : Str × Int × Int) : Prop where
  b : s.1 ∈ bs.map (·.1)
  h : 0 ≤ s.2.1 ∧ s.2.1 < s.2.2 ∧ s.2.2 ≤ 1000
end BK
namespace BK
open PySem PySem.Spec L2
set_option autoImplicit false
/-! ### sorted(some, key=lambda fraction: fraction[0] * (bottom // fraction[1])) -/
end BK
namespace BK
open PySem PySem.Spec L2
set_option autoImplicit false
end BK
namespace BK
open PySem PySem.Spec L2
set_option autoImplicit false
/-! ### texts -/
abbrev S' (l : List Nat) : Str := ⟨l.toArray⟩
theorem str_len (x : Str) : x.length = x.cps.toList.length := by simp [Str.length]
theorem str_ext {x y : Str} (h : x.cps.toList = y.cps.toList) : x = y := by
  obtain ⟨⟨a⟩⟩ := x
  obtain ⟨⟨b⟩⟩ := y
  exact congrArg (fun l : List Nat => (⟨⟨l⟩⟩ : Str)) h
theorem str_cases (x : Str) : ∃ l : List Nat, x = S' l := ⟨x.cps.toList, str_ext rfl⟩
theorem S'_inj {a b : List Nat} (h : S' a = S' b) : a = b := congrArg (fun x : Str => x.cps.toList) h
theorem S'_eq {a b : List Nat} : S' a = S' b ↔ a = b := ⟨S'_inj, fun h => by rw [h]⟩
theorem S'_len (l : List Nat) : (S' l).length = l.length := by rw [str_len]
theorem S'_cps (l : List Nat) : (S' l).cps.toList = l := rfl
theorem S'_add (a b : List Nat) : S' a ++ S' b = S' (a ++ b) := str_ext (TL.tl_append (S' a) (S' b))
theorem cutS_S (a : List Nat) (lo hi : Option Int) : cutS (S' a) lo hi = S' (cutL a lo hi) := rfl
theorem join_le (sep : Str) (zs : List Str) : (Txt.join sep zs).length ≤ (zs.map (·.length)).sum + zs.length * sep.length := by
  rw [show Txt.join sep zs = Str.join sep zs from TL.join_eq sep zs]
  exact StrLaws.join_length_le sep zs
/-- numbers as texts -/
theorem num_nat (n : Nat) : (toString (n : Int) : Str) = S' (TL.numL n) := SX.num_S n
theorem num_len {i : Int} {k : Nat} (h0 : 0 ≤ i) (hk : 0 < k) (h : i < 10 ^ k) : (toString i : Str).length ≤ k ∧ 1 ≤ (toString i : Str).length := by
  obtain ⟨n, rfl⟩ := Int.eq_ofNat_of_zero_le h0
  rw [num_nat, S'_len]
  have e : ((10 : Int) ^ k) = ((10 ^ k : Nat) : Int) := by simp
  rw [e] at h
  exact ⟨TL.numL_len hk (Int.ofNat_lt.mp h), List.length_pos_iff.mpr (TL.numL_ne n)⟩
theorem sgs_S (l : List Nat) : sgs (S' l) = l.map fun c => S' [c] := rfl
theorem sgs_len (z : Str) : (sgs z).length = z.length := by
  unfold sgs
  rw [List.length_map, str_len]
theorem starts_one (a : List Nat) (c : Nat) : Txt.startswith (S' a) (S' [c]) = decide (a.head? = some c) := by
  have h := StrLaws.subAt_one (S' a) c 0
  unfold Txt.startswith
  rw [Bool.eq_iff_iff, Bool.and_eq_true, decide_eq_true_iff, decide_eq_true_iff]
  rw [show a.head? = (S' a).cps.toList[0]? from List.head?_eq_getElem?]
  exact h
/-- figures -/
def FIG : Str := "0123456789"
theorem FIG_eq : FIG = S' [48, 49, 50, 51, 52, 53, 54, 55, 56, 57] := by decide +kernel
abbrev isFig (c : Nat) : Prop := 48 ≤ c ∧ c ≤ 57
theorem fig_mem (c : Nat) : c ∈ ([48, 49, 50, 51, 52, 53, 54, 55, 56, 57] : List Nat) ↔ isFig c := by
  simp only [List.mem_cons, List.not_mem_nil, or_false]
  unfold isFig
  omega
def LETl : List Nat := (List.range 26).map (97 + ·)
theorem LET_eq : LET = S' LETl := by decide +kernel
theorem LET_mem (c : Nat) : c ∈ LETl ↔ 97 ≤ c ∧ c ≤ 122 := by
  unfold LETl
  rw [List.mem_map]
  constructor
  · rintro ⟨k, hk, rfl⟩
    rw [List.mem_range] at hk
    omega
  · intro h
    exact ⟨c - 97, by rw [List.mem_range]; omega, by omega⟩
/-- the value of a text of figures -/
abbrev valF (l : List Nat) : Nat := NumText.digitsVal l
def numOk (l : List Nat) : Prop := (∀ c ∈ l, isFig c) ∧ l ≠ [] ∧ l.length ≤ 60 ∧ ¬ (1 < l.length ∧ l.head? = some 48)
instance (l : List Nat) : Decidable (numOk l) := by unfold numOk; infer_instance
def numV (l : List Nat) : Option Int := if numOk l then some (valF l : Int) else none
theorem numV_no {l : List Nat} (h : ¬ numOk l) : numV l = none := if_neg h
theorem numV_yes {l : List Nat} (h : numOk l) : numV l = some (valF l : Int) := if_pos h
theorem valF_lt (l : List Nat) (h : ∀ c ∈ l, isFig c) : valF l < 10 ^ l.length := by
  have key : ∀ (l : List Nat) (a k : Nat), (∀ c ∈ l, isFig c) → a < 10 ^ k → l.foldl (fun acc c => acc * 10 + (c - 48)) a < 10 ^ (k + l.length) := by
    intro l
    induction l with
    | nil => intro a k _ h; exact h
    | cons c l ih =>
      intro a k hc ha
      rw [List.foldl_cons, List.length_cons]
      have hcc := hc c List.mem_cons_self
      have := ih (a * 10 + (c - 48)) (k + 1) (fun x hx => hc x (List.mem_cons_of_mem _ hx)) (by
        rw [Nat.pow_succ]
        unfold isFig at hcc
        omega)
      rw [show k + (l.length + 1) = k + 1 + l.length from by omega]
      exact this
  have := key l 0 0 h (by simp)
  rw [Nat.zero_add] at this
  exact this
theorem intS_fig (l : List Nat) (h : ∀ c ∈ l, isFig c) (hn : l ≠ []) (hl : l.length ≤ 640) : intS (S' l) = some (valF l : Int) := by
  unfold intS
  rw [if_pos (by rw [S'_len]; exact hl)]
  exact intText_digits (x := S' l) h hn (by rw [S'_len]; omega)
end BK
namespace BK
open PySem PySem.Spec L2
set_option autoImplicit false
/-! ### numbers and fractions as texts -/
theorem numL_of {l : List Nat} (h : numOk l) : TL.numL (valF l) = l := by
  obtain ⟨h1, h2, h3, h4⟩ := h
  have hl : l.length = (l.length - 1) + 1 := by
    have := List.length_pos_iff.mpr h2
    omega
  unfold TL.numL
  rw [NumText.toDigits_digitsVal (l.length - 1) l hl h1 ?_, List.map_map]
  · have : ∀ c ∈ l, (Char.toNat ∘ Char.ofNat) c = id c := by
      intro c hc
      have hcc := h1 c hc
      have key : ∀ k : Fin 10, (Char.ofNat (48 + k.val)).toNat = 48 + k.val := by decide
      have := key ⟨c - 48, by unfold isFig at hcc; omega⟩
      have e : 48 + (c - 48) = c := by unfold isFig at hcc; omega
      simpa [e] using this
    rw [List.map_congr_left this, List.map_id]
  · match l, h2, h4 with
    | [c], _, _ => exact .inl rfl
    | c :: d :: l, _, h4 =>
      refine .inr ⟨c, d :: l, rfl, ?_⟩
      have hc := h1 c List.mem_cons_self
      have : c ≠ 48 := fun e => h4 ⟨by simp, by simp [e]⟩
      unfold isFig at hc
      omega
theorem numL_head : ∀ (n : Nat), 0 < n → (TL.numL n).head? ≠ some 48 := by
  intro n
  induction n using Nat.strongRecOn with
  | _ n ih =>
    intro h0
    by_cases h : n < 10
    · rw [TL.numL_lt h]
      simp
      omega
    · rw [TL.numL_step (by omega)]
      have h1 := ih (n / 10) (by omega) (by omega)
      have hne := TL.numL_ne (n / 10)
      match hl : TL.numL (n / 10), hne with
      | a :: l, _ =>
        rw [hl] at h1
        simpa using h1
theorem numOk_numL {n : Nat} (h : (TL.numL n).length ≤ 60) : numOk (TL.numL n) := by
  refine ⟨TL.numL_digits n, TL.numL_ne n, h, fun q => ?_⟩
  by_cases h0 : n = 0
  · subst h0
    exact absurd q.1 (by decide)
  · exact numL_head n (by omega) q.2
theorem numV_numL {n : Nat} (h : (TL.numL n).length ≤ 60) : numV (TL.numL n) = some (n : Int) := by
  rw [numV_yes (numOk_numL h)]
  rw [show valF (TL.numL n) = n from TL.numL_val n]
theorem numV_inv {l : List Nat} {v : Int} (h : numV l = some v) : 0 ≤ v ∧ l = TL.numL v.toNat ∧ l.length ≤ 60 := by
  unfold numV at h
  split at h
  · rename_i hk
    cases h
    refine ⟨by omega, ?_, hk.2.2.1⟩
    rw [Int.toNat_natCast, numL_of hk]
  · cases h
def txtI (z : Int) : List Nat := if z < 0 then 45 :: TL.numL z.natAbs else TL.numL z.natAbs
theorem str_int (z : Int) : (toString z : Str) = S' (txtI z) := by
  unfold txtI
  cases z with
  | ofNat n =>
    rw [if_neg (by simp)]
    exact num_nat n
  | negSucc n =>
    rw [if_pos (by omega)]
    have e1 : (toString (Int.negSucc n) : Str) = Str.ofString (toString (Int.negSucc n)) := rfl
    have e2 : toString (Int.negSucc n) = "-" ++ toString (((n + 1 : Nat)) : Int) := rfl
    rw [e1, e2]
    have e3 : (Str.ofString (toString (((n + 1 : Nat)) : Int))) = S' (TL.numL (n + 1)) := num_nat (n + 1)
    refine str_ext ?_
    have h3 := congrArg (fun x : Str => x.cps.toList) e3
    rw [Str.ofString_eq_toList] at h3 ⊢
    simp only [String.toList_append, List.map_append] at h3 ⊢
    simp at h3 ⊢
    exact h3
theorem txtI_len {z : Int} {k : Nat} (hk : 0 < k) (h : z.natAbs < 10 ^ k) : (txtI z).length ≤ k + 1 ∧ 1 ≤ (txtI z).length := by
  have h1 := TL.numL_len hk h
  have h2 := List.length_pos_iff.mpr (TL.numL_ne z.natAbs)
  unfold txtI
  split
  · rw [List.length_cons]; omega
  · omega
def frL (f : Fr) : List Nat := if f.2 = 1 then txtI f.1 else txtI f.1 ++ 47 :: txtI f.2
end BK
namespace BK
open PySem PySem.Spec L2
set_option autoImplicit false
/-! ### more block rules -/
/-- xs[k] = v -/
def setI {α : Type} (xs : List α) (k : Int) (v : α) : Option (List α) := (ixN xs.length k).map fun t => xs.set t v
section
variable {α γ : Type} {b n : Gm → Option Out} {g g1 : Gm} {P : α → Out → Prop} {s : Option α} {t : γ → Option α} {i : Nat}
theorem j_store {β : Type} {e : β → D} {xs ys : List β} {mk mv : Gm → Option R} {k : Int} {r : R} {v : β} (h0 : g[i]? = some (.ow (xs.map e))) (hv : mv g = some r) (hb : r.isBw = false) (hd : r.d = e v) (hk : mk g = some (.va (.int k))) (hs : setI xs k v = some ys) (h1 : g.set i (.ow (ys.map e)) = g1) (K : J b n g1 s P) : J (sCons (sSt i mk mv) b) n g s P :=
  j_seq (a := sSt i mk mv) (g1 := g1) (by
    unfold setI at hs
    obtain ⟨t, ht, rfl⟩ := Option.map_eq_some_iff.mp hs
    unfold sSt
    rw [h0]
    show (mv g).bind _ = _
    rw [hv]
    show (if r.isBw = true then none else (mk g).bind _) = _
    rw [hb, if_neg (by decide), hk]
    show (ixN (xs.map e).length k).map _ = _
    rw [List.length_map, ht]
    show some (Out.nx (g.set i (.ow ((xs.map e).set t r.d)))) = _
    rw [hd, ← List.map_set, h1]) K
end
end BK
namespace BK
open PySem PySem.Spec L2
set_option autoImplicit false
/-! ### the greatest of some, sums over some, bits -/
/-- r is the greatest of the v x of the x of l with c x, and 0 -/
def Mx {α : Type} (l : List α) (c : α → Prop) (v : α → Int) (r : Int) : Prop := 0 ≤ r ∧ (∀ x ∈ l, c x → v x ≤ r) ∧ (r = 0 ∨ ∃ x ∈ l, c x ∧ r = v x)
section
variable {α β : Type} {l : List α} {c : α → Prop} {v : α → Int} {r : Int}
theorem Mx.nil : Mx ([] : List α) c v 0 := ⟨Int.le_refl _, (fun _ h => by cases h), .inl rfl⟩
theorem Mx.no {x : α} (h : Mx l c v r) (hc : ¬ c x) : Mx (l ++ [x]) c v r := by
  obtain ⟨h0, h1, h2⟩ := h
  refine ⟨h0, ?_, ?_⟩
  · intro y hy hcy
    rw [List.mem_append, List.mem_singleton] at hy
    rcases hy with hy | rfl
    · exact h1 y hy hcy
    · exact absurd hcy hc
  · rcases h2 with h2 | ⟨y, hy, hcy, e⟩
    · exact .inl h2
    · exact .inr ⟨y, List.mem_append_left _ hy, hcy, e⟩
end
end BK
namespace BK
open PySem PySem.Spec L2
set_option autoImplicit false
/-! ### drawn roads of six bridges at most -/
/-- a name: one to twelve small letters -/
def NmOk (x : Str) : Prop := ∃ l : List Nat, x = S' l ∧ 1 ≤ l.length ∧ l.length ≤ 12 ∧ ∀ c ∈ l, 97 ≤ c ∧ c ≤ 122
theorem NmOk.len {x : Str} (h : NmOk x) : 1 ≤ x.length ∧ x.length ≤ 12 := by
  obtain ⟨l, rfl, h1, h2, _⟩ := h
  rw [S'_len]
  exact ⟨h1, h2⟩
structure BgOk (b : Bg) : Prop where
  l : 1 ≤ b.length ∧ b.length ≤ 1000
  br : 1 ≤ b.bears ∧ b.bears ≤ 10000000
  w : 1 ≤ b.wide ∧ b.wide ≤ 200
  m : 1 ≤ b.most ∧ b.most ≤ 10000000
end BK
namespace BK
open PySem PySem.Spec L2
set_option autoImplicit false
/-! ### pop -/
end BK
namespace BK
open PySem PySem.Spec L2
set_option autoImplicit false
/-! ### list(range(n)) -/
end BK
/-! ### list(reversed(a list)) -/
namespace BK
open PySem PySem.Spec L2
set_option autoImplicit false
end BK
namespace BK
open PySem PySem.Spec L2
set_option autoImplicit false
theorem x_tmD {α : Type} {m : Gm → Option R} {g : Gm} {e : α → D} {xs : List α} (h : m g = some (R.tm (xs.map e))) : m g = some (R.tm (List.map eD (xs.map e))) := by
  rw [h, List.map_map]
  rfl
end BK
namespace BK
open PySem PySem.Spec L2
set_option autoImplicit false
end BK
namespace BK
open PySem PySem.Spec L2
set_option autoImplicit false
/-! ### the end over a head's facts, with one table -/
section
variable {K : PySem.W.Frag} {x qual : Str} {st : Stmt} {dvs : List V} {kws : List (Str × V)} {f : Addr} {fd : FuncData}
theorem funA_ofD (F : FunD K x qual (defArgs st) (defBody st) (defScope st) dvs kws f fd) : FunA K x qual st f fd := by
  obtain ⟨oc, od, dV, kV, doc, pm, an, cdv, ct, osl, e, lk, hcd, _, _⟩ := F.ex
  exact ⟨⟨oc, od, dV, kV, doc, pm, an, cdv, ct, osl, e, lk, hcd⟩, F.kp⟩
theorem fun_ofD (F : FunD K x qual (defArgs st) (defBody st) (defScope st) [] kws f fd) : Fun K x qual st f fd := by
  obtain ⟨oc, od, dV, kV, doc, pm, an, cdv, ct, osl, e, lk, hcd, hD, _⟩ := F.ex
  rcases hD with ⟨_, rfl⟩ | ⟨h, _⟩
  · exact ⟨⟨oc, od, kV, doc, pm, an, cdv, ct, osl, e, lk, hcd⟩, F.kp⟩
  · exact absurd rfl h
end
end BK
namespace BK
open PySem PySem.Spec L2
set_option autoImplicit false
/-! ### what is asked of entries -/
def meetsZ (ts : List (Int × Int)) (ss : List (Int × Int)) : Bool := ss.any fun s => ts.any fun t => decide (t.1 < 27720 * s.2) && decide (27720 * s.1 < t.2)
def mayZ (len bears : Int) (shuts : List (Int × Int)) (xs : List XZ) (x : XZ) : Bool := !meetsZ (timesZ len x) shuts && (spansZ len x.name (xs ++ [x])).all fun s => decide ((sumsZ (spansZ len x.name (xs ++ [x])) s.1).2 ≤ bears)
end BK
namespace BK
open PySem PySem.Spec L2
set_option autoImplicit false
/-! ### the moments at which an entry is forbidden, on the grid -/
/-- a crossing, entered at a moment -/
def XZ.to (x : XZ) (t : Int) : XZ := { x with at_ := t }
/-- the least moment from c on at which a crossing may enter -/
structure Least (len B : Int) (shuts : List (Int × Int)) (xs : List XZ) (x : XZ) (c m : Int) : Prop where
  ge : c ≤ m
  ok : mayZ len B shuts xs (x.to m) = true
  no : ∀ t, c ≤ t → t < m → mayZ len B shuts xs (x.to t) = false
theorem Least.uniq {len B : Int} {shuts : List (Int × Int)} {xs : List XZ} {x : XZ} {c m n : Int} (h : Least len B shuts xs x c m) (h' : Least len B shuts xs x c n) : m = n := by
  rcases Int.lt_trichotomy m n with a | a | a
  · have := h'.no m h.ge a
    rw [h.ok] at this; cases this
  · exact a
  · have := h.no n h'.ge a
    rw [h'.ok] at this; cases this
noncomputable def entZ (len B : Int) (shuts : List (Int × Int)) (xs : List XZ) (x : XZ) (c : Int) : Int := Classical.epsilon (Least len B shuts xs x c)
theorem Least.eq {len B : Int} {shuts : List (Int × Int)} {xs : List XZ} {x : XZ} {c m : Int} (h : Least len B shuts xs x c m) : entZ len B shuts xs x c = m := (Classical.epsilon_spec (p := Least len B shuts xs x c) ⟨m, h⟩).uniq h
end BK
namespace BK
open PySem PySem.Spec L2
set_option autoImplicit false
/-! ### what stands close, and what is on at one moment -/
theorem XOk.to {x : XZ} (h : XOk x) {t : Int} (ht : -1000000000000000 ≤ t ∧ t ≤ 1000000000000000) : XOk (x.to t) := ⟨ht, h.sp, h.wl, h.wg⟩
end BK
namespace BK
open PySem PySem.Spec L2
set_option autoImplicit false
/-! ### ways -/
end BK
namespace BK
open PySem PySem.Spec L2
set_option autoImplicit false
/-! ### the moments at which wheels come on, each once; the first of the greatest -/
end BK
namespace BK
open PySem PySem.Spec L2 PyProof.Rows
set_option autoImplicit false
/-! ### chains of three -/
/-! ### xs.append(ys.pop(k)) -/
/-! ### xs.count(x), xs.index(x), x in xs, of items of any depth -/
theorem toPys_map (ds : List D) : toPys ds = ds.map toPy := by
  induction ds with
  | nil => rfl
  | cons d ds ih => rw [toPys, ih]; rfl
section
variable {X : Cx} {ca : Nat → Addr} {a b : Expr} {m n : Gm → Option R} {pos apos : Pos}
theorem room65 {k : Nat} {A : Around} (r : Room k A) : A.units + 65 < cLine := by have := r.un; omega
end
/-! in plain types -/
end BK
namespace BK
open PySem PySem.Spec L2
set_option autoImplicit false
/-! ### walks and texts of data of any kind -/
end BK
namespace BK
open PySem PySem.Spec L2
set_option autoImplicit false
/-! ### rows of words -/
theorem sp_eq : (" " : Str) = S' [32] := by decide +kernel
theorem nl_eq : ("\n" : Str) = S' [10] := by decide +kernel
/-- a word: no blank, no line end -/
structure Wd (x : Str) : Prop where
  b : 32 ∉ x.cps.toList
  n : 10 ∉ x.cps.toList
  l : x.length ≤ 20
  k : ∀ c ∈ x.cps.toList, c < 1114112
theorem sok_iff {x : Str} : PyData.strOk x = true ↔ ∀ c ∈ x.cps.toList, c < 1114112 := by
  obtain ⟨l, rfl⟩ := str_cases x
  show (S' l).cps.all (fun x => decide (x < 1114112)) = true ↔ _
  rw [List.all_toArray, List.all_eq_true]
  simp
theorem NmOk.wd {x : Str} (h : NmOk x) : Wd x := by
  have hl := h.len
  obtain ⟨l, rfl, _, _, h⟩ := h
  refine ⟨fun q => ?_, fun q => ?_, by omega, fun c hc => ?_⟩
  · have := h 32 q; omega
  · have := h 10 q; omega
  · have := h c hc; omega
theorem num_wd {i : Int} (h0 : 0 ≤ i) (h1 : i ≤ 1000000000) : Wd (toString i : Str) := by
  have hn := num_len (i := i) (k := 10) h0 (by omega) (by omega)
  obtain ⟨n, rfl⟩ := Int.eq_ofNat_of_zero_le h0
  rw [num_nat] at hn ⊢
  have hd := TL.numL_digits n
  refine ⟨fun q => ?_, fun q => ?_, by omega, fun c hc => ?_⟩
  · have := hd 32 q; omega
  · have := hd 10 q; omega
  · have := hd c hc; omega
theorem joinL_mem {c : Nat} {s : List Nat} : ∀ {ps : List (List Nat)}, c ∈ TL.joinL s ps → c ∈ s ∨ ∃ p ∈ ps, c ∈ p
  | [], h => by cases h
  | [p], h => .inr ⟨p, by simp, h⟩
  | p :: q :: r, h => by
    unfold TL.joinL at h
    rw [List.mem_append, List.mem_append] at h
    rcases h with h | h | h
    · exact .inr ⟨p, by simp, h⟩
    · exact .inl h
    · rcases joinL_mem h with h | ⟨x, hx, h⟩
      · exact .inl h
      · exact .inr ⟨x, List.mem_cons_of_mem _ hx, h⟩
theorem join_cps (y : Str) (ps : List Str) : (Txt.join y ps).cps.toList = TL.joinL y.cps.toList (ps.map fun p => p.cps.toList) := by
  rw [TL.join_eq]
  exact TL.tl_join y ps
theorem sum_len {n : Nat} : ∀ {ws : List Str}, (∀ w ∈ ws, w.length ≤ n) → (ws.map Str.length).sum ≤ n * ws.length
  | [], _ => by simp
  | w :: ws, h => by
    have h1 := h w List.mem_cons_self
    have h2 := sum_len fun x hx => h x (List.mem_cons_of_mem _ hx)
    rw [List.map_cons, List.sum_cons, List.length_cons, Nat.mul_add]
    omega
/-- words as a row -/
def rowW (ws : List Str) : Str := Txt.join " " ws
theorem rowW_len {ws : List Str} (h : ∀ w ∈ ws, Wd w) : (rowW ws).length ≤ 21 * ws.length := by
  have h1 : (Txt.join " " ws).length ≤ (ws.map Str.length).sum + ws.length * (" " : Str).length := join_le " " ws
  have h2 := sum_len (n := 20) fun w hw => (h w hw).l
  have h3 : (" " : Str).length = 1 := by decide +kernel
  rw [h3] at h1
  unfold rowW
  omega
/-- a text of rows -/
def textR (rows : List Str) : Str := Txt.join "\n" rows
theorem textR_split {rows : List Str} (hn : rows ≠ []) (h : ∀ r ∈ rows, 10 ∉ r.cps.toList) : Txt.split (textR rows) "\n" = rows :=
  TL.split_join (s := 10) (S := []) (by rw [nl_eq]) (by decide +kernel) hn h
theorem textR_len {n : Nat} {rows : List Str} (h : ∀ r ∈ rows, r.length ≤ n) : (textR rows).length ≤ (n + 1) * rows.length := by
  have h1 : (Txt.join "\n" rows).length ≤ (rows.map Str.length).sum + rows.length * ("\n" : Str).length := join_le "\n" rows
  have h2 := sum_len h
  have h3 : ("\n" : Str).length = 1 := by decide +kernel
  rw [h3] at h1
  unfold textR
  rw [Nat.add_mul]
  omega
/-! ### rows of roads -/
inductive Rw where
  | op (n : Int) | br (b : Bg) | rd (r : Str × Int) | sh (s : Str × Int × Int)
def Rw.ws : Rw → List Str
  | .op n => ["open", toString n]
  | .br b => ["bridge", b.name, toString b.length, toString b.bears, toString b.wide, toString b.most]
  | .rd r => ["round", r.1, toString r.2]
  | .sh s => ["shut", s.1, toString s.2.1, toString s.2.2]
def Rw.tx (r : Rw) : Str := rowW r.ws
def Rw.Ok : Rw → Prop
  | .op n => 200 ≤ n ∧ n ≤ 1000
  | .br b => NmOk b.name ∧ BgOk b
  | .rd r => NmOk r.1 ∧ 1 ≤ r.2 ∧ r.2 ≤ 1000
  | .sh s => NmOk s.1 ∧ 0 ≤ s.2.1 ∧ s.2.1 < s.2.2 ∧ s.2.2 ≤ 10000
theorem lit_wd {x : Str} (l : List Nat) (e : x = S' l) (h : 32 ∉ l ∧ 10 ∉ l ∧ l.length ≤ 20 ∧ ∀ c ∈ l, c < 1114112) : Wd x := by
  subst e
  exact ⟨h.1, h.2.1, by rw [S'_len]; exact h.2.2.1, h.2.2.2⟩
theorem open_wd : Wd "open" := lit_wd [111, 112, 101, 110] (by decide +kernel) (by decide)
theorem bridge_wd : Wd "bridge" := lit_wd [98, 114, 105, 100, 103, 101] (by decide +kernel) (by decide)
theorem round_wd : Wd "round" := lit_wd [114, 111, 117, 110, 100] (by decide +kernel) (by decide)
theorem shut_wd : Wd "shut" := lit_wd [115, 104, 117, 116] (by decide +kernel) (by decide)
theorem Rw.wd {r : Rw} (h : r.Ok) : ∀ w ∈ r.ws, Wd w := by
  intro w hw
  cases r with
  | op n =>
    obtain ⟨h1, h2⟩ := h
    simp only [Rw.ws, List.mem_cons, List.not_mem_nil, or_false] at hw
    rcases hw with rfl | rfl
    · exact open_wd
    · exact num_wd (by omega) (by omega)
  | br b =>
    obtain ⟨h1, h2, h3, h4, h5⟩ := h
    simp only [Rw.ws, List.mem_cons, List.not_mem_nil, or_false] at hw
    rcases hw with rfl | rfl | rfl | rfl | rfl | rfl
    · exact bridge_wd
    · exact h1.wd
    · exact num_wd (by omega) (by omega)
    · exact num_wd (by omega) (by omega)
    · exact num_wd (by omega) (by omega)
    · exact num_wd (by omega) (by omega)
  | rd r =>
    obtain ⟨h1, h2, h3⟩ := h
    simp only [Rw.ws, List.mem_cons, List.not_mem_nil, or_false] at hw
    rcases hw with rfl | rfl | rfl
    · exact round_wd
    · exact h1.wd
    · exact num_wd (by omega) (by omega)
  | sh s =>
    obtain ⟨h1, h2, h3, h4⟩ := h
    simp only [Rw.ws, List.mem_cons, List.not_mem_nil, or_false] at hw
    rcases hw with rfl | rfl | rfl | rfl
    · exact shut_wd
    · exact h1.wd
    · exact num_wd (by omega) (by omega)
    · exact num_wd (by omega) (by omega)
theorem Rw.ne (r : Rw) : r.ws ≠ [] := by cases r <;> simp [Rw.ws]
theorem Rw.wl (r : Rw) : r.ws.length ≤ 6 := by cases r <;> simp [Rw.ws]
theorem Rw.len {r : Rw} (h : r.Ok) : r.tx.length ≤ 126 := by
  have h1 := rowW_len (Rw.wd h)
  have h2 := r.wl
  unfold Rw.tx
  omega
end BK
namespace BK
open PySem PySem.Spec L2
set_option autoImplicit false
/-! ### own trees: read for a while, frozen for good -/
/-! ### lists of own trees are changed -/
end BK
namespace BK
open PySem PySem.Spec L2
set_option autoImplicit false
/-! ### own trees in plain types -/
end BK
namespace BK
open PySem PySem.Spec L2
open PyProof.Rows (envOfC)
set_option autoImplicit false
/-! ### defs that make trees, defs that change them -/
/-! ### statements of such defs and calls of them -/
end BK
namespace BK
open PySem PySem.Spec L2
set_option autoImplicit false
/-! ### data taken apart; lists seen as other lists; in, deep -/
def inD (a b : R) : Option Bool := match b.d with
  | .lst ds => if (okn 8 (.lst ds) && okn 7 a.d) = true then some (ds.any fun e => eqn 7 e a.d) else none
  | _ => none
def inR2 (a b : R) : Option Bool := match inR a b with
  | some k => some k
  | none => inD a b
def oIn2 : R → R → Option R := fun a b => (inR2 a b).map fun k => .va (.bl k)
def oNin2 : R → R → Option R := fun a b => (inR2 a b).map fun k => .va (.bl (!k))
section
variable {K : PySem.W.Frag} {ca : Nat → Addr}
theorem op_in2 {X : Cx} (hu : X.A.units + 65 < cLine) : OpR X (compareOp .In) (fun x y H Q => rInA X.K x y H Q ∨ rInD X.K x y H Q) := op_inA.or (op_inD hu)
theorem op_nin2 {X : Cx} (hu : X.A.units + 65 < cLine) : OpR X (compareOp .NotIn) (fun x y H Q => rNinA X.K x y H Q ∨ rNotInD X.K x y H Q) := op_ninA.or (op_notInD hu)
theorem inD_cases {B : BT} {Hs F H : Hp} {v w : V} {x y : R} {k : Bool} (s : Same F H) (rx : RV K ca B Hs F H v x) (ry : RV K ca B Hs F H w y) (e : inD x y = some k) :
    ∃ d ds, Dp K H v d ∧ Dp K H w (.list ds) ∧ SeqAt.shaped d = true ∧ SeqAt.shaped (.list ds) = true ∧ k = ds.any fun z => PyData.eqv z d := by
  unfold inD at e
  split at e
  · rename_i ds hd
    split at e
    · rename_i hc
      cases e
      rw [Bool.and_eq_true] at hc
      have h1 : okn 8 y.d = true := by rw [hd]; exact hc.1
      have px := RV.dp s rx (n := 7) hc.2
      have py := RV.dp s ry h1
      rw [hd] at py
      refine ⟨_, _, px, py, okn_shaped hc.2 (by decide), okn_shaped hc.1 (by decide), ?_⟩
      have hall : ∀ e ∈ ds, okn 7 e = true := by simpa only [okn, List.all_eq_true] using hc.1
      rw [toPys_map, List.any_map]
      rw [Bool.eq_iff_iff, List.any_eq_true, List.any_eq_true]
      constructor
      · rintro ⟨z, h, q⟩; exact ⟨z, h, by show PyData.eqv (toPy z) (toPy x.d) = true; rw [eqn_py 7 _ _ (hall z h) hc.2]; exact q⟩
      · rintro ⟨z, h, q⟩
        refine ⟨z, h, ?_⟩
        have q : PyData.eqv (toPy z) (toPy x.d) = true := q
        rw [eqn_py 7 _ _ (hall z h) hc.2] at q; exact q
    · cases e
  · cases e
theorem od_in2 : OpD K ca (fun x y H Q => rInA K x y H Q ∨ rInD K x y H Q) oIn2 := by
  intro B H0 F H v w x y z Q s rx ry e q
  unfold oIn2 inR2 at e
  split at e
  · rename_i k hk
    exact .inl (od_in s rx ry (show oIn x y = some z by unfold oIn; rw [hk]; exact e) q)
  · obtain ⟨k, ek, rfl⟩ := Option.map_eq_some_iff.mp e
    obtain ⟨d, ds, h1, h2, h3, h4, h5⟩ := inD_cases s rx ry ek
    exact .inr ⟨d, ds, h1, h2, h3, h4, by rw [← h5]; exact q _ H F (.refl s) (.bl _)⟩
theorem od_nin2 : OpD K ca (fun x y H Q => rNinA K x y H Q ∨ rNotInD K x y H Q) oNin2 := by
  intro B H0 F H v w x y z Q s rx ry e q
  unfold oNin2 inR2 at e
  split at e
  · rename_i k hk
    exact .inl (od_nin s rx ry (show oNin x y = some z by unfold oNin; rw [hk]; exact e) q)
  · obtain ⟨k, ek, rfl⟩ := Option.map_eq_some_iff.mp e
    obtain ⟨d, ds, h1, h2, h3, h4, h5⟩ := inD_cases s rx ry ek
    exact .inr ⟨d, ds, h1, h2, h3, h4, by rw [← h5]; exact q _ H F (.refl s) (.bl _)⟩
end
theorem f_in2 {a b : R} {k : Bool} (h : inR a b = some k) : oIn2 a b = some (.va (.bl k)) := by unfold oIn2 inR2; rw [h]; rfl
theorem f_nin2 {a b : R} {k : Bool} (h : inR a b = some k) : oNin2 a b = some (.va (.bl (!k))) := by unfold oNin2 inR2; rw [h]; rfl
theorem j_appE {α β : Type} {b n : Gm → Option Out} {g g1 : Gm} {P : α → Out → Prop} {s : Option α} {i : Nat} {e : Gm → Option R} {r : R} (en : β → D) (xs : List β) (v : β) (h0 : g[i]? = some (.ow (xs.map en))) (h : e g = some r) (hd : r.d = en v) (hb : r.isBw = false) (hl : xs.length < 16777216) (h1 : g.set i (.ow ((xs ++ [v]).map en)) = g1) (k : J b n g1 s P) : J (sCons (sApp i e) b) n g s P :=
  j_app h0 h hb (by rw [List.length_map]; exact hl) (by rw [← h1, List.map_append, hd]; rfl) k
end BK
namespace BK
open PySem PySem.Spec L2
set_option autoImplicit false
/-! ### for the mathematics of days of shapes -/
end BK
namespace BK
open PySem PySem.Spec L2
set_option autoImplicit false
/-! ### dict(pairs) with texts as keys, read alone -/
/-! in plain types -/
end BK
namespace BK
open PySem PySem.Spec L2
set_option autoImplicit false
/-! ### tests that take an item out of an own list -/
/-! in plain types -/
end BK
namespace BK
open PySem PySem.Spec L2 PyProof.Rows
set_option autoImplicit false
/-! ### defs that change their first argument, or tell a new tree -/
/-! ### x != [], whatever x's items are -/
/-! ### loads as own trees -/
end BK
namespace BK
open PySem PySem.Spec L2 PyProof.Rows
set_option autoImplicit false
/-! ### an instance made of an own list that is copied -/
end BK
namespace BK
open PySem PySem.Spec L2 PyProof.Rows
set_option autoImplicit false
/-! ### a, b, .. = xs.pop(k) -/
end BK
namespace BK
open PySem PySem.Spec L2
open PyProof.Rows (envOfC)
set_option autoImplicit false
/-! ### exceptions: what raises, beside what answers -/
def XD (K : PySem.W.Frag) (ca : Nat → Addr) (F : Hp) (cls : Value) (d : Option Addr) (x : Exc) : Prop :=
  cls = .ref (ca x.c) ∧ ∃ fs : List (Str × V), (d = none ∧ fs = [] ∨ ∃ dd, d = some dd ∧ F dd = some (.xd fs)) ∧ fs.map (·.1) = xflds x.c ∧ Dens K ca F (fs.map (·.2)) (x.fs.map aD)
theorem aD_lf : ∀ fs : List (Int ⊕ Str), (fs.map aD).all (lfn 8) = true
  | [] => rfl
  | .inl i :: fs => by rw [List.map_cons, List.all_cons, aD_lf fs]; rfl
  | .inr s :: fs => by rw [List.map_cons, List.all_cons, aD_lf fs]; rfl
def spX (K : PySem.W.Frag) (ca : Nat → Addr) (ψ : List D → Option Exc) : Sp := fun vs H _ E => ∃ ds F x, Same F H ∧ NT F ∧ TabsC ca H ∧ Dens K ca F vs ds ∧ ψ ds = some x ∧ ∀ cls d H' F', Ext ca H F H' F' → XD K ca F' cls d x → E cls d H'
structure CalleeX (P : Program) (w : World) (K : PySem.W.Frag) (mg : Str → Option Value) (base : Heap) (ca : Nat → Addr) (k : Nat) (x : Str) (ψ : List D → Option Exc) : Prop where
  ex : ∃ (f : Addr) (fd : FuncData) (ps : List Str), FnOk P w K mg base (L2.CX P w) k f fd ps (spX K ca ψ) ∧ mg x = some (.ref f) ∧ PySem.W.keepIn K (.ref f) = true ∧ Binds K fd ps []
theorem CalleeX.mono {P : Program} {w : World} {K : PySem.W.Frag} {mg : Str → Option Value} {base : Heap} {ca : Nat → Addr} {j k : Nat} {x : Str} {ψ : List D → Option Exc} (C : CalleeX P w K mg base ca j x ψ) (h : j ≤ k) : CalleeX P w K mg base ca k x ψ := by
  obtain ⟨f, fd, ps, F, r⟩ := C.ex
  exact ⟨f, fd, ps, F.mono h, r⟩
/-- .. the call by values -/
def callX (ψ : List D → Option Exc) (rs : List R) : Option Exc := if rs.any R.isTm = true then none else ψ (rs.map R.d)
section
variable {X : Cx} {ca : Nat → Addr}
theorem callX_core {H0 F0 H F : Hp} {σ : L2.St} {Γ : Gm} {vs : List V} {rs : List R} {ψ : List D → Option Exc} {z : Exc} {Hs : Hp} {Q : VK} {E : XK} (S : SR X.K ca H0 F0 σ H F Γ) (hr : RVs X.K ca (BB σ Γ) Hs F H vs rs) (e : callX ψ rs = some z)
    (q : ∀ cls d H' F', Ext ca H F H' F' → XD X.K ca F' cls d z → E cls d H') : spX X.K ca ψ vs H Q E := by
  classical
  unfold callX at e
  split at e
  · cases e
  rename_i htm
  have er := e
  have hlf := aD_lf z.fs
  have s := S.ext.fh
  let Bp : Addr → Prop := fun b => ∃ j ds vs, BB σ Γ j b ds ∧ F b = none ∧ H b = some (.lst vs) ∧ Dens X.K ca F vs ds ∧ R.bw j ds ∈ rs
  let F3 : Hp := fun b => if Bp b then H b else F b
  have s13 : Same F F3 := fun b o h => by
    show (if Bp b then H b else F b) = some o
    by_cases hb : Bp b
    · obtain ⟨_, _, _, _, h2, _⟩ := hb
      rw [h2] at h; cases h
    · rw [if_neg hb]; exact h
  have s3 : Same F3 H := fun b o h => by
    have h : (if Bp b then H b else F b) = some o := h
    by_cases hb : Bp b
    · rw [if_pos hb] at h; exact h
    · rw [if_neg hb] at h; exact s b o h
  have dens : ∀ {us : List V} {ts : List R}, RVs X.K ca (BB σ Γ) Hs F H us ts → (∀ t ∈ ts, t.isTm = false) → (∀ t ∈ ts, t.isBw = true → t ∈ rs) → Dens X.K ca F3 us (ts.map R.d) := by
    intro us ts h
    induction h with
    | nil => intro _ _; exact .nil
    | cons h hs ih =>
      rename_i v t us ts
      intro g1 g2
      refine .cons ?_ (ih (fun t ht => g1 t (List.mem_cons_of_mem _ ht)) fun t ht => g2 t (List.mem_cons_of_mem _ ht))
      cases t with
      | va d => exact Den.mono s13 h
      | tm ds => exact absurd (g1 _ List.mem_cons_self) (by simp [R.isTm])
      | bw j ds =>
        obtain ⟨a, ws, rfl, hb, h2, h3, h4⟩ := h
        have hB : Bp a := ⟨j, ds, ws, hb, h2, h3, h4, g2 _ List.mem_cons_self rfl⟩
        refine .lst ?_ (h4.mono s13)
        show (if Bp a then H a else F a) = some (.lst ws)
        rw [if_pos hB]; exact h3
  have htm' : ∀ t ∈ rs, t.isTm = false := fun t ht => by
    cases q : t.isTm with
    | false => rfl
    | true => exact absurd (List.any_eq_true.mpr ⟨t, ht, q⟩) htm
  have nF : NT F := S.ext.nt S.nt0
  have n3 : NT F3 := fun b ps h => by
    have h : (if Bp b then H b else F b) = some (.tbl ps) := h
    by_cases hb : Bp b
    · rw [if_pos hb] at h
      obtain ⟨_, _, _, _, _, h3, _⟩ := hb
      rw [h3] at h; cases h
    · rw [if_neg hb] at h; exact nF b ps h
  refine ⟨rs.map R.d, F3, z, s3, n3, S.tc0.mono S.ext.hh, dens hr htm' fun t ht hb => ht, er, fun cls d H' F4 x4 r4 => ?_⟩
  let F5 : Hp := fun b => if Bp b then none else F4 b
  have s15 : Same F F5 := fun b o h => by
    show (if Bp b then none else F4 b) = some o
    by_cases hb : Bp b
    · obtain ⟨_, _, _, _, h2, _⟩ := hb
      rw [h2] at h; cases h
    · rw [if_neg hb]; exact x4.ff _ _ (s13 b o h)
  have s54 : Same F5 F4 := fun b o h => by
    have h : (if Bp b then none else F4 b) = some o := h
    by_cases hb : Bp b
    · rw [if_pos hb] at h; cases h
    · rw [if_neg hb] at h; exact h
  have x5 : Ext ca H F H' F5 := ⟨x4.hh, s15, s54.trans x4.fh, fun b h => by
    have h : (if Bp b then none else F4 b) ≠ none := h
    by_cases hb : Bp b
    · rw [if_pos hb] at h; exact absurd rfl h
    · rw [if_neg hb] at h
      rcases x4.nw b h with z | z
      · have z : (if Bp b then H b else F b) ≠ none := z
        rw [if_neg hb] at z
        exact .inl z
      · exact .inr z, fun _ b ps h => by
    have h : (if Bp b then none else F4 b) = some (.tbl ps) := h
    by_cases hb : Bp b
    · rw [if_pos hb] at h; cases h
    · rw [if_neg hb] at h; exact x4.nt n3 b ps h⟩
  have res : ∀ b o, F4 b = some o → (∀ xs, o ≠ .lst xs) → F5 b = some o := fun b o h hn => by
    show (if Bp b then none else F4 b) = some o
    by_cases hb : Bp b
    · exfalso
      obtain ⟨_, _, ws, _, h2, h3, _⟩ := id hb
      have h4 : F3 b = some (.lst ws) := by
        show (if Bp b then H b else F b) = _
        rw [if_pos hb]; exact h3
      have h5 := x4.ff _ _ h4
      rw [h] at h5
      cases h5
      exact hn ws rfl
    · rw [if_neg hb]; exact h
  obtain ⟨ec, fs, hd, hm, hs⟩ := r4
  exact q cls d H' F5 x5 ⟨ec, fs, hd.imp (fun z => z) fun ⟨dd, e1, e2⟩ => ⟨dd, e1, res _ _ e2 fun xs z => nomatch z⟩, hm, lf_dens res hlf hs⟩
end
/-! expressions that raise -/
def tXV (K : PySem.W.Frag) (ca : Nat → Addr) (W : WX) (m : Gm → Option Exc) : L2.St → Hp → Prop := fun σ H => ∃ H0 F0 F Γ x, SR K ca H0 F0 σ H F Γ ∧ m Γ = some x ∧ ∀ cls d H' F', Ext ca H F H' F' → XD K ca F' cls d x → W cls d σ H'
def XV (X : Cx) (ca : Nat → Addr) (e : Expr) (m : Gm → Option Exc) : Prop := ∀ W : WX, Takes X W → PE X e fun σ H _ => tXV X.K ca W m σ H
def xOr (m n : Gm → Option Exc) : Gm → Option Exc := fun g => (m g).orElse fun _ => n g
theorem xOr_some {m n : Gm → Option Exc} {g : Gm} {x : Exc} (h : xOr m n g = some x) : m g = some x ∨ n g = some x := by
  unfold xOr at h
  cases q : m g with
  | some y => rw [q] at h; exact .inl h
  | none => rw [q] at h; exact .inr h
section
variable {X : Cx} {ca : Nat → Addr} {e : Expr} {es : List Expr} {m n : Gm → Option Exc} {a : Gm → Option R} {ms : Gm → Option (List R)} {pos p apos : Pos}
theorem tXV.mono {K : PySem.W.Frag} {W : WX} {σ : L2.St} {H0 F0 H F H1 F1 : Hp} {Γ : Gm} {x : Exc} (S : SR K ca H0 F0 σ H F Γ) (x1 : Ext ca H F H1 F1) (e : m Γ = some x) (q : ∀ cls d H' F', Ext ca H F H' F' → XD K ca F' cls d x → W cls d σ H') : tXV K ca W m σ H1 :=
  ⟨H0, F0, F1, Γ, x, S.mono x1, e, fun cls d H' F' x2 r => q cls d H' F' (x1.trans x2) r⟩
/-- f(..) raises -/
def xC (ψ : List D → Option Exc) (ms : Gm → Option (List R)) : Gm → Option Exc := fun g => (ms g).bind (callX ψ)
theorem xv_call {j : Nat} {x : Str} {ψ : List D → Option Exc} (C : CalleeX X.prog X.w X.K X.mg X.base ca j x ψ) (hr : Room j X.A) (hg : Gl X x) (ha : AV X ca (e :: es) ms) (hdb : (x == ("__debug__" : Str)) = false := by decide)
    (he : starEach (e :: es) X.env = (false, eval e X.env) :: starEach es X.env := by rfl) (hpl : (backTo pos (starEach es X.env)).any (·.1) = false := by rfl) : XV X ca (.Call (.Name x p) (e :: es) [] pos) (xC ψ ms) := by
  intro W tk
  obtain ⟨f, fd, ps, G, hm, hk, hb⟩ := C.ex
  refine pe_imp (pe_callS (E := WE W) G hr hg hm hk hb (passAt tk) ha hdb he hpl) ?_
  rintro σ H Q ⟨H0, F0, F, Γ, z, S, e, q⟩
  obtain ⟨rs, er, e⟩ := Option.bind_eq_some_iff.mp e
  refine ⟨H0, F0, F, Γ, rs, S, er, fun vs H1 F1 x1 r1 => ?_⟩
  exact callX_core (S.mono x1) r1 e fun cls d H2 F2 x2 r2 => q cls d H2 F2 (x1.trans x2) r2
end
/-! statements that raise: the state behind is forgotten (XS), or it is the state ahead (X0) -/
def tXS (K : PySem.W.Frag) (ca : Nat → Addr) (W : WX) (m : Gm → Option Exc) : TS := fun _ σ H => ∃ H0 F0 F Γ x, SR K ca H0 F0 σ H F Γ ∧ m Γ = some x ∧ ∀ cls d σ' H' F', Ext ca H0 F0 H' F' → XD K ca F' cls d x → W cls d σ' H'
def XS (X : Cx) (ca : Nat → Addr) (st : Stmt) (m : Gm → Option Exc) : Prop := ∀ W : WX, Takes X W → PS X st (tXS X.K ca W m)
def XSs (X : Cx) (ca : Nat → Addr) (sts : List Stmt) (m : Gm → Option Exc) : Prop := ∀ W : WX, Takes X W → PSs X sts (tXS X.K ca W m)
def X0 (X : Cx) (ca : Nat → Addr) (st : Stmt) (m : Gm → Option Exc) : Prop := ∀ W : WX, Takes X W → PS X st fun _ σ H => tXV X.K ca W m σ H
def X0s (X : Cx) (ca : Nat → Addr) (sts : List Stmt) (m : Gm → Option Exc) : Prop := ∀ W : WX, Takes X W → PSs X sts fun _ σ H => tXV X.K ca W m σ H
def xSeq (m : Gm → Option Out) (n : Gm → Option Exc) : Gm → Option Exc := fun g => (m g).bind fun o => match o with
  | .nx g' => n g'
  | _ => none
def xIf (c : Gm → Option Bool) (m n : Gm → Option Exc) : Gm → Option Exc := fun g => (c g).bind fun k => if k = true then m g else n g
def xNo : Gm → Option Exc := fun _ => none
section
variable {X : Cx} {ca : Nat → Addr} {e : Expr} {st : Stmt} {rest : List Stmt} {m n : Gm → Option Exc} {mo : Gm → Option Out} {T : List Nat} {pos p apos : Pos}
theorem X0.xs (h : X0 X ca st m) : XS X ca st m := fun W tk => ps_imp (h W tk) (by
  rintro D σ H ⟨H0, F0, F, Γ, x, S, e, q⟩
  exact ⟨H0, F0, F, Γ, x, S, e, fun cls d H' F' x1 r => q cls d σ H' F' (S.ext.trans x1) r⟩)
theorem PSs.ps {t : TS} (h : PS X.nox st t) : PS X st t := ⟨fun pins s σ H D I hw =>
  wpAny_mono (h.run pins s σ H D (I.wish _) hw) (fun _ _ q => q.unwish) fun _ _ z => False.elim z⟩
theorem x0_one (h : X0 X ca st m) : X0s X ca (st :: rest) m := fun W tk => pss_imp (pss_cons (h W tk) (pss_never (X := X))) fun D σ H q => q
theorem xss_head (h : XS X ca st m) : XSs X ca (st :: rest) m := fun W tk => pss_imp (pss_cons (h W tk) (pss_never (X := X))) fun D σ H q => q
theorem xss_tail (h : SV X.nox ca st mo T) (hr : XSs X ca rest m) : XSs X ca (st :: rest) (xSeq mo m) := fun W tk => pss_imp (pss_cons (PSs.ps h.ps) (hr W tk)) (by
  rintro D σ H ⟨H0, F0, F, Γ, x, S, e, q⟩
  obtain ⟨o, eo, e⟩ := Option.bind_eq_some_iff.mp e
  refine ⟨H0, F0, F, Γ, o, S, eo, ?_⟩
  cases o with
  | nx g' => exact fun σ' H' F' S' _ _ => ⟨H0, F0, F', g', x, S', e, q⟩
  | rt r => cases e
  | bk g' => cases e
  | ct g' => cases e
  | ex x => cases e)
theorem xss_or (h1 : XSs X ca rest m) (h2 : XSs X ca rest n) : XSs X ca rest (xOr m n) := fun W tk => ⟨fun pins s σ H D I q => by
  obtain ⟨H0, F0, F, Γ, x, S, e, q⟩ := q
  rcases xOr_some e with e | e
  · exact (h1 W tk).run pins s σ H D I ⟨H0, F0, F, Γ, x, S, e, q⟩
  · exact (h2 W tk).run pins s σ H D I ⟨H0, F0, F, Γ, x, S, e, q⟩⟩
theorem xss_no : XSs X ca rest xNo := fun W tk => pss_imp pss_never (by
  rintro D σ H ⟨H0, F0, F, Γ, x, S, e, q⟩
  cases e)
theorem xs_if {c : Expr} {a b : List Stmt} {mc : Gm → Option Bool} (hc : TV X ca c mc) (ha : XSs X ca a m) (hb : XSs X ca b n) : XS X ca (.If c a b pos) (xIf mc m n) := fun W tk => ps_imp (ps_if hc (ha W tk) (hb W tk)) (by
  rintro D σ H ⟨H0, F0, F, Γ, x, S, e, q⟩
  obtain ⟨k, ek, e⟩ := Option.bind_eq_some_iff.mp e
  refine ⟨H0, F0, F, Γ, k, S, ek, fun H1 F1 x1 => ?_⟩
  cases k with
  | true => exact iteT ⟨H0, F0, F1, Γ, x, S.mono x1, by simpa using e, q⟩
  | false => exact iteF ⟨H0, F0, F1, Γ, x, S.mono x1, by simpa using e, q⟩)
theorem x0_expr (h : XV X ca e m) (hs : swapsWith e none pos.line X.env = pure false := by rfl) : X0 X ca (.Expr e pos) m := fun W tk => ps_imp (ps_expr (h W tk) hs) fun D σ H q => q
theorem x0_ret (h : XV X ca e m) : X0 X ca (.Return (some e) pos) m := fun W tk => ps_imp (ps_ret (h W tk)) fun D σ H q => q
end
/-! a loop in whose turns something raises -/
section
variable {X : Cx} {ca : Nat → Addr} {pos : Pos}
theorem ps_or2 {st : Stmt} {t u : TS} (h1 : PS X st t) (h2 : PS X st u) : PS X st fun D σ H => t D σ H ∨ u D σ H := ⟨fun pins s σ H D I q => by
  rcases q with q | q
  · exact h1.run pins s σ H D I q
  · exact h2.run pins s σ H D I q⟩
end
end BK
namespace BK
open PySem PySem.Spec L2
open PyProof.Rows (envOfC)
set_option autoImplicit false
/-! ### exceptions: made, raised, let out, caught -/
/-- __init__ of an exception class that stores its arguments by name -/
def spXI (C : Addr) (names : List Str) : Sp := fun vs H Q _ => ∃ (H0 : Hp) (a : Addr) (us : List V), vs = .ref a :: us ∧ us.length = names.length ∧ H0 a = none ∧ H = upd H0 a (exo a C none) ∧
  ∀ (d : Addr) (H2 : Hp), H0 d = none → d ≠ a → H2 a = some (exo a C (some d)) → H2 d = some (exd d (names.zip us).reverse) → (∀ b, b ≠ a → b ≠ d → H2 b = H0 b) → Q .non H2
section
variable {X : Cx} {e : Expr} {es : List Expr} {ta : TA} {p1 p2 pos : Pos}
/-- Base.__init__(self, ..), where it is ValueError's -/
theorem pe_winit {x : Str} {C : Addr} {mc : Value} {pl : Sem Bool} (hg : Gl X x) (hm : X.mg x = some (.ref C)) (hrd : PySem.W.readsIn X.K C mc = true) (hga : PySem.W.specialIn X.K (.ref C) "__getattribute__" = some (some (.builtin "type.__getattribute__")))
    (hfc : PySem.W.findCls X.K (.ref C) mc "__init__" = some (.val (.builtin "ValueError.__init__"))) (ha : PA X (e :: es) ta)
    (he : starEach (e :: es) X.env = (false, eval e X.env) :: starEach es X.env := by rfl) (hpl : (backTo pos (starEach es X.env)).any (·.1) = false := by rfl)
    (hev : eval (.Call (.Attribute (.Name x p1) "__init__" p2) (e :: es) [] pos) X.env = (do
      let ov ← eval (.Name x p1) X.env
      standAt p2.atName
      let (f, first) ← holding [ov] (getMethod ov "__init__" pl)
      callWith pos f first (backTo pos (starEach (e :: es) X.env)) (backToKw pos (keywordEach [] X.env))) := by rfl) (hdb : (x == ("__debug__" : Str)) = false := by decide) :
    PE X (.Call (.Attribute (.Name x p1) "__init__" p2) (e :: es) [] pos) (tVeI X.K ta) := by
  refine ⟨fun pins s σ H Q I h => ?_⟩
  refine PySem.W.methodCall_KW (ld_glob I hg hm ?_ hdb) hev
  refine PySem.W.method_cls I.kIn hga (PySem.W.cls_value I.kIn hrd hfc rfl ?_)
  have I2 := I.tok (s.toks + 1)
  refine PyProof.Rows.callWith_method1 (thn (ha.run pos pins _ σ H _ I2 h) fun us s1 ⟨vs, H1, I1, r1, a, C, ws, ev, hl, T, ea, q⟩ => ?_) he hpl
  subst ev
  cases r1 with
  | @cons _ u0 _ ur ra rw' =>
    obtain rfl : u0 = Value.ref a := ra
    have hlen : ur.length ≤ sizeLine := by
      rw [← Paired.length rw', sizeLine_eq]
      omega
    exact oinit_ok T I1 ea hlen fun s' J => ⟨.non, H1, J, rfl, q⟩
end
section
variable {P : Program} {w : World} {K : PySem.W.Frag} {mg : Str → Option Value} {base : Heap} {ca : Nat → Addr}
theorem xi_one {x qual f : Str} {st : Stmt} {fi : Addr} {fd : FuncData} {C : Addr} {m : Str} {N ps : List Str} {e1 o1 v1 : Expr} {p' pos1 pos2 : Pos} (T : OexC K C) (hno : PySem.W.findIn K (.ref C) f = some none) (F : FunA K x qual st fi fd) (S : FnScope N ps (defScope st)) (hps : ps.length = 2)
    (hb : defBody st = [.Expr e1 pos1, .Assign [.Attribute o1 f p'] v1 pos2])
    (hst : ∀ (cdv : Value) (A : Around) (outer : List Env) (s : Shared) (H : Hp) (E : XK), ∃ ta, PE (cxOf CX0 P w K mg base N qual (defScope st) fi cdv A outer s H E).nox e1 (tVeI K ta) ∧ (∀ σ H' Q, (∃ a, σ[0]? = some (some (.ref a)) ∧ Q [.ref a, .str m] H') → ta σ H' Q) ∧
      PE (cxOf CX0 P w K mg base N qual (defScope st) fi cdv A outer s H E).nox o1 (tVar 0) ∧ PE (cxOf CX0 P w K mg base N qual (defScope st) fi cdv A outer s H E).nox v1 (tVar 1) ∧
      swapsWith e1 none pos1.line (cxOf CX0 P w K mg base N qual (defScope st) fi cdv A outer s H E).nox.env = pure false ∧ swapsWith v1 (some (.Attribute o1 f p')) pos2.line (cxOf CX0 P w K mg base N qual (defScope st) fi cdv A outer s H E).nox.env = pure false) :
    FnOk P w K mg base CX0 1 fi fd ps (spXI C [f]) := by
  refine F.ok (k := 0) S (fun vs H Q E ⟨H0, a, us, e, hl, _⟩ => by rw [e, hps]; simp only [List.length_cons]; simp at hl; omega) fun cdv _ A outer s H vs Q E hr ⟨H0, a, us, ev, hl, h0, eH, q⟩ => ?_
  obtain ⟨ta, h1, h2, h3, h4, s1, s2⟩ := hst cdv A outer s H E
  rw [hb]
  refine ⟨_, pss_cons (ps_expr h1 s1) (pss_one (ps_ost h3 h4 s2)), ?_⟩
  obtain ⟨y, rfl⟩ : ∃ y, us = [y] := by
    match us, hl with
    | [y], _ => exact ⟨y, rfl⟩
  subst ev eH
  have g0 : (L2.start N [.ref a, y])[0]? = some (some (.ref a)) := start_get rfl
  have g1 : (L2.start N [.ref a, y])[1]? = some (some y) := start_get rfl
  refine h2 _ _ _ ⟨a, g0, a, C, [.str m], rfl, by simp, T, upd_same, ?_⟩
  refine ⟨y, g1, _, g0, a, C, rfl, T, hno, .inl ⟨upd_same, fun dx n1 n2 => ?_⟩⟩
  rw [upd_ne n2] at n1
  refine q dx _ n1 n2 upd_same (by rw [upd_ne n2, upd_same]; rfl) fun b hb1 hb2 => ?_
  rw [upd_ne hb1, upd_ne hb2, upd_ne hb1]
end
/-- an exception class of ours with an own __init__, as it is raised -/
structure Raiser (P : Program) (w : World) (K : PySem.W.Frag) (mg : Str → Option Value) (base : Heap) (ca : Nat → Addr) (k c : Nat) (x : Str) : Prop where
  ex : ∃ (fI : Addr) (fd : FuncData) (ps : List Str), OexC K (ca c) ∧ PySem.W.findIn K (.ref (ca c)) "__init__" = some (some (.ref fI)) ∧ PySem.W.typeIn K (.ref fI) = some (.type "function") ∧ FnOk P w K mg base CX0 k fI fd ps (spXI (ca c) (xflds c).reverse) ∧ Binds K fd ps [] ∧ mg x = some (.ref (ca c))
def toA : R → Option (Int ⊕ Str)
  | .va (.int i) => some (.inl i)
  | .va (.str s) => some (.inr s)
  | _ => none
def atoms : List R → Option (List (Int ⊕ Str))
  | [] => some []
  | r :: rs => (toA r).bind fun a => (atoms rs).map (a :: ·)
theorem atoms_d : ∀ {rs : List R} {fs : List (Int ⊕ Str)}, atoms rs = some fs → (rs.all (fun r => !r.wr)) = true ∧ rs.map R.d = fs.map aD ∧ rs.length = fs.length
  | [], fs, h => by cases h; exact ⟨rfl, rfl, rfl⟩
  | r :: rs, fs, h => by
    obtain ⟨a, ea, h⟩ := Option.bind_eq_some_iff.mp h
    obtain ⟨gs, eg, rfl⟩ := Option.map_eq_some_iff.mp h
    obtain ⟨h1, h2, h3⟩ := atoms_d eg
    unfold toA at ea
    split at ea
    · cases ea
      exact ⟨by rw [List.all_cons, h1]; rfl, by rw [List.map_cons, List.map_cons, h2]; rfl, by rw [List.length_cons, List.length_cons, h3]⟩
    · cases ea
      exact ⟨by rw [List.all_cons, h1]; rfl, by rw [List.map_cons, List.map_cons, h2]; rfl, by rw [List.length_cons, List.length_cons, h3]⟩
    · cases ea
def xRaise (c : Nat) (ms : Gm → Option (List R)) : Gm → Option Exc := fun g => (ms g).bind fun rs => (atoms rs).bind fun fs => if (fs.length == (xflds c).length) = true then some ⟨c, fs.reverse⟩ else none
theorem zip_fst : ∀ {names : List Str} {us : List V}, us.length = names.length → (names.zip us).map (·.1) = names
  | [], [], _ => rfl
  | n :: names, u :: us, h => by
    rw [List.zip_cons_cons, List.map_cons, zip_fst (by simpa using h)]
theorem zip_snd : ∀ {names : List Str} {us : List V}, us.length = names.length → (names.zip us).map (·.2) = us
  | [], [], _ => rfl
  | n :: names, u :: us, h => by
    rw [List.zip_cons_cons, List.map_cons, zip_snd (by simpa using h)]
section
variable {X : Cx} {ca : Nat → Addr} {e : Expr} {es : List Expr} {ms : Gm → Option (List R)} {p pos pos' : Pos}
theorem xflds_len (c : Nat) : (xflds c).length ≤ 2 := by
  unfold xflds
  split
  · exact Nat.le_refl _
  · split
    · decide
    · decide
theorem x0_raise {k c : Nat} {x : Str} (M : Raiser X.prog X.w X.K X.mg X.base ca k c x) (hc : X.calm = true) (hr : Room (k + 1) X.A) (hg : Gl X x) (ha : AV X ca (e :: es) ms) (hdb : (x == ("__debug__" : Str)) = false := by decide)
    (he : starEach (e :: es) X.env = (false, eval e X.env) :: starEach es X.env := by rfl) (hpl : (backTo pos (starEach es X.env)).any (·.1) = false := by rfl) : X0 X ca (.Raise (some (.Call (.Name x p) (e :: es) [] pos)) none pos') (xRaise c ms) := by
  intro W tk
  obtain ⟨fI, fd, ps, T, iC, tI, G, hb, hm⟩ := M.ex
  refine ps_imp (ps_raise hc tk (pmk_oex T iC tI G hr hb .nil pass0 hg hm ha hdb he hpl)) ?_
  rintro D σ H ⟨H0, F0, F, Γ, z, S, e, q⟩
  obtain ⟨rs, er, e⟩ := Option.bind_eq_some_iff.mp e
  obtain ⟨as, ea, e⟩ := Option.bind_eq_some_iff.mp e
  obtain ⟨w1, w2, w3⟩ := atoms_d ea
  refine ⟨H0, F0, F, Γ, rs, S, er, fun vs H1 F1 x1 r1 => ?_⟩
  split at e
  rotate_left
  · cases e
  rename_i hc
  cases e
  rw [beq_iff_eq] at hc
  have hl : vs.length = (xflds c).length := ((RVs.length r1).trans w3).trans hc
  have hl' : vs.length = ((xflds c).reverse).length := by rw [List.length_reverse]; exact hl
  have hd := RVs.den r1 w1
  rw [w2] at hd
  refine ⟨by have := xflds_len c; omega, fun a n => ⟨H1, a, vs, by rw [List.append_nil], hl', n, rfl, fun d H2 n1 n2 e1 e2 e3 => ⟨rfl, d, _, e1, e2, n1, ?_⟩⟩⟩
  have eh : upd (del H2 a) d (.xd ((xflds c).reverse.zip vs).reverse) = upd H1 d (.xd ((xflds c).reverse.zip vs).reverse) := funext fun b => by
    by_cases hb : b = d
    · subst hb; rw [upd_same, upd_same]
    · rw [upd_ne hb, upd_ne hb]
      by_cases hb2 : b = a
      · subst hb2; rw [del_same, n]
      · rw [del_ne hb2]; exact e3 b hb2 hb
  rw [eh]
  refine q _ _ _ (upd F1 d (.xd ((xflds c).reverse.zip vs).reverse)) (x1.trans (.new x1.fh _ n1)) ⟨rfl, _, .inr ⟨d, rfl, upd_same⟩, ?_, ?_⟩
  · rw [List.map_reverse, zip_fst hl', List.reverse_reverse]
  · rw [List.map_reverse, zip_snd hl']
    show Dens X.K ca _ vs.reverse (as.reverse.map aD)
    rw [List.map_reverse]
    exact (hd.mono (same_upd (x1.fh.free n1))).reverse
end
/-! a def that raises -/
def psi (m : Gm → Option Exc) (N n : Nat) : List D → Option Exc := fun ds => if ds.length = n then m (ds.map Slot.va ++ List.replicate (N - n) Slot.un) else none
section
variable {P : Program} {w : World} {K : PySem.W.Frag} {mg : Str → Option Value} {base : Heap} {ca : Nat → Addr}
theorem FunA.okX {x qual : Str} {st : Stmt} {f : Addr} {fd : FuncData} {N ps : List Str} {k : Nat} {sp : Sp} (F : FunA K x qual st f fd) (S : FnScope N ps (defScope st)) (len : ∀ vs H Q E, sp vs H Q E → vs.length = ps.length)
    (hbody : ∀ (cdv : Value), fd.code = cdv → ∀ (A : Around) (outer : List Env) (s : Shared) (H : Hp) (vs : List V) (Q : VK) (E : XK), Room k (A.deeper (envOfC qual (defScope st) s.heap.objs.size f cdv)) → sp vs H Q E →
      ∃ t, PSs (cxOf (L2.CX P w) P w K mg base N qual (defScope st) f cdv A outer s H E) (defBody st) t ∧ t { nx := fun _ H' => Q .non H', rt := Q } (L2.start N vs) H) : FnOk P w K mg base (L2.CX P w) (k + 1) f fd ps sp := by
  obtain ⟨oc, od, dV, kV, doc, pm, an, cdv, ct, osl, rfl, lk, hcd⟩ := F.ex
  exact fn_of lk hcd S len fun A outer s H vs Q E hr hsp => hbody cdv rfl A outer s H vs Q E hr hsp
theorem fnx_ok {x qual : Str} {st : Stmt} {f : Addr} {fd : FuncData} {N ps : List Str} {k n nN : Nat} {m : Gm → Option Exc} {ψ : List D → Option Exc} (F : FunA K x qual st f fd) (S : FnScope N ps (defScope st)) (hn : ps.length = n) (hN : N.length = nN) (hψ : ψ = psi m nN n)
    (hbody : ∀ (cdv : Value) (A : Around) (outer : List Env) (s : Shared) (H : Hp) (E : XK), Room k (A.deeper (envOfC qual (defScope st) s.heap.objs.size f cdv)) →
      XSs (cxOf (L2.CX P w) P w K mg base N qual (defScope st) f cdv A outer s H E) ca (defBody st) m) : FnOk P w K mg base (L2.CX P w) (k + 1) f fd ps (spX K ca ψ) := by
  subst hψ
  subst hn
  subst hN
  refine F.okX S (fun vs H Q E ⟨ds, F0, r, s, _, _, h, e, _⟩ => ?_) (fun cdv _ A outer s H vs Q E hr ⟨ds, F0, r, sm, nt, tc, h, e, q⟩ => ?_)
  · unfold psi at e
    split at e
    · rw [h.length]; assumption
    · cases e
  · unfold psi at e
    split at e
    · rename_i hl
      have S0 : SR K ca H F0 (L2.start N vs) H F0 (ds.map Slot.va ++ List.replicate (N.length - ps.length) Slot.un) := by
        rw [← hl]
        exact sr_start sm nt tc h
      exact ⟨_, hbody cdv A outer s H E hr (fun cls d _ H' => E cls d H') (takes_of rfl rfl rfl rfl), H, F0, F0, _, r, S0, e, fun cls d σ' H' F' x1 rx => q cls d H' F' x1 rx⟩
    · cases e
end
/-! try -/
theorem exh_ok {P : Program} {w : World} {H : Hp} {h : Heap} {a C : Addr} {d : Option Addr} {o : Obj} {vs : Array Value} (he : h.get? a = some o) (hz : Zc (.ref C) d o) (hd : o.data = .fields vs) : ObjOk P w H h a (exh a C d) :=
  ⟨⟨o, vs, he, hz, hd⟩, ⟨_, he⟩, fun h1 h2 z k => by
    obtain ⟨o, vs, e1, e2, e3⟩ := z
    exact ⟨o, vs, k _ e1, e2, e3⟩⟩
theorem exh_at {P : Program} {w : World} {H : Hp} {h : Heap} {a C : Addr} {d : Option Addr} (hok : L2.HOk P w H h) (he : H a = some (exh a C d)) : ∃ (o : Obj) (vs : Array Value), h.get? a = some o ∧ Zc (.ref C) d o ∧ o.data = .fields vs := by
  have x : ObjOk P w H h a (.ext fun h => ∃ (o : Obj) (vs : Array Value), h.get? a = some o ∧ Zc (.ref C) d o ∧ o.data = .fields vs) := hok a _ he
  exact x.1
/-- what a block raises -/
def exn (m : Gm → Option Out) : Gm → Option Exc := fun g => match m g with
  | some (.ex x) => some x
  | _ => none
theorem exn_some {m : Gm → Option Out} {g : Gm} {x : Exc} (h : exn m g = some x) : m g = some (.ex x) := by
  unfold exn at h
  split at h
  · rename_i y e
    cases h
    exact e
  · cases h
theorem exn_of {m : Gm → Option Out} {g : Gm} {x : Exc} (h : m g = some (.ex x)) : exn m g = some x := by
  unfold exn
  rw [h]
end BK
set_option maxHeartbeats 4000000
namespace PySem.W
open PySem PySem.Spec PySem.Calls PyProof.Rows
section
variable {prog : Program} {w : World} {A : Around} {E : Value → Shared → Prop} {s : Shared} {K : Frag} {x D : Addr} {ox : Obj} {od : Option Obj}
theorem bk_findObj {C : Addr} {name : Str} {a g : Value} (hc : (clsIn K C).isSome = true) (ha : findIn K (.ref C) name = some (some a)) (hg : specialIn K a "__get__" = some (some g)) (ht : takesIn K a = some true) : findObj K C od name = some (.bind g a) := by
  obtain ⟨cd, hc⟩ := Option.isSome_iff_exists.mp hc
  unfold findObj
  rw [hc, Option.bind_some, ha, Option.bind_some]
  simp [hg, ht]
theorem bk_classE {Q : Option Value → Shared → Prop} (hga : findIn K (.ref D) "__getattribute__" = some (some (.builtin "BaseException.__getattribute__"))) (hgt : findIn K (.ref D) "__getattr__" = some none) (hsub : subIn K (.ref D) (.type "BaseException") = some true)
    (hdct : hasDictIn K D = true) (ha : findIn K (.ref D) "__class__" = some (some (.builtin "object.__class__")))
    (hn : specialIn K (.builtin "object.__class__") "__get__" = some (some (.builtin "getset_descriptor.__get__"))) (htk : takesIn K (.builtin "object.__class__") = some true) (hm : mroIn K D (.type "object") = some true)
    (X : K.In s.heap) (I : InstAt s.heap x ox D od) (h : Q (some (.ref D)) { s with toks := s.toks + 1 }) : wpAny (model prog w) A (getAttr? (.ref x) "__class__") Q E s := by
  have hf : findObj K D od "__class__" = some (.bind (.builtin "getset_descriptor.__get__") (.builtin "object.__class__")) := bk_findObj (by obtain ⟨cd, hc, _⟩ := any_some hdct; rw [hc]; rfl) ha hn htk
  obtain ⟨hp, g, d, t, os⟩ := s
  have L0 := I.type (M := model prog w)
  have L1 := looks_findIn (M := model prog w) X hga
  have L2 := looks_findIn (M := model prog w) X hgt
  have L3 := looks_find (M := model prog w) X I hf
  have sub : Looks (model prog w) hp (isInstance (.ref x) (.type "BaseException")) true := L0.andThen (looks_subIn X hsub)
  have hx0 : (false && onTheHeap (Value.builtin "BaseException.__getattribute__")) = false := rfl
  have hx2 : (Value.builtin "BaseException.__getattribute__" == Value.builtin "object.__getattribute__") = false := by decide +kernel
  have hx1 : (onTheHeap (Value.ref D) && Value.builtin "BaseException.__getattribute__" == Value.builtin "object.__getattribute__") = false := by rw [hx2]; rfl
  unfold getAttr? getAttrBy? getAttrBy
  refine wpAny_bind (wpAny_mkText (wpAny_bind (wpAny_attempt (wpAny_holding (wpAny_bind (L0.at (wpAny_bind (L1.at ?_))))))))
  show wpAny _ _ (if (onTheHeap (Value.ref D) && Value.builtin "BaseException.__getattribute__" == Value.builtin "object.__getattribute__") = true then _ else _) _ _ _
  rw [hx1, if_neg Bool.false_ne_true]
  unfold getAttrByItsOwn hookBefore
  refine wpAny_bind ?_
  rw [if_pos (show onTheHeap (Value.ref D) = true from rfl)]
  refine L2.at ?_
  refine wpAny_bind (wpAny_attempt (wpAny_holding ?_))
  unfold callGetattribute
  rw [hx0, if_neg Bool.false_ne_true]
  unfold boundAndCalled
  rw [PySem.F.excAttr_ValueError.ga.bind (.ref x)]
  refine wpAny_bind (wpAny_pure ?_)
  show wpAny _ _ (call (.builtin "BaseException.__getattribute__") [.ref x, .str "__class__" t]) _ _ _
  refine wpAny_call (codeAny_call_builtin PySem.F.excAttr_ValueError.ga.plain PySem.F.entry_bexc_ga ?_)
  refine @check_slot (model prog w) _ _ ⟨hp, g, d, t + 1, os⟩ "BaseException.__getattribute__" "BaseException" "__getattribute__" (.ref x) [.str "__class__" t] [] _ (by decide +kernel) (by decide +kernel) sub (PySem.F.args_bexc_ga (.ref x) (.str "__class__" t)) ?_
  unfold Builtin.«object.__getattribute__»
  refine wpAny_bind (wpAny_of_eq (a := ((Value.ref x : Value), [Value.str "__class__" t])) (by first | rfl | (simp only [slotArgs]; rfl)) ?_)
  refine wpAny_bind (wpAny_pure (wpAny_bind (L0.at (wpAny_bind (L3.at ?_)))))
  show wpAny _ _ (holding [Value.builtin "object.__class__"] (call (.builtin "getset_descriptor.__get__") [.builtin "object.__class__", .ref x, .ref D]) >>= ret) _ _ _
  refine wpAny_bind (wpAny_holding (wpAny_call (class_get (s := ⟨hp, g, d, t + 1, os⟩) (ox := ox) (od := od) X I hm ?_)))
  refine wpAny_pure ?_
  show wpAny _ _ (handedOut (.ref D)) _ _ _
  rw [handedOut_of (v := .ref D) rfl]
  first
    | exact wpAny_pure (wpAny_pure h)
    | exact wpAny_pure h
    | exact wpAny_pure (wpAny_bind (wpAny_pure (wpAny_pure h)))
theorem bk_kitx (hga : findIn K (.ref D) "__getattribute__" = some (some (.builtin "BaseException.__getattribute__"))) (hgt : findIn K (.ref D) "__getattr__" = some none) (hsub : subIn K (.ref D) (.type "BaseException") = some true) (hdct : hasDictIn K D = true) (ha : findIn K (.ref D) "__class__" = some (some (.builtin "object.__class__")))
    (hn : specialIn K (.builtin "object.__class__") "__get__" = some (some (.builtin "getset_descriptor.__get__"))) (htk : takesIn K (.builtin "object.__class__") = some true) (hm : mroIn K D (.type "object") = some true) :
    KitX K (.ref x) (.ref D) (fun h => InstAt h x ox D od) where
  ty := fun _ _ _ I => I.type
  it := fun _ _ X _ => by
    obtain ⟨cdD, hcD, _⟩ := any_some hdct
    unfold clsIn at hcD
    split at hcD
    · rename_i c' d' cd' sl' ho
      intro A' Q' E' s' k q
      unfold isType loadHead
      exact wpAny_bind (wpAny_loadPart (k _ _ (X _ _ ho)) (wpAny_pure q))
    · cases hcD
  ne := (handS_kitx_exc (x := x) (ox := ox) hga hgt hsub hdct ha hn htk hm).ne
  ca := fun X I k => bk_classE hga hgt hsub hdct ha hn htk hm X I k
end
end PySem.W
namespace BK
open PySem PySem.Spec L2
set_option autoImplicit false
/-! ### a caught exception: its class, its fields -/
/-- a tracked exception as the library sees it -/
theorem exc_inst {X : Cx} {pins : List (Addr × Obj)} {σ : L2.St} {H : Hp} {s : Shared} {a C : Addr} {d : Option Addr} (I : Inv X pins σ H s) (h : H a = some (exh a C d)) (hd : d = none ∨ ∃ dd fs, d = some dd ∧ H dd = some (.xd fs)) : ∃ (o : Obj) (od : Option Obj), PySem.W.InstAt s.heap a o C od := by
  obtain ⟨o, vs, h1, h2, h3⟩ := exh_at I.hok h
  have nc : PySem.W.notCls o = true := by unfold PySem.W.notCls; rw [h3] <;> rfl
  rcases hd with rfl | ⟨dd, fs, rfl, e⟩
  · exact ⟨o, none, h1, h2.1, nc, by rw [h2.2]; trivial⟩
  · have hx : ObjOk X.prog X.w H s.heap dd (.xd fs) := I.hok dd _ e
    obtain ⟨mA, hns, hr⟩ := hx
    obtain ⟨od, ho, hl⟩ := lookIn_ns hns
    exact ⟨o, some od, h1, h2.1, nc, by rw [h2.2]; exact ho⟩
def rIsH (K : PySem.W.Frag) : List V → Hp → VK → Prop := fun xs H Q => ∃ (a C : Addr) (d : Option Addr) (c : V) (u : Value) (b : Bool), xs = [.ref a, c] ∧ H a = some (exh a C d) ∧ (d = none ∨ ∃ dd fs, d = some dd ∧ H dd = some (.xd fs)) ∧ ExcC K C ∧ ClsV c u ∧ PySem.W.kitOne K (.ref C) u = some b ∧ Q (.bl b) H
section
variable {X : Cx}
theorem call_isH : CallR X (.builtin "isinstance") (rIsH X.K) := by
  intro pins s σ H xs us Q I r h
  obtain ⟨a, C, d, c, u, b, rfl, h1, h2, T, k, e, q⟩ := h
  obtain ⟨u1, u2, rfl, r1, r2⟩ := vals2 r
  have e2 := k.eq r2
  subst e2
  cases (show u1 = Value.ref a from r1)
  obtain ⟨o, od, J⟩ := exc_inst I h1 h2
  exact PySem.W.kia_one (PySem.W.bk_kitx T.hg T.hk T.hs T.hd T.ha T.hn T.ht T.hm) I.kIn J e (fun z => nomatch z) fun tk => ⟨.bl b, H, I.tok tk, rfl, q⟩
end
def cIsX (cs : List Nat) (tb : Nat → Bool) (r : R) : Option R := match r with
  | .va (.exc c _) => if cs.contains c = true then some (.va (.bl (tb c))) else none
  | _ => none
/-- what isinstance wants of the classes cs, asked by the class value u -/
def IsX (K : PySem.W.Frag) (ca : Nat → Addr) (cs : List Nat) (u : Value) (tb : Nat → Bool) : Prop := ∀ c ∈ cs, ExcC K (ca c) ∧ PySem.W.kitOne K (.ref (ca c)) u = some (tb c)
section
variable {X : Cx} {ca : Nat → Addr} {e : Expr} {m : Gm → Option R} {pos p p1 p2 p3 apos : Pos}
theorem dxd {K : PySem.W.Frag} {F H : Hp} {d : Option Addr} {fs : List (Str × V)} (s : Same F H) (h : d = none ∧ fs = [] ∨ ∃ dd, d = some dd ∧ F dd = some (.xd fs)) : d = none ∨ ∃ dd fs, d = some dd ∧ H dd = some (.xd fs) := by
  rcases h with ⟨h, _⟩ | ⟨dd, h1, h2⟩
  · exact .inl h
  · exact .inr ⟨dd, fs, h1, s _ _ h2⟩
theorem ev_isx {cs : List Nat} {tb : Nat → Bool} {x : Str} {v : V} {u : Value} (hg : Gl X "isinstance") (hm : X.mg "isinstance" = none) (hv : bootBuiltins "isinstance" = some (.builtin "isinstance")) (he : EV X ca e m) (hT : PE X (.Name x p1) (tC v)) (k : ClsV v u) (I : IsX X.K ca cs u tb)
    (hs1 : starEach [e, .Name x p1] X.env = (false, eval e X.env) :: starEach [.Name x p1] X.env := by rfl) (hs2 : starEach [.Name x p1] X.env = (false, eval (.Name x p1) X.env) :: starEach [] X.env := by rfl)
    (hpl : (backTo pos (starEach [.Name x p1] X.env)).any (·.1) = false := by rfl) : EV X ca (.Call (.Name "isinstance" p) [e, .Name x p1] [] pos) (e1 (cIsX cs tb) m) := by
  refine pe_imp (pe_callB call_isH hg hm hv (pa_cons he (pa_cons hT pa_nil hs2) hs1) (by decide) (by decide) hs1 hpl) ?_
  rintro σ H Q ⟨H0, F0, F, Γ, z, S, e, q⟩
  unfold e1 at e
  obtain ⟨r, er, e⟩ := Option.bind_eq_some_iff.mp e
  unfold cIsX at e
  split at e
  rotate_left
  · cases e
  rename_i c fs
  split at e
  rotate_left
  · cases e
  rename_i hc
  cases e
  refine ⟨H0, F0, F, Γ, _, S, er, fun v' H1 F1 x1 r1 => ?_⟩
  cases r1 with
  | exc g1 g2 g3 g4 =>
    obtain ⟨T, e2⟩ := I c (List.contains_iff_mem.mp hc)
    exact ⟨_, _, _, v, u, _, rfl, x1.fh _ _ g1, dxd (K := X.K) x1.fh g2, T, k, e2, q _ H1 F1 x1 (.bl _)⟩
/-- e.f of a caught exception -/
def xFld (cs : List Nat) (f : Str) (r : R) : Option R := match r with
  | .va (.exc c ds) => if cs.contains c = true then (((xflds c).zip ds).lookup f).map .va else none
  | _ => none
theorem pe_xfH {n : Str} {te : TE} (he : PE X e te) (hb : attributeBase e n X.env (eval e X.env) = eval e X.env) : PE X (.Attribute e n pos) fun σ H Q => te σ H fun x H1 => ∃ (a C dd : Addr) (fs : List (Str × V)) (v : V), x = .ref a ∧ H1 a = some (exh a C (some dd)) ∧ H1 dd = some (.xd fs) ∧ XfC X.K C ∧ PySem.W.findIn X.K (.ref C) n = some none ∧ fs.lookup n = some v ∧ Q v H1 := by
  refine ⟨fun pins s σ H Q I h => ?_⟩
  refine attr_of hb (thn (he.run pins s σ H _ I h) fun u s1 hh => ?_)
  obtain ⟨x, H1, I1, rx, a, C, dd, fs, v, ex, h1, h2, T, hno, l, q⟩ := hh
  subst ex
  obtain rfl : u = Value.ref a := rx
  obtain ⟨o, vs, g1, g2, g3⟩ := exh_at I1.hok h1
  have hx : ObjOk X.prog X.w H1 s1.heap dd (.xd fs) := I1.hok dd _ h2
  obtain ⟨mA, hns, hr⟩ := hx
  obtain ⟨od, ho, hl⟩ := lookIn_ns hns
  obtain ⟨u, hu, ru⟩ := RelO.some_of (v := v) (o := mA n) (by rw [← l]; exact hr n)
  have J : PySem.W.InstAt s1.heap a o C (some od) := ⟨g1, g2.1, by unfold PySem.W.notCls; rw [g3] <;> rfl, by rw [g2.2]; exact ho⟩
  exact HandSPX.exc_get I1.kIn J T.ga T.gg T.exC (PySem.W.findObj_own T.hdC hno rfl (by rw [hl, hu])) (handed_of ru) ⟨v, H1, I1.tok _, ru, q⟩
def XfS (K : PySem.W.Frag) (ca : Nat → Addr) (cs : List Nat) (f : Str) : Prop := ∀ c ∈ cs, XfC K (ca c) ∧ PySem.W.findIn K (.ref (ca c)) f = some none
theorem ev_xfld {cs : List Nat} {f : Str} (T : XfS X.K ca cs f) (he : EV X ca e m) (hb : attributeBase e f X.env (eval e X.env) = eval e X.env := by rfl) : EV X ca (.Attribute e f pos) (e1 (xFld cs f) m) := by
  refine pe_imp (pe_xfH he hb) ?_
  rintro σ H Q ⟨H0, F0, F, Γ, z, S, e, q⟩
  unfold e1 at e
  obtain ⟨r, er, e⟩ := Option.bind_eq_some_iff.mp e
  unfold xFld at e
  split at e
  rotate_left
  · cases e
  rename_i c ds
  split at e
  rotate_left
  · cases e
  rename_i hc
  obtain ⟨d, ed, rfl⟩ := Option.map_eq_some_iff.mp e
  refine ⟨H0, F0, F, Γ, _, S, er, fun v' H1 F1 x1 r1 => ?_⟩
  cases r1 with
  | exc g1 g2 g3 g4 =>
    obtain ⟨hm, v, e1, e2⟩ := lookup_den g3 g4 ed
    obtain ⟨T1, T2⟩ := T c (List.contains_iff_mem.mp hc)
    rcases g2 with ⟨_, rfl⟩ | ⟨dd, rfl, g2⟩
    · cases e1
    · exact ⟨_, _, dd, _, v, rfl, x1.fh _ _ g1, x1.fh _ _ g2, T1, T2, e1, q v H1 F1 x1 e2⟩
end
end BK
namespace BK
open PySem PySem.Spec L2
set_option autoImplicit false
/-! ### what is asked of exception classes, as Bools over a head's facts -/
theorem b_ValueError : bootBuiltins "ValueError" = some (.type "ValueError") := boot_ValueError
theorem oexcB_ok {K : PySem.W.Frag} {C : Addr} (q : oexcB K C = true) : ∃ nm q N bs bm sn sub ab col dd k0 k1 k2 k3 k5, K.lookup C = some (excClassObj nm q C N bs bm true sn sub ab col dd k0 k1 k2 k3 k5 "ValueError.__new__") ∧ PySem.HandSPX.refsVE bm = true := by
  unfold oexcB at q
  split at q
  · rename_i dd cd sl ho
    split at q
    · rename_i C' bm k0 k1 k2 k3 n k5 hm hs
      simp only [Bool.and_eq_true, beq_iff_eq, Bool.not_eq_true'] at q
      obtain ⟨⟨⟨⟨rfl, rfl⟩, hdel⟩, hdd⟩, hok⟩ := q
      obtain ⟨nm, bs, mro, ns, qn, hd, sn, sub, ab, col, del⟩ := cd
      dsimp only at hm hdel hdd
      subst hm hdel hdd
      have hsl : sl = #[k0, k1, k2, k3, some (.builtin "ValueError.__new__"), k5] := by
        obtain ⟨l⟩ := sl
        simp only at hs
        rw [hs]
      subst hsl
      exact ⟨nm, qn, ns, bs, bm, sn, sub, ab, col, dd, k0, k1, k2, k3, k5, ho, hok⟩
    · cases q
  · cases q
theorem oexB_ok {K : PySem.W.Frag} {C : Addr} (h : oexB K C = true) : OexC K C := by
  obtain ⟨h1, h⟩ := He.ba h
  obtain ⟨h2, h⟩ := He.ba h
  obtain ⟨h3, h⟩ := He.ba h
  obtain ⟨h4, h5⟩ := He.ba h
  exact ⟨oexcB_ok h1, He.eqO_ok h2, of_decide_eq_true h3, of_decide_eq_true h4, h5⟩
theorem exccB_ok {K : PySem.W.Frag} {C : Addr} (h : exccB K C = true) : ExcC K C := by
  obtain ⟨h1, h⟩ := He.ba h
  obtain ⟨h2, h⟩ := He.ba h
  obtain ⟨h3, h⟩ := He.ba h
  obtain ⟨h4, h⟩ := He.ba h
  obtain ⟨h5, h⟩ := He.ba h
  obtain ⟨h6, h⟩ := He.ba h
  obtain ⟨h7, h8⟩ := He.ba h
  exact ⟨He.eqO_ok h1, He.eqO_ok h2, of_decide_eq_true h3, h4, He.eqO_ok h5, He.eqO_ok h6, of_decide_eq_true h7, of_decide_eq_true h8⟩
/-- all of the classes cs -/
theorem allC_ok {cs : List Nat} {p : Nat → Bool} (h : allC cs p = true) : ∀ c ∈ cs, p c = true := List.all_eq_true.mp h
theorem xt_ok {K : PySem.W.Frag} {ca : Nat → Addr} {cs : List Nat} {ct : Nat} (h : allC cs (fun c => decide (PySem.W.exmOne K (.ref (ca c)) (.ref (ca ct)) = some true)) = true) : ∀ c ∈ cs, PySem.W.exmOne K (.ref (ca c)) (.ref (ca ct)) = some true := fun c hc => of_decide_eq_true (allC_ok h c hc)
theorem xe_ok {K : PySem.W.Frag} {ca : Nat → Addr} {cs : List Nat} (h : allC cs (fun c => exccB K (ca c)) = true) : ∀ c ∈ cs, ExcC K (ca c) := fun c hc => exccB_ok (allC_ok h c hc)
theorem xi_ok {K : PySem.W.Frag} {ca : Nat → Addr} {cs : List Nat} {u : Value} {tb : Nat → Bool} (he : ∀ c ∈ cs, ExcC K (ca c)) (h : allC cs (fun c => decide (PySem.W.kitOne K (.ref (ca c)) u = some (tb c))) = true) : IsX K ca cs u tb := fun c hc => ⟨he c hc, of_decide_eq_true (allC_ok h c hc)⟩
theorem xf_ok {K : PySem.W.Frag} {ca : Nat → Addr} {cs : List Nat} {f : Str} (h : allC cs (fun c => xfB K (ca c) && He.eqO (PySem.W.findIn K (.ref (ca c)) f) (some none)) = true) : XfS K ca cs f := fun c hc => by
  obtain ⟨h1, h2⟩ := He.ba (allC_ok h c hc)
  exact ⟨xfB_ok h1, He.eqO_ok h2⟩
theorem ra_ok {P : Program} {w : World} {K : PySem.W.Frag} {mg : Str → Option Value} {base : Heap} {ca : Nat → Addr} {k c : Nat} {x : Str} {fI : Addr} {fd : FuncData} {ps : List Str} (h : raB K (ca c) fI = true) (G : OexC K (ca c) → FnOk P w K mg base CX0 k fI fd ps (spXI (ca c) (xflds c).reverse)) (hb : Binds K fd ps []) (hm : mg x = some (.ref (ca c))) : Raiser P w K mg base ca k c x := by
  obtain ⟨h1, h⟩ := He.ba h
  obtain ⟨h2, h3⟩ := He.ba h
  exact ⟨fI, fd, ps, oexB_ok h1, He.eqO_ok h2, of_decide_eq_true h3, G (oexB_ok h1), hb, hm⟩
theorem fcvB_ok {o : Option PySem.W.CFound} (h : fcvB o = true) : o = some (.val (.builtin "ValueError.__init__")) := by
  unfold fcvB at h
  split at h
  · rw [of_decide_eq_true h]
  · cases h
/-! further contexts -/
end BK
namespace BK
open PySem PySem.Spec L2
open PyProof.Rows (envOfC)
set_option autoImplicit false
/-! ### what answers or raises, in one function -/
abbrev UE := Gm → Option (R ⊕ Exc)
def nE (u : UE) : Gm → Option R := fun g => match u g with
  | some (.inl r) => some r
  | _ => none
def xE (u : UE) : Gm → Option Exc := fun g => match u g with
  | some (.inr x) => some x
  | _ => none
theorem nE_some {u : UE} {g : Gm} {r : R} (h : nE u g = some r) : u g = some (.inl r) := by
  unfold nE at h
  split at h
  · rename_i e; cases h; exact e
  · cases h
theorem xE_some {u : UE} {g : Gm} {r : Exc} (h : xE u g = some r) : u g = some (.inr r) := by
  unfold xE at h
  split at h
  · rename_i e; cases h; exact e
  · cases h
theorem nE_of {u : UE} {g : Gm} {r : R} (h : u g = some (.inl r)) : nE u g = some r := by
  unfold nE
  rw [h]
theorem xE_of {u : UE} {g : Gm} {r : Exc} (h : u g = some (.inr r)) : xE u g = some r := by
  unfold xE
  rw [h]
def ups (m : Gm → Option Out) (N n : Nat) : List D → Option (R ⊕ Exc) := fun ds => if ds.length = n then match m (ds.map Slot.va ++ List.replicate (N - n) Slot.un) with
  | some (.rt r) => some (.inl (retR r))
  | some (.nx _) => some (.inl (.va .non))
  | some (.ex x) => some (.inr x)
  | _ => none
  else none
theorem ups_n {m : Gm → Option Out} {N n : Nat} {ds : List D} {r : R} (h : ups m N n ds = some (.inl r)) : phi m N n ds = some r := by
  unfold ups at h
  unfold phi
  split at h
  · rename_i hl
    rw [if_pos hl]
    split at h
    · rename_i e; cases h; rw [e]
    · rename_i e; cases h; rw [e]
    · cases h
    · cases h
  · cases h
theorem ups_x {m : Gm → Option Out} {N n : Nat} {ds : List D} {x : Exc} (h : ups m N n ds = some (.inr x)) : psi (exn m) N n ds = some x := by
  unfold ups at h
  unfold psi
  split at h
  · rename_i hl
    rw [if_pos hl]
    split at h
    · cases h
    · cases h
    · rename_i e; cases h; exact exn_of e
    · cases h
  · cases h
/-- the call by values -/
def callU (υ : List D → Option (R ⊕ Exc)) (rs : List R) : Option (R ⊕ Exc) := if rs.any R.isTm = true then none else (υ (rs.map R.d)).bind fun z => match z with
  | .inl r => if (!rs.any R.isBw || r.lf || r.lfk (lentK rs)) = true then some (.inl r) else none
  | .inr x => some (.inr x)
theorem callU_n {υ : List D → Option (R ⊕ Exc)} {φ : Phi} (hφ : ∀ ds r, υ ds = some (.inl r) → φ ds = some r) {rs : List R} {r : R} (h : callU υ rs = some (.inl r)) : callR φ [] rs = some r := by
  unfold callU at h
  unfold callR
  split at h
  · cases h
  · rename_i c
    rw [if_neg c]
    obtain ⟨z, ez, h⟩ := Option.bind_eq_some_iff.mp h
    cases z with
    | inl q =>
      have h : (if (!rs.any R.isBw || q.lf || q.lfk (lentK rs)) = true then some (Sum.inl q) else none : Option (R ⊕ Exc)) = some (.inl r) := h
      split at h
      · rename_i c2
        cases h
        rw [List.append_nil, hφ _ _ ez]
        show (if _ then _ else _) = _
        rw [if_pos c2]
      · cases h
    | inr x =>
      cases h
theorem callU_x {υ : List D → Option (R ⊕ Exc)} {ψ : List D → Option Exc} (hψ : ∀ ds x, υ ds = some (.inr x) → ψ ds = some x) {rs : List R} {x : Exc} (h : callU υ rs = some (.inr x)) : callX ψ rs = some x := by
  unfold callU at h
  unfold callX
  split at h
  · cases h
  · rename_i c
    rw [if_neg c]
    obtain ⟨z, ez, h⟩ := Option.bind_eq_some_iff.mp h
    cases z with
    | inl q =>
      have h : (if (!rs.any R.isBw || q.lf || q.lfk (lentK rs)) = true then some (Sum.inl q) else none : Option (R ⊕ Exc)) = some (.inr x) := h
      split at h <;> cases h
    | inr y =>
      cases h
      exact hψ _ _ ez
section
variable {X : Cx} {ca : Nat → Addr} {e : Expr} {es : List Expr} {pos p apos : Pos}
theorem ev_imp {m m' : Gm → Option R} (h : EV X ca e m) (i : ∀ g r, m' g = some r → m g = some r) : EV X ca e m' := pe_imp h fun σ H Q ⟨H0, F0, F, Γ, r, S, e, q⟩ => ⟨H0, F0, F, Γ, r, S, i _ _ e, q⟩
theorem xv_imp {m m' : Gm → Option Exc} (h : XV X ca e m) (i : ∀ g x, m' g = some x → m g = some x) : XV X ca e m' := fun W tk => pe_imp (h W tk) fun σ H Q ⟨H0, F0, F, Γ, r, S, e, q⟩ => ⟨H0, F0, F, Γ, r, S, i _ _ e, q⟩
/-- an expression that answers or raises -/
structure UV (X : Cx) (ca : Nat → Addr) (e : Expr) (u : UE) : Prop where
  n : EV X ca e (nE u)
  x : XV X ca e (xE u)
/-- f(..), f raises -/
def uC (υ : List D → Option (R ⊕ Exc)) (ms : Gm → Option (List R)) : UE := fun g => (ms g).bind (callU υ)
theorem uv_call {j : Nat} {x : Str} {υ : List D → Option (R ⊕ Exc)} {φ : Phi} {ψ : List D → Option Exc} {ms : Gm → Option (List R)} (C : Callee X.prog X.w X.K X.mg X.base ca j x φ []) (CX : CalleeX X.prog X.w X.K X.mg X.base ca j x ψ) (hφ : ∀ ds r, υ ds = some (.inl r) → φ ds = some r) (hψ : ∀ ds x, υ ds = some (.inr x) → ψ ds = some x)
    (hr : Room j X.A) (hg : Gl X x) (ha : AV X ca (e :: es) ms) (hdb : (x == ("__debug__" : Str)) = false := by decide)
    (he : starEach (e :: es) X.env = (false, eval e X.env) :: starEach es X.env := by rfl) (hpl : (backTo pos (starEach es X.env)).any (·.1) = false := by rfl) : UV X ca (.Call (.Name x p) (e :: es) [] pos) (uC υ ms) := by
  refine ⟨ev_imp (ev_fn C hr hg ha hdb he hpl) fun g r z => ?_, xv_imp (xv_call CX hr hg ha hdb he hpl) fun g r z => ?_⟩
  · obtain ⟨rs, er, z⟩ := Option.bind_eq_some_iff.mp (nE_some z)
    unfold eA
    rw [er]
    exact callU_n hφ z
  · obtain ⟨rs, er, z⟩ := Option.bind_eq_some_iff.mp (xE_some z)
    unfold xC
    rw [er]
    exact callU_x hψ z
end
/-! statements -/
def NoEx (m : Gm → Option Out) : Prop := ∀ g x, m g ≠ some (.ex x)
def sU (u : UE) (k : R → Gm → Option Out) : Gm → Option Out := fun g => (u g).bind fun z => match z with
  | .inl r => k r g
  | .inr x => some (.ex x)
theorem sU_inl {u : UE} {k : R → Gm → Option Out} {g : Gm} {r : R} (h : u g = some (.inl r)) : sU u k g = k r g := by
  unfold sU
  rw [h]
  rfl
theorem sU_inr {u : UE} {k : R → Gm → Option Out} {g : Gm} {x : Exc} (h : u g = some (.inr x)) : sU u k g = some (.ex x) := by
  unfold sU
  rw [h]
  rfl
section
variable {X : Cx} {ca : Nat → Addr} {e : Expr} {st : Stmt} {rest : List Stmt} {m n : Gm → Option Out} {T T' : List Nat} {pos : Pos}
theorem sv_imp {m' : Gm → Option Out} (h : SV X ca st m T) (i : ∀ g o, m' g = some o → (∃ x, o = .ex x) ∨ m g = some o) : SV X ca st m' T := by
  refine ⟨ps_imp h.ps ?_, fun g o e => ?_⟩
  · rintro D σ H ⟨H0, F0, F, Γ, o, S, e, p⟩
    rcases i _ _ e with ⟨x, rfl⟩ | e
    · exact p.elim
    · exact ⟨H0, F0, F, Γ, o, S, e, p⟩
  · rcases i _ _ e with ⟨x, rfl⟩ | e
    · trivial
    · exact h.kp g o e
theorem x0_imp {m m' : Gm → Option Exc} (h : X0 X ca st m) (i : ∀ g x, m' g = some x → m g = some x) : X0 X ca st m' := fun W tk => ps_imp (h W tk) fun D σ H ⟨H0, F0, F, Γ, r, S, e, q⟩ => ⟨H0, F0, F, Γ, r, S, i _ _ e, q⟩
theorem xs_imp {m m' : Gm → Option Exc} (h : XS X ca st m) (i : ∀ g x, m' g = some x → m g = some x) : XS X ca st m' := fun W tk => ps_imp (h W tk) fun D σ H ⟨H0, F0, F, Γ, r, S, e, q⟩ => ⟨H0, F0, F, Γ, r, S, i _ _ e, q⟩
theorem x0s_imp {m m' : Gm → Option Exc} (h : X0s X ca rest m) (i : ∀ g x, m' g = some x → m g = some x) : X0s X ca rest m' := fun W tk => pss_imp (h W tk) fun D σ H ⟨H0, F0, F, Γ, r, S, e, q⟩ => ⟨H0, F0, F, Γ, r, S, i _ _ e, q⟩
theorem xss_imp {m m' : Gm → Option Exc} (h : XSs X ca rest m) (i : ∀ g x, m' g = some x → m g = some x) : XSs X ca rest m' := fun W tk => pss_imp (h W tk) fun D σ H ⟨H0, F0, F, Γ, r, S, e, q⟩ => ⟨H0, F0, F, Γ, r, S, i _ _ e, q⟩
theorem sv_u {u : UE} {k : R → Gm → Option Out} (h : SV X ca st (fun g => (nE u g).bind fun r => k r g) T) : SV X ca st (sU u k) T := sv_imp h fun g o z => by
  obtain ⟨q, eq, z⟩ := Option.bind_eq_some_iff.mp z
  cases q with
  | inl r =>
    refine .inr ?_
    show (nE u g).bind _ = _
    rw [nE_of eq]
    exact z
  | inr x => cases z; exact .inl ⟨x, rfl⟩
theorem x0_u {u : UE} {k : R → Gm → Option Out} (h : X0 X ca st (xE u)) (nk : ∀ r g x, k r g ≠ some (.ex x)) : X0 X ca st (exn (sU u k)) := x0_imp h fun g x z => by
  obtain ⟨q, eq, z⟩ := Option.bind_eq_some_iff.mp (exn_some z)
  cases q with
  | inl r => exact absurd z (nk r g x)
  | inr y => cases z; exact xE_of eq
def kAsg (f : D → Gm → Option Gm) : R → Gm → Option Out := fun r g => match r with
  | .va d => (f d g).map .nx
  | _ => none
def kRet : R → Gm → Option Out := fun r _ => some (.rt (retR r))
def kExp : R → Gm → Option Out := fun _ g => some (.nx g)
theorem kAsg_no (f : D → Gm → Option Gm) (r : R) (g : Gm) (x : Exc) : kAsg f r g ≠ some (.ex x) := fun h => by
  cases r with
  | va d =>
    obtain ⟨_, _, h⟩ := Option.map_eq_some_iff.mp h
    cases h
  | tm ds => cases h
  | bw j ds => cases h
theorem kRet_no (r : R) (g : Gm) (x : Exc) : kRet r g ≠ some (.ex x) := fun h => by cases h
theorem kExp_no (r : R) (g : Gm) (x : Exc) : kExp r g ≠ some (.ex x) := fun h => by cases h
theorem svU_ret {u : UE} (he : UV X ca e u) : SV X ca (.Return (some e) pos) (sU u kRet) [] := sv_u (sv_imp (sv_ret he.n) fun g o z => .inr (by
  obtain ⟨r, er, z⟩ := Option.bind_eq_some_iff.mp z
  unfold sRet
  rw [er]
  exact z))
theorem x0U_ret {u : UE} (he : UV X ca e u) : X0 X ca (.Return (some e) pos) (exn (sU u kRet)) := x0_u (x0_ret he.x) kRet_no
theorem svU_expr {u : UE} (he : UV X ca e u) (hs : swapsWith e none pos.line X.env = pure false := by rfl) : SV X ca (.Expr e pos) (sU u kExp) [] := sv_u (sv_imp (sv_expr he.n hs) fun g o z => .inr (by
  obtain ⟨r, er, z⟩ := Option.bind_eq_some_iff.mp z
  unfold sExp
  rw [er]
  exact z))
theorem x0U_expr {u : UE} (he : UV X ca e u) (hs : swapsWith e none pos.line X.env = pure false := by rfl) : X0 X ca (.Expr e pos) (exn (sU u kExp)) := x0_u (x0_expr he.x hs) kExp_no
/-- raise -/
def sRs (m : Gm → Option Exc) : Gm → Option Out := fun g => (m g).map .ex
theorem svU_raise {mx : Gm → Option Exc} : SV X ca st (sRs mx) [] := sv_imp (sv_never) fun g o z => by
  obtain ⟨x, _, rfl⟩ := Option.map_eq_some_iff.mp z
  exact .inl ⟨x, rfl⟩
theorem x0U_raise {mx : Gm → Option Exc} (h : X0 X ca st mx) : X0 X ca st (exn (sRs mx)) := x0_imp h fun g x z => by
  obtain ⟨y, ey, z⟩ := Option.map_eq_some_iff.mp (exn_some z)
  cases z
  exact ey
/-- blocks -/
theorem xsU_cons (h0 : SV X.nox ca st m T) (h1 : XS X ca st (exn m)) (h2 : XSs X ca rest (exn n)) : XSs X ca (st :: rest) (exn (sCons m n)) := xss_imp (xss_or (xss_head h1) (xss_tail h0 h2)) fun g x z => by
  obtain ⟨o, eo, z⟩ := Option.bind_eq_some_iff.mp (exn_some z)
  unfold xOr
  cases o with
  | nx g' =>
    have : exn m g = none := by unfold exn; rw [eo]
    rw [this]
    show xSeq m (exn n) g = some x
    unfold xSeq
    rw [eo]
    exact exn_of z
  | rt r => cases z
  | bk g' => cases z
  | ct g' => cases z
  | ex y => cases z; rw [exn_of eo]; rfl
/-- .. whose first does not raise -/
theorem xsU_tail (h0 : SV X.nox ca st m T) (hn : NoEx m) (h2 : XSs X ca rest (exn n)) : XSs X ca (st :: rest) (exn (sCons m n)) := xss_imp (xss_tail h0 h2) fun g x z => by
  obtain ⟨o, eo, z⟩ := Option.bind_eq_some_iff.mp (exn_some z)
  unfold xSeq
  rw [eo]
  cases o with
  | nx g' => exact exn_of z
  | rt r => cases z
  | bk g' => cases z
  | ct g' => cases z
  | ex y => exact absurd eo (hn g y)
/-- .. whose rest does not raise -/
theorem xsU_head (h1 : XS X ca st (exn m)) (hn : NoEx n) : XSs X ca (st :: rest) (exn (sCons m n)) := xss_imp (xss_head h1) fun g x z => by
  obtain ⟨o, eo, z⟩ := Option.bind_eq_some_iff.mp (exn_some z)
  cases o with
  | nx g' => exact absurd z (hn g' x)
  | rt r => cases z
  | bk g' => cases z
  | ct g' => cases z
  | ex y => cases z; exact exn_of eo
theorem x0U_one (h1 : X0 X ca st (exn m)) : X0s X ca (st :: rest) (exn (sCons m sNil)) := x0s_imp (x0_one h1) fun g x z => by
  obtain ⟨o, eo, z⟩ := Option.bind_eq_some_iff.mp (exn_some z)
  cases o with
  | nx g' => cases z
  | rt r => cases z
  | bk g' => cases z
  | ct g' => cases z
  | ex y => cases z; exact exn_of eo
theorem xsU_no (hn : NoEx n) : XSs X ca rest (exn n) := xss_imp xss_no fun g x z => absurd (exn_some z) (hn g x)
theorem ifX {c : Gm → Option Bool} {g : Gm} {x : Exc} (z : exn (sIf c m n) g = some x) : xIf c (exn m) (exn n) g = some x := by
  obtain ⟨k, ek, z⟩ := Option.bind_eq_some_iff.mp (exn_some z)
  unfold xIf
  rw [ek]
  cases k with
  | true => exact exn_of z
  | false => exact exn_of z
theorem xsU_if {c : Expr} {a b : List Stmt} {mc : Gm → Option Bool} (hc : TV X ca c mc) (ha : XSs X ca a (exn m)) (hb : XSs X ca b (exn n)) : XS X ca (.If c a b pos) (exn (sIf mc m n)) := xs_imp (xs_if hc ha hb) fun g x z => ifX z
end
/-! no statement of these raises -/
section
variable {m n : Gm → Option Out}
theorem noex_nil : NoEx sNil := fun g x h => by cases h
theorem noex_cons (h1 : NoEx m) (h2 : NoEx n) : NoEx (sCons m n) := fun g x h => by
  obtain ⟨o, eo, z⟩ := Option.bind_eq_some_iff.mp h
  cases o with
  | nx g' => exact h2 g' x z
  | rt r => cases z
  | bk g' => cases z
  | ct g' => cases z
  | ex y => exact h1 g y eo
theorem noex_if {c : Gm → Option Bool} (h1 : NoEx m) (h2 : NoEx n) : NoEx (sIf c m n) := fun g x h => by
  obtain ⟨k, ek, z⟩ := Option.bind_eq_some_iff.mp h
  cases k with
  | true => exact h1 g x z
  | false => exact h2 g x z
theorem noex_forL {f : D → Gm → Option Gm} (h1 : NoEx m) : ∀ (ds : List D) (g : Gm) (x : Exc), forL f m ds g ≠ some (.ex x)
  | [], g, x, h => by cases h
  | d :: ds, g, x, h => by
    unfold forL at h
    obtain ⟨g1, e1, h⟩ := Option.bind_eq_some_iff.mp h
    obtain ⟨o, eo, h⟩ := Option.bind_eq_some_iff.mp h
    cases o with
    | nx g2 => exact noex_forL h1 ds g2 x h
    | ct g2 => exact noex_forL h1 ds g2 x h
    | bk g2 => cases h
    | rt r => cases h
    | ex y => exact h1 _ _ eo
theorem noex_for {mi : Gm → Option (List Nat × List D)} {f : D → Gm → Option Gm} {T : List Nat} (h1 : NoEx m) : NoEx (sFor mi f m T) := fun g x h => by
  obtain ⟨p, ep, z⟩ := Option.bind_eq_some_iff.mp h
  have z : (if p.1.all (fun j => !T.contains j) = true then forL f m p.2 g else none) = some (.ex x) := z
  split at z
  · exact noex_forL h1 _ _ _ z
  · cases z
theorem noex_wh {c : Gm → Option Bool} (h1 : NoEx m) : ∀ N, NoEx (sWh c m N)
  | 0, g, x, h => by cases h
  | N + 1, g, x, h => by
    unfold sWh at h
    obtain ⟨k, ek, h⟩ := Option.bind_eq_some_iff.mp h
    cases k with
    | false => rw [if_neg (by decide)] at h; cases h
    | true =>
      rw [if_pos rfl] at h
      obtain ⟨o, eo, h⟩ := Option.bind_eq_some_iff.mp h
      cases o with
      | nx g2 => exact noex_wh h1 N g2 x h
      | ct g2 => exact noex_wh h1 N g2 x h
      | bk g2 => cases h
      | rt r => cases h
      | ex y => exact h1 _ _ eo
theorem noex_fz {i : Nat} (h1 : NoEx m) : NoEx (sFz i m) := fun g x h => by
  unfold sFz at h
  split at h
  · exact h1 _ _ h
  · exact h1 _ _ h
theorem noex_set {i : Nat} {a : Gm → Option R} : NoEx (sSet i a) := fun g x h => by
  obtain ⟨r, er, h⟩ := Option.bind_eq_some_iff.mp h
  obtain ⟨_, _, h⟩ := Option.map_eq_some_iff.mp h
  cases h
theorem noex_asg {a : Gm → Option R} {f : D → Gm → Option Gm} : NoEx (sAsg a f) := fun g x h => by
  obtain ⟨r, er, h⟩ := Option.bind_eq_some_iff.mp h
  exact kAsg_no f r g x h
theorem noex_ret {a : Gm → Option R} : NoEx (sRet a) := fun g x h => by
  obtain ⟨_, _, h⟩ := Option.map_eq_some_iff.mp h
  cases h
theorem noex_retN : NoEx sRetN := fun g x h => by cases h
theorem noex_nv : NoEx sNv := fun g x h => by cases h
theorem noex_bk : NoEx sBk := fun g x h => by cases h
theorem noex_ct : NoEx sCt := fun g x h => by cases h
theorem noex_exp {a : Gm → Option R} : NoEx (sExp a) := fun g x h => by
  obtain ⟨_, _, h⟩ := Option.map_eq_some_iff.mp h
  cases h
theorem noex_app {i : Nat} {a : Gm → Option R} : NoEx (sApp i a) := fun g x h => by
  unfold sApp at h
  split at h
  · obtain ⟨r, er, h⟩ := Option.bind_eq_some_iff.mp h
    split at h <;> cases h
  · cases h
theorem noex_ext {i : Nat} {a : Gm → Option R} : NoEx (sExt i a) := fun g x h => by
  unfold sExt at h
  split at h
  · obtain ⟨r, er, h⟩ := Option.bind_eq_some_iff.mp h
    repeat' (first | split at h | cases h)
  · cases h
theorem noex_aug {i : Nat} {f : R → R → Option R} {a : Gm → Option R} : NoEx (sAug i f a) := fun g x h => by
  obtain ⟨r, er, h⟩ := Option.bind_eq_some_iff.mp h
  obtain ⟨r, er, h⟩ := Option.bind_eq_some_iff.mp h
  obtain ⟨r, er, h⟩ := Option.bind_eq_some_iff.mp h
  obtain ⟨_, _, h⟩ := Option.map_eq_some_iff.mp h
  cases h
theorem noex_mv {i j : Nat} : NoEx (sMv i j) := fun g x h => by
  unfold sMv at h
  repeat' (first | split at h | cases h)
end
end BK
namespace BK
end BK
namespace BK
open PySem PySem.Spec L2
set_option autoImplicit false
/-! ### in plain types: what answers or raises -/
/-- an exception that is held -/
def eX (x : Exc) : D := .exc x.c (x.fs.map aD)
def bU {α β : Type} (ι : Exc → β) (p : Option (α ⊕ Exc)) (t : α → Option β) : Option β := p.bind fun z => match z with
  | .inl v => t v
  | .inr x => some (ι x)
/-- try: the body's end, or what is left where x was caught -/
def tryU {σ : Type} (b : Option (σ ⊕ Exc)) (h : Exc → Option σ) : Option σ := b.bind fun z => match z with
  | .inl s => some s
  | .inr x => h x
def KU {α : Type} (k : α → R) : α ⊕ Exc → R ⊕ Exc
  | .inl v => .inl (k v)
  | .inr x => .inr x
def PU {α : Type} (k : α → R) : α ⊕ Exc → Out → Prop
  | .inl v, o => fnR (some o) = some (k v)
  | .inr x, o => o = .ex x
/-- the body of a try -/
def PB {σ : Type} (St : σ → Gm → Prop) : σ ⊕ Exc → Out → Prop
  | .inl s, o => ∃ g, o = .nx g ∧ St s g
  | .inr x, o => o = .ex x
theorem ups_def (m : Gm → Option Out) (N n : Nat) (ds : List D) (h : ds.length = n) : ups m N n ds = match m (ds.map Slot.va ++ List.replicate (N - n) Slot.un) with
  | some (.rt r) => some (.inl (retR r))
  | some (.nx _) => some (.inl (.va .non))
  | some (.ex x) => some (.inr x)
  | _ => none := if_pos h
theorem fnR_ups {m : Gm → Option Out} {N n : Nat} {ds : List D} (hl : ds.length = n) {o : Out} {r : R} (h : m (ds.map Slot.va ++ List.replicate (N - n) Slot.un) = some o) (k : fnR (some o) = some r) : ups m N n ds = some (.inl r) := by
  rw [ups_def m N n ds hl, h]
  cases o with
  | nx g => cases k; rfl
  | rt q => cases k; rfl
  | bk g => cases k
  | ct g => cases k
  | ex x => cases k
theorem sim_upsN {α : Type} {m : Gm → Option Out} {N n : Nat} {ds : List D} {s : Option α} {k : α → R} (hl : ds.length = n) (h : J m nxt (ds.map Slot.va ++ List.replicate (N - n) Slot.un) s (PF k)) {x : α} (e : s = some x) : ups m N n ds = some (.inl (k x)) := by
  obtain ⟨o, e1, e2⟩ := h x e
  rw [bO_nxt] at e1
  exact fnR_ups hl e1 e2
theorem sim_ups {α : Type} {m : Gm → Option Out} {N n : Nat} {ds : List D} {s : Option (α ⊕ Exc)} {k : α → R} (hl : ds.length = n) (h : J m nxt (ds.map Slot.va ++ List.replicate (N - n) Slot.un) s (PU k)) {x : α ⊕ Exc} (e : s = some x) : ups m N n ds = some (KU k x) := by
  obtain ⟨o, e1, e2⟩ := h x e
  rw [bO_nxt] at e1
  cases x with
  | inl v => exact fnR_ups hl e1 e2
  | inr x =>
    have e2 : o = .ex x := e2
    subst e2
    rw [ups_def m N n ds hl, e1]
    rfl
/-! calls -/
theorem f_cuN {υ : List D → Option (R ⊕ Exc)} {rs : List R} {z : R} (h : υ (rs.map R.d) = some (.inl z)) (ht : rs.any R.isTm = false) (hb : rs.any R.isBw = false ∨ z.lf = true ∨ z.lfk (lentK rs) = true) : callU υ rs = some (.inl z) := by
  unfold callU
  rw [ht, if_neg (by decide), h]
  show (if _ then _ else _) = _
  rcases hb with hb | hb | hb
  · rw [hb]; rfl
  · rw [hb, Bool.or_true, Bool.true_or, if_pos rfl]
  · rw [hb, Bool.or_true, if_pos rfl]
theorem f_cuX {υ : List D → Option (R ⊕ Exc)} {rs : List R} {x : Exc} (h : υ (rs.map R.d) = some (.inr x)) (ht : rs.any R.isTm = false) : callU υ rs = some (.inr x) := by
  unfold callU
  rw [ht, if_neg (by decide), h]
  rfl
section
variable {g : Gm} {ms : Gm → Option (List R)} {rs : List R} {υ : List D → Option (R ⊕ Exc)} {u : UE} {F : R → Option R}
theorem x_uC {z : R ⊕ Exc} (h : ms g = some rs) (k : callU υ rs = some z) : uC υ ms g = some z := by
  unfold uC
  rw [h]
  exact k
theorem x_rs {c : Nat} {fs : List (Int ⊕ Str)} (h : ms g = some rs) (k : atoms rs = some fs) (hl : (fs.length == (xflds c).length) = true) : xRaise c ms g = some ⟨c, fs.reverse⟩ := by
  unfold xRaise
  rw [h]
  show (atoms rs).bind _ = _
  rw [k]
  show (if _ then _ else _) = _
  rw [if_pos hl]
end
/-! blocks -/
section
variable {α γ σ : Type} {b n : Gm → Option Out} {g g1 : Gm} {P : α → Out → Prop} {s : Option α} {i : Nat} {u : UE} {m : Gm → Option Out}
theorem j_bU {ι : Exc → α} {p : Option (γ ⊕ Exc)} {t : γ → Option α} (hx : ∀ x, p = some (.inr x) → m g = some (.ex x)) (hP : ∀ x, P (ι x) (.ex x)) (h : ∀ v, p = some (.inl v) → J (sCons m b) n g (t v) P) : J (sCons m b) n g (bU ι p t) P := by
  cases p with
  | none => exact fun _ e => by cases e
  | some z =>
    cases z with
    | inl v => exact h v rfl
    | inr x =>
      unfold J
      rw [sCons_def, hx x rfl]
      exact sm_ret rfl (hP x)
theorem j_expU {r : R} (h : u g = some (.inl r)) (k : J b n g s P) : J (sCons (sU u kExp) b) n g s P :=
  j_seq (a := sU u kExp) (g1 := g) (by rw [sU_inl h]; rfl) k
theorem j_retU {r : R} {v : α} (h : u g = some (.inl r)) (p : P v (.rt (retR r))) : J (sCons (sU u kRet) b) n g (some v) P := by
  unfold J
  rw [sCons_def, sU_inl h]
  exact sm_ret rfl p
theorem j_rs {mx : Gm → Option Exc} {x : Exc} {v : α} (h : mx g = some x) (p : P v (.ex x)) : J (sCons (sRs mx) b) n g (some v) P := by
  unfold J
  rw [sCons_def]
  unfold sRs
  rw [h]
  exact sm_ret rfl p
theorem jb_end {St : σ → Gm → Prop} {st : σ} (h : St st g) : J sNil nxt g (some (.inl st)) (PB St) := j_nil (P := PB St) (v := .inl st) ⟨g, rfl, h⟩
end
/-! loops that may raise -/
section
variable {α : Type} {b n : Gm → Option Out} {g g1 : Gm} {P : α → Out → Prop}
def Fin (o : Out) : Prop := (∃ r, o = .rt r) ∨ ∃ x, o = .ex x
end
/-! a caught exception read -/
def xInt (f : Str) (x : Exc) : Option Int := match ((xflds x.c).zip x.fs).lookup f with
  | some (.inl n) => some n
  | _ => none
theorem lookup_mapA {f : Str} : ∀ (ns : List Str) (fs : List (Int ⊕ Str)), (ns.zip (fs.map aD)).lookup f = ((ns.zip fs).lookup f).map aD
  | [], _ => rfl
  | n :: ns, [] => rfl
  | n :: ns, a :: fs => by
    rw [List.map_cons, List.zip_cons_cons, List.zip_cons_cons, List.lookup_cons, List.lookup_cons]
    cases (f == n) with
    | true => rfl
    | false => exact lookup_mapA ns fs
theorem f_isx {cs : List Nat} {tb : Nat → Bool} {x : Exc} (h : cs.contains x.c = true) : cIsX cs tb (.va (eX x)) = some (.va (.bl (tb x.c))) := by
  show (if cs.contains x.c = true then _ else _) = _
  rw [if_pos h]
theorem f_xfI {cs : List Nat} {f : Str} {x : Exc} {n : Int} (h : cs.contains x.c = true) (k : xInt f x = some n) : xFld cs f (.va (eX x)) = some (.va (.int n)) := by
  show (if cs.contains x.c = true then (((xflds x.c).zip (x.fs.map aD)).lookup f).map R.va else none) = _
  rw [if_pos h, lookup_mapA]
  unfold xInt at k
  split at k
  · rename_i e; cases k; rw [e]; rfl
  · cases k
end BK
namespace BK
open PySem PySem.Spec L2
set_option autoImplicit false
/-! ### a text's own method without arguments: upper -/
end BK
namespace L2
open PySem PySem.Spec BK
set_option autoImplicit false
/-! ### an exception made as a value -/
end L2
namespace BK
open PySem PySem.Spec L2
set_option autoImplicit false
end BK
namespace BK
open PySem PySem.Spec L2
set_option autoImplicit false
/-! ### a told list that is asked once, then appended to and forgotten: x = f(..); if c: return b; x.append(k) -/
def eH : Hp := fun _ => none
/-! in plain types -/
end BK
namespace BK
open PySem PySem.Spec L2
set_option autoImplicit false
/-! ### an own list that is lent: frozen if it is empty; turned round -/
end BK
namespace BK
open PySem PySem.Spec L2
set_option autoImplicit false
/-! ### f-strings of texts and numbers -/
/-! .. in plain types -/
end BK
namespace BK
open PySem PySem.Spec L2 PyProof.Rows
set_option autoImplicit false
/-! ### sorted(..) of whole numbers, of a list or a tuple -/
end BK
namespace BK
open PySem PySem.Spec L2
set_option autoImplicit false
/-! ### a told thing that is asked once, whose lists are then changed, and that is forgotten: x = f(..); if c: return b; x.p.q.append(e); x.r.reverse(); .. -/
/-! in plain types -/
end BK
namespace BK
open PySem PySem.Spec L2
set_option autoImplicit false
/-! ### lists handed to a class that copies them, then changed behind: x = [e1, ..]; y = C(x[0], ..); x[k].append(e); x[k].insert(0, e); .. -/
/-! in plain types: a road -/
end BK
namespace BK
open PySem PySem.Spec L2
open PyProof.Rows (envOfC)
set_option autoImplicit false
/-! ### a def that tells a pair: a new list and a number; what is asked of the pair in one breath -/
end BK
namespace BK
open PySem PySem.Spec L2
set_option autoImplicit false
/-! ### raising statements over own trees -/
end BK
namespace BK
open PySem PySem.Spec L2
set_option autoImplicit false
/-! ### a display whose items are new trees -/
end BK
namespace BK
open PySem PySem.Spec L2
set_option autoImplicit false
/-! ### defs that tell new trees, used whole; what they told is changed and forgotten -/
end BK
namespace BK
open PySem PySem.Spec L2
set_option autoImplicit false
/-! ### x = f(..), f tells a new tree; if c: return b; x.p.append(e); x.p.reverse(); ..; x is forgotten -/
end BK
namespace BK
open PySem PySem.Spec L2
set_option autoImplicit false
/-! ### the trees of a told list are changed in a loop: for one in x: one.p.append(e); one.q.reverse() .. -/
structure MI (H2 : Hp) (as : List Addr) (pin : List (Addr × List V)) (k : Nat) (Hk : Hp) : Prop where
  ins : ∀ b ∈ as, ∀ C dx fs, H2 b = some (.ins C dx fs) → Hk b = some (.ins C dx fs)
  lst : ∀ b ∈ as, ∀ xs, H2 b = some (.lst xs) → ∃ ys, Hk b = some (.lst ys) ∧ ys.length ≤ xs.length + k
  pin : ∀ p ∈ pin, Hk p.1 = some (.lst p.2)
section
variable {K : PySem.W.Frag} {ca : Nat → Addr}
theorem MI.ext {H2 Hk F H' F' : Hp} {as : List Addr} {pin : List (Addr × List V)} {k : Nat} (I : MI H2 as pin k Hk) (x : SameN ca Hk H') : MI H2 as pin k H' :=
  ⟨fun b hb C dx fs h => x.i (I.ins b hb C dx fs h), fun b hb xs h => by
    obtain ⟨ys, h1, h2⟩ := I.lst b hb xs h
    exact ⟨ys, x.l h1, h2⟩, fun p hp => x.l (I.pin p hp)⟩
theorem MI.upd {H2 Hk : Hp} {as : List Addr} {pin : List (Addr × List V)} {k : Nat} (I : MI H2 as pin k Hk) (hp : ∀ p ∈ pin, p.1 ∉ as) {b : Addr} {xs zs : List V} (hb : b ∈ as) (gb : H2 b = some (.lst xs)) (hz : zs.length ≤ xs.length + (k + 1)) : MI H2 as pin (k + 1) (upd Hk b (.lst zs)) := by
  refine ⟨fun c hc C dx fs h => ?_, fun c hc w h => ?_, fun p hpp => ?_⟩
  · have hcb : c ≠ b := fun z => by rw [z, gb] at h; cases h
    rw [upd_ne hcb]
    exact I.ins c hc C dx fs h
  · by_cases hcb : c = b
    · subst hcb
      rw [gb] at h
      cases h
      exact ⟨zs, upd_same, hz⟩
    · rw [upd_ne hcb]
      obtain ⟨ys, h1, h2⟩ := I.lst c hc w h
      exact ⟨ys, h1, by omega⟩
  · have hcb : p.1 ≠ b := fun z => hp p hpp (by rw [z]; exact hb)
    rw [upd_ne hcb]
    exact I.pin p hpp
end
end BK
namespace BK
open PySem PySem.Spec L2
set_option autoImplicit false
/-! ### x = f(..), a new list of trees; for one in x: one.p.append(e) ..; if c: return b; x.reverse(); x is forgotten -/
end BK
namespace BK
open PySem PySem.Spec L2
set_option autoImplicit false
end BK
namespace BK
open PySem PySem.Spec L2
set_option autoImplicit false
/-! in plain types: told trees changed and forgotten -/
end BK
namespace BK
open PySem PySem.Spec L2
set_option autoImplicit false
end BK
namespace BK
open PySem PySem.Spec L2
set_option autoImplicit false
end BK
namespace BK
open PySem PySem.Spec L2
set_option autoImplicit false
/-! ### zip of a list with a tuple -/
section
variable {P0 : Program} {w0 : World}
/-- an iterator i over l: what it gives at turn k -/
structure Src (P0 : Program) (w0 : World) (i l : Addr) (N : Heap → Nat → Prop) (vs : Nat → Option Value) : Prop where
  move : ∀ {h h' : Heap} {k : Nat}, N h k → (∀ o, h.get? i = some o → h'.get? i = some o) → (∀ o, h.get? l = some o → h'.get? l = some o) → N h' k
  give : ∀ {A : Around} {E : Value → Shared → Prop} {t : Shared} {k : Nat} {x : Value} {Q : Value → Shared → Prop}, N t.heap k → vs k = some x → (∀ h2, N h2 (k + 1) → Heap.SameBut i t.heap h2 → Q x { t with heap := h2 }) → wpAny (model P0 w0) A (Builtin.SmallTypes.nextOf (.ref i)) Q E t
  stop : ∀ {A : Around} {E : Value → Shared → Prop} {t : Shared} {k : Nat} {Q : Value → Shared → Prop}, A.handled = none → N t.heap k → vs k = none → (∀ h2 e, Heap.ExtBut i t.heap h2 → (∃ o, h2.get? e = some o ∧ o.cls = .type "StopIteration") → E (.ref e) { t with heap := h2 }) → wpAny (model P0 w0) A (Builtin.SmallTypes.nextOf (.ref i)) Q E t
abbrev NL (i l : Addr) (xs : Array Value) : Heap → Nat → Prop := fun h k => h.IsListIter i l k ∧ h.IsList l xs
theorem src_list {i l : Addr} {xs : Array Value} (ne : l ≠ i) : Src P0 w0 i l (NL i l xs) (fun k => xs[k]?) where
  move := fun n a b => ⟨n.1.at a, n.2.at b⟩
  give := fun n e q => wpAny_nextOf_list_item n.1 n.2 e fun h2 n2 sb => q h2 ⟨n2, n2 |> fun _ => n.2.extBut sb.extBut ne⟩ sb
  stop := fun hh n e q => wpAny_nextOf_list_end hh n.1 n.2 e q
variable {A : Around} {E : Value → Shared → Prop} {t : Shared} {z TI TO i1 i2 l1 l2 : Addr} {N1 N2 : Heap → Nat → Prop} {v1 v2 : Nat → Option Value} {k : Nat} {a b x y : Value}
end
/-! in the hand layer -/
end BK
namespace BK
open PySem PySem.Spec L2
set_option autoImplicit false
/-! ### expressions that are new trees; own trees kept in a variable -/
/-! a new tree is kept -/
end BK
namespace BK
open PySem PySem.Spec L2
set_option autoImplicit false
/-! ### an instance made of own lists that are copied, whatever they hold: its making asks nothing of their items -/
def tokV : V → D → D
  | .ref a, _ => .opq a
  | _, d => d
def toks : List V → List D → List D
  | v :: vs, d :: ds => tokV v d :: toks vs ds
  | _, _ => []
def allFz : List BK.T → Option (List D)
  | [] => some []
  | .fz d :: ts => (allFz ts).map (d :: ·)
  | _ :: _ => none
section
variable {K : PySem.W.Frag} {ca : Nat → Addr} {F F' H : Hp}
theorem tok_den {v : V} {d : D} (h : Den K ca F v d) : Den K ca F' v (tokV v d) := by
  cases h
  case non => exact .non
  case bl b => exact .bl b
  case int i => exact .int i
  case str x => exact .str x
  all_goals exact .opq _
theorem tok_back {v u : V} {d : D} (h : Den K ca F v d) (h2 : Den K ca F' u (tokV v d)) : u = v := by
  cases h
  case non => cases h2; rfl
  case bl b => cases h2; rfl
  case int i => cases h2; rfl
  case str x => cases h2; rfl
  all_goals (cases h2; rfl)
theorem toks_dens : ∀ {vs : List V} {ds : List D}, Dens K ca F vs ds → Dens K ca F' vs (toks vs ds)
  | _, _, .nil => .nil
  | _, _, .cons h hs => .cons (tok_den h) (toks_dens hs)
theorem toks_back : ∀ {vs us : List V} {ds : List D} {as : List Addr}, Dens K ca F vs ds → OTs K ca F' H us ((toks vs ds).map .fz) as → us = vs ∧ as = []
  | _, _, _, _, .nil, .nil => ⟨rfl, rfl⟩
  | _, _, _, _, .cons h hs, .cons (.fz a) b => by
    obtain ⟨rfl, rfl⟩ := toks_back hs b
    exact ⟨by rw [tok_back h a], rfl⟩
theorem allFz_dens : ∀ {us : List BK.T} {ws : List V} {ds : List D} {as : List Addr}, OTs K ca F H ws us as → allFz us = some ds → Dens K ca F ws ds
  | [], _, _, _, .nil, e => by cases e; exact .nil
  | .fz d :: us, _, _, _, .cons (.fz h) hs, e => by
    unfold allFz at e
    obtain ⟨es, e1, rfl⟩ := Option.map_eq_some_iff.mp e
    exact .cons h (allFz_dens hs e1)
  | .lst _ :: _, _, _, _, _, e => by cases e
  | .ins _ _ :: _, _, _, _, _, e => by cases e
  | .tup _ :: _, _, _, _, _, e => by cases e
theorem ots_tok {F2 : Hp} : ∀ {xs : List V} {ts : List BK.T} {as : List Addr}, OTs K ca F H xs ts as → (∀ b ∈ as, F2 b = H b) → ∃ es, Dens K ca F2 xs es ∧ ∀ (k : Nat) (us : List BK.T) (ds : List D), ts[k]? = some (.lst us) → allFz us = some ds → ∃ ws, Dens K ca F ws ds ∧ es[k]? = some (.lst (toks ws ds))
  | _, _, _, .nil, _ => ⟨[], .nil, fun k us ds h => by simp at h⟩
  | _, _, _, .cons (v := v) (t := t) h hs, e => by
    obtain ⟨es, h1, h2⟩ := ots_tok hs fun b hb => e b (List.mem_append_right _ hb)
    have key : ∃ d, Den K ca F2 v d ∧ ∀ us ds, t = .lst us → allFz us = some ds → ∃ ws, Dens K ca F ws ds ∧ d = .lst (toks ws ds) := by
      have e0 := fun b hb => e b (List.mem_append_left _ hb)
      cases h with
      | fz h => exact ⟨_, tok_den h, fun us ds z => nomatch z⟩
      | lst ha hs' =>
        rename_i a ws us as'
        cases q : allFz us with
        | none => exact ⟨.opq a, .opq a, fun us' ds z z2 => by cases z; rw [q] at z2; cases z2⟩
        | some ds =>
          have hd := allFz_dens hs' q
          exact ⟨.lst (toks ws ds), .lst ((e0 a List.mem_cons_self).trans ha) (toks_dens hd), fun us' ds' z z2 => by cases z; rw [q] at z2; cases z2; exact ⟨ws, hd, rfl⟩⟩
      | ins _ _ _ _ => exact ⟨_, .opq _, fun us ds z => nomatch z⟩
      | tup _ _ => exact ⟨_, .opq _, fun us ds z => nomatch z⟩
    obtain ⟨d, g1, g2⟩ := key
    refine ⟨d :: es, .cons g1 h1, fun k us ds hk hz => ?_⟩
    cases k with
    | zero =>
      rw [List.getElem?_cons_zero] at hk
      obtain ⟨ws, k1, rfl⟩ := g2 us ds (Option.some.inj hk) hz
      exact ⟨ws, k1, rfl⟩
    | succ k => exact h2 k us ds (by simpa using hk) hz
end
section
variable {K : PySem.W.Frag} {ca : Nat → Addr} {H0 F0 H F : Hp} {σ : L2.St} {Γ : Gm}
/-- all that is own is read, of its items nothing is known -/
theorem SR.tok (S : SR K ca H0 F0 σ H F Γ) : ∃ F2 Γ2, Same F F2 ∧ (∀ H' F', Ext ca H F2 H' F' → Ext ca H F H' F) ∧ SR K ca H0 F0 σ H F2 Γ2 ∧ (∀ (i : Nat) (ds : List D), Γ[i]? = some (Slot.ow ds) → ∃ vs, Dens K ca F vs ds ∧ Γ2[i]? = some (Slot.va (.lst (toks vs ds)))) ∧
    (∀ (i : Nat) (d : D), Γ[i]? = some (Slot.va d) → ∃ v, Den K ca F v d ∧ Γ2[i]? = some (Slot.va (tokV v d))) ∧
    ∀ (i : Nat) (ts : List BK.T), Γ[i]? = some (Slot.ot (.lst ts)) → ∃ es, Γ2[i]? = some (Slot.va (.lst es)) ∧ ∀ (k : Nat) (us : List BK.T) (ds : List D), ts[k]? = some (.lst us) → allFz us = some ds → ∃ ws, Dens K ca F ws ds ∧ es[k]? = some (.lst (toks ws ds)) := by
  classical
  obtain ⟨A, ⟨o1, o2, o3⟩⟩ := S.own
  let P : Addr → Prop := fun b => (∃ (j : Nat) (ds : List D), Γ[j]? = some (Slot.ow ds) ∧ σ[j]? = some (some (V.ref b))) ∨ ∃ (j : Nat) (t : BK.T), Γ[j]? = some (Slot.ot t) ∧ b ∈ A j
  let F2 : Hp := fun b => if P b then H b else F b
  have hP : ∀ b, P b → noT H0 b = none ∧ F b = none ∧ ∃ u, H b = some u ∧ ∀ ps, u ≠ .tbl ps := fun b hb => by
    rcases hb with ⟨j, ds, g, s⟩ | ⟨j, t, g, hb⟩
    · obtain ⟨a, vs, s', h1, h2, h3, _⟩ := S.ow j ds g
      rw [s] at s'
      cases s'
      exact ⟨h1, h2, _, h3, fun ps z => nomatch z⟩
    · obtain ⟨⟨v, _, ht⟩, _, hf⟩ := o1 j t g
      obtain ⟨u, hu, hn⟩ := ht.at b hb
      exact ⟨(hf b hb).1, (hf b hb).2, u, hu, hn⟩
  have e1 : ∀ b, P b → F2 b = H b := fun b hb => if_pos hb
  have e0 : ∀ b, ¬ P b → F2 b = F b := fun b hb => if_neg hb
  have sf : Same F F2 := fun b u e => by
    rw [e0 b fun z => by rw [(hP b z).2.1] at e; cases e]
    exact e
  have s2 : Same F2 H := fun b u e => by
    by_cases hb : P b
    · rw [e1 b hb] at e; exact e
    · rw [e0 b hb] at e; exact S.ext.fh b u e
  have x : Ext ca H0 F0 H F2 := ⟨S.ext.hh, S.ext.ff.trans sf, s2, fun b e => by
    by_cases hb : P b
    · exact .inr (hP b hb).1
    · rw [e0 b hb] at e; exact S.ext.nw b e, fun n b ps e => by
    by_cases hb : P b
    · rw [e1 b hb] at e
      obtain ⟨u, hu, hn⟩ := (hP b hb).2.2
      rw [hu] at e
      exact hn ps (Option.some.inj e)
    · rw [e0 b hb] at e; exact S.ext.nt n b ps e⟩
  have ex : ∀ i : Nat, ∃ s : Slot, (∀ d, s = .va d → ∃ v, σ[i]? = some (some v) ∧ Den K ca F2 v d) ∧ (∀ ds, s ≠ .ow ds) ∧ (∀ t, s ≠ .ot t) ∧ (∀ ds, Γ[i]? = some (Slot.ow ds) → ∃ vs, Dens K ca F vs ds ∧ s = .va (.lst (toks vs ds))) ∧
      (∀ d, Γ[i]? = some (Slot.va d) → ∃ v, Den K ca F v d ∧ s = .va (tokV v d)) ∧ ∀ ts, Γ[i]? = some (Slot.ot (.lst ts)) → ∃ es, s = .va (.lst es) ∧ ∀ (k : Nat) (us : List BK.T) (ds : List D), ts[k]? = some (.lst us) → allFz us = some ds → ∃ ws, Dens K ca F ws ds ∧ es[k]? = some (.lst (toks ws ds)) := by
    intro i
    cases hi : Γ[i]? with
    | none => exact ⟨.un, by simp, by simp, by simp, by simp, by simp, by simp⟩
    | some s =>
      cases s with
      | un => exact ⟨.un, by simp, by simp, by simp, by simp, by simp, by simp⟩
      | va d =>
        obtain ⟨v, h1, h2⟩ := S.va i d hi
        exact ⟨.va (tokV v d), fun e z => by cases z; exact ⟨v, h1, tok_den h2⟩, by simp, by simp, by simp, fun e z => by cases z; exact ⟨v, h2, rfl⟩, by simp⟩
      | ow ds =>
        obtain ⟨a, vs, h1, h2, h3, h4, h5⟩ := S.ow i ds hi
        exact ⟨.va (.lst (toks vs ds)), fun e z => by cases z; exact ⟨_, h1, .lst ((e1 a (.inl ⟨i, ds, hi, h1⟩)).trans h4) (toks_dens h5)⟩, by simp, by simp, fun e z => by cases z; exact ⟨vs, h5, rfl⟩, by simp, by simp⟩
      | ot t =>
        obtain ⟨⟨v, hv, ht⟩, hd, hf⟩ := o1 i t hi
        have hPA : ∀ b ∈ A i, F2 b = H b := fun b hb => e1 b (.inr ⟨i, t, hi, hb⟩)
        generalize A i = as at ht hPA
        cases ht with
        | lst ha hs =>
          obtain ⟨es, g1, g2⟩ := ots_tok (F2 := F2) hs fun b hb => hPA b (List.mem_cons_of_mem _ hb)
          exact ⟨.va (.lst es), fun e z => by cases z; exact ⟨_, hv, .lst ((hPA _ List.mem_cons_self).trans ha) g1⟩, by simp, by simp, by simp, by simp, fun ts z => by cases z; exact ⟨es, rfl, g2⟩⟩
        | fz h => exact ⟨.un, by simp, by simp, by simp, by simp, by simp, fun ts z => by cases z⟩
        | ins _ _ _ _ => exact ⟨.un, by simp, by simp, by simp, by simp, by simp, fun ts z => by cases z⟩
        | tup _ _ => exact ⟨.un, by simp, by simp, by simp, by simp, by simp, fun ts z => by cases z⟩
  let f : Nat → Slot := fun i => Classical.choose (ex i)
  have hf := fun i => Classical.choose_spec (ex i)
  have gl : ∀ (i : Nat) (s : Slot), ((List.range Γ.length).map f)[i]? = some s → s = f i := fun i s h => by
    rw [List.getElem?_map] at h
    obtain ⟨j, h1, h2⟩ := Option.map_eq_some_iff.mp h
    have := (List.getElem?_eq_some_iff.mp h1).2
    rw [List.getElem_range] at this
    rw [← h2, this]
  have gr : ∀ (i : Nat) (s : Slot), Γ[i]? = some s → ((List.range Γ.length).map f)[i]? = some (f i) := fun i s h => by
    rw [List.getElem?_map, List.getElem?_range (List.getElem?_eq_some_iff.mp h).1]
    rfl
  refine ⟨F2, (List.range Γ.length).map f, sf, fun H' F' y => ⟨y.hh, Same.refl _, sf.trans (y.ff.trans y.fh), fun _ z => .inl z, fun n => n⟩, ⟨x, S.nt0, S.tc0, by rw [List.length_map, List.length_range]; exact S.len, fun i d h => (hf i).1 d (gl i _ h).symm, fun i ds h => absurd (gl i _ h).symm ((hf i).2.1 ds), fun i j ds es a n h => absurd (gl i _ h).symm ((hf i).2.1 ds), Own.nil fun i t h => absurd (gl i _ h).symm ((hf i).2.2.1 t)⟩, fun i ds h => ?_, fun i d h => ?_, fun i ts h => ?_⟩
  · obtain ⟨vs, h1, h2⟩ := (hf i).2.2.2.1 ds h
    exact ⟨vs, h1, by rw [gr i _ h]; exact congrArg some h2⟩
  · obtain ⟨v, h1, h2⟩ := (hf i).2.2.2.2.1 d h
    exact ⟨v, h1, by rw [gr i _ h]; exact congrArg some h2⟩
  · obtain ⟨es, h1, h2⟩ := (hf i).2.2.2.2.2 ts h
    exact ⟨es, by rw [gr i _ h]; exact congrArg some h1, h2⟩
end
end BK
namespace BK
open PySem PySem.Spec L2
set_option autoImplicit false
/-! ### C(.., x, .., y[k], ..): x an own list, y an own tree of lists, all copied -/
inductive AK where
  | ow (j : Nat) | ix (j k : Nat) | sl (j : Nat)
def AK.d (g : Gm) : AK → Option D
  | .ow j => match g[j]? with
    | some (.ow ds) => some (.lst ds)
    | _ => none
  | .sl j => match g[j]? with
    | some (.va d) => some d
    | _ => none
  | .ix j k => match g[j]? with
    | some (.ot (.lst ts)) => match ts[k]? with
      | some (.lst us) => (allFz us).map .lst
      | _ => none
    | _ => none
/-- which fields are copies of lists -/
def AK.c : AK → Bool
  | .sl _ => false
  | _ => true
def fldT1 : AK → D → BK.T
  | .sl _, d => .fz d
  | _, .lst xs => .lst (xs.map .fz)
  | _, d => .fz d
def fldT : List AK → List D → List BK.T
  | a :: as, d :: ds => fldT1 a d :: fldT as ds
  | _, _ => []
section
variable {K : PySem.W.Frag} {ca : Nat → Addr} {F H : Hp}
/-- d told by tokens -/
def Tk (K : PySem.W.Frag) (ca : Nat → Addr) (F : Hp) (a : AK) (d e : D) : Prop := match a with
  | .sl _ => ∃ v, e = tokV v d ∧ Den K ca F v d
  | _ => ∃ vs ds, d = .lst ds ∧ e = .lst (toks vs ds) ∧ Dens K ca F vs ds
theorem Tk.back {a : AK} {d e : D} {u : V} {bs : List Addr} (h : Tk K ca F a d e) (o : OT K ca F H u (fldT1 a e) bs) : OT K ca F H u (fldT1 a d) bs := by
  have lst : (∃ vs ds, d = .lst ds ∧ e = .lst (toks vs ds) ∧ Dens K ca F vs ds) → ∀ us, d = .lst us → ∀ ws, e = .lst ws → OT K ca F H u (.lst (ws.map .fz)) bs → OT K ca F H u (.lst (us.map .fz)) bs := by
    rintro ⟨vs, ds, rfl, rfl, hd⟩ us e1 ws e2 o
    cases e1
    cases e2
    cases o with
    | lst ha hs =>
      obtain ⟨rfl, rfl⟩ := toks_back hd hs
      exact .lst ha (OTs.fzs hd)
  cases a with
  | sl j =>
    obtain ⟨v, rfl, hd⟩ := h
    cases o with
    | fz o => exact .fz (by rw [tok_back hd o]; exact hd)
  | ow j =>
    have h2 := h
    obtain ⟨vs, ds, rfl, rfl, hd⟩ := h
    exact lst h2 _ rfl _ rfl o
  | ix j k =>
    have h2 := h
    obtain ⟨vs, ds, rfl, rfl, hd⟩ := h
    exact lst h2 _ rfl _ rfl o
def Tks (K : PySem.W.Frag) (ca : Nat → Addr) (F : Hp) : List AK → List D → List D → Prop
  | [], [], [] => True
  | a :: as, d :: ds, e :: es => Tk K ca F a d e ∧ Tks K ca F as ds es
  | _, _, _ => False
theorem Tks.back : ∀ {as : List AK} {ds es : List D} {us : List V} {bs : List Addr}, Tks K ca F as ds es → OTs K ca F H us (fldT as es) bs → OTs K ca F H us (fldT as ds) bs
  | [], [], [], _, _, _, o => o
  | a :: as, d :: ds, e :: es, us, bs, h, o => by
    have o : OTs K ca F H us (fldT1 a e :: fldT as es) bs := o
    cases o with
    | cons o1 o2 => exact .cons (h.1.back o1) (Tks.back h.2 o2)
  | [], _ :: _, _, _, _, h, _ => h.elim
  | [], [], _ :: _, _, _, h, _ => h.elim
  | _ :: _, [], _, _, _, h, _ => h.elim
  | _ :: _, _ :: _, [], _, _, h, _ => h.elim
theorem Tks.ds : ∀ {as : List AK} {ds es : List D}, Tks K ca F as ds es → T.ds (fldT as ds) = ds
  | [], [], [], _ => rfl
  | a :: as, d :: ds, e :: es, h => by
    have h1 := h.1
    show (fldT1 a d).d :: T.ds (fldT as ds) = _
    rw [Tks.ds h.2]
    congr 1
    cases a with
    | sl j => rfl
    | ow j => obtain ⟨vs, ds, rfl, rfl, hd⟩ := h1; show D.lst (T.ds (ds.map .fz)) = _; rw [T.ds_fz]
    | ix j k => obtain ⟨vs, ds, rfl, rfl, hd⟩ := h1; show D.lst (T.ds (ds.map .fz)) = _; rw [T.ds_fz]
  | [], _ :: _, _, h => h.elim
  | [], [], _ :: _, h => h.elim
  | _ :: _, [], _, h => h.elim
  | _ :: _, _ :: _, [], h => h.elim
end
end BK
namespace BK
open PySem PySem.Spec L2
set_option autoImplicit false
/-! ### an own tree changed in a loop and forgotten: for one in x: one.reverse() .. -/
end BK
namespace BK
open PySem PySem.Spec L2
set_option autoImplicit false
/-! ### in plain types: own lists handed to classes -/
end BK
namespace BK
open PySem PySem.Spec L2
set_option autoImplicit false
/-! ### a display of a list that an exception leaves -/
section
variable {M : Model} {A : Around} {E : Value → Shared → Prop} {s : Shared} {env ce : Env}
/-- behind the block of a display: its names let go -/
def cpX (M : Model) (A : Around) (E : Value → Shared → Prop) (use : Option (Value → Sem Unit)) (Q : Value → Shared → Prop) (acc : Value) (C : Addr) (fr : Option Addr) (r : Result) (t : Shared) : Prop := match r with
  | .ok _ => match use with
    | none => ∃ m, t.heap.Ns C m ∧ ∀ h2, Heap.SameBut C t.heap h2 → Q acc { t with heap := h2 }
    | some _ => False
  | .error x => ∃ m, t.heap.Ns C m ∧ ∀ h2 m2 (ce : Env), h2.Ns C m2 → Heap.SameBut C t.heap h2 → ce.frame = fr → wpAny M A (passOn "comprehension.variables-let-go" x ce : Sem Value) (fun _ _ => False) E { t with heap := h2 }
theorem wp_compX {e : Expr} {scope : Scope} {pos : Pos} {newAcc first : Sem Value} {g : Comprehension} {gs : List Comprehension} {cl : List (Str × Addr)} {use : Option (Value → Sem Unit)} {Q : Value → Shared → Prop} (hcl : clausesOf e = g :: gs) (hs : ∀ x, foldedSetIterable g.iter env x = pure x) (hclos : closureFor scope env = pure cl) (hkind : scope.kind = .function) (hnm : ∀ x ∈ scope.names, x.2 = .local → scope.names.lookup x.1 = some .local)
    (h : wpAny M A first (fun x t1 => wpAny M A (pyIter x) (fun it t2 => wpAny M A newAcc (fun acc t3 => wpAny M A (newFunctionEnv scope env.globals cl [] env.qual none .none (some env)) (fun ce t4 => ce.frame = env.frame ∧ codeAny M A (.compStart e 0 it acc { ce with scope := relabel scope env }) (cpX M A E use Q acc ce.locals env.frame) t4) E t3) E t2) E t1) E s) :
    wpAny M A (comprehension e scope env pos newAcc false first use) Q E s := by
  unfold comprehension
  rw [hclos, hcl]
  refine wpAny_bind (wpAny_mono h (fun x t1 k1 => wpAny_bind (wpAny_standAt (wpAny_bind (wpAny_of_eq (hs x) (wpAny_bind (wpAny_holding (wpAny_mono k1 (fun it t2 k2 => wpAny_standIf (wpAny_bind (wpAny_mono k2 (fun acc t3 k3 => wpAny_bind (wpAny_pure (wpAny_bind (wpAny_mono k3 (fun ce t4 k4 => ?_) fun _ _ q => q)))) fun _ _ q => q))) fun _ _ q => q))))))) fun _ _ q => q)
  obtain ⟨fr, k4⟩ := k4
  dsimp only
  have hv : ∀ x ∈ (scope.names.filter fun x => (x.2 == .local || x.2 == .cell) && x.1 != (".0" : Str)).reverse, x.2 = .local → Env.kindOf { ce with scope := relabel scope env } x.1 = some .local := fun x hx hl => lookup_relabel_local (hnm x (List.mem_filter.mp (List.mem_reverse.mp hx)).1 hl)
  refine wpAny_holding (wpAny_bind (wpAny_attempt (wpAny_holding (wpAny_run (codeAny_mono k4 fun r t5 hr => ?_)))))
  cases r with
  | ok f =>
    cases use with
    | some u => exact hr.elim
    | none =>
    obtain ⟨m, hn, hr⟩ := hr
    exact wpAny_bind (wpAny_holding (wpAny_comp_letGo (cenv := { ce with scope := relabel scope env }) hkind _ t5 m hv hn fun h2 m2 _ sb => wpAny_pure (hr h2 sb)))
  | error x =>
    obtain ⟨m, hn, hr⟩ := hr
    exact wpAny_bind (wpAny_holding (wpAny_comp_letGo (cenv := { ce with scope := relabel scope env }) hkind _ t5 m hv hn fun h2 m2 n2 sb => wpAny_mono (hr h2 m2 _ n2 sb fr) (fun _ _ z => z.elim) fun _ _ y => y))
theorem note_frame_eq (x : Value) (h : ce.frame = env.frame) : noteFrame x ce = noteFrame x env := by
  unfold noteFrame frameOf
  rw [h]
variable {B : Heap} {outer l : List Env} {a L C : Addr} {Z : Obj → Prop} {h h2 : Heap} {m m2 : Str → Option Value}
theorem note_sky {Q : Unit → Shared → Prop} (hZ : HandSPX.Steady Z) (hfr : A.frames = some (env :: outer)) (hf : env.frame = some L) (x : Sky B (env :: outer) a Z L s.heap) (hQ : ∀ h2, HandSPX.HeldZ B (env :: outer) a Z L h2 → s.heap.UpToSlots h2 → Q () { s with heap := h2 }) : wpAny M A (noteFrame (.ref a) env) Q E s := by
  rcases x with ⟨hB, hn, hl, oe, vs, he, hz, hd, h1⟩ | fl | hh
  · exact HandSPX.look_newZ hZ hfr hl hf he hB hn hd h1 hz hQ
  · exact HandSPX.looks_onZ hZ hfr hf fl hQ
  · exact HandSPX.againZ hf hh.2.2.2 (hQ s.heap hh (.refl _))
theorem hide_none (h : B.get? C = none ∨ C = a) : (PySem.W.hideAll B [a]).get? C = none := by
  rcases h with h | rfl
  · cases q : (PySem.W.hideAll B [a]).get? C with
    | none => rfl
    | some o => have := PySem.W.of_hideAll _ q; rw [h] at this; cases this
  · exact PySem.W.hideAll_none _ (by simp)
theorem traced_hide {v : Value} (t : HandSPX.TracedZ h B a Z v) : HandSPX.TracedZ h (PySem.W.hideAll B [C]) a Z v := by
  obtain ⟨oe, vs, T, oT, ts, he, hz, hd, h1, hT0, r⟩ := t
  exact ⟨oe, vs, T, oT, ts, he, hz, hd, h1, hide_none (.inl hT0), r⟩
theorem frames_hide (ff : h.FunFrames B l) : h.FunFrames (PySem.W.hideAll B [C]) l := funFrames_none ff fun L hL => hide_none (.inl (ff.mem hL).1)
theorem sky_hide (x : Sky B l a Z L h) : Sky (PySem.W.hideAll B [C]) l a Z L h := by
  have st : ∀ {h : Heap}, B.StaysIn h → (PySem.W.hideAll B [C]).StaysIn h := fun st b o e => st b o (PySem.W.of_hideAll _ e)
  rcases x with ⟨hB, hn, hl, r⟩ | ⟨hB, hn, hl, t⟩ | ⟨hB, hn, hl, t⟩
  · exact .inl ⟨st hB, hide_none (.inl hn), frames_hide hl, r⟩
  · exact .inr (.inl ⟨st hB, hide_none (.inl hn), frames_hide hl, traced_hide t⟩)
  · exact .inr (.inr ⟨st hB, hide_none (.inl hn), frames_hide hl, traced_hide t⟩)
theorem held_same (hh : HandSPX.HeldZ B l a Z L h) (hB : B.get? C = none) (hn : h.Ns C m) (n2 : h2.Ns C m2) (sb : Heap.SameBut C h h2) : HandSPX.HeldZ B l a Z L h2 := by
  obtain ⟨st, n, ff, oe, vs, T, oT, ts, he, hz, hd, h1, hT0, hTe, hT, hdT, h3⟩ := hh
  obtain ⟨oC, es, ep, hC, hdC, _⟩ := hn
  have ne : ∀ {b : Addr} {o : Obj} {vs : Array Value}, h.get? b = some o → o.data = .fields vs → b ≠ C := fun e d z => by
    subst z
    rw [hC] at e
    cases e
    rw [hdC] at d
    cases d
  exact ⟨fun b o e => (sb.2 b fun z => by rw [z, hB] at e; cases e).trans (st b o e), n, Heap.FunFrames.sameBut sb n2 ff, oe, vs, T, oT, ts, (sb.2 a (ne he hd)).trans he, hz, hd, h1, hT0, hTe, (sb.2 T (ne hT hdT)).trans hT, hdT, h3⟩
end
section
variable {X : Cx} {C : Addr} {W : WX}
/-- an exception in the air of X leaves the block at C -/
theorem exc_out {use : Option (Value → Sem Unit)} {Q : Value → Shared → Prop} {acc u : Value} {t : Shared} {ce : Env} (tk : Takes X W) (hst : X.stack = X.env :: X.outer) (hfm : X.env.frame = some X.env.locals) (hce : ce.frame = X.env.frame) (x : XE X (fun c d σ H => W c d σ H ∧ H C = none) u t) (hn : ∃ m, t.heap.Ns C m)
    (cl : C ≠ X.env.locals) (cs : C ∈ X.ex ∨ X.s_0.heap.objs.size ≤ C) (cc : ∀ x c, X.env.cells.lookup x = some c → c ≠ C) (cp : ∀ p ∈ X.pn, p.1 ≠ C) : notedBy (model X.prog X.w) X.A ce (fun e t2 => cpX (model X.prog X.w) X.A X.xe use Q acc C X.env.frame (.error e) t2) u t := by
  obtain ⟨a, B, sI, pins, σ, H, cls, d, rfl, I, nb, up, sky, na, os, ag, w, hC⟩ := x
  obtain ⟨m, hn⟩ := hn
  have hA : X.A.frames = some (X.env :: X.outer) := by rw [← hst]; exact I.ok.frames
  unfold notedBy
  rw [note_frame_eq _ hce]
  have sky2 := sky_hide (C := C) sky
  rw [hst] at sky2
  have hZ : HandSPX.Steady (L2.Zc cls d) := HandSPX.steady_and HandSPX.steady_cls HandSPX.steady_dict
  refine note_sky hZ hA hfm sky2 fun h2 held up2 => ?_
  refine ⟨m, up2.ns hn, fun h3 m3 ce3 n3 sb cf => ?_⟩
  have held3 := held_same held (hide_none (.inr rfl)) (up2.ns hn) n3 sb
  obtain ⟨_, _, _, oe, vs, T, oT, ts, he, hz, hd, h1, _⟩ := held3
  have held3 := held_same held (hide_none (.inr rfl)) (up2.ns hn) n3 sb
  unfold passOn
  refine wpAny_bind (wpAny_field he hd h1 ?_)
  rw [if_neg (show ¬ ((Value.ref T == Value.none) = true) from by simp)]
  rw [cf, hfm]
  refine wpAny_bind (HandSPX.setFlight_onZ held3 fun h4 held4 up4 => wpAny_throw (tk _ _ ?_))
  have I2 := (I.unpinned (pins := [])).turned (it := C) (h' := PySem.W.hideAll sI.heap [C]) (t' := sI.toks) (fun b o hb e => PySem.W.hideAll_get _ e (by simpa using hb)) hC cl cs cc (fun p hp => cp p (by simpa using hp))
  refine ⟨a, PySem.W.hideAll B [C], _, _, σ, H, cls, d, rfl, I2, fun b o e hb => ?_, fun b o e hnf => ?_, ?_, na, os, ag, w⟩
  · have e1 := PySem.W.of_hideAll _ e
    refine PySem.W.hideAll_get _ (nb b o e1 hb) fun z => ?_
    rw [List.mem_singleton] at z
    subst z
    rw [hide_none (.inr rfl)] at e
    cases e
  · have e1 := PySem.W.of_hideAll _ e
    have hb : b ≠ C := fun z => by subst z; rw [hide_none (.inr rfl)] at e; cases e
    obtain ⟨s1, q1⟩ := up b o e1 hnf
    obtain ⟨s2, q2⟩ := up2 b _ q1 hnf
    obtain ⟨s3, q3⟩ := up4 b { o with slots := s2 } ((sb.2 b hb).trans q2) hnf
    exact ⟨s3, q3⟩
  · rw [hst]
    exact .inr (.inr held4)
end
end BK
namespace BK
open PySem PySem.Spec L2
set_option autoImplicit false
/-- a display whose items are called for; what is called may raise -/
def tLcx (wi : TI) (g : TG) (te : XK → TE) (vs : List Nat) (W : WX) : TE := fun σ H Q => wi σ H fun J H1 => ∀ D, H1 D = none → ∃ Wf : Nat → Nat → Hp → Prop, (∃ m, Wf 0 m (upd H1 D (.lst []))) ∧ ∀ i m H, Wf i m H →
  (J.stop i H ∧ Q (.ref D) H) ∨ (J.go i H ∧ ∃ Nx : Hp → Prop, (∀ H', Nx H' → ∃ m', m' < m ∧ Wf (i + 1) m' H') ∧ ∀ x H', J.yld i H x H' → g x (wipe σ vs) H' fun σ2 H2 => wipe σ2 vs = wipe σ vs ∧ te (fun cls d H3 => W cls d σ H3) σ2 H2 fun y H4 => ∃ acc, H4 D = some (.lst acc) ∧ acc.length < sizeLine ∧ Nx (upd H4 D (.lst (acc ++ [y]))))
section
variable {X : Cx} {elt tg iter : Expr} {scope : Scope} {own : List (Str × Nat)} {pos : Pos} {wi : TI} {g : TG} {te : XK → TE} {W : WX}
theorem lcx_core {pins : List (Addr × Obj)} {s : Shared} {σ : L2.St} {H : Hp} {Q : VK} {use : Option (Value → Sem Unit)} {Qf : Value → Shared → Prop} {pos2 : Pos} (tk : Takes X W) (hst : X.stack = X.env :: X.outer) (hfm : X.env.frame = some X.env.locals) (hc : X.calm = true) (hN : X.N.Nodup) (I : Inv X pins σ H s) (hi : PI X tg iter wi) (ok : BlkOk X.N X.env.scope scope own)
    (hg : ∀ (s : Shared) (H : Hp) (C : Addr) (cl : List (Str × Addr)) (fp : List Addr), PG (X.blk s H scope (compEnvC scope cl C X.env) fp) tg g)
    (he : ∀ (s : Shared) (H : Hp) (C : Addr) (cl : List (Str × Addr)) (fp : List Addr) (xe : Value → Shared → Prop) (E : XK), (∀ σ, PassesAt (L2.CX X.prog X.w) ((X.blk s H scope (compEnvC scope cl C X.env) fp).wish xe) σ E) → PE ((X.blk s H scope (compEnvC scope cl C X.env) fp).wish xe) elt (te E)) (hs : ∀ x, foldedSetIterable iter X.env x = pure x)
    (h : tLcx wi g te (own.map (·.2)) W σ H Q) (hq : ∀ D C t m H', Inv X pins σ H' t → Q (.ref D) H' → t.heap.Ns C m → FpOk X pins H' C → cpX (model X.prog X.w) X.A X.xe use Qf (.ref D) C X.env.frame (.ok .next) t) :
    wpAny (model X.prog X.w) X.A (comprehension (.ListComp elt [⟨tg, iter, [], 0⟩] scope pos) scope X.env pos2 (newList []) false (eval iter X.env) use) Qf X.xe s := by
  have hfree : ∀ y ∈ scope.names, y.2 = .free → ∃ c, X.env.cells.lookup y.1 = some c := fun y hy e => I.ok.has _ (ok.free y hy e)
  refine wp_compX rfl hs (closure_ok hfree) ok.kind (fun y hy e => by rw [ok.uniq y hy, e]) (thn (hi.run pins s σ H _ I h) fun xv t1 hx => thn hx fun itv t2 h2 => ?_)
  obtain ⟨it, fp, tn, J, H2, rfl, I2, T, st2, f2, q⟩ := h2
  refine wpAny_newObj_type (newEnv_comp ?_) (by show 0 ≤ sizeLine; decide)
  generalize hD : t2.heap.objs.size = D
  have nD : H2 D = none := I2.hok.fresh (Nat.le_of_eq hD)
  obtain ⟨Wf, ⟨m0, w0⟩, turn⟩ := q D nD
  generalize ht3 : ({ t2 with heap := t2.heap.push { cls := .type "list", data := .seq ([] : List Value).toArray } } : Shared) = t3
  have e3 : t3.heap = t2.heap.push { cls := .type "list", data := .seq ([] : List Value).toArray } := by rw [← ht3]
  have I3 : Inv X pins σ (upd H2 D (.lst [])) t3 := by
    rw [← ht3]
    exact I2.laid (t' := t2.toks) (fun b o e => Heap.get?_push_of_some _ e) (Nat.le_of_eq hD) ⟨Nat.zero_le _, [], 0, .nil, by rw [← hD]; exact Heap.get?_push_size _ rfl⟩
  have lt2 : ∀ b ∈ fp, b < t2.heap.objs.size := fun b hb => by
    obtain ⟨o, e, _⟩ := T.obj _ _ st2 b hb
    exact Heap.lt_size e
  have f3 : ∀ b ∈ fp, FpOk X pins (upd H2 D (.lst [])) b ∧ b < t3.heap.objs.size := fun b hb => by
    have hlt := lt2 b hb
    refine ⟨⟨by rw [upd_ne (by rw [← hD]; exact Nat.ne_of_lt hlt)]; exact (f2 b hb).1, (f2 b hb).2⟩, ?_⟩
    rw [e3, Heap.size_push]
    exact Nat.lt_succ_of_lt hlt
  have st3 : tn 0 t3.heap := T.keep _ _ _ st2 fun b _ o e => by rw [e3]; exact Heap.get?_push_of_some _ e
  have I4 := block_start I3 ok hN f3
  generalize hcl : cellsFrom (t3.heap.objs.size + 1) scope.names (cloFrom X.env.cells scope.names []) = cells at I4
  have pg := hg t3 (upd H2 D (.lst [])) t3.heap.objs.size cells fp
  have nfp : ∀ b ∈ fp, (upd H2 D (.lst [])) b = none := fun b hb => (f3 b hb).1.1
  have pel := fun xe E => he t3 (upd H2 D (.lst [])) t3.heap.objs.size cells fp xe E
  have cfr : (compEnvC scope cells t3.heap.objs.size X.env).frame = X.env.frame := rfl
  show _ ∧ codeAny _ _ (.compStart (.ListComp elt [⟨tg, iter, [], 0⟩] scope pos) 0 (.ref it) (.ref D) (compEnvC scope cells t3.heap.objs.size X.env)) (cpX (model X.prog X.w) X.A X.xe use Qf (.ref D) t3.heap.objs.size X.env.frame) { t3 with heap := pushCells (t3.heap.push { cls := .type "dict", data := .dict #[] }) scope.names }
  refine ⟨rfl, ?_⟩
  generalize hce : compEnvC scope cells t3.heap.objs.size X.env = ce at I4 pg pel cfr ⊢
  have cL : ce.locals = t3.heap.objs.size := by subst hce; rfl
  generalize hH3 : upd H2 D (.lst []) = H3 at I3 I4 pg pel w0 nfp f3
  generalize ht4 : ({ t3 with heap := pushCells (t3.heap.push { cls := .type "dict", data := .dict #[] }) scope.names } : Shared) = t4 at I4 ⊢
  have st4 : tn 0 t4.heap := T.keep _ _ _ st3 fun b _ o e => by rw [← ht4]; exact pushCells_keeps _ _ _ _ (Heap.get?_push_of_some _ e)
  -- what may leave the block
  let xe : Value → Shared → Prop := fun u t => XE X (fun c d σ' H' => W c d σ' H' ∧ H' ce.locals = none) u t ∧ ∃ m, t.heap.Ns ce.locals m
  have home : ∀ {pb : List (Addr × Obj)} {σb : L2.St} {Hb : Hp} {t : Shared}, Inv ((X.blk t3 H3 scope ce fp).wish xe) pb σb Hb t → Inv X pins σ Hb t := fun Ib =>
    I3.call' (ch := fp) Ib.os Ib.base Ib.hok Ib.bare fun b hb => ⟨(f3 b hb).1.2.2.2.1, (f3 b hb).1.2.1, (f3 b hb).1.2.2.2.2.1, (f3 b hb).1.2.2.2.2.2⟩
  have cfp : ∀ {Hb : Hp}, Hb t3.heap.objs.size = none → FpOk X pins Hb t3.heap.objs.size := fun {Hb} n => by
    have z := I3.fpOk (Nat.le_refl _) (I3.hok.fresh (Nat.le_refl _))
    exact ⟨n, z.2⟩
  have pas : ∀ σb, PassesAt (L2.CX X.prog X.w) ((X.blk t3 H3 scope ce fp).wish xe) σb (fun cls d H' => W cls d σ H') := by
    intro σb pb Hb tb u tu Ib c
    have IX := home Ib
    have nC : Hb ce.locals = none := Ib.free
    obtain ⟨m, hn, _⟩ := Ib.loc
    obtain ⟨o, es, ep, ho, r⟩ := hn
    obtain ⟨a, B, H', cls, d, rfl, fl, hok, ub, na, os, ag, hE⟩ := c
    have nF : ce.locals ∉ frs X.stack := fun z => by
      rcases List.mem_cons.mp (I3.stkSub _ z) with k | k
      · rw [cL] at k
        exact (cfp (I3.hok.fresh (Nat.le_refl _))).2.1 k
      · rw [cL] at k
        exact I3.nofs (Nat.le_refl _) k
    refine ⟨XE.of_call IX (fun _ _ _ h => h) ⟨a, B, H', cls, d, rfl, fl, hok, ub, na, os, ag, hE, ub.free _ _ ho nC⟩, m, o, es, ep, fl.1 _ _ (ub.keep _ _ ho nC nF), r⟩
  have pe := pel xe (fun cls d H' => W cls d σ H') pas
  have stat : ∀ {σ' : L2.St} {H' : Hp} {t : Shared}, Inv ((X.blk t3 H3 scope ce fp).wish xe) [] σ' H' t → (∀ b ∈ fp, H' b = none) → ∀ b ∈ fp, FpOk ((X.blk t3 H3 scope ce fp).wish xe) [] H' b := fun {σ' H' t} Ib hn b hb =>
    ⟨hn b hb, (Ib.ok.exf b hb).1, Ib.ok.exfs b hb, .inl hb, fun x c e => (Ib.ok.exf b hb).2 x c e, fun p hp => absurd (show p ∈ ([] : List (Addr × Obj)) ++ [] from hp) (by simp)⟩
  have out : ∀ u t, xe u t → notedBy (model X.prog X.w) X.A ce (fun e t2 => cpX (model X.prog X.w) X.A X.xe use Qf (.ref D) t3.heap.objs.size X.env.frame (.error e) t2) u t := by
    rintro u t ⟨x, hn⟩
    have z := cfp (I3.hok.fresh (Nat.le_refl _))
    rw [cL] at x hn
    exact exc_out tk hst hfm cfr x hn z.2.1 z.2.2.2.1 (fun y c e => z.2.2.2.2.1 y c e) (fun p hp => z.2.2.2.2.2 p (List.mem_append_left _ hp))
  have loop : codeAny (model X.prog X.w) X.A (.compLoop (.ListComp elt [⟨tg, iter, [], 0⟩] scope pos) 0 (.ref it) (.ref D) ce) (cpX (model X.prog X.w) X.A X.xe use Qf (.ref D) t3.heap.objs.size X.env.frame) t4 := by
    refine compLoop_any (fun n t => ∃ i Hb, Inv ((X.blk t3 H3 scope ce fp).wish xe) [] (wipe σ (own.map (·.2))) Hb t ∧ tn i t.heap ∧ (∀ b ∈ fp, Hb b = none) ∧ Wf i n Hb) ?_ m0 ⟨0, H3, I4.wish xe, st4, nfp, w0⟩
    rintro n t5 ⟨i, H5, I5, st5, n5, w5⟩
    rcases turn i n H5 w5 with ⟨stop, qq⟩ | ⟨go, Nx, hNx, step⟩
    · refine thnF (T.done ((X.blk t3 H3 scope ce fp).wish xe) rfl rfl rfl hc i [] t5 _ H5 (fun _ _ => False) I5 (stat I5 n5) st5 stop) fun r t6 ⟨hr, I6⟩ => ?_
      subst hr
      have I7 := home I6
      have nC : H5 t3.heap.objs.size = none := by
        have z : H5 ce.locals = none := I6.free
        rw [cL] at z
        exact z
      obtain ⟨m, hn, _⟩ := I6.loc
      have hn : t6.heap.Ns ce.locals m := hn
      rw [cL] at hn
      exact hq D _ t6 m H5 I7 qq hn (cfp nC)
    · refine thnF (T.item ((X.blk t3 H3 scope ce fp).wish xe) rfl rfl rfl hc i [] t5 _ H5 (fun _ _ => False) I5 (stat I5 n5) st5 go) fun r t6 ⟨u, hr, h6⟩ => ?_
      subst hr
      refine thnF h6 fun _ t7 ⟨x, H7, I7, r7, y7, st7, n7⟩ => ?_
      have I7' := I7.pinned (stat I7 n7) (T.obj _ _ st7)
      refine thnF (pg.run _ t7 _ H7 x u _ I7'.unwish r7 (step x H7 y7)) fun _ t8 ⟨σ8, H8, I8, hw8, q8⟩ => ?_
      have fin : ∀ {t : Shared} {Hb : Hp}, Inv ((X.blk t3 H3 scope ce fp).wish xe) ([] ++ pinsAt fp t7.heap) σ8 Hb t → Nx Hb → ∃ m, m < n ∧ ∃ i Hb, Inv ((X.blk t3 H3 scope ce fp).wish xe) [] (wipe σ (own.map (·.2))) Hb t ∧ tn i t.heap ∧ (∀ b ∈ fp, Hb b = none) ∧ Wf i m Hb := fun {t Hb} Ib nx => by
        obtain ⟨m', hm, w'⟩ := hNx Hb nx
        have pinned : ∀ b ∈ fp, ∀ o, t7.heap.get? b = some o → t.heap.get? b = some o ∧ Hb b = none := fun b hb o e =>
          ⟨(Ib.pin (b, o) (List.mem_append_right _ (List.mem_append_right _ (mem_pinsAt hb e)))).1, (Ib.pin (b, o) (List.mem_append_right _ (List.mem_append_right _ (mem_pinsAt hb e)))).2.1⟩
        refine ⟨m', hm, i + 1, Hb, (Ib.unpinned (pins := [])).weak (by rw [← hw8, wipe_length]) (fun j v e => ?_), T.keep _ _ _ st7 fun b hb o e => (pinned b hb o e).1, fun b hb => ?_, w'⟩
        · rw [← hw8] at e
          exact (wipe_some e).1
        · obtain ⟨o, e, _⟩ := T.obj _ _ st7 b hb
          exact (pinned b hb o e).2
      refine wpAny_pure ?_
      simp only [if_true]
      refine wpAny_mono (pe.run _ t8 σ8 H8 _ (I8.wish xe) q8) (fun z t9 ⟨yv, H9, I9, r9, acc, hD9, hz9, nx⟩ => ?_) out
      exact app_ok (X := (X.blk t3 H3 scope ce fp).wish xe) I9 hD9 hz9 r9 fun t10 I10 => fin I10 nx
  exact codeAny_compStart_list loop (T.self X.A 0 _ _ _ st4 loop)
theorem pe_lcx (tk : Takes X W) (hst : X.stack = X.env :: X.outer) (hfm : X.env.frame = some X.env.locals) (hc : X.calm = true) (hN : X.N.Nodup) (hi : PI X tg iter wi) (ok : BlkOk X.N X.env.scope scope own)
    (hg : ∀ (s : Shared) (H : Hp) (C : Addr) (cl : List (Str × Addr)) (fp : List Addr), PG (X.blk s H scope (compEnvC scope cl C X.env) fp) tg g)
    (he : ∀ (s : Shared) (H : Hp) (C : Addr) (cl : List (Str × Addr)) (fp : List Addr) (xe : Value → Shared → Prop) (E : XK), (∀ σ, PassesAt (L2.CX X.prog X.w) ((X.blk s H scope (compEnvC scope cl C X.env) fp).wish xe) σ E) → PE ((X.blk s H scope (compEnvC scope cl C X.env) fp).wish xe) elt (te E)) (hs : ∀ x, foldedSetIterable iter X.env x = pure x := by intro _; rfl) :
    PE X (.ListComp elt [⟨tg, iter, [], 0⟩] scope pos) (tLcx wi g te (own.map (·.2)) W) := by
  refine ⟨fun pins s σ H Q I h => ?_⟩
  rw [eval_ListComp]
  refine lcx_core tk hst hfm hc hN I hi ok hg he hs h fun D C t m H' I' q hn f => ⟨m, hn, fun h2 sb => ?_⟩
  obtain ⟨g0, g1, g2, g3, g4, g5⟩ := f
  exact ⟨.ref D, H', I'.turned (t' := t.toks) (fun b o hb e => (sb.2 b hb).trans e) g0 g1 g3 g4 g5, rfl, q⟩
end
end BK
namespace BK
open PySem PySem.Spec L2
set_option autoImplicit false
/-! ### enumerate(x, 1) -/
/-- the list at a, its items counted from k on -/
def IteK (K : PySem.W.Frag) (a : Addr) (k : Int) : It :=
  ⟨fun i H => ∃ (us : List V) (u : V), SqL K H a us ∧ us[i]? = some u, fun i H r H2 => ∃ T u, r = .ref T ∧ H T = none ∧ H2 = upd H T (.tup [.int (k + (i : Nat)), u]) ∧ ∀ us, SqL K H a us → us[i]? = some u, fun i H => ∃ us : List V, SqL K H a us ∧ us.length ≤ i⟩
theorem turn_enumK {P : Program} {w : World} {K : PySem.W.Frag} {elts : List Expr} {kk : Nat} {tpos : Pos} (k : Int) (a e it : Addr) :
    Turn P w K (.Tuple elts kk tpos) (IteK K a k) [e, it] e (fun i h => (∃ old, IsEnum h e it (k + (i : Nat)) old) ∧ h.IsListIter it a i ∧ e ≠ it) where
  mem := by simp
  obj := fun i h st b hb => by
    obtain ⟨⟨old, he⟩, ⟨o, ho, hc, hd⟩, _⟩ := st
    rcases (show b = e ∨ b = it by simpa using hb) with rfl | rfl
    · exact ⟨_, he, fun _ => nofun⟩
    · exact ⟨o, ho, fun _ r => by rw [hd] at r; cases r⟩
  keep := fun i h h2 st kp => ⟨st.1.imp fun old he => kp e (by simp) _ he, st.2.1.at (kp it (by simp)), st.2.2⟩
  item := by
    intro X hP hw hK hc i pins t σ H E I hf st hg
    subst hP hw hK
    obtain ⟨⟨old, he⟩, hit, hne⟩ := st
    obtain ⟨us, u, hq, hu⟩ := hg
    obtain ⟨its, rv, pl, hz⟩ := I.list hq
    obtain ⟨r, er, ru⟩ := rv.get hu
    have elt : e < t.heap.objs.size := Heap.lt_size he
    have ilt : it < t.heap.objs.size := by obtain ⟨_, q, _⟩ := hit; exact Heap.lt_size q
    have nit : a ≠ it := fun z => by
      subst z
      obtain ⟨o1, q1, c1, _⟩ := hit
      obtain ⟨o2, q2, c2, _⟩ := pl.isList
      rw [q1] at q2
      cases q2
      rw [c1] at c2
      exact absurd c2 (by simp)
    have nel : a ≠ e := fun z => by
      subst z
      obtain ⟨o2, q2, c2, _⟩ := pl.isList
      rw [he] at q2
      cases q2
      exact absurd c2 (by simp)
    have D := Draws.list (prog := X.prog) (w := X.w) (A := X.A.in1) (I.ok.hd hc) it a nit its.toArray
    refine wpAny_pyNext_enum_itemC (i := i) (old := old) D he ⟨hit, pl.isList⟩ (by
      have := (List.getElem?_eq_some_iff.mp er).1
      rw [List.size_toArray]
      exact this) hne (by simpa using ⟨fun z => hne z, fun z => nel z.symm⟩) fun x h9 tk px ho st9 hT hsz hk => ?_
    have ex : x = r := by
      have px : its.toArray[i]? = some x := px
      rw [List.getElem?_toArray, er] at px
      exact (Option.some.inj px).symm
    subst ex
    refine ⟨_, rfl, wpAny_letOwnedTupleGo_enum (s := { t with heap := h9, toks := tk + 1 }) ho fun h8 he8 sb => ?_⟩
    have hT8 : h8.get? t.heap.objs.size = some { cls := .type "tuple", data := .seq #[.int (k + (i : Nat)) tk, x] } := (sb.2 _ (Nat.ne_of_gt elt)).trans hT
    have new : ObjOk X.prog X.w (upd H t.heap.objs.size (.tup [.int (k + (i : Nat)), u])) h8 t.heap.objs.size (.tup [.int (k + (i : Nat)), u]) := ⟨by show 2 ≤ sizeLine; decide, [.int (k + (i : Nat)) tk, x], .cons ⟨_, rfl⟩ (.cons ru .nil), ⟨_, hT8, rfl, _, rfl⟩⟩
    have I8 : Inv X pins σ (upd H t.heap.objs.size (.tup [.int (k + (i : Nat)), u])) { t with heap := h8, toks := tk + 1 } :=
      I.turnedNew (ch := [e, it]) (fun b ob hb q => (sb.2 b (fun z => hb (by simp [z]))).trans (hk b ob (fun z => hb (by simp [z])) (fun z => hb (by simp [z])) q)) hf (Nat.le_refl _) new
    refine ⟨.ref t.heap.objs.size, _, I8, rfl, ⟨_, u, rfl, I.hok.fresh (Nat.le_refl _), rfl, fun ys hy => by rw [I.list_inj hy hq]; exact hu⟩, ⟨⟨x, ?_⟩, st9.1.at fun o q => (sb.2 it (Ne.symm hne)).trans q, hne⟩, fun b hb => ?_⟩
    · rw [show k + ((i + 1 : Nat) : Int) = k + (i : Nat) + 1 by omega]
      exact he8
    · have lt : b < t.heap.objs.size := by
        rcases (show b = e ∨ b = it by simpa using hb) with rfl | rfl
        · exact elt
        · exact ilt
      rw [upd_ne (Nat.ne_of_lt lt)]
      exact (hf b hb).1
  done := by
    intro X hP hw hK hc i pins t σ H E I hf st hg
    subst hP hw hK
    obtain ⟨⟨old, he⟩, hit, hne⟩ := st
    obtain ⟨us, hq, hx⟩ := hg
    obtain ⟨its, rv, pl, hz⟩ := I.list hq
    obtain ⟨f0, f1, f2, f3, f4, f5⟩ := hf it (by simp)
    have hl := rv.length
    have nit : a ≠ it := fun z => by
      subst z
      obtain ⟨o1, q1, c1, _⟩ := hit
      obtain ⟨o2, q2, c2, _⟩ := pl.isList
      rw [q1] at q2
      cases q2
      rw [c1] at c2
      exact absurd c2 (by simp)
    have S := src_list (P0 := X.prog) (w0 := X.w) (i := it) (l := a) (xs := its.toArray) nit
    have tz : t.TypeIs (.ref e) "enumerate" := ⟨_, he, rfl⟩
    unfold pyNext
    refine wpAny_bind (wpAny_attempt (wpAny_callSpecial?_slot (name := Str.ofString "__next__") tz F.slot_enumerate_next (wpAny_call_entry F.slot_enumerate_next tz F.entry_enumerate_next ?_ (F.args_enumerate_next_1 _))))
    show wpAny _ _ (field (.ref e) 2 >>= _) _ _ t
    refine wpAny_bind (wpAny_field he rfl (x := .ref it) rfl ?_)
    refine wpAny_bind (S.stop (I.ok.hd hc) ⟨hit, pl.isList⟩ (k := i) (by simp; omega) fun h2 u eb ⟨oe, oh, oc⟩ => ?_)
    exact wpAny_bind (wpAny_isInstance (T := "StopIteration") (b := true) ⟨oe, oh, oc⟩ isSubtype_stop (wpAny_pure ⟨rfl, I.turned (t' := t.toks) (fun b o hb q => eb b o hb q) f0 f1 f3 f4 f5⟩))
  self := fun A i t Q E st h => let ⟨⟨_, he⟩, _⟩ := st; wpAny_pyIter_enum he h
def iEnumK (K : PySem.W.Frag) (ta : TA) : TI := fun σ H R => ta σ H fun vs H1 => ∃ a us k, vs = [.ref a, .int k] ∧ SqL K H1 a us ∧ -(2 ^ 63) ≤ k ∧ k < 2 ^ 63 ∧ R (IteK K a k) H1
theorem pi_enumK {X : Cx} {e e2 : Expr} {ta : TA} {p pos tpos : Pos} {elts : List Expr} {kk : Nat} (hg : Gl X "enumerate") (hm : X.mg "enumerate" = none) (ha : PA X [e, e2] ta)
    (hs : starEach [e, e2] X.env = (false, eval e X.env) :: starEach [e2] X.env := by rfl) (hpl : (backTo pos (starEach [e2] X.env)).any (·.1) = false := by rfl) :
    PI X (.Tuple elts kk tpos) (.Call (.Name "enumerate" p) [e, e2] [] pos) (iEnumK X.K ta) := by
  refine ⟨fun pins s σ H R I h => ?_⟩
  refine PyProof.Rows.Call_ (ld_blt I hg hm PyProof.Rows.boot_enumerate (PyProof.Rows.callWith_type1 (thn (ha.run pos pins s σ H _ I h) fun us0 t ⟨vs, H1, I1, r1, q1⟩ => ?_) hs hpl))
  obtain ⟨a, us, k, rfl, hq, k0, k1, q⟩ := q1
  cases r1 with
  | cons r rr =>
    cases rr with
    | cons r2 rr =>
      cases rr
      cases r
      obtain ⟨tk, rfl⟩ := r2
      obtain ⟨its, rv, pl, hz⟩ := I1.list hq
      refine enum_begins (begins_list a its.toArray) pl.isList k0 k1 fun h9 he hit hsz hk => wpAny_pyIter_enum he ?_
      have I2 : Inv X pins σ H1 { t with heap := h9 } := I1.kept (t' := t.toks) hk
      refine ⟨t.heap.objs.size + 1, [t.heap.objs.size + 1, t.heap.objs.size], _, _, H1, rfl, I2, turn_enumK k a (t.heap.objs.size + 1) t.heap.objs.size, ⟨⟨.none, by rw [show k + ((0 : Nat) : Int) = k by omega]; exact he⟩, ⟨_, hit, rfl, rfl⟩, Nat.succ_ne_self _⟩, fun b hb => ?_, q⟩
      have le : t.heap.objs.size ≤ b := by
        rcases (show b = t.heap.objs.size + 1 ∨ b = t.heap.objs.size by simpa using hb) with z | z
        · rw [z]; exact Nat.le_add_right _ _
        · rw [z]; exact Nat.le_refl _
      exact I1.fpOk le (I1.hok.fresh le)
end BK
namespace BK
open PySem PySem.Spec L2
set_option autoImplicit false
/-! ### [f(..) for ..], f raises; enumerate(x, 1) -/
def tXE (K : PySem.W.Frag) (ca : Nat → Addr) (E : XK) (m : Gm → Option Exc) : TE := fun σ H _ => ∃ H0 F0 F Γ x, SR K ca H0 F0 σ H F Γ ∧ m Γ = some x ∧ ∀ cls d H' F', Ext ca H F H' F' → XD K ca F' cls d x → E cls d H'
def xLcL (f : D → Gm → Option Gm) (el : Gm → Option R) (ex : Gm → Option Exc) (g : Gm) : List D → Option Exc
  | [] => none
  | d :: ds => (f d g).bind fun g1 => match ex g1 with
    | some x => some x
    | none => (el g1).bind fun _ => xLcL f el ex g ds
def xLc (mi : Gm → Option (List Nat × List D)) (f : D → Gm → Option Gm) (el : Gm → Option R) (ex : Gm → Option Exc) (own : List Nat) : Gm → Option Exc := fun g => (mi g).bind fun p => if p.2.length ≤ LIM then xLcL f el ex (wipeG g own) p.2 else none
theorem t_lcx {K : PySem.W.Frag} {ca : Nat → Addr} {W : WX} {mi : Gm → Option (List Nat × List D)} {f : D → Gm → Option Gm} {el : Gm → Option R} {ex : Gm → Option Exc} {own T : List Nat} (hT : ∀ j ∈ T, j ∈ own) (hln : ∀ d g g', f d g = some g' → g'.length = g.length) : ∀ σ H Q, tXV K ca W (xLc mi f el ex own) σ H → tLcx (tIV K ca mi) (tGV K ca f T) (fun E σ H Q => tEV K ca el σ H Q ∨ tXE K ca E ex σ H Q) own W σ H Q := by
  rintro σ H Q ⟨H0, F0, F, Γ, x, S, e, q⟩
  unfold xLc at e
  obtain ⟨⟨ps, ds⟩, em, e⟩ := Option.bind_eq_some_iff.mp e
  by_cases hlen : ds.length ≤ LIM
  rotate_left
  · rw [if_neg hlen] at e; cases e
  rw [if_pos hlen] at e
  refine ⟨H0, F0, F, Γ, (ps, ds), S, em, fun J H1 F1 PL x1 jo hPL A hA => ?_⟩
  have S1 := S.mono x1
  refine ⟨fun i m H' => ∃ F' acc, m = ds.length - i ∧ i ≤ ds.length ∧ Ext ca H1 F1 H' F' ∧ F' A = none ∧ H' A = some (.lst acc) ∧ acc.length ≤ i ∧ xLcL f el ex (wipeG Γ own) (ds.drop i) = some x,
    ⟨_, F1, [], rfl, Nat.zero_le _, .newO x1.fh _ hA, x1.fh.free hA, upd_same, Nat.zero_le _, e⟩, ?_⟩
  rintro i m H2 ⟨F2, acc, rfl, hi, x2, fA, hA2, ho, he⟩
  have S2 := S1.mono x2
  have pk := pins_ok S2 hPL
  by_cases hlt : i < ds.length
  · have hd' : ds[i]? = some ds[i] := List.getElem?_eq_getElem hlt
    have ed : ds.drop i = ds[i] :: ds.drop (i + 1) := List.drop_eq_getElem_cons hlt
    rw [ed] at he
    unfold xLcL at he
    obtain ⟨g1, eg, he⟩ := Option.bind_eq_some_iff.mp he
    obtain ⟨jgo, jy⟩ := jo.go i _ H2 F2 hd' x2.ff x2.fh pk
    refine .inr ⟨jgo, fun H' => ∃ F' acc, Ext ca H1 F1 H' F' ∧ F' A = none ∧ H' A = some (.lst acc) ∧ acc.length ≤ i + 1 ∧ xLcL f el ex (wipeG Γ own) (ds.drop (i + 1)) = some x, fun H' ⟨F', acc', w1, w2, w3, w4, w5⟩ => ⟨ds.length - (i + 1), by omega, F', acc', rfl, hlt, w1, w2, w3, w4, w5⟩, fun y H3 yy => ?_⟩
    obtain ⟨F3, x3, d3⟩ := jy y H3 yy
    have S3 := (S2.mono x3).wipe own
    refine ⟨H0, F0, F3, _, _, g1, S3, d3, eg, fun σ4 S4 k4 => ⟨?_, ?_⟩⟩
    · refine wipe_kp ?_ fun j hj => ?_
      · rw [S4.len, hln _ _ _ eg, wipeG_length, S.len]
      · rw [k4 j fun z => hj (hT j z), wipe_get hj]
    · have x23 := x2.trans x3
      cases hex : ex g1 with
      | some x' =>
        rw [hex] at he
        cases he
        exact .inr ⟨H0, F0, F3, g1, x, S4, hex, fun cls d H' F' x5 r => q cls d H' F' ((x1.trans x23).trans x5) r⟩
      | none =>
        rw [hex] at he
        obtain ⟨r, er, he⟩ := Option.bind_eq_some_iff.mp he
        refine .inl ⟨H0, F0, F3, g1, r, S4, er, fun v H5 F5 x5 r5 => ?_⟩
        have x25 := x23.trans x5
        have hA5 : H5 A = some (.lst acc) := (x3.trans x5).hh.l hA2
        have fA5 : F5 A = none := (x3.trans x5).keepN hA2 fA
        refine ⟨acc, hA5, by rw [lim_eq]; omega, F5, acc ++ [v], ?_, fA5, upd_same, by rw [List.length_append, List.length_singleton]; omega, he⟩
        refine ⟨x25.hh.updO (noT_none hA) (Pl.lst hA5), x25.ff, fun b o h => ?_, x25.nw, x25.nt⟩
        rw [upd_ne (ne_of_none h fA5)]
        exact x25.fh b o h
  · have ei : i = ds.length := by omega
    subst ei
    rw [List.drop_length] at he
    cases he
section
variable {X : Cx} {ca : Nat → Addr}
theorem PA.noxA {es : List Expr} {t : TA} (h : PA X.nox es t) : PA X es t := ⟨fun pos pins s σ H Q I hw =>
  wpAny_mono (h.run pos pins s σ H Q (I.wish _) hw) (fun _ _ ⟨vs, H', I', r, q⟩ => ⟨vs, H', I'.unwish, r, q⟩) fun _ _ z => False.elim z⟩
theorem xe_call {j : Nat} {x : Str} {ψ : List D → Option Exc} {e : Expr} {es : List Expr} {ms : Gm → Option (List R)} {p pos : Pos} {E : XK} (C : CalleeX X.prog X.w X.K X.mg X.base ca j x ψ) (hr : Room j X.A) (hg : Gl X x) (ha : AV X.nox ca (e :: es) ms) (hp : ∀ σ, PassesAt (L2.CX X.prog X.w) X σ E) (hdb : (x == ("__debug__" : Str)) = false := by decide)
    (he : starEach (e :: es) X.env = (false, eval e X.env) :: starEach es X.env := by rfl) (hpl : (backTo pos (starEach es X.env)).any (·.1) = false := by rfl) : PE X (.Call (.Name x p) (e :: es) [] pos) (tXE X.K ca E (xC ψ ms)) := by
  obtain ⟨f, fd, ps, G, hm, hk, hb⟩ := C.ex
  refine pe_imp (pe_callS (E := fun _ => E) G hr hg hm hk hb hp (PA.noxA ha) hdb he hpl) ?_
  rintro σ H Q ⟨H0, F0, F, Γ, z, S, e, q⟩
  obtain ⟨rs, er, e⟩ := Option.bind_eq_some_iff.mp e
  refine ⟨H0, F0, F, Γ, rs, S, er, fun vs H1 F1 x1 r1 => ?_⟩
  exact callX_core (S.mono x1) r1 e fun cls d H2 F2 x2 r2 => q cls d H2 F2 (x1.trans x2) r2
variable {elt tg iter : Expr} {scope : Scope} {own : List (Str × Nat)} {pos : Pos} {mi : Gm → Option (List Nat × List D)} {f : D → Gm → Option Gm} {el : Gm → Option R} {ex : Gm → Option Exc} {T ow : List Nat}
theorem xv_lc (hst : X.stack = X.env :: X.outer) (hfm : X.env.frame = some X.env.locals) (hc : X.calm = true) (hN : X.N.Nodup) (hi : IV X ca tg iter mi) (ok : BlkOk X.N X.env.scope scope own) (how : ow = own.map (·.2))
    (hg : ∀ (s : Shared) (H : Hp) (C : Addr) (cl : List (Str × Addr)) (fp : List Addr), GV (X.blk s H scope (compEnvC scope cl C X.env) fp) ca tg f T)
    (he : ∀ (s : Shared) (H : Hp) (C : Addr) (cl : List (Str × Addr)) (fp : List Addr), EV (X.blk s H scope (compEnvC scope cl C X.env) fp) ca elt el)
    (hx : ∀ (s : Shared) (H : Hp) (C : Addr) (cl : List (Str × Addr)) (fp : List Addr) (xe : Value → Shared → Prop) (E : XK), (∀ σ, PassesAt (L2.CX X.prog X.w) ((X.blk s H scope (compEnvC scope cl C X.env) fp).wish xe) σ E) → PE ((X.blk s H scope (compEnvC scope cl C X.env) fp).wish xe) elt (tXE X.K ca E ex))
    (hT : ∀ j ∈ T, j ∈ ow) (ln : ∀ d g g', f d g = some g' → g'.length = g.length) (hs : ∀ x, foldedSetIterable iter X.env x = pure x := by intro _; rfl) : XV X ca (.ListComp elt [⟨tg, iter, [], 0⟩] scope pos) (xLc mi f el ex ow) := by
  subst how
  intro W tk
  refine pe_imp (pe_lcx (wi := tIV X.K ca mi) (g := tGV X.K ca f T) (te := fun E σ H Q => tEV X.K ca el σ H Q ∨ tXE X.K ca E ex σ H Q) tk hst hfm hc hN hi ok (fun s H C cl fp => (hg s H C cl fp).pg) (fun s H C cl fp xe E hp => pe_or (PE.nox (he s H C cl fp)) (hx s H C cl fp xe E hp)) hs) ?_
  exact fun σ H Q h => t_lcx hT ln σ H Q h
end
/-! enumerate(x, 1) -/
def en1R (rs : List R) : Option (List Nat × List D) := match rs with
  | [r, .va (.int 1)] => (listA r).map fun p => (p.1, enumL 1 p.2)
  | _ => none
section
variable {X : Cx} {ca : Nat → Addr} {e e2 : Expr} {ms : Gm → Option (List R)} {p pos tpos : Pos}
theorem iv_enum1 {elts : List Expr} {kk : Nat} (hg : Gl X "enumerate") (hm : X.mg "enumerate" = none) (ha : AV X ca [e, e2] ms)
    (hs : starEach [e, e2] X.env = (false, eval e X.env) :: starEach [e2] X.env := by rfl) (hpl : (backTo pos (starEach [e2] X.env)).any (·.1) = false := by rfl) : IV X ca (.Tuple elts kk tpos) (.Call (.Name "enumerate" p) [e, e2] [] pos) (iA en1R ms) := by
  refine pi_imp (pi_enumK hg hm ha hs hpl) ?_
  rintro σ H R' ⟨H0, F0, F, Γ, ⟨ps, ds⟩, S, e, q⟩
  unfold iA at e
  obtain ⟨rs, er, e⟩ := Option.bind_eq_some_iff.mp e
  refine ⟨H0, F0, F, Γ, rs, S, er, fun vs H1 F1 x1 r1 => ?_⟩
  unfold en1R at e
  split at e
  · rename_i r
    obtain ⟨⟨ps1, ds1⟩, el, e⟩ := Option.map_eq_some_iff.mp e
    cases e
    cases r1 with
    | cons h1 hs =>
      cases hs with
      | cons h2 hs =>
        cases hs
        cases h2
        obtain ⟨a, PL, rfl, lo, hb⟩ := RV.walkA h1 el
        obtain ⟨ws, g1, _⟩ := lo.rd H1 F1 (Same.refl _) x1.fh (pins_ok (S.mono x1) hb)
        refine ⟨a, ws, 1, rfl, g1, by decide, by decide, q _ H1 F1 PL x1 ⟨fun i d H3 F3 e s1 s3 qp => ?_, fun H3 F3 s1 s3 qp => ?_⟩ hb⟩
        · obtain ⟨us, k1, k2⟩ := lo.rd H3 F3 s1 s3 qp
          have e : (enumL 1 ds1)[i]? = some d := e
          rw [enumL_get] at e
          obtain ⟨d', ed, rfl⟩ := Option.map_eq_some_iff.mp e
          obtain ⟨v, e1, e2⟩ := k2.getV ed
          refine ⟨⟨us, v, k1, e1⟩, ?_⟩
          rintro x H' ⟨T, y, rfl, hT, rfl, hy⟩
          have := hy us k1
          rw [e1] at this
          cases this
          rw [show (1 : Int) + (i : Nat) = ((1 + i : Nat) : Int) by omega]
          exact pair_den s3 hT (.int _) e2
        · obtain ⟨us, k1, k2⟩ := lo.rd H3 F3 s1 s3 qp
          refine ⟨us, k1, ?_⟩
          rw [k2.length]
          show ds1.length ≤ (enumL 1 ds1).length
          rw [enumL_length]
          exact Nat.le_refl _
  · cases e
end
end BK
namespace BK
open PySem PySem.Spec L2
set_option autoImplicit false
/-! ### [f(..) for ..] that answers or raises; xs.pop() -/
def uLcL (f : D → Gm → Option Gm) (u : UE) (g : Gm) : List D → Option (List D ⊕ Exc)
  | [] => some (.inl [])
  | d :: ds => (f d g).bind fun g1 => (u g1).bind fun z => match z with
    | .inl r => if r.isBw = true then none else (uLcL f u g ds).map fun w => match w with
      | .inl es => .inl (r.d :: es)
      | .inr x => .inr x
    | .inr x => some (.inr x)
def uLc (mi : Gm → Option (List Nat × List D)) (f : D → Gm → Option Gm) (u : UE) (own : List Nat) : UE := fun g => (mi g).bind fun p => if p.2.length ≤ LIM then (uLcL f u (wipeG g own) p.2).map fun w => match w with
  | .inl es => .inl (.tm es)
  | .inr x => .inr x
  else none
theorem uLcL_n {f : D → Gm → Option Gm} {u : UE} {g : Gm} : ∀ (ds es : List D), uLcL f u g ds = some (.inl es) → compL f bY (nE u) g ds = some es
  | [], es, h => by cases h; rfl
  | d :: ds, es, h => by
    unfold uLcL at h
    obtain ⟨g1, e1, h⟩ := Option.bind_eq_some_iff.mp h
    obtain ⟨z, ez, h⟩ := Option.bind_eq_some_iff.mp h
    cases z with
    | inr x => cases h
    | inl r =>
      have h : (if r.isBw = true then none else (uLcL f u g ds).map fun w => match w with
        | .inl es => (.inl (r.d :: es) : List D ⊕ Exc)
        | .inr x => .inr x) = some (.inl es) := h
      split at h
      · cases h
      · rename_i c
        obtain ⟨w, ew, h⟩ := Option.map_eq_some_iff.mp h
        cases w with
        | inr x => cases h
        | inl es' =>
          cases h
          have := uLcL_n ds es' ew
          unfold compL
          rw [e1]
          simp only [Option.bind_some, bY, nE_of ez, this]
          simp [c]
theorem uLcL_x {f : D → Gm → Option Gm} {u : UE} {g : Gm} : ∀ (ds : List D) (x : Exc), uLcL f u g ds = some (.inr x) → xLcL f (nE u) (xE u) g ds = some x
  | [], x, h => by cases h
  | d :: ds, x, h => by
    unfold uLcL at h
    obtain ⟨g1, e1, h⟩ := Option.bind_eq_some_iff.mp h
    obtain ⟨z, ez, h⟩ := Option.bind_eq_some_iff.mp h
    unfold xLcL
    rw [e1]
    cases z with
    | inr y =>
      cases h
      show (match xE u g1 with | some x => some x | none => _) = _
      rw [xE_of ez]
    | inl r =>
      have h : (if r.isBw = true then none else (uLcL f u g ds).map fun w => match w with
        | .inl es => (.inl (r.d :: es) : List D ⊕ Exc)
        | .inr x => .inr x) = some (.inr x) := h
      split at h
      · cases h
      · rename_i c
        obtain ⟨w, ew, h⟩ := Option.map_eq_some_iff.mp h
        cases w with
        | inl es => cases h
        | inr y =>
          cases h
          have n : xE u g1 = none := by unfold xE; rw [ez]
          show (match xE u g1 with | some x => some x | none => _) = _
          rw [n]
          show (nE u g1).bind _ = _
          rw [nE_of ez]
          exact uLcL_x ds _ ew
theorem uLc_n {mi : Gm → Option (List Nat × List D)} {f : D → Gm → Option Gm} {u : UE} {own : List Nat} {g : Gm} {r : R} (h : nE (uLc mi f u own) g = some r) : eLc mi f bY (nE u) own g = some r := by
  have h := nE_some h
  unfold uLc at h
  unfold eLc
  obtain ⟨p, ep, h⟩ := Option.bind_eq_some_iff.mp h
  rw [ep]
  split at h
  · rename_i c
    obtain ⟨w, ew, h⟩ := Option.map_eq_some_iff.mp h
    cases w with
    | inr x => cases h
    | inl es =>
      cases h
      show (if _ then _ else _) = _
      rw [if_pos c, uLcL_n _ _ ew]
      rfl
  · cases h
theorem uLc_x {mi : Gm → Option (List Nat × List D)} {f : D → Gm → Option Gm} {u : UE} {own : List Nat} {g : Gm} {x : Exc} (h : xE (uLc mi f u own) g = some x) : xLc mi f (nE u) (xE u) own g = some x := by
  have h := xE_some h
  unfold uLc at h
  unfold xLc
  obtain ⟨p, ep, h⟩ := Option.bind_eq_some_iff.mp h
  rw [ep]
  split at h
  · rename_i c
    obtain ⟨w, ew, h⟩ := Option.map_eq_some_iff.mp h
    cases w with
    | inl x => cases h
    | inr y =>
      cases h
      show (if _ then _ else _) = _
      rw [if_pos c, uLcL_x _ _ ew]
  · cases h
section
variable {X : Cx} {ca : Nat → Addr} {e : Expr} {es : List Expr} {p pos : Pos} {υ : List D → Option (R ⊕ Exc)} {φ : Phi} {ψ : List D → Option Exc} {ms : Gm → Option (List R)}
theorem ev_uC {j : Nat} {x : Str} (C : Callee X.prog X.w X.K X.mg X.base ca j x φ []) (hφ : ∀ ds r, υ ds = some (.inl r) → φ ds = some r)
    (hr : Room j X.A) (hg : Gl X x) (ha : AV X ca (e :: es) ms) (hdb : (x == ("__debug__" : Str)) = false := by decide)
    (he : starEach (e :: es) X.env = (false, eval e X.env) :: starEach es X.env := by rfl) (hpl : (backTo pos (starEach es X.env)).any (·.1) = false := by rfl) : EV X ca (.Call (.Name x p) (e :: es) [] pos) (nE (uC υ ms)) :=
  ev_imp (ev_fn C hr hg ha hdb he hpl) fun g r z => by
    obtain ⟨rs, er, z⟩ := Option.bind_eq_some_iff.mp (nE_some z)
    unfold eA
    rw [er]
    exact callU_n hφ z
theorem xe_uC {j : Nat} {x : Str} {E : XK} (C : CalleeX X.prog X.w X.K X.mg X.base ca j x ψ) (hψ : ∀ ds x, υ ds = some (.inr x) → ψ ds = some x) (hr : Room j X.A) (hg : Gl X x) (ha : AV X.nox ca (e :: es) ms) (hp : ∀ σ, PassesAt (L2.CX X.prog X.w) X σ E) (hdb : (x == ("__debug__" : Str)) = false := by decide)
    (he : starEach (e :: es) X.env = (false, eval e X.env) :: starEach es X.env := by rfl) (hpl : (backTo pos (starEach es X.env)).any (·.1) = false := by rfl) : PE X (.Call (.Name x p) (e :: es) [] pos) (tXE X.K ca E (xE (uC υ ms))) :=
  pe_imp (xe_call C hr hg ha hp hdb he hpl) fun σ H Q ⟨H0, F0, F, Γ, z, S, e, q⟩ => ⟨H0, F0, F, Γ, z, S, by
    obtain ⟨rs, er, e⟩ := Option.bind_eq_some_iff.mp (xE_some e)
    unfold xC
    rw [er]
    exact callU_x hψ e, q⟩
variable {elt tg iter : Expr} {scope : Scope} {own : List (Str × Nat)} {mi : Gm → Option (List Nat × List D)} {f : D → Gm → Option Gm} {u : UE} {T ow : List Nat}
theorem uv_lc (hst : X.stack = X.env :: X.outer) (hfm : X.env.frame = some X.env.locals) (hc : X.calm = true) (hN : X.N.Nodup) (hi : IV X ca tg iter mi) (ok : BlkOk X.N X.env.scope scope own) (how : ow = own.map (·.2))
    (hg : ∀ (s : Shared) (H : Hp) (C : Addr) (cl : List (Str × Addr)) (fp : List Addr), GV (X.blk s H scope (compEnvC scope cl C X.env) fp) ca tg f T)
    (he : ∀ (s : Shared) (H : Hp) (C : Addr) (cl : List (Str × Addr)) (fp : List Addr), EV (X.blk s H scope (compEnvC scope cl C X.env) fp) ca elt (nE u))
    (hx : ∀ (s : Shared) (H : Hp) (C : Addr) (cl : List (Str × Addr)) (fp : List Addr) (xe : Value → Shared → Prop) (E : XK), (∀ σ, PassesAt (L2.CX X.prog X.w) ((X.blk s H scope (compEnvC scope cl C X.env) fp).wish xe) σ E) → PE ((X.blk s H scope (compEnvC scope cl C X.env) fp).wish xe) elt (tXE X.K ca E (xE u)))
    (hT : ∀ j ∈ T, j ∈ ow) (ln : ∀ d g g', f d g = some g' → g'.length = g.length) (hs : ∀ x, foldedSetIterable iter X.env x = pure x := by intro _; rfl) : UV X ca (.ListComp elt [⟨tg, iter, [], 0⟩] scope pos) (uLc mi f u ow) :=
  ⟨ev_imp (ev_lc hc hN hi ok how hg (fun _ _ _ _ _ => cv_nil) he hT ln hs) fun g r z => uLc_n z, xv_imp (xv_lc hst hfm hc hN hi ok how hg he hx hT ln hs) fun g x z => uLc_x z⟩
/-- xs.pop() -/
def sPop0 (i : Nat) : Gm → Option Out := fun g => match g[i]? with
  | some (.ow ds) => if ds = [] then none else some (.nx (g.set i (.ow ds.dropLast)))
  | _ => none
theorem sv_pop0 {i : Nat} {x : Str} {p1 p2 p3 : Pos} (hx : PE X (.Name x p1) (tVar i)) (h : PE X (.Call (.Attribute (.Name x p1) "pop" p2) [] [] p3) (tBM0 X.K "list" rPop (tVar i)))
    (hs : swapsWith (.Call (.Attribute (.Name x p1) "pop" p2) [] [] p3) none pos.line X.env = pure false := by rfl) : SV X ca (.Expr (.Call (.Attribute (.Name x p1) "pop" p2) [] [] p3) pos) (sPop0 i) [i] := by
  refine ⟨ps_imp (ps_expr h hs) ?_, fun g o e => ?_⟩
  · rintro D σ H ⟨H0, F0, F, Γ, o, S, e, p⟩
    unfold sPop0 at e
    split at e
    · rename_i ds hg
      split at e
      · cases e
      rename_i hne
      cases e
      obtain ⟨a, vs, s, h1, h2, h3, h4⟩ := S.ow i ds hg
      have hl : 0 < ds.length := List.length_pos_iff.mpr hne
      have hk : ds.length - 1 < ds.length := by omega
      obtain ⟨w, hw, _⟩ := h4.getV (List.getElem?_eq_getElem hk)
      have e4 := h4.eraseIdx (ds.length - 1)
      rw [List.eraseIdx_length_sub_one] at e4
      have : vs.eraseIdx (ds.length - 1) = vs.dropLast := by rw [← h4.length, List.eraseIdx_length_sub_one]
      rw [this] at e4
      exact ⟨_, s, .inl ⟨rfl, vs, SqL.of h3⟩, a, vs, w, rfl, rfl, h3, by rw [h4.length]; exact hw, p σ _ F (S.upd hg s e4) (Same.refl _) .refl⟩
    · cases e
  · unfold sPop0 at e
    split at e
    · split at e
      · cases e
      · cases e; exact kpg_set
    · cases e
end
/-! in plain types -/
/-- all items, or the first that raises -/
def mapU {α β : Type} (F : α → Option (β ⊕ Exc)) : List α → Option (List β ⊕ Exc)
  | [] => some (.inl [])
  | x :: xs => (F x).bind fun z => match z with
    | .inl y => (mapU F xs).map fun w => match w with
      | .inl ys => .inl (y :: ys)
      | .inr x => .inr x
    | .inr x => some (.inr x)
theorem x_uLc {α β : Type} {mi : Gm → Option (List Nat × List D)} {f : D → Gm → Option Gm} {u : UE} {ow ps : List Nat} {g : Gm} (enc : α → D) (k : β → D) {F : α → Option (β ⊕ Exc)} {xs : List α} {z : List β ⊕ Exc} (hm : mi g = some (ps, xs.map enc)) (hl : xs.length ≤ 16777216) (step : ∀ x ∈ xs, ∃ g1, f (enc x) (wipeG g ow) = some g1 ∧ ∀ w, F x = some w → ∃ r, u g1 = some (KU r w) ∧ ∀ v, w = .inl v → (r v).isBw = false ∧ (r v).d = k v) (h : mapU F xs = some z) : uLc mi f u ow g = some (KU (fun ys => .tm (ys.map k)) z) := by
  have key : ∀ (xs : List α) z, (∀ x ∈ xs, ∃ g1, f (enc x) (wipeG g ow) = some g1 ∧ ∀ w, F x = some w → ∃ r, u g1 = some (KU r w) ∧ ∀ v, w = .inl v → (r v).isBw = false ∧ (r v).d = k v) → mapU F xs = some z → uLcL f u (wipeG g ow) (xs.map enc) = some (match z with
      | .inl ys => .inl (ys.map k)
      | .inr x => .inr x) := by
    intro xs
    induction xs with
    | nil => intro z _ e; cases e; rfl
    | cons x xs ih =>
      intro z hs e
      obtain ⟨g1, e1, hu⟩ := hs x List.mem_cons_self
      unfold mapU at e
      obtain ⟨w, ew, e⟩ := Option.bind_eq_some_iff.mp e
      obtain ⟨r, e2, hr⟩ := hu w ew
      rw [List.map_cons]
      unfold uLcL
      rw [e1]
      show (u g1).bind _ = _
      rw [e2]
      cases w with
      | inr y => cases e; rfl
      | inl v =>
        obtain ⟨b1, b2⟩ := hr v rfl
        obtain ⟨q, eq, e⟩ := Option.map_eq_some_iff.mp (show (mapU F xs).map _ = some z from e)
        have i := ih q (fun x hx => hs x (List.mem_cons_of_mem _ hx)) eq
        show (if (r v).isBw = true then none else (uLcL f u (wipeG g ow) (xs.map enc)).map _) = _
        rw [b1, if_neg (by decide), i, b2]
        cases q with
        | inl ys => cases e; rfl
        | inr y => cases e; rfl
  unfold uLc
  rw [hm]
  show (if (xs.map enc).length ≤ LIM then _ else _) = _
  rw [if_pos (by rw [List.length_map]; exact hl), key xs z step h]
  cases z <;> rfl
section
variable {α : Type} {b n : Gm → Option Out} {g g1 : Gm} {P : α → Out → Prop} {s : Option α} {i : Nat}
theorem j_pop0 {β : Type} {e : β → D} {xs : List β} (h0 : g[i]? = some (.ow (xs.map e))) (hne : xs ≠ []) (h1 : g.set i (.ow (xs.dropLast.map e)) = g1) (k : J b n g1 s P) : J (sCons (sPop0 i) b) n g s P :=
  j_seq (a := sPop0 i) (g1 := g1) (by
    unfold sPop0
    rw [h0]
    show (if xs.map e = [] then none else some (Out.nx (g.set i (.ow (xs.map e).dropLast)))) = _
    rw [if_neg (by simpa using hne), ← h1, List.map_dropLast]) k
end
end BK
namespace BK
open PySem PySem.Spec L2
set_option autoImplicit false
/-! ### try: .. except C as e: a block that reads e -/
section
variable {X : Cx} {pins : List (Addr × Obj)} {σ : L2.St} {H : Hp} {s : Shared}
/-- the exception is tracked in the suite -/
theorem trackS {a C : Addr} {oe : Obj} {d : Option Addr} {vs : Array Value} (I : Inv (X.suite a ((a, oe) :: (X.pn ++ pins))) [] σ H s) (hz : Zc (.ref C) d oe) (hd : oe.data = .fields vs)
    (hp : ∀ p ∈ X.pn ++ pins, p.1 ≠ a) (h0 : ∀ b o, X.s_0.heap.get? b = some o → b ∉ X.ex → b ≠ a) : Inv (X.suite a (X.pn ++ pins)) [] σ (upd H a (exh a C d)) s := by
  obtain ⟨ha, na, nL, nF, nc⟩ := I.pin (a, oe) (List.mem_append_left _ List.mem_cons_self)
  have un : ∀ {b u}, H b = some u → b ≠ a := fun {b u} e z => by
    rw [z] at e
    rw [na] at e; cases e
  refine ⟨⟨I.ok.mod, I.ok.kind, I.ok.glob, I.ok.blt, I.ok.above, I.ok.inj, I.ok.has, I.ok.cab, (fun z => absurd (show false = true from z) Bool.false_ne_true), I.ok.frames, I.ok.stk, I.ok.exf, I.ok.bs, I.ok.bsz, I.ok.noex, I.ok.exfs, I.ok.funs, I.ok.frf⟩, I.os, I.bare, ⟨I.base.keep, I.base.slot, fun b o e n hx => by rw [upd_ne (h0 b o e hx)]; exact I.base.free b o e n hx, I.base.there, fun b xs e => by rw [upd_ne (un (I.base.tups b xs e))]; exact I.base.tups b xs e,
    fun b o u e => by rw [upd_ne (un (I.base.frzs b o u e))]; exact I.base.frzs b o u e, fun b ps e => by
    obtain ⟨m, z⟩ := I.base.tbls b ps e
    exact ⟨m, by rw [upd_ne (un z)]; exact z⟩⟩, I.loc, I.cell, ?_, fun x c e => ?_, fun p hp' => ?_, fun b u e => ?_, I.len⟩
  · show upd H a _ X.env.locals = none
    rw [upd_ne (Ne.symm nL)]; exact I.free
  · obtain ⟨v, o, z1, z2⟩ := I.cell x c e
    have : c ≠ a := fun z => by
      rw [z, ha] at z1
      cases z1
      exact nc v z2
    rw [upd_ne this]; exact I.freeC x c e
  · have hp2 : p ∈ X.pn ++ pins := by
      have : p ∈ (X.pn ++ pins) ++ [] := hp'
      rwa [List.append_nil] at this
    obtain ⟨g1, g2, g3, g4, g5⟩ := I.pin p (List.mem_append_left _ (List.mem_cons_of_mem _ hp2))
    exact ⟨g1, by rw [upd_ne (hp p hp2)]; exact g2, g3, g4, g5⟩
  · by_cases hb : b = a
    · subst hb
      rw [upd_same] at e
      cases e
      exact exh_ok ha hz hd
    · rw [upd_ne hb] at e
      exact (I.hok b u e).stay (fun _ _ _ q => q) (fun c q => by rw [upd_ne (un q)]; exact q) fun c xs q => by rw [upd_ne (un q)]; exact q
theorem unsuiteS {a : Addr} (I : Inv (X.suite a (X.pn ++ pins)) [] σ H s) (ok : X.Ok) : Inv X pins σ H s :=
  ⟨ok, I.os, I.bare, I.base, I.loc, I.cell, I.free, I.freeC, fun p hp => I.pin p (by rw [List.append_nil]; exact hp), I.hok, I.len⟩
end
def wHand (K : PySem.W.Frag) (c : Value) (i : Nat) (ts : TS) (D : Ends) : WX := fun cls d σ H =>
  ∃ C : Addr, cls = .ref C ∧ PySem.W.exmOne K cls c = some true ∧ ∀ a, H a = none → ts { nx := fun σ' H' => D.nx (σ'.set i none) H', rt := fun _ _ => False, bk := fun _ _ => False, ct := fun _ _ => False } (σ.set i (some (.ref a))) (upd H a (exh a C d))
section
variable {X : Cx} {x n : Str} {c : Value} {i : Nat} {body suite : List Stmt} {b₀ : Stmt} {np pos pos' : Pos} {tb : WX → TS} {ts : TS}
theorem ps_try_hand (hs : X.stack = X.env :: X.outer) (hf : X.env.frame = some X.env.locals) (hN : X.N.Nodup) (hi : X.N[i]? = some n) (hln : X.env.kindOf n = some .local) (hc : Names X x c)
    (hb : ∀ (W : WX) (pn : List (Addr × Obj)) (xe : Value → Shared → Prop), Takes (X.tr pn xe) W → PSs (X.tr pn xe) body (tb W))
    (hsu : ∀ (a : Addr) (pn : List (Addr × Obj)), PSs (X.suite a pn) (b₀ :: suite) ts) :
    PS X (.Try body [.ExceptHandler (some (.Name x np)) (some n) (b₀ :: suite) pos'] [] [] pos) (fun D σ H => tb (wHand X.K c i ts D) D σ H) := by
  refine ⟨fun pins s σ H D I h => ?_⟩
  have ok := I.ok
  have hfr : X.A.frames = some (X.env :: X.outer) := by rw [ok.frames, hs]
  have hloc : Loc X.env.scope n := .inl hln
  refine wpAny_Try_except ?_
  refine wpAny_mono ((hb (wHand X.K c i ts D) (X.pn ++ pins) (fun e s₁ => wpAny (model X.prog X.w) X.A (noteFrame e X.env) (fun _ s₂ => wpAny (model X.prog X.w) X.A (setFlight e none) (fun _ s₃ =>
    wpAny (model X.prog X.w) X.A (handleBy e X.env [.ExceptHandler (some (.Name x np)) (some n) (b₀ :: suite) pos']) (SP X pins D) X.xe s₃) X.xe s₂) X.xe s₁) (fun u s' xx => ?_)).run [] s σ H D (I.toTry _) h) (fun f s1 hsp => ?_) (fun e s1 he => he)
  · obtain ⟨a, B, sI, pins', σ', H', cls, d, rfl, J', nb, up, sky, na, os, ag, C, rfl, hb1, hyes⟩ := xx
    have J : Inv X pins σ' H' sI := J'.ofTry ok
    have sky' : Sky B (X.env :: X.outer) a (Zc (.ref C) d) X.env.locals s'.heap := by rw [← hs]; exact sky
    show wpAny (model X.prog X.w) X.A (noteFrame (.ref a) X.env) _ _ _
    refine Sky.land Zc.steady hfr hf sky' fun h3 fl3 up3 => ?_
    have J3 : Inv X pins σ' H' { s' with heap := h3 } := J.landed nb fl3.1 (up.trans up3) os ag
    obtain ⟨oe3, vs3, he3, hz3, hd3⟩ := fl3.there
    have notFr : ∀ {h : Heap} {o : Obj} {vs : Array Value}, h.FunFrames B (X.env :: X.outer) → h.get? a = some o → o.data = .fields vs → a ∉ frs (X.env :: X.outer) := fun {h o vs} ff e dd hm => by
      obtain ⟨_, o', e', hnf⟩ := ff.mem hm
      rw [e] at e'; cases e'
      exact hnf _ dd
    have nfr := notFr fl3.2.2.1 he3 hd3
    have nL : a ≠ X.env.locals := fun z => nfr (List.mem_filterMap.mpr ⟨X.env, List.mem_cons_self, by rw [hf, z]⟩)
    have nF : a ∉ X.fs := fun hm => by
      obtain ⟨e, he, q⟩ := List.mem_filterMap.mp hm
      exact nfr (List.mem_filterMap.mpr ⟨e, List.mem_cons_of_mem _ he, q⟩)
    have nsI : ∀ o, sI.heap.get? a ≠ some o := fun o e => by
      have z := nb a o e (by rw [hs]; exact nfr)
      rw [fl3.2.1] at z; cases z
    have hpins : ∀ p ∈ X.pn ++ pins, p.1 ≠ a := fun p hp z => by
      obtain ⟨e, _⟩ := J.pin p hp
      rw [z] at e
      exact nsI _ e
    have hs0 : ∀ b o, X.s_0.heap.get? b = some o → b ∉ X.ex → b ≠ a := fun b o e hx z => by
      obtain ⟨o', e'⟩ := J.base.there b o e hx
      rw [z] at e'
      exact nsI _ e'
    have S3 := J3.suite he3 hd3 na nL nF
    refine wpAny_handleBy_cons (codeAny_handlers_test ?_) (by intro q; cases q)
    have LT : PySem.W.Looks (model X.prog X.w) h3 (typeOf (.ref a)) (.ref C) := fun A Q E s k q => wpAny_typeOf_ref (k _ _ he3) (by rw [hz3.1]; exact q)
    have LM := PySem.W.exm_one (M := model X.prog X.w) (J3.kIn) LT hb1
    have test : ∀ {Q : Value → Shared → Prop} {E : Value → Shared → Prop}, Q c { s' with heap := h3 } → wpAny (model X.prog X.w) (X.A.mark (some (.ref a))) (eval (.Name x np) X.env) Q E { s' with heap := h3 } := fun {Q E} q => by
      obtain ⟨hg, hdbg, hm | ⟨hm, hv, hnn⟩⟩ := hc
      · exact ld_glob (X := X.suite a ((a, oe3) :: (X.pn ++ pins))) S3 hg hm q hdbg
      · exact ld_blt (X := X.suite a ((a, oe3) :: (X.pn ++ pins))) S3 hg hm hv q hnn hdbg
    refine test (LM.here ?_)
    refine codeAny_handlers_suite_as ?_
    refine HandSPX.lands_againZ fl3 fun h4 fl4 up4 => ?_
    have J4 : Inv X pins σ' H' { s' with heap := h4 } := J.landed nb fl4.1 ((up.trans up3).trans up4) os ag
    obtain ⟨oe4, vs4, he4, hz4, hd4⟩ := fl4.there
    have S4 := J4.suite he4 hd4 na nL nF
    refine store_ok (X := X.suite a ((a, oe4) :: (X.pn ++ pins))) (v := .ref a) S4 hN hi hloc rfl (fun s5 S5 => ?_) (.inr hln)
    have T5 := trackS S5 hz4 hd4 hpins hs0
    refine wpAny_mono ((hsu a (X.pn ++ pins)).run [] s5 _ _ _ T5 (hyes a na)) (fun f s6 hsp => ?_) (fun _ _ z => False.elim z)
    cases f with
    | next =>
      obtain ⟨σ6, H6, S6, q6⟩ := hsp
      exact gone_ok (X := X) (unsuiteS S6 ok) hN hi hln fun s7 J7 => ⟨_, _, J7, q6⟩
    | brk =>
      obtain ⟨σ6, H6, S6, q6⟩ := hsp
      exact q6.elim
    | cont =>
      obtain ⟨σ6, H6, S6, q6⟩ := hsp
      exact q6.elim
    | ret u =>
      obtain ⟨v6, σ6, H6, S6, r6, q6⟩ := hsp
      exact q6.elim
  · cases f with
    | next =>
      obtain ⟨σ', H', J', q⟩ := hsp
      exact wpAny_execs_nil ⟨σ', H', J'.ofTry ok, q⟩
    | brk =>
      obtain ⟨σ', H', J', q⟩ := hsp
      exact ⟨σ', H', J'.ofTry ok, q⟩
    | cont =>
      obtain ⟨σ', H', J', q⟩ := hsp
      exact ⟨σ', H', J'.ofTry ok, q⟩
    | ret u =>
      obtain ⟨v, σ', H', J', r, q⟩ := hsp
      exact ⟨v, σ', H', J'.ofTry ok, r, q⟩
end
def sTryB (m : Gm → Option Out) (ie : Nat) (m2 : Gm → Option Out) (cs : List Nat) : Gm → Option Out := fun g => (m g).bind fun o => match o with
  | .nx g' => some (.nx g')
  | .rt r => some (.rt r)
  | .bk g' => some (.bk g')
  | .ct g' => some (.ct g')
  | .ex x => if (cs.contains x.c && decide (ie < g.length)) = true then (m2 (g.set ie (.va (.exc x.c (x.fs.map aD))))).bind fun o => match o with
    | .nx g' => some (.nx (g'.set ie .un))
    | _ => none
    else none
theorem sv_tryB {X : Cx} {ca : Nat → Addr} {ie ct : Nat} {x n : Str} {b₀ : Stmt} {body suite : List Stmt} {np pos pos' : Pos} {m m2 : Gm → Option Out} {T T2 : List Nat} {cs : List Nat} (hs : X.stack = X.env :: X.outer) (hf : X.env.frame = some X.env.locals) (hN : X.N.Nodup) (hie : X.N[ie]? = some n) (hln : X.env.kindOf n = some .local)
    (hg : Gl X x) (hm : X.mg x = some (.ref (ca ct))) (hcs : ∀ c ∈ cs, PySem.W.exmOne X.K (.ref (ca c)) (.ref (ca ct)) = some true) (hb : SVs X.nox ca body m T) (hx : ∀ (pn : List (Addr × Obj)) (xe : Value → Shared → Prop), X0s (X.tr pn xe) ca body (exn m))
    (h2 : ∀ (a : Addr) (pn : List (Addr × Obj)), SVs (X.suite a pn) ca (b₀ :: suite) m2 T2) (hdb : (x == ("__debug__" : Str)) = false := by decide) :
    SV X ca (.Try body [.ExceptHandler (some (.Name x np)) (some n) (b₀ :: suite) pos'] [] [] pos) (sTryB m ie m2 cs) (ie :: (T ++ T2)) := by
  have it : ∀ j ∈ T, j ∈ ie :: (T ++ T2) := fun j h => List.mem_cons_of_mem _ (List.mem_append_left _ h)
  have it2 : ∀ j ∈ T2, j ∈ ie :: (T ++ T2) := fun j h => List.mem_cons_of_mem _ (List.mem_append_right _ h)
  refine ⟨ps_imp (ps_or2 (ps_try_thru0 hb.ps) (ps_try_hand (c := .ref (ca ct)) (tb := fun W _ σ H => tXV X.K ca W (exn m) σ H) (ts := tSV X.K ca m2 T2) hs hf hN hie hln ⟨hg, hdb, .inl hm⟩ (fun W pn xe tk => hx pn xe W tk) (fun a pn => (h2 a pn).ps))) ?_, fun g o e => ?_⟩
  · rintro D σ H ⟨H0, F0, F, Γ, o, S, e, p⟩
    unfold sTryB at e
    obtain ⟨o1, hm1, e⟩ := Option.bind_eq_some_iff.mp e
    cases o1 with
    | nx g' => cases e; exact .inl ⟨H0, F0, F, Γ, _, S, hm1, PostO.mono (T := []) (Same.refl _) .refl (fun _ z => nomatch z) it p⟩
    | rt r => cases e; exact .inl ⟨H0, F0, F, Γ, _, S, hm1, PostO.mono (T := []) (Same.refl _) .refl (fun _ z => nomatch z) it p⟩
    | bk g' => cases e; exact .inl ⟨H0, F0, F, Γ, _, S, hm1, PostO.mono (T := []) (Same.refl _) .refl (fun _ z => nomatch z) it p⟩
    | ct g' => cases e; exact .inl ⟨H0, F0, F, Γ, _, S, hm1, PostO.mono (T := []) (Same.refl _) .refl (fun _ z => nomatch z) it p⟩
    | ex z =>
      have ez := exn_of hm1
      replace e : (if (cs.contains z.c && decide (ie < Γ.length)) = true then (m2 (Γ.set ie (.va (.exc z.c (z.fs.map aD))))).bind fun o => match o with
        | .nx g' => some (Out.nx (g'.set ie .un))
        | _ => none
        else none) = some o := e
      split at e
      rotate_left
      · cases e
      rename_i hc
      obtain ⟨o2, e2, e⟩ := Option.bind_eq_some_iff.mp e
      cases o2 with
      | rt r => cases e
      | bk g => cases e
      | ct g => cases e
      | ex y => cases e
      | nx g2 =>
      cases e
      rw [Bool.and_eq_true, decide_eq_true_eq] at hc
      obtain ⟨hc, hl⟩ := hc
      refine .inr ⟨H0, F0, F, Γ, z, S, ez, fun cls d H1 F1 x1 r1 => ?_⟩
      obtain ⟨rfl, fs, hd, hfs, hdn⟩ := r1
      refine ⟨_, rfl, hcs _ (List.contains_iff_mem.mp hc), fun a na => ?_⟩
      have x2 := x1.trans (Ext.new x1.fh (exh a (ca z.c) d) na)
      have dn : Den X.K ca (upd F1 a (exh a (ca z.c) d)) (.ref a) (.exc z.c (z.fs.map aD)) := by
        refine .exc upd_same (hd.imp (fun z => z) fun ⟨dd, e1, e2⟩ => ⟨dd, e1, ?_⟩) hfs (hdn.mono (same_upd (x1.fh.free na)))
        exact same_upd (x1.fh.free na) _ _ e2
      refine ⟨H0, F0, _, _, _, (S.mono x2).setVa dn, e2, fun σ' H' F' S' s' k' => ?_⟩
      refine p _ _ _ (S'.setUn none) (x2.ff.trans s') (fun j hj => ?_)
      rw [List.getElem?_set_ne fun z => hj (by simp [z]), k' j fun z => hj (it2 j z), List.getElem?_set_ne fun z => hj (by simp [z])]
  · unfold sTryB at e
    obtain ⟨o1, hm1, e⟩ := Option.bind_eq_some_iff.mp e
    have k1 := hb.kp _ _ hm1
    cases o1 with
    | nx g' => cases e; exact k1.mono it
    | rt r => cases e; trivial
    | bk g' => cases e; exact k1.mono it
    | ct g' => cases e; exact k1.mono it
    | ex z =>
      replace e : (if (cs.contains z.c && decide (ie < g.length)) = true then (m2 (g.set ie (.va (.exc z.c (z.fs.map aD))))).bind fun o => match o with
        | .nx g' => some (Out.nx (g'.set ie .un))
        | _ => none
        else none) = some o := e
      split at e
      · obtain ⟨o2, e2, e⟩ := Option.bind_eq_some_iff.mp e
        have k2 := (h2 (0 : Nat) []).kp _ _ e2
        cases o2 with
        | rt r => cases e
        | bk g => cases e
        | ct g => cases e
        | ex y => cases e
        | nx g2 =>
        cases e
        intro j hj
        have k3 := k2 j fun z => hj (it2 j z)
        rw [List.getElem?_set_ne fun z => hj (by simp [z]), k3, List.getElem?_set_ne fun z => hj (by simp [z])]
      · cases e
/-! in plain types -/
def PH {σ : Type} (ie : Nat) (St : σ → Gm → Prop) : σ → Out → Prop := fun st o => ∃ g, o = .nx g ∧ St st (g.set ie .un)
section
variable {α σ : Type} {b n : Gm → Option Out} {g g1 : Gm} {P : α → Out → Prop} {m m2 : Gm → Option Out}
theorem jh_end {ie : Nat} {St : σ → Gm → Prop} {st : σ} (h : St st (g.set ie .un)) : J sNil nxt g (some st) (PH ie St) := j_nil (P := PH ie St) (v := st) ⟨g, rfl, h⟩
theorem j_tryB {ie : Nat} {cs : List Nat} {St : σ → Gm → Prop} {s : Option (σ ⊕ Exc)} {hv : Exc → Option σ} {t : σ → Option α} (hb : J m nxt g s (PB St)) (hl : ie < g.length) (hh : ∀ x, cs.contains x.c = true → J m2 nxt (g.set ie (.va (eX x))) (hv x) (PH ie St)) (k : ∀ st g', St st g' → J b n g' (t st) P) :
    J (sCons (sTryB m ie m2 cs) b) n g (b1 (tryU s fun x => grd (cs.contains x.c = true) (hv x)) t) P := by
  refine sm_b1 fun st e => ?_
  cases hs : s with
  | none => rw [hs] at e; cases e
  | some z =>
    obtain ⟨o, e1, e2⟩ := hb z hs
    rw [bO_nxt] at e1
    rw [hs] at e
    cases z with
    | inl st' =>
      obtain ⟨g', rfl, h2⟩ := e2
      cases e
      exact j_seq (a := sTryB m ie m2 cs) (g1 := g') (by unfold sTryB; rw [e1]; rfl) (k st g' h2)
    | inr x =>
      have e2 : o = .ex x := e2
      subst e2
      have e : grd (cs.contains x.c = true) (hv x) = some st := e
      unfold grd at e
      split at e
      · rename_i c
        obtain ⟨o2, e3, g2, rfl, h3⟩ := hh x c st e
        rw [bO_nxt] at e3
        refine j_seq (a := sTryB m ie m2 cs) (g1 := g2.set ie .un) ?_ (k _ _ h3)
        unfold sTryB
        rw [e1]
        show (if (cs.contains x.c && decide (ie < g.length)) = true then _ else _) = _
        rw [if_pos (by rw [c, decide_eq_true hl]; rfl)]
        show (m2 (g.set ie (.va (eX x)))).bind _ = _
        rw [e3]
        rfl
      · cases e
end
end BK
namespace BK
open PySem PySem.Spec L2
set_option autoImplicit false
/-! ### displays that answer or raise, in plain types; enumerate(x, 1) -/
def en1I {α : Type} (xs : List α) : List (Int × α) := (xs.zipIdx 1).map fun p => ((p.2 : Int), p.1)
theorem enumL_map1 {α : Type} (e : α → D) : ∀ (xs : List α) (n : Nat), enumL n (xs.map e) = (xs.zipIdx n).map fun p => eP2 D.int e ((p.2 : Int), p.1)
  | [], n => rfl
  | x :: xs, n => by
    rw [List.map_cons, List.zipIdx_cons, List.map_cons, ← enumL_map1 e xs (n + 1)]
    rfl
theorem f_en1 {α : Type} {r : R} {ps : List Nat} {e : α → D} {xs : List α} (h : listA r = some (ps, xs.map e)) : en1R [r, .va (.int 1)] = some (ps, (en1I xs).map (eP2 D.int e)) := by
  unfold en1R
  show (listA r).map (fun p => (p.1, enumL 1 p.2)) = _
  rw [h]
  show some (ps, enumL 1 (xs.map e)) = _
  rw [enumL_map1, en1I, List.map_map]
  rfl
theorem f_cuW {α : Type} {υ : List D → Option (R ⊕ Exc)} {rs : List R} {k : α → R} {w : α ⊕ Exc} (h : υ (rs.map R.d) = some (KU k w)) (ht : rs.any R.isTm = false) (hb : rs.any R.isBw = false) : callU υ rs = some (KU k w) := by
  unfold callU
  rw [ht, if_neg (by decide), h]
  cases w with
  | inl v =>
    show (if _ then _ else _) = _
    rw [hb]; rfl
  | inr x => rfl
section
variable {α β : Type} {mi : Gm → Option (List Nat × List D)} {f : D → Gm → Option Gm} {u : UE} {ow ps : List Nat} {g : Gm} {enc : α → D} {k : β → D} {xs : List α}
theorem x_uLcU {F : α → Option (β ⊕ Exc)} {z : List β ⊕ Exc} (r : β → R) (hm : mi g = some (ps, xs.map enc)) (hl : xs.length ≤ 16777216) (step : ∀ x ∈ xs, ∃ g1, f (enc x) (wipeG g ow) = some g1 ∧ Sm (u g1) (F x) fun w o => o = KU r w) (h : mapU F xs = some z) (hr : ∀ v, (r v).isBw = false ∧ (r v).d = k v := by exact fun _ => ⟨rfl, rfl⟩) : uLc mi f u ow g = some (KU (fun ys => .tm (ys.map k)) z) :=
  x_uLc enc k hm hl (fun x hx => by
    obtain ⟨g1, e1, e2⟩ := step x hx
    refine ⟨g1, e1, fun w hw => ⟨r, ?_, fun v _ => hr v⟩⟩
    obtain ⟨o, e3, rfl⟩ := e2 w hw
    exact e3) h
theorem mapU_n {F : α → Option β} : ∀ {xs : List α} {ys : List β}, mapO F xs = some ys → mapU (fun x => (F x).map (Sum.inl : β → β ⊕ Exc)) xs = some (.inl ys)
  | [], ys, h => by cases h; rfl
  | x :: xs, ys, h => by
    unfold mapU
    cases e0 : F x with
    | none => rw [mapO, e0] at h; cases h
    | some y =>
      rw [mapO, e0, b1_some] at h
      cases e2 : mapO F xs with
      | none => rw [e2] at h; cases h
      | some zs =>
        rw [e2] at h
        cases h
        show (mapU _ xs).map _ = _
        rw [mapU_n e2]
        rfl
theorem x_uLcN {F : α → Option β} {ys : List β} (r : β → R) (hm : mi g = some (ps, xs.map enc)) (hl : xs.length ≤ 16777216) (step : ∀ x ∈ xs, ∃ g1, f (enc x) (wipeG g ow) = some g1 ∧ ∀ v, F x = some v → u g1 = some (.inl (r v))) (h : mapO F xs = some ys) (hr : ∀ v, (r v).isBw = false ∧ (r v).d = k v := by exact fun _ => ⟨rfl, rfl⟩) : uLc mi f u ow g = some (.inl (.tm (ys.map k))) :=
  x_uLcU (z := .inl ys) r hm hl (fun x hx => by
    obtain ⟨g1, e1, e2⟩ := step x hx
    refine ⟨g1, e1, fun w hw => ?_⟩
    obtain ⟨v, ev, rfl⟩ := Option.map_eq_some_iff.mp hw
    exact ⟨_, e2 v ev, rfl⟩) (mapU_n h) hr
end
end BK
namespace G
open PySem PySem.Spec L2 BK
set_option autoImplicit false
structure Blt (mg : Str → Option Value) : Prop where
  z_ValueError : mg "ValueError" = none
  z_abs : mg "abs" = none
  z_all : mg "all" = none
  z_bool : mg "bool" = none
  z_enumerate : mg "enumerate" = none
  z_int : mg "int" = none
  z_isinstance : mg "isinstance" = none
  z_len : mg "len" = none
  z_list : mg "list" = none
  z_min : mg "min" = none
  z_range : mg "range" = none
  z_str : mg "str" = none
  z_tuple : mg "tuple" = none
  z_zip : mg "zip" = none
theorem scI_TextError : FnScope ["self", "row"] ["self", "row"] (defScope sI_TextError) := ⟨rfl, rfl, rfl, by decide +kernel, rfl, by decide +kernel, by decide +kernel⟩
theorem okI_TextError {P : Program} {w : World} {K : PySem.W.Frag} {mg : Str → Option Value} {base : Heap} {f C CW : Addr} {fd : FuncData} (mW : mg "WayError" = some (.ref CW)) (rd : PySem.W.readsIn K CW (.type "type") = true) (ga : PySem.W.specialIn K (.ref CW) "__getattribute__" = some (some (.builtin "type.__getattribute__"))) (fc : PySem.W.findCls K (.ref CW) (.type "type") "__init__" = some (.val (.builtin "ValueError.__init__"))) (no_row : PySem.W.findIn K (.ref C) "row" = some none) (F : FunA K "__init__" "TextError.__init__" sI_TextError f fd) (T : OexC K C) : FnOk P w K mg base CX0 1 f fd ["self", "row"] (spXI C ["row"]) :=
  xi_one T no_row F scI_TextError rfl rfl (fun cdv A outer s H E => ⟨_, pe_winit rfl mW rd ga fc (pa_cons (pv 0) (pa_cons pe_str pa_nil)), (fun _ _ _ ⟨a, h, q⟩ => ⟨_, h, q⟩), (pv 0), (pv 1), rfl, rfl⟩)
theorem sc_made_of : FnScope ["text", "signs", "sign"] ["text", "signs"] (defScope s_made_of) := ⟨rfl, rfl, rfl, by decide +kernel, rfl, by decide +kernel, by decide +kernel⟩
def m_made_of : Gm → Option Out := sCons (sRet (eA cAll (aC (eLc (iSeq (eV 0)) (gN 2) (bY) (e2 oIn2 (eV 2) (eV 1)) [2]) (aN)))) (sNil)
def φ_made_of : Phi := phi m_made_of 3 2
set_option maxHeartbeats 4000000 in
theorem ok_made_of {P : Program} {w : World} {K : PySem.W.Frag} {mg : Str → Option Value} {base : Heap} {ca : Nat → Addr} {f : Addr} {fd : FuncData} (Z : Blt mg) (F : FunA K "made_of" "made_of" s_made_of f fd) : FnOk P w K mg base CX0 (0 + 1) f fd ["text", "signs"] (spOf K ca φ_made_of) :=
  fn_ok F sc_made_of rfl rfl rfl (fun cdv A outer s H E hr => (svs_cons (sv_ret (ev_callB (cr_all rfl) cd_all rfl Z.z_all b_all (av_cons (ev_lc rfl sc_made_of.nd (iv_seq (ev_var (pv 0))) (blk_by (own := [("sign", 2)]) (N := ["text", "signs", "sign"]) (sc := defScope s_made_of) rfl rfl (by decide +kernel)) rfl (fun _ _ _ _ _ => (gv_name sc_made_of.nd rfl (.inl rfl))) (fun _ _ _ _ _ => cv_nil) (fun _ _ _ _ _ => (ev_cmp (op_in2 (room65 hr)) od_in2 (ev_var (pv 2)) (ev_var (pv 1)) (by rfl))) (by decide) gN_ln) av_nil))) svs_nil))
theorem sc_number_of : FnScope ["text", "most"] ["text", "most"] (defScope s_number_of) := ⟨rfl, rfl, rfl, by decide +kernel, rfl, by decide +kernel, by decide +kernel⟩
def m_number_of : Gm → Option Out := sCons (sIf (bOr (bE (e2 oEq (eV 0) (eC (.str "")))) (bOr (bE (e2 oGt (eA cLen (aC (eV 0) (aN))) (eC (.int 60)))) (bNot (bE (eA (callR φ_made_of []) (aC (eV 0) (aC (eC (.str "0123456789")) (aN)))))))) (sCons (sRet (eC .non)) (sNil)) (sNil)) (sCons (sIf (bAnd (bE (e2 oNe (eV 0) (eC (.str "0")))) (bE (e2 (f2s gSw) (eV 0) (eC (.str "0"))))) (sCons (sRet (eC .non)) (sNil)) (sNil)) (sCons (sIf (bOr (bE (e2 oIs (eV 1) (eC .non))) (bE (e2 oLe (eA cInt (aC (eV 0) (aN))) (eV 1)))) (sCons (sRet (eA cInt (aC (eV 0) (aN)))) (sNil)) (sNil)) (sCons (sRet (eC .non)) (sNil))))
def φ_number_of : Phi := phi m_number_of 2 2
set_option maxHeartbeats 4000000 in
theorem ok_number_of {P : Program} {w : World} {K : PySem.W.Frag} {mg : Str → Option Value} {base : Heap} {ca : Nat → Addr} {f : Addr} {fd : FuncData} (Z : Blt mg) (K_FIGURES : ∃ t, mg "FIGURES" = some (.str "0123456789" t)) (K_MOST_FIGURES : ∃ t, mg "MOST_FIGURES" = some (.int 60 t)) (C_made_of : Callee P w K mg base ca 1 "made_of" φ_made_of []) (F : FunA K "number_of" "number_of" s_number_of f fd) : FnOk P w K mg base CX0 (1 + 1) f fd ["text", "most"] (spOf K ca φ_number_of) :=
  fn_ok F sc_number_of rfl rfl rfl (fun cdv A outer s H E hr => (svs_cons (sv_if (tv_w (wv_or (tv_cmp (op_eqA hr.units) od_eq (ev_var (pv 0)) (ev_c pe_str fun _ => .str _) (nomark _)) (wv_or (tv_cmp op_gt od_cmp (ev_callB call_lenA cd_len rfl Z.z_len b_len (av_cons (ev_var (pv 0)) av_nil)) (ev_globI K_MOST_FIGURES) (nomark _)) (wv_one' (tv_not (tv_val (ev_fn C_made_of (hr.mono (by decide)) rfl (av_cons (ev_var (pv 0)) (av_cons (ev_globS K_FIGURES) av_nil))))))))) (svs_cons (sv_ret (ev_c pe_non fun _ => .non)) svs_nil) svs_nil) (svs_cons (sv_if (tv_w (wv_and (tv_cmp (op_neA hr.units) od_ne (ev_var (pv 0)) (ev_c pe_str fun _ => .str _) (nomark _)) (wv_one (tv_val (ev_sw (ev_var (pv 0)) (ev_c pe_str fun _ => .str _)))))) (svs_cons (sv_ret (ev_c pe_non fun _ => .non)) svs_nil) svs_nil) (svs_cons (sv_if (tv_w (wv_or (tv_cmp op_isP od_is (ev_var (pv 1)) (ev_c pe_non fun _ => .non) (nomark _)) (wv_one' (tv_cmp op_le od_cmp (ev_callT call_intA cd_int rfl Z.z_int b_int (av_cons (ev_var (pv 0)) av_nil)) (ev_var (pv 1)) (nomark _))))) (svs_cons (sv_ret (ev_callT call_intA cd_int rfl Z.z_int b_int (av_cons (ev_var (pv 0)) av_nil))) svs_nil) svs_nil) (svs_cons (sv_ret (ev_c pe_non fun _ => .non)) svs_nil)))))
theorem sc_is_word : FnScope ["text"] ["text"] (defScope s_is_word) := ⟨rfl, rfl, rfl, by decide +kernel, rfl, by decide +kernel, by decide +kernel⟩
def m_is_word : Gm → Option Out := sCons (sRet (eAnd (eCh oLt oLe (eC (.int 0)) (eA cLen (aC (eV 0) (aN))) (eC (.int 12))) (eA (callR φ_made_of []) (aC (eV 0) (aC (eC (.str "abcdefghijklmnopqrstuvwxyz")) (aN)))))) (sNil)
def φ_is_word : Phi := phi m_is_word 1 1
set_option maxHeartbeats 4000000 in
theorem ok_is_word {P : Program} {w : World} {K : PySem.W.Frag} {mg : Str → Option Value} {base : Heap} {ca : Nat → Addr} {f : Addr} {fd : FuncData} (Z : Blt mg) (K_LETTERS : ∃ t, mg "LETTERS" = some (.str "abcdefghijklmnopqrstuvwxyz" t)) (K_MOST_LETTERS : ∃ t, mg "MOST_LETTERS" = some (.int 12 t)) (C_made_of : Callee P w K mg base ca 1 "made_of" φ_made_of []) (F : FunA K "is_word" "is_word" s_is_word f fd) : FnOk P w K mg base CX0 (1 + 1) f fd ["text"] (spOf K ca φ_is_word) :=
  fn_ok F sc_is_word rfl rfl rfl (fun cdv A outer s H E hr => (svs_cons (sv_ret (ev_and (ev_chain op_lt od_cmp op_le od_cmp (ev_c pe_int fun _ => .int _) (ev_callB call_lenA cd_len rfl Z.z_len b_len (av_cons (ev_var (pv 0)) av_nil)) (ev_globI K_MOST_LETTERS)) (ev_one (ev_fn C_made_of (hr.mono (by decide)) rfl (av_cons (ev_var (pv 0)) (av_cons (ev_globS K_LETTERS) av_nil)))))) svs_nil))
theorem sc_shared : FnScope ["one", "other"] ["one", "other"] (defScope s_shared) := ⟨rfl, rfl, rfl, by decide +kernel, rfl, by decide +kernel, by decide +kernel⟩
def m_shared : Gm → Option Out := sCons (sWh (bE (e2 oNe (eV 1) (eC (.int 0)))) (sCons (sPar 0 1 (eV 1) (e2 oMod (eV 0) (eV 1))) (sNil)) FUEL) (sCons (sRet (eA cAbs (aC (eV 0) (aN)))) (sNil))
def φ_shared : Phi := phi m_shared 2 2
set_option maxHeartbeats 4000000 in
theorem ok_shared {P : Program} {w : World} {K : PySem.W.Frag} {mg : Str → Option Value} {base : Heap} {ca : Nat → Addr} {f : Addr} {fd : FuncData} (Z : Blt mg) (F : FunA K "shared" "shared" s_shared f fd) : FnOk P w K mg base CX0 (0 + 1) f fd ["one", "other"] (spOf K ca φ_shared) :=
  fn_ok F sc_shared rfl rfl rfl (fun cdv A outer s H E hr => (svs_cons (sv_while PassesOwn.never (tv_cmp (op_neA hr.units) od_ne (ev_var (pv 1)) (ev_c pe_int fun _ => .int _) (nomark _)) (svs_cons (sv_par (i := 0) (j := 1) rfl sc_shared.nd rfl rfl (by decide) rfl rfl (av_cons (ev_var (pv 1)) (av_cons (ev_op op_modN od_mod (ev_var (pv 0)) (ev_var (pv 1))) av_nil)) rfl) svs_nil)) (svs_cons (sv_ret (ev_callB call_abs' cd_abs rfl Z.z_abs b_abs (av_cons (ev_var (pv 0)) av_nil))) svs_nil)))
theorem sc_made : FnScope ["above", "beneath", "by"] ["above", "beneath"] (defScope s_made) := ⟨rfl, rfl, rfl, by decide +kernel, rfl, by decide +kernel, by decide +kernel⟩
def m_made : Gm → Option Out := sCons (sSet 2 (eA (callR φ_shared []) (aC (eV 0) (aC (eV 1) (aN))))) (sCons (sIf (bE (e2 oLt (eV 1) (eC (.int 0)))) (sCons (sSet 2 (e1 uNeg (eV 2))) (sNil)) (sNil)) (sCons (sRet (eA oTup (aC (e2 oDiv (eV 0) (eV 2)) (aC (e2 oDiv (eV 1) (eV 2)) (aN))))) (sNil)))
def φ_made : Phi := phi m_made 3 2
set_option maxHeartbeats 4000000 in
theorem ok_made {P : Program} {w : World} {K : PySem.W.Frag} {mg : Str → Option Value} {base : Heap} {ca : Nat → Addr} {f : Addr} {fd : FuncData} (Z : Blt mg) (C_shared : Callee P w K mg base ca 1 "shared" φ_shared []) (F : FunA K "made" "made" s_made f fd) : FnOk P w K mg base CX0 (1 + 1) f fd ["above", "beneath"] (spOf K ca φ_made) :=
  fn_ok F sc_made rfl rfl rfl (fun cdv A outer s H E hr => (svs_cons (sv_set (i := 2) sc_made.nd rfl (.inl rfl) (ev_fn C_shared (hr.mono (by decide)) rfl (av_cons (ev_var (pv 0)) (av_cons (ev_var (pv 1)) av_nil)))) (svs_cons (sv_if (tv_cmp op_lt od_cmp (ev_var (pv 1)) (ev_c pe_int fun _ => .int _) (nomark _)) (svs_cons (sv_set (i := 2) sc_made.nd rfl (.inl rfl) (ev_un un_neg ud_neg (ev_var (pv 2)))) svs_nil) svs_nil) (svs_cons (sv_ret (ev_tup (av_cons (ev_op op_fdivB od_div (ev_var (pv 0)) (ev_var (pv 2))) (av_cons (ev_op op_fdivB od_div (ev_var (pv 1)) (ev_var (pv 2))) av_nil)))) svs_nil))))
theorem sc_frac_text : FnScope ["fraction"] ["fraction"] (defScope s_frac_text) := ⟨rfl, rfl, rfl, by decide +kernel, rfl, by decide +kernel, by decide +kernel⟩
def m_frac_text : Gm → Option Out := sCons (sIf (bE (e2 oEq (e2 oIx (eV 0) (eC (.int 1))) (eC (.int 1)))) (sCons (sRet (eA cStrI (aC (e2 oIx (eV 0) (eC (.int 0))) (aN)))) (sNil)) (sNil)) (sCons (sRet (e2 oAdd (e2 oAdd (eA cStrI (aC (e2 oIx (eV 0) (eC (.int 0))) (aN))) (eC (.str "/"))) (eA cStrI (aC (e2 oIx (eV 0) (eC (.int 1))) (aN))))) (sNil))
def φ_frac_text : Phi := phi m_frac_text 1 1
set_option maxHeartbeats 4000000 in
theorem ok_frac_text {P : Program} {w : World} {K : PySem.W.Frag} {mg : Str → Option Value} {base : Heap} {ca : Nat → Addr} {f : Addr} {fd : FuncData} (Z : Blt mg) (F : FunA K "frac_text" "frac_text" s_frac_text f fd) : FnOk P w K mg base CX0 (0 + 1) f fd ["fraction"] (spOf K ca φ_frac_text) :=
  fn_ok F sc_frac_text rfl rfl rfl (fun cdv A outer s H E hr => (svs_cons (sv_if (tv_cmp (op_eqA hr.units) od_eq (ev_ix ix_seq od_ix (ev_var (pv 0)) (ev_c pe_int fun _ => .int _) (fun _ _ => rfl)) (ev_c pe_int fun _ => .int _) (nomark _)) (svs_cons (sv_ret (ev_callT call_strA cd_strI rfl Z.z_str b_str (av_cons (ev_ix ix_seq od_ix (ev_var (pv 0)) (ev_c pe_int fun _ => .int _) (fun _ _ => rfl)) av_nil))) svs_nil) svs_nil) (svs_cons (sv_ret (ev_op op_addA od_add (ev_op op_addA od_add (ev_callT call_strA cd_strI rfl Z.z_str b_str (av_cons (ev_ix ix_seq od_ix (ev_var (pv 0)) (ev_c pe_int fun _ => .int _) (fun _ _ => rfl)) av_nil)) (ev_c pe_str fun _ => .str _)) (ev_callT call_strA cd_strI rfl Z.z_str b_str (av_cons (ev_ix ix_seq od_ix (ev_var (pv 0)) (ev_c pe_int fun _ => .int _) (fun _ _ => rfl)) av_nil)))) svs_nil)))
theorem sc_frac_of : FnScope ["text", "body", "top", "bottom", "found", "above", "stroke", "beneath"] ["text"] (defScope s_frac_of) := ⟨rfl, rfl, rfl, by decide +kernel, rfl, by decide +kernel, by decide +kernel⟩
def m_frac_of : Gm → Option Out := sCons (sSet 1 (eV 0)) (sCons (sIf (bE (e2 (f2s gSw) (eV 0) (eC (.str "-")))) (sCons (sSet 1 (eSl (eV 0) (pS (eC (.int 1))) (pN))) (sNil)) (sNil)) (sCons (sAsg (e2 (f2s gPart) (eV 1) (eC (.str "/"))) (gT (gC (gN 5) (gC (gN 6) (gC (gN 7) (gE)))))) (sCons (sSet 2 (eA (callR φ_number_of [.non]) (aC (eV 5) (aN)))) (sCons (sSet 3 (eC (.int 1))) (sCons (sIf (bE (e2 oNe (eV 6) (eC (.str "")))) (sCons (sSet 3 (eA (callR φ_number_of [.non]) (aC (eV 7) (aN)))) (sNil)) (sNil)) (sCons (sIf (bOr (bE (e2 oIs (eV 2) (eC .non))) (bOr (bE (e2 oIs (eV 3) (eC .non))) (bE (e2 oEq (eV 3) (eC (.int 0)))))) (sCons (sRet (eC .non)) (sNil)) (sNil)) (sCons (sIf (bE (e2 oNe (eV 1) (eV 0))) (sCons (sSet 2 (e1 uNeg (eV 2))) (sNil)) (sNil)) (sCons (sSet 4 (eA (callR φ_made []) (aC (eV 2) (aC (eV 3) (aN))))) (sCons (sIf (bE (e2 oNe (eA (callR φ_frac_text []) (aC (eV 4) (aN))) (eV 0))) (sCons (sRet (eC .non)) (sNil)) (sNil)) (sCons (sRet (eV 4)) (sNil)))))))))))
def φ_frac_of : Phi := phi m_frac_of 8 1
set_option maxHeartbeats 4000000 in
theorem ok_frac_of {P : Program} {w : World} {K : PySem.W.Frag} {mg : Str → Option Value} {base : Heap} {ca : Nat → Addr} {f : Addr} {fd : FuncData} (Z : Blt mg) (C_number_of_1 : Callee P w K mg base ca 2 "number_of" φ_number_of [.non]) (C_made : Callee P w K mg base ca 2 "made" φ_made []) (C_frac_text : Callee P w K mg base ca 1 "frac_text" φ_frac_text []) (F : FunA K "frac_of" "frac_of" s_frac_of f fd) : FnOk P w K mg base CX0 (2 + 1) f fd ["text"] (spOf K ca φ_frac_of) :=
  fn_ok F sc_frac_of rfl rfl rfl (fun cdv A outer s H E hr => (svs_cons (sv_set (i := 1) sc_frac_of.nd rfl (.inl rfl) (ev_var (pv 0))) (svs_cons (sv_if (tv_val (ev_sw (ev_var (pv 0)) (ev_c pe_str fun _ => .str _))) (svs_cons (sv_set (i := 1) sc_frac_of.nd rfl (.inl rfl) (ev_slice (ev_var (pv 0)) (ov_some (ev_c pe_int fun _ => .int _)) ov_none)) svs_nil) svs_nil) (svs_cons (sv_asg (ev_part (ev_var (pv 1)) (ev_c pe_str fun _ => .str _)) (gv_tup rfl (gvs_cons (gv_name sc_frac_of.nd rfl (.inl rfl)) (gvs_cons (gv_name sc_frac_of.nd rfl (.inl rfl)) (gvs_cons (gv_name sc_frac_of.nd rfl (.inl rfl)) gvs_nil))) (gC_le (gC_le (gC_le gE_le))))) (svs_cons (sv_set (i := 2) sc_frac_of.nd rfl (.inl rfl) (ev_fn C_number_of_1 (hr.mono (by decide)) rfl (av_cons (ev_var (pv 5)) av_nil))) (svs_cons (sv_set (i := 3) sc_frac_of.nd rfl (.inl rfl) (ev_c pe_int fun _ => .int _)) (svs_cons (sv_if (tv_cmp (op_neA hr.units) od_ne (ev_var (pv 6)) (ev_c pe_str fun _ => .str _) (nomark _)) (svs_cons (sv_set (i := 3) sc_frac_of.nd rfl (.inl rfl) (ev_fn C_number_of_1 (hr.mono (by decide)) rfl (av_cons (ev_var (pv 7)) av_nil))) svs_nil) svs_nil) (svs_cons (sv_if (tv_w (wv_or (tv_cmp op_isP od_is (ev_var (pv 2)) (ev_c pe_non fun _ => .non) (nomark _)) (wv_or (tv_cmp op_isP od_is (ev_var (pv 3)) (ev_c pe_non fun _ => .non) (nomark _)) (wv_one' (tv_cmp (op_eqA hr.units) od_eq (ev_var (pv 3)) (ev_c pe_int fun _ => .int _) (nomark _)))))) (svs_cons (sv_ret (ev_c pe_non fun _ => .non)) svs_nil) svs_nil) (svs_cons (sv_if (tv_cmp (op_neA hr.units) od_ne (ev_var (pv 1)) (ev_var (pv 0)) (nomark _)) (svs_cons (sv_set (i := 2) sc_frac_of.nd rfl (.inl rfl) (ev_un un_neg ud_neg (ev_var (pv 2)))) svs_nil) svs_nil) (svs_cons (sv_set (i := 4) sc_frac_of.nd rfl (.inl rfl) (ev_fn C_made (hr.mono (by decide)) rfl (av_cons (ev_var (pv 2)) (av_cons (ev_var (pv 3)) av_nil)))) (svs_cons (sv_if (tv_cmp (op_neA hr.units) od_ne (ev_fn C_frac_text (hr.mono (by decide)) rfl (av_cons (ev_var (pv 4)) av_nil)) (ev_var (pv 0)) (nomark _)) (svs_cons (sv_ret (ev_c pe_non fun _ => .non)) svs_nil) svs_nil) (svs_cons (sv_ret (ev_var (pv 4))) svs_nil))))))))))))
theorem sc_log_row : FnScope ["row", "words", "moment", "word", "cart", "bridge"] ["row"] (defScope s_log_row) := ⟨rfl, rfl, rfl, by decide +kernel, rfl, by decide +kernel, by decide +kernel⟩
def m_log_row : Gm → Option Out := sCons (sAsg (eV 0) (gT (gC (gN 2) (gC (gN 3) (gC (gN 4) (gC (gN 5) (gE))))))) (sCons (sSet 1 (eA oLst (aC (eA (callR φ_frac_text []) (aC (eV 2) (aN))) (aC (eV 3) (aC (eA cStrI (aC (e2 oAdd (eV 4) (eC (.int 1))) (aN))) (aN)))))) (sCons (sIf (bE (e2 oNe (eV 5) (eC (.str "")))) (sCons (sApp 1 (eV 5)) (sNil)) (sNil)) (sCons (sRet (e2 fJoin (eC (.str " ")) (eV 1))) (sNil))))
def φ_log_row : Phi := phi m_log_row 6 1
set_option maxHeartbeats 4000000 in
theorem ok_log_row {P : Program} {w : World} {K : PySem.W.Frag} {mg : Str → Option Value} {base : Heap} {ca : Nat → Addr} {f : Addr} {fd : FuncData} (Z : Blt mg) (C_frac_text : Callee P w K mg base ca 1 "frac_text" φ_frac_text []) (F : FunA K "log_row" "log_row" s_log_row f fd) : FnOk P w K mg base CX0 (1 + 1) f fd ["row"] (spOf K ca φ_log_row) :=
  fn_ok F sc_log_row rfl rfl rfl (fun cdv A outer s H E hr => (svs_cons (sv_asg (ev_var (pv 0)) (gv_tup rfl (gvs_cons (gv_name sc_log_row.nd rfl (.inl rfl)) (gvs_cons (gv_name sc_log_row.nd rfl (.inl rfl)) (gvs_cons (gv_name sc_log_row.nd rfl (.inl rfl)) (gvs_cons (gv_name sc_log_row.nd rfl (.inl rfl)) gvs_nil)))) (gC_le (gC_le (gC_le (gC_le gE_le)))))) (svs_cons (sv_set (i := 1) sc_log_row.nd rfl (.inl rfl) (ev_lst (av_cons (ev_fn C_frac_text (hr.mono (by decide)) rfl (av_cons (ev_var (pv 2)) av_nil)) (av_cons (ev_var (pv 3)) (av_cons (ev_callT call_strA cd_strI rfl Z.z_str b_str (av_cons (ev_op op_addA od_add (ev_var (pv 4)) (ev_c pe_int fun _ => .int _)) av_nil)) av_nil))))) (svs_cons (sv_if (tv_cmp (op_neA hr.units) od_ne (ev_var (pv 5)) (ev_c pe_str fun _ => .str _) (nomark _)) (svs_cons (sv_app (i := 1) (pv 1) (ev_var (pv 5)) rfl (pe_bm PySem.F.plainAttrs_list PySem.F.slot_list_append PySem.F.type_list_append mt_append (pv 1) (pa_cons (ev_var (pv 5)) pa_nil))) svs_nil) svs_nil) (svs_cons (sv_ret (ev_join (ev_c pe_str fun _ => .str _) (ev_var (pv 1)))) svs_nil)))))
theorem sc_log_text : FnScope ["log", "row"] ["log"] (defScope s_log_text) := ⟨rfl, rfl, rfl, by decide +kernel, rfl, by decide +kernel, by decide +kernel⟩
def m_log_text : Gm → Option Out := sCons (sRet (e2 fJoin (eC (.str "\n")) (eLc (iSeq (eV 0)) (gN 1) (bY) (eA (callR φ_log_row []) (aC (eV 1) (aN))) [1]))) (sNil)
def φ_log_text : Phi := phi m_log_text 2 1
set_option maxHeartbeats 4000000 in
theorem ok_log_text {P : Program} {w : World} {K : PySem.W.Frag} {mg : Str → Option Value} {base : Heap} {ca : Nat → Addr} {f : Addr} {fd : FuncData} (Z : Blt mg) (C_log_row : Callee P w K mg base ca 2 "log_row" φ_log_row []) (F : FunA K "log_text" "log_text" s_log_text f fd) : FnOk P w K mg base CX0 (2 + 1) f fd ["log"] (spOf K ca φ_log_text) :=
  fn_ok F sc_log_text rfl rfl rfl (fun cdv A outer s H E hr => (svs_cons (sv_ret (ev_join (ev_c pe_str fun _ => .str _) (ev_lc rfl sc_log_text.nd (iv_seq (ev_var (pv 0))) (blk_by (own := [("row", 1)]) (N := ["log", "row"]) (sc := defScope s_log_text) rfl rfl (by decide +kernel)) rfl (fun _ _ _ _ _ => (gv_name sc_log_text.nd rfl (.inl rfl))) (fun _ _ _ _ _ => cv_nil) (fun _ _ _ _ _ => (ev_fn C_log_row (hr.mono (by decide)) rfl (av_cons (ev_var (pv 1)) av_nil))) (by decide) gN_ln))) svs_nil))
theorem sc_row_heard : FnScope ["row", "at", "words", "moment", "cart"] ["row", "at"] (defScope s_row_heard) := ⟨rfl, rfl, rfl, by decide +kernel, rfl, by decide +kernel, by decide +kernel⟩
def m_row_heard : Gm → Option Out := sCons (sSet 2 (e2 (f2s gSplit) (eV 0) (eC (.str " ")))) (sCons (sIf (bE (e2 oNin2 (eA cLen (aC (eV 2) (aN))) (eA oTup (aC (eC (.int 3)) (aC (eC (.int 4)) (aN)))))) (sCons (sRs (xRaise 10 (aC (eV 1) (aN)))) (sNil)) (sNil)) (sCons (sSet 3 (eA (callR φ_frac_of []) (aC (e2 oIx (eV 2) (eC (.int 0))) (aN)))) (sCons (sSet 4 (eA (callR φ_number_of [.non]) (aC (e2 oIx (eV 2) (eC (.int 2))) (aN)))) (sCons (sIf (bOr (bE (e2 oIs (eV 3) (eC .non))) (bOr (bE (e2 oLt (e2 oIx (eV 3) (eC (.int 0))) (eC (.int 0)))) (bOr (bE (e2 oIs (eV 4) (eC .non))) (bE (e2 oEq (eV 4) (eC (.int 0))))))) (sCons (sRs (xRaise 10 (aC (eV 1) (aN)))) (sNil)) (sNil)) (sCons (sIf (bAnd (bE (e2 oIn2 (e2 oIx (eV 2) (eC (.int 1))) (eA oTup (aC (eC (.str "start")) (aC (eC (.str "end")) (aN)))))) (bE (e2 oEq (eA cLen (aC (eV 2) (aN))) (eC (.int 3))))) (sCons (sRet (eA oTup (aC (eV 3) (aC (e2 oIx (eV 2) (eC (.int 1))) (aC (e2 oSub (eV 4) (eC (.int 1))) (aC (eC (.str "")) (aN))))))) (sNil)) (sNil)) (sCons (sIf (bAnd (bE (e2 oIn2 (e2 oIx (eV 2) (eC (.int 1))) (eA oTup (aC (eC (.str "come")) (aC (eC (.str "on")) (aC (eC (.str "off")) (aN))))))) (bAnd (bE (e2 oEq (eA cLen (aC (eV 2) (aN))) (eC (.int 4)))) (bE (eA (callR φ_is_word []) (aC (e2 oIx (eV 2) (eC (.int 3))) (aN)))))) (sCons (sRet (eA oTup (aC (eV 3) (aC (e2 oIx (eV 2) (eC (.int 1))) (aC (e2 oSub (eV 4) (eC (.int 1))) (aC (e2 oIx (eV 2) (eC (.int 3))) (aN))))))) (sNil)) (sNil)) (sCons (sRs (xRaise 10 (aC (eV 1) (aN)))) (sNil))))))))
def φ_row_heard : Phi := phi m_row_heard 5 2
set_option maxHeartbeats 4000000 in
theorem ok_row_heard {P : Program} {w : World} {K : PySem.W.Frag} {mg : Str → Option Value} {base : Heap} {ca : Nat → Addr} {f : Addr} {fd : FuncData} (Z : Blt mg) (C_frac_of : Callee P w K mg base ca 3 "frac_of" φ_frac_of []) (C_number_of_1 : Callee P w K mg base ca 2 "number_of" φ_number_of [.non]) (C_is_word : Callee P w K mg base ca 2 "is_word" φ_is_word []) (XR_BadRow : Raiser P w K mg base ca 1 10 "BadRow") (F : FunA K "row_heard" "row_heard" s_row_heard f fd) : FnOk P w K mg base CX0 (3 + 1) f fd ["row", "at"] (spOf K ca φ_row_heard) :=
  fn_ok F sc_row_heard rfl rfl rfl (fun cdv A outer s H E hr => (svs_cons (sv_set (i := 2) sc_row_heard.nd rfl (.inl rfl) (ev_split (ev_var (pv 0)) (ev_c pe_str fun _ => .str _))) (svs_cons (sv_if (tv_cmp (op_nin2 (room65 hr)) od_nin2 (ev_callB call_lenA cd_len rfl Z.z_len b_len (av_cons (ev_var (pv 2)) av_nil)) (ev_tup (av_cons (ev_c pe_int fun _ => .int _) (av_cons (ev_c pe_int fun _ => .int _) av_nil))) (by rfl)) (svs_cons svU_raise svs_nil) svs_nil) (svs_cons (sv_set (i := 3) sc_row_heard.nd rfl (.inl rfl) (ev_fn C_frac_of (hr.mono (by decide)) rfl (av_cons (ev_ix ix_seq od_ix (ev_var (pv 2)) (ev_c pe_int fun _ => .int _) (fun _ _ => rfl)) av_nil))) (svs_cons (sv_set (i := 4) sc_row_heard.nd rfl (.inl rfl) (ev_fn C_number_of_1 (hr.mono (by decide)) rfl (av_cons (ev_ix ix_seq od_ix (ev_var (pv 2)) (ev_c pe_int fun _ => .int _) (fun _ _ => rfl)) av_nil))) (svs_cons (sv_if (tv_w (wv_or (tv_cmp op_isP od_is (ev_var (pv 3)) (ev_c pe_non fun _ => .non) (nomark _)) (wv_or (tv_cmp op_lt od_cmp (ev_ix ix_seq od_ix (ev_var (pv 3)) (ev_c pe_int fun _ => .int _) (fun _ _ => rfl)) (ev_c pe_int fun _ => .int _) (nomark _)) (wv_or (tv_cmp op_isP od_is (ev_var (pv 4)) (ev_c pe_non fun _ => .non) (nomark _)) (wv_one' (tv_cmp (op_eqA hr.units) od_eq (ev_var (pv 4)) (ev_c pe_int fun _ => .int _) (nomark _))))))) (svs_cons svU_raise svs_nil) svs_nil) (svs_cons (sv_if (tv_w (wv_and (tv_cmp (op_in2 (room65 hr)) od_in2 (ev_ix ix_seq od_ix (ev_var (pv 2)) (ev_c pe_int fun _ => .int _) (fun _ _ => rfl)) (ev_tup (av_cons (ev_c pe_str fun _ => .str _) (av_cons (ev_c pe_str fun _ => .str _) av_nil))) (by rfl)) (wv_one (tv_cmp (op_eqA hr.units) od_eq (ev_callB call_lenA cd_len rfl Z.z_len b_len (av_cons (ev_var (pv 2)) av_nil)) (ev_c pe_int fun _ => .int _) (nomark _))))) (svs_cons (sv_ret (ev_tup (av_cons (ev_var (pv 3)) (av_cons (ev_ix ix_seq od_ix (ev_var (pv 2)) (ev_c pe_int fun _ => .int _) (fun _ _ => rfl)) (av_cons (ev_op op_sub od_sub (ev_var (pv 4)) (ev_c pe_int fun _ => .int _)) (av_cons (ev_c pe_str fun _ => .str _) av_nil)))))) svs_nil) svs_nil) (svs_cons (sv_if (tv_w (wv_and (tv_cmp (op_in2 (room65 hr)) od_in2 (ev_ix ix_seq od_ix (ev_var (pv 2)) (ev_c pe_int fun _ => .int _) (fun _ _ => rfl)) (ev_tup (av_cons (ev_c pe_str fun _ => .str _) (av_cons (ev_c pe_str fun _ => .str _) (av_cons (ev_c pe_str fun _ => .str _) av_nil)))) (by rfl)) (wv_and (tv_cmp (op_eqA hr.units) od_eq (ev_callB call_lenA cd_len rfl Z.z_len b_len (av_cons (ev_var (pv 2)) av_nil)) (ev_c pe_int fun _ => .int _) (nomark _)) (wv_one (tv_val (ev_fn C_is_word (hr.mono (by decide)) rfl (av_cons (ev_ix ix_seq od_ix (ev_var (pv 2)) (ev_c pe_int fun _ => .int _) (fun _ _ => rfl)) av_nil))))))) (svs_cons (sv_ret (ev_tup (av_cons (ev_var (pv 3)) (av_cons (ev_ix ix_seq od_ix (ev_var (pv 2)) (ev_c pe_int fun _ => .int _) (fun _ _ => rfl)) (av_cons (ev_op op_sub od_sub (ev_var (pv 4)) (ev_c pe_int fun _ => .int _)) (av_cons (ev_ix ix_seq od_ix (ev_var (pv 2)) (ev_c pe_int fun _ => .int _) (fun _ _ => rfl)) av_nil)))))) svs_nil) svs_nil) (svs_cons svU_raise svs_nil)))))))))
def υ_row_heard : List D → Option (R ⊕ Exc) := ups m_row_heard 5 2
def ψ_row_heard : List D → Option Exc := psi (exn m_row_heard) 5 2
set_option maxHeartbeats 4000000 in
theorem okx_row_heard {P : Program} {w : World} {K : PySem.W.Frag} {mg : Str → Option Value} {base : Heap} {ca : Nat → Addr} {f : Addr} {fd : FuncData} (Z : Blt mg) (C_frac_of : Callee P w K mg base ca 3 "frac_of" φ_frac_of []) (C_number_of_1 : Callee P w K mg base ca 2 "number_of" φ_number_of [.non]) (C_is_word : Callee P w K mg base ca 2 "is_word" φ_is_word []) (XR_BadRow : Raiser P w K mg base ca 1 10 "BadRow") (F : FunA K "row_heard" "row_heard" s_row_heard f fd) : FnOk P w K mg base (L2.CX P w) (3 + 1) f fd ["row", "at"] (spX K ca ψ_row_heard) :=
  fnx_ok F sc_row_heard rfl rfl rfl (fun cdv A outer s H E hr => (xsU_tail (sv_set (i := 2) sc_row_heard.nd rfl (.inl rfl) (ev_split (ev_var (pv 0)) (ev_c pe_str fun _ => .str _))) (by repeat' (first | exact noex_nil | apply noex_cons | apply noex_if | apply noex_for | apply noex_wh | apply noex_fz | exact noex_set | exact noex_asg | exact noex_ret | exact noex_retN | exact noex_nv | exact noex_bk | exact noex_ct | exact noex_exp | exact noex_app | exact noex_ext | exact noex_aug | exact noex_mv)) (xsU_cons (sv_if (tv_cmp (op_nin2 (room65 hr)) od_nin2 (ev_callB call_lenA cd_len rfl Z.z_len b_len (av_cons (ev_var (pv 2)) av_nil)) (ev_tup (av_cons (ev_c pe_int fun _ => .int _) (av_cons (ev_c pe_int fun _ => .int _) av_nil))) (by rfl)) (svs_cons svU_raise svs_nil) svs_nil) (xsU_if (tv_cmp (op_nin2 (room65 hr)) od_nin2 (ev_callB call_lenA cd_len rfl Z.z_len b_len (av_cons (ev_var (pv 2)) av_nil)) (ev_tup (av_cons (ev_c pe_int fun _ => .int _) (av_cons (ev_c pe_int fun _ => .int _) av_nil))) (by rfl)) (xsU_head (X0.xs (x0U_raise (x0_raise XR_BadRow rfl (hr.mono (by decide)) rfl (av_cons (ev_var (pv 1)) av_nil)))) (by repeat' (first | exact noex_nil | apply noex_cons | apply noex_if | apply noex_for | apply noex_wh | apply noex_fz | exact noex_set | exact noex_asg | exact noex_ret | exact noex_retN | exact noex_nv | exact noex_bk | exact noex_ct | exact noex_exp | exact noex_app | exact noex_ext | exact noex_aug | exact noex_mv))) (xsU_no (by repeat' (first | exact noex_nil | apply noex_cons | apply noex_if | apply noex_for | apply noex_wh | apply noex_fz | exact noex_set | exact noex_asg | exact noex_ret | exact noex_retN | exact noex_nv | exact noex_bk | exact noex_ct | exact noex_exp | exact noex_app | exact noex_ext | exact noex_aug | exact noex_mv)))) (xsU_tail (sv_set (i := 3) sc_row_heard.nd rfl (.inl rfl) (ev_fn C_frac_of (hr.mono (by decide)) rfl (av_cons (ev_ix ix_seq od_ix (ev_var (pv 2)) (ev_c pe_int fun _ => .int _) (fun _ _ => rfl)) av_nil))) (by repeat' (first | exact noex_nil | apply noex_cons | apply noex_if | apply noex_for | apply noex_wh | apply noex_fz | exact noex_set | exact noex_asg | exact noex_ret | exact noex_retN | exact noex_nv | exact noex_bk | exact noex_ct | exact noex_exp | exact noex_app | exact noex_ext | exact noex_aug | exact noex_mv)) (xsU_tail (sv_set (i := 4) sc_row_heard.nd rfl (.inl rfl) (ev_fn C_number_of_1 (hr.mono (by decide)) rfl (av_cons (ev_ix ix_seq od_ix (ev_var (pv 2)) (ev_c pe_int fun _ => .int _) (fun _ _ => rfl)) av_nil))) (by repeat' (first | exact noex_nil | apply noex_cons | apply noex_if | apply noex_for | apply noex_wh | apply noex_fz | exact noex_set | exact noex_asg | exact noex_ret | exact noex_retN | exact noex_nv | exact noex_bk | exact noex_ct | exact noex_exp | exact noex_app | exact noex_ext | exact noex_aug | exact noex_mv)) (xsU_cons (sv_if (tv_w (wv_or (tv_cmp op_isP od_is (ev_var (pv 3)) (ev_c pe_non fun _ => .non) (nomark _)) (wv_or (tv_cmp op_lt od_cmp (ev_ix ix_seq od_ix (ev_var (pv 3)) (ev_c pe_int fun _ => .int _) (fun _ _ => rfl)) (ev_c pe_int fun _ => .int _) (nomark _)) (wv_or (tv_cmp op_isP od_is (ev_var (pv 4)) (ev_c pe_non fun _ => .non) (nomark _)) (wv_one' (tv_cmp (op_eqA hr.units) od_eq (ev_var (pv 4)) (ev_c pe_int fun _ => .int _) (nomark _))))))) (svs_cons svU_raise svs_nil) svs_nil) (xsU_if (tv_w (wv_or (tv_cmp op_isP od_is (ev_var (pv 3)) (ev_c pe_non fun _ => .non) (nomark _)) (wv_or (tv_cmp op_lt od_cmp (ev_ix ix_seq od_ix (ev_var (pv 3)) (ev_c pe_int fun _ => .int _) (fun _ _ => rfl)) (ev_c pe_int fun _ => .int _) (nomark _)) (wv_or (tv_cmp op_isP od_is (ev_var (pv 4)) (ev_c pe_non fun _ => .non) (nomark _)) (wv_one' (tv_cmp (op_eqA hr.units) od_eq (ev_var (pv 4)) (ev_c pe_int fun _ => .int _) (nomark _))))))) (xsU_head (X0.xs (x0U_raise (x0_raise XR_BadRow rfl (hr.mono (by decide)) rfl (av_cons (ev_var (pv 1)) av_nil)))) (by repeat' (first | exact noex_nil | apply noex_cons | apply noex_if | apply noex_for | apply noex_wh | apply noex_fz | exact noex_set | exact noex_asg | exact noex_ret | exact noex_retN | exact noex_nv | exact noex_bk | exact noex_ct | exact noex_exp | exact noex_app | exact noex_ext | exact noex_aug | exact noex_mv))) (xsU_no (by repeat' (first | exact noex_nil | apply noex_cons | apply noex_if | apply noex_for | apply noex_wh | apply noex_fz | exact noex_set | exact noex_asg | exact noex_ret | exact noex_retN | exact noex_nv | exact noex_bk | exact noex_ct | exact noex_exp | exact noex_app | exact noex_ext | exact noex_aug | exact noex_mv)))) (xsU_tail (sv_if (tv_w (wv_and (tv_cmp (op_in2 (room65 hr)) od_in2 (ev_ix ix_seq od_ix (ev_var (pv 2)) (ev_c pe_int fun _ => .int _) (fun _ _ => rfl)) (ev_tup (av_cons (ev_c pe_str fun _ => .str _) (av_cons (ev_c pe_str fun _ => .str _) av_nil))) (by rfl)) (wv_one (tv_cmp (op_eqA hr.units) od_eq (ev_callB call_lenA cd_len rfl Z.z_len b_len (av_cons (ev_var (pv 2)) av_nil)) (ev_c pe_int fun _ => .int _) (nomark _))))) (svs_cons (sv_ret (ev_tup (av_cons (ev_var (pv 3)) (av_cons (ev_ix ix_seq od_ix (ev_var (pv 2)) (ev_c pe_int fun _ => .int _) (fun _ _ => rfl)) (av_cons (ev_op op_sub od_sub (ev_var (pv 4)) (ev_c pe_int fun _ => .int _)) (av_cons (ev_c pe_str fun _ => .str _) av_nil)))))) svs_nil) svs_nil) (by repeat' (first | exact noex_nil | apply noex_cons | apply noex_if | apply noex_for | apply noex_wh | apply noex_fz | exact noex_set | exact noex_asg | exact noex_ret | exact noex_retN | exact noex_nv | exact noex_bk | exact noex_ct | exact noex_exp | exact noex_app | exact noex_ext | exact noex_aug | exact noex_mv)) (xsU_tail (sv_if (tv_w (wv_and (tv_cmp (op_in2 (room65 hr)) od_in2 (ev_ix ix_seq od_ix (ev_var (pv 2)) (ev_c pe_int fun _ => .int _) (fun _ _ => rfl)) (ev_tup (av_cons (ev_c pe_str fun _ => .str _) (av_cons (ev_c pe_str fun _ => .str _) (av_cons (ev_c pe_str fun _ => .str _) av_nil)))) (by rfl)) (wv_and (tv_cmp (op_eqA hr.units) od_eq (ev_callB call_lenA cd_len rfl Z.z_len b_len (av_cons (ev_var (pv 2)) av_nil)) (ev_c pe_int fun _ => .int _) (nomark _)) (wv_one (tv_val (ev_fn C_is_word (hr.mono (by decide)) rfl (av_cons (ev_ix ix_seq od_ix (ev_var (pv 2)) (ev_c pe_int fun _ => .int _) (fun _ _ => rfl)) av_nil))))))) (svs_cons (sv_ret (ev_tup (av_cons (ev_var (pv 3)) (av_cons (ev_ix ix_seq od_ix (ev_var (pv 2)) (ev_c pe_int fun _ => .int _) (fun _ _ => rfl)) (av_cons (ev_op op_sub od_sub (ev_var (pv 4)) (ev_c pe_int fun _ => .int _)) (av_cons (ev_ix ix_seq od_ix (ev_var (pv 2)) (ev_c pe_int fun _ => .int _) (fun _ _ => rfl)) av_nil)))))) svs_nil) svs_nil) (by repeat' (first | exact noex_nil | apply noex_cons | apply noex_if | apply noex_for | apply noex_wh | apply noex_fz | exact noex_set | exact noex_asg | exact noex_ret | exact noex_retN | exact noex_nv | exact noex_bk | exact noex_ct | exact noex_exp | exact noex_app | exact noex_ext | exact noex_aug | exact noex_mv)) (xsU_head (X0.xs (x0U_raise (x0_raise XR_BadRow rfl (hr.mono (by decide)) rfl (av_cons (ev_var (pv 1)) av_nil)))) (by repeat' (first | exact noex_nil | apply noex_cons | apply noex_if | apply noex_for | apply noex_wh | apply noex_fz | exact noex_set | exact noex_asg | exact noex_ret | exact noex_retN | exact noex_nv | exact noex_bk | exact noex_ct | exact noex_exp | exact noex_app | exact noex_ext | exact noex_aug | exact noex_mv)))))))))))
theorem sc_heard : FnScope ["text", "at", "row"] ["text"] (defScope s_heard) := ⟨rfl, rfl, rfl, by decide +kernel, rfl, by decide +kernel, by decide +kernel⟩
def m_heard : Gm → Option Out := sCons (sIf (bE (e2 oEq (eV 0) (eC (.str "")))) (sCons (sRet (eA oLst (aN))) (sNil)) (sNil)) (sCons (sU (uLc (iA en1R (aC (e2 (f2s gSplit) (eV 0) (eC (.str "\n"))) (aC (eC (.int 1)) (aN)))) (gT (gC (gN 1) (gC (gN 2) (gE)))) (uC υ_row_heard (aC (eV 2) (aC (eV 1) (aN)))) [1, 2]) kRet) (sNil))
def φ_heard : Phi := phi m_heard 3 1
set_option maxHeartbeats 4000000 in
theorem ok_heard {P : Program} {w : World} {K : PySem.W.Frag} {mg : Str → Option Value} {base : Heap} {ca : Nat → Addr} {f : Addr} {fd : FuncData} (Z : Blt mg) (C_row_heard : Callee P w K mg base ca 4 "row_heard" φ_row_heard []) (X_row_heard : CalleeX P w K mg base ca 4 "row_heard" ψ_row_heard) (F : FunA K "heard" "heard" s_heard f fd) : FnOk P w K mg base CX0 (4 + 1) f fd ["text"] (spOf K ca φ_heard) :=
  fn_ok F sc_heard rfl rfl rfl (fun cdv A outer s H E hr => (svs_cons (sv_if (tv_cmp (op_eqA hr.units) od_eq (ev_var (pv 0)) (ev_c pe_str fun _ => .str _) (nomark _)) (svs_cons (sv_ret (ev_lst av_nil)) svs_nil) svs_nil) (svs_cons (svU_ret (uv_lc rfl rfl rfl sc_heard.nd (iv_enum1 rfl Z.z_enumerate (av_cons (ev_split (ev_var (pv 0)) (ev_c pe_str fun _ => .str _)) (av_cons (ev_c pe_int fun _ => .int _) av_nil))) (blk_by (own := [("at", 1), ("row", 2)]) (N := ["text", "at", "row"]) (sc := defScope s_heard) rfl rfl (by decide +kernel)) rfl (fun _ _ _ _ _ => (gv_tup rfl (gvs_cons (gv_name sc_heard.nd rfl (.inl rfl)) (gvs_cons (gv_name sc_heard.nd rfl (.inl rfl)) gvs_nil)) (gC_le (gC_le gE_le)))) (fun _ _ _ _ _ => ev_uC C_row_heard (fun _ _ => ups_n) (hr.mono (by decide)) rfl (av_cons (ev_var (pv 2)) (av_cons (ev_var (pv 1)) av_nil))) (fun _ _ _ _ _ _ _ hp => xe_uC X_row_heard (fun _ _ => ups_x) (hr.mono (by decide)) rfl (av_cons (ev_var (pv 2)) (av_cons (ev_var (pv 1)) av_nil)) hp) (by decide) (gT_ln (gC_ln gN_ln (gC_ln gN_ln gE_ln))))) svs_nil)))
def υ_heard : List D → Option (R ⊕ Exc) := ups m_heard 3 1
def ψ_heard : List D → Option Exc := psi (exn m_heard) 3 1
set_option maxHeartbeats 4000000 in
theorem okx_heard {P : Program} {w : World} {K : PySem.W.Frag} {mg : Str → Option Value} {base : Heap} {ca : Nat → Addr} {f : Addr} {fd : FuncData} (Z : Blt mg) (C_row_heard : Callee P w K mg base ca 4 "row_heard" φ_row_heard []) (X_row_heard : CalleeX P w K mg base ca 4 "row_heard" ψ_row_heard) (F : FunA K "heard" "heard" s_heard f fd) : FnOk P w K mg base (L2.CX P w) (4 + 1) f fd ["text"] (spX K ca ψ_heard) :=
  fnx_ok F sc_heard rfl rfl rfl (fun cdv A outer s H E hr => (xsU_tail (sv_if (tv_cmp (op_eqA hr.units) od_eq (ev_var (pv 0)) (ev_c pe_str fun _ => .str _) (nomark _)) (svs_cons (sv_ret (ev_lst av_nil)) svs_nil) svs_nil) (by repeat' (first | exact noex_nil | apply noex_cons | apply noex_if | apply noex_for | apply noex_wh | apply noex_fz | exact noex_set | exact noex_asg | exact noex_ret | exact noex_retN | exact noex_nv | exact noex_bk | exact noex_ct | exact noex_exp | exact noex_app | exact noex_ext | exact noex_aug | exact noex_mv)) (xsU_head (X0.xs (x0U_ret (uv_lc rfl rfl rfl sc_heard.nd (iv_enum1 rfl Z.z_enumerate (av_cons (ev_split (ev_var (pv 0)) (ev_c pe_str fun _ => .str _)) (av_cons (ev_c pe_int fun _ => .int _) av_nil))) (blk_by (own := [("at", 1), ("row", 2)]) (N := ["text", "at", "row"]) (sc := defScope s_heard) rfl rfl (by decide +kernel)) rfl (fun _ _ _ _ _ => (gv_tup rfl (gvs_cons (gv_name sc_heard.nd rfl (.inl rfl)) (gvs_cons (gv_name sc_heard.nd rfl (.inl rfl)) gvs_nil)) (gC_le (gC_le gE_le)))) (fun _ _ _ _ _ => ev_uC C_row_heard (fun _ _ => ups_n) (hr.mono (by decide)) rfl (av_cons (ev_var (pv 2)) (av_cons (ev_var (pv 1)) av_nil))) (fun _ _ _ _ _ _ _ hp => xe_uC X_row_heard (fun _ _ => ups_x) (hr.mono (by decide)) rfl (av_cons (ev_var (pv 2)) (av_cons (ev_var (pv 1)) av_nil)) hp) (by decide) (gT_ln (gC_ln gN_ln (gC_ln gN_ln gE_ln)))))) (by repeat' (first | exact noex_nil | apply noex_cons | apply noex_if | apply noex_for | apply noex_wh | apply noex_fz | exact noex_set | exact noex_asg | exact noex_ret | exact noex_retN | exact noex_nv | exact noex_bk | exact noex_ct | exact noex_exp | exact noex_app | exact noex_ext | exact noex_aug | exact noex_mv)))))
theorem sc__law_cell_at : FnScope ["_law_script", "_law_k"] ["_law_script", "_law_k"] (defScope s__law_cell_at) := ⟨rfl, rfl, rfl, by decide +kernel, rfl, by decide +kernel, by decide +kernel⟩
def m__law_cell_at : Gm → Option Out := sCons (sIf (bE (e2 oLt (eV 1) (eA cLen (aC (eV 0) (aN))))) (sCons (sRet (e2 oIx (eV 0) (eV 1))) (sNil)) (sNil)) (sCons (sRet (eC (.int 0))) (sNil))
def φ__law_cell_at : Phi := phi m__law_cell_at 2 2
set_option maxHeartbeats 4000000 in
theorem ok__law_cell_at {P : Program} {w : World} {K : PySem.W.Frag} {mg : Str → Option Value} {base : Heap} {ca : Nat → Addr} {f : Addr} {fd : FuncData} (Z : Blt mg) (F : FunA K "_law_cell_at" "_law_cell_at" s__law_cell_at f fd) : FnOk P w K mg base CX0 (0 + 1) f fd ["_law_script", "_law_k"] (spOf K ca φ__law_cell_at) :=
  fn_ok F sc__law_cell_at rfl rfl rfl (fun cdv A outer s H E hr => (svs_cons (sv_if (tv_cmp op_lt od_cmp (ev_var (pv 1)) (ev_callB call_lenA cd_len rfl Z.z_len b_len (av_cons (ev_var (pv 0)) av_nil)) (nomark _)) (svs_cons (sv_ret (ev_ix ix_seq od_ix (ev_var (pv 0)) (ev_var (pv 1)) (fun _ _ => rfl))) svs_nil) svs_nil) (svs_cons (sv_ret (ev_c pe_int fun _ => .int _)) svs_nil)))
theorem sc__law_mix : FnScope ["_law_cell", "_law_factor", "_law_mixed"] ["_law_cell", "_law_factor"] (defScope s__law_mix) := ⟨rfl, rfl, rfl, by decide +kernel, rfl, by decide +kernel, by decide +kernel⟩
def m__law_mix : Gm → Option Out := sCons (sSet 2 (e2 oMod (e2 oAdd (e2 oMulA (eV 0) (eV 1)) (eC (.int 12345))) (eC (.int 2147483647)))) (sCons (sRet (e2 oDiv (e2 oMod (e2 oMulA (eV 2) (eV 2)) (eC (.int 2147483629))) (eC (.int 3)))) (sNil))
def φ__law_mix : Phi := phi m__law_mix 3 2
set_option maxHeartbeats 4000000 in
theorem ok__law_mix {P : Program} {w : World} {K : PySem.W.Frag} {mg : Str → Option Value} {base : Heap} {ca : Nat → Addr} {f : Addr} {fd : FuncData} (Z : Blt mg) (F : FunA K "_law_mix" "_law_mix" s__law_mix f fd) : FnOk P w K mg base CX0 (0 + 1) f fd ["_law_cell", "_law_factor"] (spOf K ca φ__law_mix) :=
  fn_ok F sc__law_mix rfl rfl rfl (fun cdv A outer s H E hr => (svs_cons (sv_set (i := 2) sc__law_mix.nd rfl (.inl rfl) (ev_op op_modN od_mod (ev_op op_addA od_add (ev_op op_mulA od_mul (ev_var (pv 0)) (ev_var (pv 1))) (ev_c pe_int fun _ => .int _)) (ev_c pe_int fun _ => .int _))) (svs_cons (sv_ret (ev_op op_fdivB od_div (ev_op op_modN od_mod (ev_op op_mulA od_mul (ev_var (pv 2)) (ev_var (pv 2))) (ev_c pe_int fun _ => .int _)) (ev_c pe_int fun _ => .int _))) svs_nil)))
theorem sc__law_same : FnScope ["_law_found", "_law_due", "_law_one", "_law_other"] ["_law_found", "_law_due"] (defScope s__law_same) := ⟨rfl, rfl, rfl, by decide +kernel, rfl, by decide +kernel, by decide +kernel⟩
def mr__law_same (φ__law_same : Phi) : Gm → Option Out := sCons (sIf (bE (eIs2 .list .tuple (eV 1))) (sCons (sIf (bOr (bNot (bE (eIs2 .list .tuple (eV 0)))) (bE (e2 oNe (eIs .list (eV 0)) (eIs .list (eV 1))))) (sCons (sRet (eC (.bl false))) (sNil)) (sNil)) (sCons (sRet (eAnd (e2 oEq (eA cLen (aC (eV 0) (aN))) (eA cLen (aC (eV 1) (aN)))) (eA cAll (aC (eLc (iA zpR (aC (eV 0) (aC (eV 1) (aN)))) (gT (gC (gN 2) (gC (gN 3) (gE)))) (bY) (eA (callR φ__law_same []) (aC (eV 2) (aC (eV 3) (aN)))) [2, 3]) (aN))))) (sNil))) (sNil)) (sCons (sIf (bE (eIs .str (eV 1))) (sCons (sRet (eAnd (eIs .str (eV 0)) (e2 oEq (eV 0) (eV 1)))) (sNil)) (sNil)) (sCons (sIf (bE (e2 oIs (eV 1) (eC .non))) (sCons (sRet (e2 oIs (eV 0) (eC .non))) (sNil)) (sNil)) (sCons (sIf (bE (eIs .bool (eV 1))) (sCons (sRet (eAnd (eIs .bool (eV 0)) (e2 oEq (eV 0) (eV 1)))) (sNil)) (sNil)) (sCons (sRet (eAnd (eIs .int (eV 0)) (eAnd (eNot (eIs .bool (eV 0))) (e2 oEq (eV 0) (eV 1))))) (sNil)))))
def φr__law_same : Nat → Phi
  | 0 => fun _ => none
  | n + 1 => phi (mr__law_same (φr__law_same n)) 4 2
set_option maxHeartbeats 4000000 in
theorem okr__law_same {P : Program} {w : World} {K : PySem.W.Frag} {mg : Str → Option Value} {base : Heap} {ca : Nat → Addr} {f : Addr} {fd : FuncData} (Z : Blt mg) (F : FunA K "_law_same" "_law_same" s__law_same f fd) (hm : mg "_law_same" = some (.ref f)) (hb : Binds K fd ["_law_found", "_law_due"] []) : ∀ n : Nat, FnOk P w K mg base CX0 (0 + 1 * n + 1) f fd ["_law_found", "_law_due"] (spOf K ca (φr__law_same n))
  | 0 => fn_none
  | n + 1 => by
    have C__law_same : Callee P w K mg base ca (0 + 1 * n + 1) "_law_same" (φr__law_same n) [] := fn_callee F (okr__law_same Z F hm hb n) hm hb .nil fun _ => .nil
    exact fn_ok (k := 0 + 1 * n + 1) F sc__law_same rfl rfl rfl (fun cdv A outer s H E hr => (svs_cons (sv_if (tv_val (ev_isi2 (T := .list) (U := .tuple) rfl Z.z_isinstance b_isinstance (ev_var (pv 1)) (pe_ty rfl Z.z_list b_list) (pe_ty rfl Z.z_tuple b_tuple))) (svs_cons (sv_if (tv_w (wv_or (tv_not (tv_val (ev_isi2 (T := .list) (U := .tuple) rfl Z.z_isinstance b_isinstance (ev_var (pv 0)) (pe_ty rfl Z.z_list b_list) (pe_ty rfl Z.z_tuple b_tuple)))) (wv_one' (tv_cmp (op_neA hr.units) od_ne (ev_isi (T := .list) rfl Z.z_isinstance b_isinstance (ev_var (pv 0)) (pe_ty rfl Z.z_list b_list)) (ev_isi (T := .list) rfl Z.z_isinstance b_isinstance (ev_var (pv 1)) (pe_ty rfl Z.z_list b_list)) (nomark _))))) (svs_cons (sv_ret (ev_c pe_bl fun _ => .bl _)) svs_nil) svs_nil) (svs_cons (sv_ret (ev_and (ev_cmp (op_eqA hr.units) od_eq (ev_callB call_lenA cd_len rfl Z.z_len b_len (av_cons (ev_var (pv 0)) av_nil)) (ev_callB call_lenA cd_len rfl Z.z_len b_len (av_cons (ev_var (pv 1)) av_nil)) (nomark _)) (ev_one (ev_callB (cr_all rfl) cd_all rfl Z.z_all b_all (av_cons (ev_lc rfl sc__law_same.nd (iv_zip rfl Z.z_zip (av_cons (ev_var (pv 0)) (av_cons (ev_var (pv 1)) av_nil))) (blk_by (own := [("_law_one", 2), ("_law_other", 3)]) (N := ["_law_found", "_law_due", "_law_one", "_law_other"]) (sc := defScope s__law_same) rfl rfl (by decide +kernel)) rfl (fun _ _ _ _ _ => (gv_tup rfl (gvs_cons (gv_name sc__law_same.nd rfl (.inl rfl)) (gvs_cons (gv_name sc__law_same.nd rfl (.inl rfl)) gvs_nil)) (gC_le (gC_le gE_le)))) (fun _ _ _ _ _ => cv_nil) (fun _ _ _ _ _ => (ev_fn C__law_same (hr.mono (by omega)) rfl (av_cons (ev_var (pv 2)) (av_cons (ev_var (pv 3)) av_nil)))) (by decide) (gT_ln (gC_ln gN_ln (gC_ln gN_ln gE_ln)))) av_nil))))) svs_nil)) svs_nil) (svs_cons (sv_if (tv_val (ev_isi (T := .str) rfl Z.z_isinstance b_isinstance (ev_var (pv 1)) (pe_ty rfl Z.z_str b_str))) (svs_cons (sv_ret (ev_and (ev_isi (T := .str) rfl Z.z_isinstance b_isinstance (ev_var (pv 0)) (pe_ty rfl Z.z_str b_str)) (ev_one (ev_cmp (op_eqA hr.units) od_eq (ev_var (pv 0)) (ev_var (pv 1)) (nomark _))))) svs_nil) svs_nil) (svs_cons (sv_if (tv_cmp op_isP od_is (ev_var (pv 1)) (ev_c pe_non fun _ => .non) (nomark _)) (svs_cons (sv_ret (ev_cmp op_isP od_is (ev_var (pv 0)) (ev_c pe_non fun _ => .non) (nomark _))) svs_nil) svs_nil) (svs_cons (sv_if (tv_val (ev_isi (T := .bool) rfl Z.z_isinstance b_isinstance (ev_var (pv 1)) (pe_ty rfl Z.z_bool b_bool))) (svs_cons (sv_ret (ev_and (ev_isi (T := .bool) rfl Z.z_isinstance b_isinstance (ev_var (pv 0)) (pe_ty rfl Z.z_bool b_bool)) (ev_one (ev_cmp (op_eqA hr.units) od_eq (ev_var (pv 0)) (ev_var (pv 1)) (nomark _))))) svs_nil) svs_nil) (svs_cons (sv_ret (ev_and (ev_isi (T := .int) rfl Z.z_isinstance b_isinstance (ev_var (pv 0)) (pe_ty rfl Z.z_int b_int)) (ev_and (ev_not (ev_isi (T := .bool) rfl Z.z_isinstance b_isinstance (ev_var (pv 0)) (pe_ty rfl Z.z_bool b_bool))) (ev_one (ev_cmp (op_eqA hr.units) od_eq (ev_var (pv 0)) (ev_var (pv 1)) (nomark _)))))) svs_nil))))))
abbrev φ__law_same : Phi := φr__law_same 10
theorem sc__law_word : FnScope ["_law_cell", "_law_k", "_law_letters", "_law_size", "_law_place", "_law_word_here", "_law_n", "_law_far"] ["_law_cell", "_law_k"] (defScope s__law_word) := ⟨rfl, rfl, rfl, by decide +kernel, rfl, by decide +kernel, by decide +kernel⟩
def m__law_word : Gm → Option Out := sCons (sSet 2 (eC (.str "abcdefghijklmnopqrstuvwxyz"))) (sCons (sSet 3 (e2 oAdd (eC (.int 1)) (e2 oMod (eV 0) (eC (.int 12))))) (sCons (sSet 4 (e2 oMod (e2 oDiv (eV 0) (eC (.int 12))) (eV 3))) (sCons (sSet 5 (eC (.str ""))) (sCons (sFor (iA rg1R (aC (eV 3) (aN))) (gN 6) (sCons (sSet 7 (e2 oMulA (e2 oMulA (eV 6) (eV 6)) (e2 oMod (e2 oDiv (eV 0) (eC (.int 7))) (eC (.int 3))))) (sCons (sIf (bE (e2 oEq (eV 6) (eV 4))) (sCons (sSet 7 (e2 oAdd (e2 oDiv (eV 0) (eC (.int 97))) (e2 oMulA (eC (.int 3)) (eV 1)))) (sNil)) (sNil)) (sCons (sSet 5 (e2 oAdd (eV 5) (e2 oIx (eV 2) (e2 oMod (e2 oAdd (e2 oDiv (eV 0) (eC (.int 144))) (eV 7)) (eC (.int 26)))))) (sNil)))) [6, 7, 7, 5]) (sCons (sRet (eV 5)) (sNil))))))
def φ__law_word : Phi := phi m__law_word 8 2
set_option maxHeartbeats 4000000 in
theorem ok__law_word {P : Program} {w : World} {K : PySem.W.Frag} {mg : Str → Option Value} {base : Heap} {ca : Nat → Addr} {f : Addr} {fd : FuncData} (Z : Blt mg) (F : FunA K "_law_word" "_law_word" s__law_word f fd) : FnOk P w K mg base CX0 (0 + 1) f fd ["_law_cell", "_law_k"] (spOf K ca φ__law_word) :=
  fn_ok F sc__law_word rfl rfl rfl (fun cdv A outer s H E hr => (svs_cons (sv_set (i := 2) sc__law_word.nd rfl (.inl rfl) (ev_c pe_str fun _ => .str _)) (svs_cons (sv_set (i := 3) sc__law_word.nd rfl (.inl rfl) (ev_op op_addA od_add (ev_c pe_int fun _ => .int _) (ev_op op_modN od_mod (ev_var (pv 0)) (ev_c pe_int fun _ => .int _)))) (svs_cons (sv_set (i := 4) sc__law_word.nd rfl (.inl rfl) (ev_op op_modN od_mod (ev_op op_fdivB od_div (ev_var (pv 0)) (ev_c pe_int fun _ => .int _)) (ev_var (pv 3)))) (svs_cons (sv_set (i := 5) sc__law_word.nd rfl (.inl rfl) (ev_c pe_str fun _ => .str _)) (svs_cons (sv_for PassesOwn.never rfl (iv_rg1 rfl Z.z_range (av_cons (ev_var (pv 3)) av_nil)) (gv_name sc__law_word.nd rfl (.inl rfl)) (svs_cons (sv_set (i := 7) sc__law_word.nd rfl (.inl rfl) (ev_op op_mulA od_mul (ev_op op_mulA od_mul (ev_var (pv 6)) (ev_var (pv 6))) (ev_op op_modN od_mod (ev_op op_fdivB od_div (ev_var (pv 0)) (ev_c pe_int fun _ => .int _)) (ev_c pe_int fun _ => .int _)))) (svs_cons (sv_if (tv_cmp (op_eqA hr.units) od_eq (ev_var (pv 6)) (ev_var (pv 4)) (nomark _)) (svs_cons (sv_set (i := 7) sc__law_word.nd rfl (.inl rfl) (ev_op op_addA od_add (ev_op op_fdivB od_div (ev_var (pv 0)) (ev_c pe_int fun _ => .int _)) (ev_op op_mulA od_mul (ev_c pe_int fun _ => .int _) (ev_var (pv 1))))) svs_nil) svs_nil) (svs_cons (sv_set (i := 5) sc__law_word.nd rfl (.inl rfl) (ev_op op_addA od_add (ev_var (pv 5)) (ev_ix ix_seq od_ix (ev_var (pv 2)) (ev_op op_modN od_mod (ev_op op_addA od_add (ev_op op_fdivB od_div (ev_var (pv 0)) (ev_c pe_int fun _ => .int _)) (ev_var (pv 7))) (ev_c pe_int fun _ => .int _)) (fun _ _ => rfl)))) svs_nil))) rfl) (svs_cons (sv_ret (ev_var (pv 5))) svs_nil)))))))
theorem sc__law_shared : FnScope ["_law_one", "_law_other", "_law_kept"] ["_law_one", "_law_other"] (defScope s__law_shared) := ⟨rfl, rfl, rfl, by decide +kernel, rfl, by decide +kernel, by decide +kernel⟩
def m__law_shared : Gm → Option Out := sCons (sWh (bE (e2 oGt (eV 1) (eC (.int 0)))) (sCons (sSet 2 (e2 oMod (eV 0) (eV 1))) (sCons (sSet 0 (eV 1)) (sCons (sSet 1 (eV 2)) (sNil)))) FUEL) (sCons (sRet (eV 0)) (sNil))
def φ__law_shared : Phi := phi m__law_shared 3 2
set_option maxHeartbeats 4000000 in
theorem ok__law_shared {P : Program} {w : World} {K : PySem.W.Frag} {mg : Str → Option Value} {base : Heap} {ca : Nat → Addr} {f : Addr} {fd : FuncData} (Z : Blt mg) (F : FunA K "_law_shared" "_law_shared" s__law_shared f fd) : FnOk P w K mg base CX0 (0 + 1) f fd ["_law_one", "_law_other"] (spOf K ca φ__law_shared) :=
  fn_ok F sc__law_shared rfl rfl rfl (fun cdv A outer s H E hr => (svs_cons (sv_while PassesOwn.never (tv_cmp op_gt od_cmp (ev_var (pv 1)) (ev_c pe_int fun _ => .int _) (nomark _)) (svs_cons (sv_set (i := 2) sc__law_shared.nd rfl (.inl rfl) (ev_op op_modN od_mod (ev_var (pv 0)) (ev_var (pv 1)))) (svs_cons (sv_set (i := 0) sc__law_shared.nd rfl (.inl rfl) (ev_var (pv 1))) (svs_cons (sv_set (i := 1) sc__law_shared.nd rfl (.inl rfl) (ev_var (pv 2))) svs_nil)))) (svs_cons (sv_ret (ev_var (pv 0))) svs_nil)))
theorem sc__law_time : FnScope ["_law_cell", "_law_m", "_law_top", "_law_bottom", "_law_by"] ["_law_cell", "_law_m"] (defScope s__law_time) := ⟨rfl, rfl, rfl, by decide +kernel, rfl, by decide +kernel, by decide +kernel⟩
def m__law_time : Gm → Option Out := sCons (sSet 2 (e2 oIx (eA oLst (aC (e2 oMod (eV 1) (eC (.int 50))) (aC (e2 oMod (eV 0) (e2 oPow (eC (.int 10)) (eC (.int 30)))) (aC (eC (.int 0)) (aC (eV 1) (aN)))))) (e2 oMod (eV 1) (eC (.int 4))))) (sCons (sSet 3 (e2 oIx (eA oLst (aC (eC (.int 1)) (aC (e2 oAdd (eC (.int 1)) (e2 oMod (e2 oDiv (eV 1) (eC (.int 4))) (eC (.int 12)))) (aC (eC (.int 27720)) (aC (e2 oAdd (eC (.int 1)) (e2 oMod (e2 oDiv (eV 0) (eC (.int 7))) (e2 oPow (eC (.int 10)) (eC (.int 30))))) (aN)))))) (e2 oMod (e2 oDiv (eV 1) (eC (.int 64))) (eC (.int 4))))) (sCons (sSet 4 (eA (callR φ__law_shared []) (aC (eV 2) (aC (eV 3) (aN))))) (sCons (sRet (eA oTup (aC (e2 oDiv (eV 2) (eV 4)) (aC (e2 oDiv (eV 3) (eV 4)) (aN))))) (sNil))))
def φ__law_time : Phi := phi m__law_time 5 2
set_option maxHeartbeats 4000000 in
theorem ok__law_time {P : Program} {w : World} {K : PySem.W.Frag} {mg : Str → Option Value} {base : Heap} {ca : Nat → Addr} {f : Addr} {fd : FuncData} (Z : Blt mg) (C__law_shared : Callee P w K mg base ca 1 "_law_shared" φ__law_shared []) (F : FunA K "_law_time" "_law_time" s__law_time f fd) : FnOk P w K mg base CX0 (1 + 1) f fd ["_law_cell", "_law_m"] (spOf K ca φ__law_time) :=
  fn_ok F sc__law_time rfl rfl rfl (fun cdv A outer s H E hr => (svs_cons (sv_set (i := 2) sc__law_time.nd rfl (.inl rfl) (ev_ix ix_seq od_ix (ev_lst (av_cons (ev_op op_modN od_mod (ev_var (pv 1)) (ev_c pe_int fun _ => .int _)) (av_cons (ev_op op_modN od_mod (ev_var (pv 0)) (ev_op op_pow od_pow (ev_c pe_int fun _ => .int _) (ev_c pe_int fun _ => .int _))) (av_cons (ev_c pe_int fun _ => .int _) (av_cons (ev_var (pv 1)) av_nil))))) (ev_op op_modN od_mod (ev_var (pv 1)) (ev_c pe_int fun _ => .int _)) (fun _ _ => rfl))) (svs_cons (sv_set (i := 3) sc__law_time.nd rfl (.inl rfl) (ev_ix ix_seq od_ix (ev_lst (av_cons (ev_c pe_int fun _ => .int _) (av_cons (ev_op op_addA od_add (ev_c pe_int fun _ => .int _) (ev_op op_modN od_mod (ev_op op_fdivB od_div (ev_var (pv 1)) (ev_c pe_int fun _ => .int _)) (ev_c pe_int fun _ => .int _))) (av_cons (ev_c pe_int fun _ => .int _) (av_cons (ev_op op_addA od_add (ev_c pe_int fun _ => .int _) (ev_op op_modN od_mod (ev_op op_fdivB od_div (ev_var (pv 0)) (ev_c pe_int fun _ => .int _)) (ev_op op_pow od_pow (ev_c pe_int fun _ => .int _) (ev_c pe_int fun _ => .int _)))) av_nil))))) (ev_op op_modN od_mod (ev_op op_fdivB od_div (ev_var (pv 1)) (ev_c pe_int fun _ => .int _)) (ev_c pe_int fun _ => .int _)) (fun _ _ => rfl))) (svs_cons (sv_set (i := 4) sc__law_time.nd rfl (.inl rfl) (ev_fn C__law_shared (hr.mono (by decide)) rfl (av_cons (ev_var (pv 2)) (av_cons (ev_var (pv 3)) av_nil)))) (svs_cons (sv_ret (ev_tup (av_cons (ev_op op_fdivB od_div (ev_var (pv 2)) (ev_var (pv 4))) (av_cons (ev_op op_fdivB od_div (ev_var (pv 3)) (ev_var (pv 4))) av_nil)))) svs_nil)))))
theorem sc__law_row : FnScope ["_law_cell", "_law_k", "_law_m", "_law_n", "_law_word_here", "_law_bridge", "_law_cart"] ["_law_cell", "_law_k"] (defScope s__law_row) := ⟨rfl, rfl, rfl, by decide +kernel, rfl, by decide +kernel, by decide +kernel⟩
def m__law_row : Gm → Option Out := sCons (sSet 2 (eA (callR φ__law_mix []) (aC (e2 oAdd (eV 0) (e2 oMulA (eC (.int 101)) (eV 1))) (aC (eC (.int 48271)) (aN))))) (sCons (sSet 3 (eA (callR φ__law_mix []) (aC (e2 oAdd (eV 0) (e2 oMulA (eC (.int 101)) (eV 1))) (aC (eC (.int 16807)) (aN))))) (sCons (sSet 4 (e2 oIx (eA oLst (aC (eC (.str "off")) (aC (eC (.str "end")) (aC (eC (.str "start")) (aC (eC (.str "come")) (aC (eC (.str "on")) (aN))))))) (e2 oMod (e2 oDiv (eV 2) (eC (.int 3))) (eC (.int 5))))) (sCons (sSet 5 (eC (.str ""))) (sCons (sIf (bE (e2 oNin2 (eV 4) (eA oLst (aC (eC (.str "end")) (aC (eC (.str "start")) (aN)))))) (sCons (sSet 5 (eA (callR φ__law_word []) (aC (eV 3) (aC (e2 oMod (e2 oDiv (eV 3) (eC (.int 5))) (eC (.int 3))) (aN))))) (sNil)) (sNil)) (sCons (sSet 6 (e2 oIx (eA oLst (aC (e2 oMod (eV 3) (eC (.int 10))) (aC (e2 oMod (eV 0) (e2 oPow (eC (.int 10)) (eC (.int 30)))) (aN)))) (e2 oDiv (e2 oMod (e2 oDiv (eV 3) (eC (.int 10))) (eC (.int 3))) (eC (.int 2))))) (sCons (sRet (eA oTup (aC (eA (callR φ__law_time []) (aC (eV 0) (aC (eV 2) (aN)))) (aC (eV 4) (aC (eV 6) (aC (eV 5) (aN))))))) (sNil)))))))
def φ__law_row : Phi := phi m__law_row 7 2
set_option maxHeartbeats 4000000 in
theorem ok__law_row {P : Program} {w : World} {K : PySem.W.Frag} {mg : Str → Option Value} {base : Heap} {ca : Nat → Addr} {f : Addr} {fd : FuncData} (Z : Blt mg) (C__law_mix : Callee P w K mg base ca 1 "_law_mix" φ__law_mix []) (C__law_word : Callee P w K mg base ca 1 "_law_word" φ__law_word []) (C__law_time : Callee P w K mg base ca 2 "_law_time" φ__law_time []) (F : FunA K "_law_row" "_law_row" s__law_row f fd) : FnOk P w K mg base CX0 (2 + 1) f fd ["_law_cell", "_law_k"] (spOf K ca φ__law_row) :=
  fn_ok F sc__law_row rfl rfl rfl (fun cdv A outer s H E hr => (svs_cons (sv_set (i := 2) sc__law_row.nd rfl (.inl rfl) (ev_fn C__law_mix (hr.mono (by decide)) rfl (av_cons (ev_op op_addA od_add (ev_var (pv 0)) (ev_op op_mulA od_mul (ev_c pe_int fun _ => .int _) (ev_var (pv 1)))) (av_cons (ev_c pe_int fun _ => .int _) av_nil)))) (svs_cons (sv_set (i := 3) sc__law_row.nd rfl (.inl rfl) (ev_fn C__law_mix (hr.mono (by decide)) rfl (av_cons (ev_op op_addA od_add (ev_var (pv 0)) (ev_op op_mulA od_mul (ev_c pe_int fun _ => .int _) (ev_var (pv 1)))) (av_cons (ev_c pe_int fun _ => .int _) av_nil)))) (svs_cons (sv_set (i := 4) sc__law_row.nd rfl (.inl rfl) (ev_ix ix_seq od_ix (ev_lst (av_cons (ev_c pe_str fun _ => .str _) (av_cons (ev_c pe_str fun _ => .str _) (av_cons (ev_c pe_str fun _ => .str _) (av_cons (ev_c pe_str fun _ => .str _) (av_cons (ev_c pe_str fun _ => .str _) av_nil)))))) (ev_op op_modN od_mod (ev_op op_fdivB od_div (ev_var (pv 2)) (ev_c pe_int fun _ => .int _)) (ev_c pe_int fun _ => .int _)) (fun _ _ => rfl))) (svs_cons (sv_set (i := 5) sc__law_row.nd rfl (.inl rfl) (ev_c pe_str fun _ => .str _)) (svs_cons (sv_if (tv_cmp (op_nin2 (room65 hr)) od_nin2 (ev_var (pv 4)) (ev_lst (av_cons (ev_c pe_str fun _ => .str _) (av_cons (ev_c pe_str fun _ => .str _) av_nil))) (by rfl)) (svs_cons (sv_set (i := 5) sc__law_row.nd rfl (.inl rfl) (ev_fn C__law_word (hr.mono (by decide)) rfl (av_cons (ev_var (pv 3)) (av_cons (ev_op op_modN od_mod (ev_op op_fdivB od_div (ev_var (pv 3)) (ev_c pe_int fun _ => .int _)) (ev_c pe_int fun _ => .int _)) av_nil)))) svs_nil) svs_nil) (svs_cons (sv_set (i := 6) sc__law_row.nd rfl (.inl rfl) (ev_ix ix_seq od_ix (ev_lst (av_cons (ev_op op_modN od_mod (ev_var (pv 3)) (ev_c pe_int fun _ => .int _)) (av_cons (ev_op op_modN od_mod (ev_var (pv 0)) (ev_op op_pow od_pow (ev_c pe_int fun _ => .int _) (ev_c pe_int fun _ => .int _))) av_nil))) (ev_op op_fdivB od_div (ev_op op_modN od_mod (ev_op op_fdivB od_div (ev_var (pv 3)) (ev_c pe_int fun _ => .int _)) (ev_c pe_int fun _ => .int _)) (ev_c pe_int fun _ => .int _)) (fun _ _ => rfl))) (svs_cons (sv_ret (ev_tup (av_cons (ev_fn C__law_time (hr.mono (by decide)) rfl (av_cons (ev_var (pv 0)) (av_cons (ev_var (pv 2)) av_nil))) (av_cons (ev_var (pv 4)) (av_cons (ev_var (pv 6)) (av_cons (ev_var (pv 5)) av_nil)))))) svs_nil))))))))
theorem sc__law_text_of : FnScope ["_law_row_here", "_law_text", "_law_time_here", "_law_word_here", "_law_cart", "_law_bridge"] ["_law_row_here"] (defScope s__law_text_of) := ⟨rfl, rfl, rfl, by decide +kernel, rfl, by decide +kernel, by decide +kernel⟩
def m__law_text_of : Gm → Option Out := sCons (sAsg (eV 0) (gT (gC (gN 2) (gC (gN 3) (gC (gN 4) (gC (gN 5) (gE))))))) (sCons (sSet 1 (eA cStrI (aC (e2 oIx (eV 2) (eC (.int 0))) (aN)))) (sCons (sIf (bE (e2 oNe (e2 oIx (eV 2) (eC (.int 1))) (eC (.int 1)))) (sCons (sSet 1 (e2 oAdd (e2 oAdd (eV 1) (eC (.str "/"))) (eA cStrI (aC (e2 oIx (eV 2) (eC (.int 1))) (aN))))) (sNil)) (sNil)) (sCons (sSet 1 (e2 oAdd (e2 oAdd (e2 oAdd (e2 oAdd (eV 1) (eC (.str " "))) (eV 3)) (eC (.str " "))) (eA cStrI (aC (e2 oAdd (eV 4) (eC (.int 1))) (aN))))) (sCons (sIf (bE (e2 oNe (eV 5) (eC (.str "")))) (sCons (sSet 1 (e2 oAdd (e2 oAdd (eV 1) (eC (.str " "))) (eV 5))) (sNil)) (sNil)) (sCons (sRet (eV 1)) (sNil))))))
def φ__law_text_of : Phi := phi m__law_text_of 6 1
set_option maxHeartbeats 4000000 in
theorem ok__law_text_of {P : Program} {w : World} {K : PySem.W.Frag} {mg : Str → Option Value} {base : Heap} {ca : Nat → Addr} {f : Addr} {fd : FuncData} (Z : Blt mg) (F : FunA K "_law_text_of" "_law_text_of" s__law_text_of f fd) : FnOk P w K mg base CX0 (0 + 1) f fd ["_law_row_here"] (spOf K ca φ__law_text_of) :=
  fn_ok F sc__law_text_of rfl rfl rfl (fun cdv A outer s H E hr => (svs_cons (sv_asg (ev_var (pv 0)) (gv_tup rfl (gvs_cons (gv_name sc__law_text_of.nd rfl (.inl rfl)) (gvs_cons (gv_name sc__law_text_of.nd rfl (.inl rfl)) (gvs_cons (gv_name sc__law_text_of.nd rfl (.inl rfl)) (gvs_cons (gv_name sc__law_text_of.nd rfl (.inl rfl)) gvs_nil)))) (gC_le (gC_le (gC_le (gC_le gE_le)))))) (svs_cons (sv_set (i := 1) sc__law_text_of.nd rfl (.inl rfl) (ev_callT call_strA cd_strI rfl Z.z_str b_str (av_cons (ev_ix ix_seq od_ix (ev_var (pv 2)) (ev_c pe_int fun _ => .int _) (fun _ _ => rfl)) av_nil))) (svs_cons (sv_if (tv_cmp (op_neA hr.units) od_ne (ev_ix ix_seq od_ix (ev_var (pv 2)) (ev_c pe_int fun _ => .int _) (fun _ _ => rfl)) (ev_c pe_int fun _ => .int _) (nomark _)) (svs_cons (sv_set (i := 1) sc__law_text_of.nd rfl (.inl rfl) (ev_op op_addA od_add (ev_op op_addA od_add (ev_var (pv 1)) (ev_c pe_str fun _ => .str _)) (ev_callT call_strA cd_strI rfl Z.z_str b_str (av_cons (ev_ix ix_seq od_ix (ev_var (pv 2)) (ev_c pe_int fun _ => .int _) (fun _ _ => rfl)) av_nil)))) svs_nil) svs_nil) (svs_cons (sv_set (i := 1) sc__law_text_of.nd rfl (.inl rfl) (ev_op op_addA od_add (ev_op op_addA od_add (ev_op op_addA od_add (ev_op op_addA od_add (ev_var (pv 1)) (ev_c pe_str fun _ => .str _)) (ev_var (pv 3))) (ev_c pe_str fun _ => .str _)) (ev_callT call_strA cd_strI rfl Z.z_str b_str (av_cons (ev_op op_addA od_add (ev_var (pv 4)) (ev_c pe_int fun _ => .int _)) av_nil)))) (svs_cons (sv_if (tv_cmp (op_neA hr.units) od_ne (ev_var (pv 5)) (ev_c pe_str fun _ => .str _) (nomark _)) (svs_cons (sv_set (i := 1) sc__law_text_of.nd rfl (.inl rfl) (ev_op op_addA od_add (ev_op op_addA od_add (ev_var (pv 1)) (ev_c pe_str fun _ => .str _)) (ev_var (pv 5)))) svs_nil) svs_nil) (svs_cons (sv_ret (ev_var (pv 1))) svs_nil)))))))
theorem sc__law_spoilt : FnScope ["_law_row_here", "_law_n", "_law_words", "_law_way", "_law_time_here", "_law_word_here", "_law_cart", "_law_bridge"] ["_law_row_here", "_law_n"] (defScope s__law_spoilt) := ⟨rfl, rfl, rfl, by decide +kernel, rfl, by decide +kernel, by decide +kernel⟩
def m__law_spoilt : Gm → Option Out := sCons (sAsg (eV 0) (gT (gC (gN 4) (gC (gN 5) (gC (gN 6) (gC (gN 7) (gE))))))) (sCons (sSet 2 (e2 (f2s gSplit) (eA (callR φ__law_text_of []) (aC (eV 0) (aN))) (eC (.str " ")))) (sCons (sSet 3 (e2 oMod (eV 1) (eC (.int 8)))) (sCons (sIf (bE (e2 oEq (eV 3) (eC (.int 0)))) (sCons (sSt 2 (eC (.int 0)) (e2 oIx (eA oLst (aC (eC (.str "-1")) (aC (eC (.str "-1/2")) (aC (eC (.str "2/4")) (aC (eC (.str "0/3")) (aC (eC (.str "1/1")) (aC (eC (.str "1/0")) (aC (eC (.str "x")) (aC (eC (.str "01")) (aC (eC (.str "1.5")) (aC (eC (.str "+1")) (aC (eC (.str "1//2")) (aC (eC (.str "")) (aN)))))))))))))) (e2 oMod (e2 oDiv (eV 1) (eC (.int 8))) (eC (.int 12))))) (sNil)) (sNil)) (sCons (sIf (bE (e2 oEq (eV 3) (eC (.int 1)))) (sCons (sSt 2 (eC (.int 1)) (e2 oIx (eA oLst (aC (eC (.str "Off")) (aC (eC (.str "ons")) (aC (eC (.str "stop")) (aC (eC (.str "come1")) (aC (eC (.str "offs")) (aC (eC (.str "")) (aN)))))))) (e2 oMod (e2 oDiv (eV 1) (eC (.int 8))) (eC (.int 6))))) (sNil)) (sNil)) (sCons (sIf (bE (e2 oEq (eV 3) (eC (.int 2)))) (sCons (sSt 2 (eC (.int 2)) (e2 oIx (eA oLst (aC (eC (.str "0")) (aC (e2 oAdd (eC (.str "0")) (e2 oIx (eV 2) (eC (.int 2)))) (aC (eC (.str "-1")) (aC (eC (.str "x")) (aC (eC (.str "")) (aC (e2 oAdd (e2 oIx (eV 2) (eC (.int 2))) (eC (.str "a"))) (aN)))))))) (e2 oMod (e2 oDiv (eV 1) (eC (.int 8))) (eC (.int 6))))) (sNil)) (sNil)) (sCons (sIf (bE (e2 oEq (eV 3) (eC (.int 3)))) (sCons (sApp 2 (e2 oIx (eA oLst (aC (eC (.str "a")) (aC (eC (.str "")) (aC (eC (.str "abc")) (aN))))) (e2 oMod (e2 oDiv (eV 1) (eC (.int 8))) (eC (.int 3))))) (sNil)) (sNil)) (sCons (sIf (bE (e2 oEq (eV 3) (eC (.int 4)))) (sCons (sPop0 2) (sNil)) (sNil)) (sCons (sIf (bAnd (bE (e2 oEq (eV 3) (eC (.int 5)))) (bE (e2 oNe (eV 7) (eC (.str ""))))) (sCons (sSt 2 (eC (.int 3)) (e2 oIx (eA oLst (aC (eC (.str "A")) (aC (e2 oAdd (eV 7) (eC (.str "1"))) (aC (eC (.str "abcdefghijklm")) (aC (eC (.str "")) (aC (eC (.str "a-b")) (aN))))))) (e2 oMod (e2 oDiv (eV 1) (eC (.int 8))) (eC (.int 5))))) (sNil)) (sNil)) (sCons (sIf (bAnd (bE (e2 oEq (eV 3) (eC (.int 5)))) (bE (e2 oEq (eV 7) (eC (.str ""))))) (sCons (sSt 2 (eC (.int 1)) (e2 oIx (eA oLst (aC (eC (.str "off")) (aC (eC (.str "come")) (aC (eC (.str "on")) (aN))))) (e2 oMod (e2 oDiv (eV 1) (eC (.int 8))) (eC (.int 3))))) (sNil)) (sNil)) (sCons (sIf (bAnd (bE (e2 oEq (eV 3) (eC (.int 6)))) (bE (e2 oNe (eV 7) (eC (.str ""))))) (sCons (sSt 2 (eC (.int 1)) (e2 oIx (eA oLst (aC (eC (.str "end")) (aC (eC (.str "start")) (aN)))) (e2 oMod (e2 oDiv (eV 1) (eC (.int 8))) (eC (.int 2))))) (sNil)) (sNil)) (sCons (sIf (bOr (bAnd (bE (e2 oEq (eV 3) (eC (.int 6)))) (bE (e2 oEq (eV 7) (eC (.str ""))))) (bE (e2 oEq (eV 3) (eC (.int 7))))) (sCons (sRet (e2 oIx (eA oLst (aC (eC (.str "")) (aC (e2 oAdd (eC (.str " ")) (e2 fJoin (eC (.str " ")) (eV 2))) (aC (e2 oAdd (e2 fJoin (eC (.str " ")) (eV 2)) (eC (.str " "))) (aC (e2 oAdd (e2 fJoin (eC (.str " ")) (eV 2)) (eC (.str "\t"))) (aC (e2 fJoin (eC (.str "  ")) (eV 2)) (aN))))))) (e2 oMod (e2 oDiv (eV 1) (eC (.int 8))) (eC (.int 5))))) (sNil)) (sNil)) (sCons (sRet (e2 fJoin (eC (.str " ")) (eV 2))) (sNil)))))))))))))
def φ__law_spoilt : Phi := phi m__law_spoilt 8 2
set_option maxHeartbeats 4000000 in
theorem ok__law_spoilt {P : Program} {w : World} {K : PySem.W.Frag} {mg : Str → Option Value} {base : Heap} {ca : Nat → Addr} {f : Addr} {fd : FuncData} (Z : Blt mg) (C__law_text_of : Callee P w K mg base ca 1 "_law_text_of" φ__law_text_of []) (F : FunA K "_law_spoilt" "_law_spoilt" s__law_spoilt f fd) : FnOk P w K mg base CX0 (1 + 1) f fd ["_law_row_here", "_law_n"] (spOf K ca φ__law_spoilt) :=
  fn_ok F sc__law_spoilt rfl rfl rfl (fun cdv A outer s H E hr => (svs_cons (sv_asg (ev_var (pv 0)) (gv_tup rfl (gvs_cons (gv_name sc__law_spoilt.nd rfl (.inl rfl)) (gvs_cons (gv_name sc__law_spoilt.nd rfl (.inl rfl)) (gvs_cons (gv_name sc__law_spoilt.nd rfl (.inl rfl)) (gvs_cons (gv_name sc__law_spoilt.nd rfl (.inl rfl)) gvs_nil)))) (gC_le (gC_le (gC_le (gC_le gE_le)))))) (svs_cons (sv_set (i := 2) sc__law_spoilt.nd rfl (.inl rfl) (ev_split (ev_fn C__law_text_of (hr.mono (by decide)) rfl (av_cons (ev_var (pv 0)) av_nil)) (ev_c pe_str fun _ => .str _))) (svs_cons (sv_set (i := 3) sc__law_spoilt.nd rfl (.inl rfl) (ev_op op_modN od_mod (ev_var (pv 1)) (ev_c pe_int fun _ => .int _))) (svs_cons (sv_if (tv_cmp (op_eqA hr.units) od_eq (ev_var (pv 3)) (ev_c pe_int fun _ => .int _) (nomark _)) (svs_cons (sv_store (i := 2) (ev_ix ix_seq od_ix (ev_lst (av_cons (ev_c pe_str fun _ => .str _) (av_cons (ev_c pe_str fun _ => .str _) (av_cons (ev_c pe_str fun _ => .str _) (av_cons (ev_c pe_str fun _ => .str _) (av_cons (ev_c pe_str fun _ => .str _) (av_cons (ev_c pe_str fun _ => .str _) (av_cons (ev_c pe_str fun _ => .str _) (av_cons (ev_c pe_str fun _ => .str _) (av_cons (ev_c pe_str fun _ => .str _) (av_cons (ev_c pe_str fun _ => .str _) (av_cons (ev_c pe_str fun _ => .str _) (av_cons (ev_c pe_str fun _ => .str _) av_nil))))))))))))) (ev_op op_modN od_mod (ev_op op_fdivB od_div (ev_var (pv 1)) (ev_c pe_int fun _ => .int _)) (ev_c pe_int fun _ => .int _)) (fun _ _ => rfl)) (pv 2) (ev_c pe_int fun _ => .int _) (pg_sub (pv 2) (ev_c pe_int fun _ => .int _) set_list)) svs_nil) svs_nil) (svs_cons (sv_if (tv_cmp (op_eqA hr.units) od_eq (ev_var (pv 3)) (ev_c pe_int fun _ => .int _) (nomark _)) (svs_cons (sv_store (i := 2) (ev_ix ix_seq od_ix (ev_lst (av_cons (ev_c pe_str fun _ => .str _) (av_cons (ev_c pe_str fun _ => .str _) (av_cons (ev_c pe_str fun _ => .str _) (av_cons (ev_c pe_str fun _ => .str _) (av_cons (ev_c pe_str fun _ => .str _) (av_cons (ev_c pe_str fun _ => .str _) av_nil))))))) (ev_op op_modN od_mod (ev_op op_fdivB od_div (ev_var (pv 1)) (ev_c pe_int fun _ => .int _)) (ev_c pe_int fun _ => .int _)) (fun _ _ => rfl)) (pv 2) (ev_c pe_int fun _ => .int _) (pg_sub (pv 2) (ev_c pe_int fun _ => .int _) set_list)) svs_nil) svs_nil) (svs_cons (sv_if (tv_cmp (op_eqA hr.units) od_eq (ev_var (pv 3)) (ev_c pe_int fun _ => .int _) (nomark _)) (svs_cons (sv_store (i := 2) (ev_ix ix_seq od_ix (ev_lst (av_cons (ev_c pe_str fun _ => .str _) (av_cons (ev_op op_addA od_add (ev_c pe_str fun _ => .str _) (ev_ix ix_seq od_ix (ev_var (pv 2)) (ev_c pe_int fun _ => .int _) (fun _ _ => rfl))) (av_cons (ev_c pe_str fun _ => .str _) (av_cons (ev_c pe_str fun _ => .str _) (av_cons (ev_c pe_str fun _ => .str _) (av_cons (ev_op op_addA od_add (ev_ix ix_seq od_ix (ev_var (pv 2)) (ev_c pe_int fun _ => .int _) (fun _ _ => rfl)) (ev_c pe_str fun _ => .str _)) av_nil))))))) (ev_op op_modN od_mod (ev_op op_fdivB od_div (ev_var (pv 1)) (ev_c pe_int fun _ => .int _)) (ev_c pe_int fun _ => .int _)) (fun _ _ => rfl)) (pv 2) (ev_c pe_int fun _ => .int _) (pg_sub (pv 2) (ev_c pe_int fun _ => .int _) set_list)) svs_nil) svs_nil) (svs_cons (sv_if (tv_cmp (op_eqA hr.units) od_eq (ev_var (pv 3)) (ev_c pe_int fun _ => .int _) (nomark _)) (svs_cons (sv_app (i := 2) (pv 2) (ev_ix ix_seq od_ix (ev_lst (av_cons (ev_c pe_str fun _ => .str _) (av_cons (ev_c pe_str fun _ => .str _) (av_cons (ev_c pe_str fun _ => .str _) av_nil)))) (ev_op op_modN od_mod (ev_op op_fdivB od_div (ev_var (pv 1)) (ev_c pe_int fun _ => .int _)) (ev_c pe_int fun _ => .int _)) (fun _ _ => rfl)) rfl (pe_bm PySem.F.plainAttrs_list PySem.F.slot_list_append PySem.F.type_list_append mt_append (pv 2) (pa_cons (ev_ix ix_seq od_ix (ev_lst (av_cons (ev_c pe_str fun _ => .str _) (av_cons (ev_c pe_str fun _ => .str _) (av_cons (ev_c pe_str fun _ => .str _) av_nil)))) (ev_op op_modN od_mod (ev_op op_fdivB od_div (ev_var (pv 1)) (ev_c pe_int fun _ => .int _)) (ev_c pe_int fun _ => .int _)) (fun _ _ => rfl)) pa_nil))) svs_nil) svs_nil) (svs_cons (sv_if (tv_cmp (op_eqA hr.units) od_eq (ev_var (pv 3)) (ev_c pe_int fun _ => .int _) (nomark _)) (svs_cons (sv_pop0 (i := 2) (pv 2) (pe_bm0 PySem.F.plainAttrs_list PySem.F.slot_list_pop PySem.F.type_list_pop mt_pop (pv 2))) svs_nil) svs_nil) (svs_cons (sv_if (tv_w (wv_and (tv_cmp (op_eqA hr.units) od_eq (ev_var (pv 3)) (ev_c pe_int fun _ => .int _) (nomark _)) (wv_one (tv_cmp (op_neA hr.units) od_ne (ev_var (pv 7)) (ev_c pe_str fun _ => .str _) (nomark _))))) (svs_cons (sv_store (i := 2) (ev_ix ix_seq od_ix (ev_lst (av_cons (ev_c pe_str fun _ => .str _) (av_cons (ev_op op_addA od_add (ev_var (pv 7)) (ev_c pe_str fun _ => .str _)) (av_cons (ev_c pe_str fun _ => .str _) (av_cons (ev_c pe_str fun _ => .str _) (av_cons (ev_c pe_str fun _ => .str _) av_nil)))))) (ev_op op_modN od_mod (ev_op op_fdivB od_div (ev_var (pv 1)) (ev_c pe_int fun _ => .int _)) (ev_c pe_int fun _ => .int _)) (fun _ _ => rfl)) (pv 2) (ev_c pe_int fun _ => .int _) (pg_sub (pv 2) (ev_c pe_int fun _ => .int _) set_list)) svs_nil) svs_nil) (svs_cons (sv_if (tv_w (wv_and (tv_cmp (op_eqA hr.units) od_eq (ev_var (pv 3)) (ev_c pe_int fun _ => .int _) (nomark _)) (wv_one (tv_cmp (op_eqA hr.units) od_eq (ev_var (pv 7)) (ev_c pe_str fun _ => .str _) (nomark _))))) (svs_cons (sv_store (i := 2) (ev_ix ix_seq od_ix (ev_lst (av_cons (ev_c pe_str fun _ => .str _) (av_cons (ev_c pe_str fun _ => .str _) (av_cons (ev_c pe_str fun _ => .str _) av_nil)))) (ev_op op_modN od_mod (ev_op op_fdivB od_div (ev_var (pv 1)) (ev_c pe_int fun _ => .int _)) (ev_c pe_int fun _ => .int _)) (fun _ _ => rfl)) (pv 2) (ev_c pe_int fun _ => .int _) (pg_sub (pv 2) (ev_c pe_int fun _ => .int _) set_list)) svs_nil) svs_nil) (svs_cons (sv_if (tv_w (wv_and (tv_cmp (op_eqA hr.units) od_eq (ev_var (pv 3)) (ev_c pe_int fun _ => .int _) (nomark _)) (wv_one (tv_cmp (op_neA hr.units) od_ne (ev_var (pv 7)) (ev_c pe_str fun _ => .str _) (nomark _))))) (svs_cons (sv_store (i := 2) (ev_ix ix_seq od_ix (ev_lst (av_cons (ev_c pe_str fun _ => .str _) (av_cons (ev_c pe_str fun _ => .str _) av_nil))) (ev_op op_modN od_mod (ev_op op_fdivB od_div (ev_var (pv 1)) (ev_c pe_int fun _ => .int _)) (ev_c pe_int fun _ => .int _)) (fun _ _ => rfl)) (pv 2) (ev_c pe_int fun _ => .int _) (pg_sub (pv 2) (ev_c pe_int fun _ => .int _) set_list)) svs_nil) svs_nil) (svs_cons (sv_if (tv_w (wv_or (tv_w (wv_and (tv_cmp (op_eqA hr.units) od_eq (ev_var (pv 3)) (ev_c pe_int fun _ => .int _) (nomark _)) (wv_one (tv_cmp (op_eqA hr.units) od_eq (ev_var (pv 7)) (ev_c pe_str fun _ => .str _) (nomark _))))) (wv_one' (tv_cmp (op_eqA hr.units) od_eq (ev_var (pv 3)) (ev_c pe_int fun _ => .int _) (nomark _))))) (svs_cons (sv_ret (ev_ix ix_seq od_ix (ev_lst (av_cons (ev_c pe_str fun _ => .str _) (av_cons (ev_op op_addA od_add (ev_c pe_str fun _ => .str _) (ev_join (ev_c pe_str fun _ => .str _) (ev_var (pv 2)))) (av_cons (ev_op op_addA od_add (ev_join (ev_c pe_str fun _ => .str _) (ev_var (pv 2))) (ev_c pe_str fun _ => .str _)) (av_cons (ev_op op_addA od_add (ev_join (ev_c pe_str fun _ => .str _) (ev_var (pv 2))) (ev_c pe_str fun _ => .str _)) (av_cons (ev_join (ev_c pe_str fun _ => .str _) (ev_var (pv 2))) av_nil)))))) (ev_op op_modN od_mod (ev_op op_fdivB od_div (ev_var (pv 1)) (ev_c pe_int fun _ => .int _)) (ev_c pe_int fun _ => .int _)) (fun _ _ => rfl))) svs_nil) svs_nil) (svs_cons (sv_ret (ev_join (ev_c pe_str fun _ => .str _) (ev_var (pv 2)))) svs_nil))))))))))))))
theorem sc__law_refused : FnScope ["_law_text", "_law_row_here", "_law_told", "e"] ["_law_text"] (defScope s__law_refused) := ⟨rfl, rfl, rfl, by decide +kernel, rfl, by decide +kernel, by decide +kernel⟩
def m__law_refused : Gm → Option Out := sCons (sSet 1 (eC (.int 0))) (sCons (sSet 2 (eA oLst (aN))) (sCons (sTryB (sCons (sU (uC υ_heard (aC (eV 0) (aN))) kExp) (sNil)) 3 (sCons (sSet 2 (eA oLst (aC (e1 (cIsX [10] (fun c => xsub c 10)) (eV 3)) (aC (e1 (cIsX [10] (fun c => xsub c 9)) (eV 3)) (aC (e1 (cIsX [10] (fun _ => true)) (eV 3)) (aC (e1 (cIsX [10] (fun c => xsub c 11)) (eV 3)) (aN))))))) (sCons (sIf (bE (e2 oEq (eV 2) (eA oLst (aC (eC (.bl true)) (aC (eC (.bl true)) (aC (eC (.bl true)) (aC (eC (.bl false)) (aN)))))))) (sCons (sSet 1 (e1 (xFld [10] "row") (eV 3))) (sNil)) (sNil)) (sNil))) [10]) (sCons (sRet (eV 1)) (sNil))))
def φ__law_refused : Phi := phi m__law_refused 4 1
set_option maxHeartbeats 4000000 in
theorem ok__law_refused {P : Program} {w : World} {K : PySem.W.Frag} {mg : Str → Option Value} {base : Heap} {ca : Nat → Addr} {f : Addr} {fd : FuncData} (Z : Blt mg) (C_heard : Callee P w K mg base ca 5 "heard" φ_heard []) (X_heard : CalleeX P w K mg base ca 5 "heard" ψ_heard) (NX_BadRow : mg "BadRow" = some (.ref (ca 10))) (NX_TextError : mg "TextError" = some (.ref (ca 9))) (NX_Twice : mg "Twice" = some (.ref (ca 11))) (NX_WayError : mg "WayError" = some (.ref (ca 6))) (XT_WayError : ∀ c ∈ ([10] : List Nat), PySem.W.exmOne K (.ref (ca c)) (.ref (ca 6)) = some true) (XI_BadRow : IsX K ca [10] (.ref (ca 10)) (fun c => xsub c 10)) (XI_TextError : IsX K ca [10] (.ref (ca 9)) (fun c => xsub c 9)) (XI_Twice : IsX K ca [10] (.ref (ca 11)) (fun c => xsub c 11)) (XI_ValueError : IsX K ca [10] (.type "ValueError") (fun _ => true)) (XF_row : XfS K ca [10] "row") (F : FunA K "_law_refused" "_law_refused" s__law_refused f fd) : FnOk P w K mg base CX0 (5 + 1) f fd ["_law_text"] (spOf K ca φ__law_refused) :=
  fn_ok F sc__law_refused rfl rfl rfl (fun cdv A outer s H E hr => (svs_cons (sv_set (i := 1) sc__law_refused.nd rfl (.inl rfl) (ev_c pe_int fun _ => .int _)) (svs_cons (sv_set (i := 2) sc__law_refused.nd rfl (.inl rfl) (ev_lst av_nil)) (svs_cons (sv_tryB (ie := 3) rfl rfl sc__law_refused.nd rfl rfl rfl NX_WayError XT_WayError (svs_cons (svU_expr (uv_call C_heard X_heard (fun _ _ => ups_n) (fun _ _ => ups_x) (hr.mono (by decide)) rfl (av_cons (ev_var (pv 0)) av_nil))) svs_nil) (fun _ _ => (x0U_one (x0U_expr (uv_call C_heard X_heard (fun _ _ => ups_n) (fun _ _ => ups_x) (hr.mono (by decide)) rfl (av_cons (ev_var (pv 0)) av_nil))))) (fun _ _ => (svs_cons (sv_set (i := 2) sc__law_refused.nd rfl (.inl rfl) (ev_lst (av_cons (ev_isx rfl Z.z_isinstance b_isinstance (ev_var (pv 3)) (pe_glob (v := .ref (ca 10)) rfl NX_BadRow rfl) (.own _) XI_BadRow) (av_cons (ev_isx rfl Z.z_isinstance b_isinstance (ev_var (pv 3)) (pe_glob (v := .ref (ca 9)) rfl NX_TextError rfl) (.own _) XI_TextError) (av_cons (ev_isx rfl Z.z_isinstance b_isinstance (ev_var (pv 3)) (pe_ty rfl Z.z_ValueError b_ValueError) (.ty _) XI_ValueError) (av_cons (ev_isx rfl Z.z_isinstance b_isinstance (ev_var (pv 3)) (pe_glob (v := .ref (ca 11)) rfl NX_Twice rfl) (.own _) XI_Twice) av_nil)))))) (svs_cons (sv_if (tv_cmp (op_eqA hr.units) od_eq (ev_var (pv 2)) (ev_lst (av_cons (ev_c pe_bl fun _ => .bl _) (av_cons (ev_c pe_bl fun _ => .bl _) (av_cons (ev_c pe_bl fun _ => .bl _) (av_cons (ev_c pe_bl fun _ => .bl _) av_nil))))) (nomark _)) (svs_cons (sv_set (i := 1) sc__law_refused.nd rfl (.inl rfl) (ev_xfld XF_row (ev_var (pv 3)))) svs_nil) svs_nil) svs_nil)))) (svs_cons (sv_ret (ev_var (pv 1))) svs_nil)))))
theorem sc__law_bad : FnScope ["_law_rows", "_law_n", "_law_log", "_law_texts", "_law_first", "_law_second", "_law_at", "_law_good", "_law_row_here"] ["_law_rows", "_law_n"] (defScope s__law_bad) := ⟨rfl, rfl, rfl, by decide +kernel, rfl, by decide +kernel, by decide +kernel⟩
def m__law_bad : Gm → Option Out := sCons (sIf (bE (e2 oEq (eA cLen (aC (eV 0) (aN))) (eC (.int 0)))) (sCons (sRet (eAnd (eA (callR φ__law_same []) (aC (eA (callR φ__law_refused []) (aC (eC (.str "\n")) (aN))) (aC (eC (.int 1)) (aN)))) (eA (callR φ__law_same []) (aC (eA (callR φ__law_refused []) (aC (eC (.str " ")) (aN))) (aC (eC (.int 1)) (aN)))))) (sNil)) (sNil)) (sCons (sSet 2 (eA cList (aC (eV 0) (aN)))) (sCons (sSet 3 (eLc (iSeq (eV 0)) (gN 8) (bY) (eA (callR φ__law_text_of []) (aC (eV 8) (aN))) [8])) (sCons (sSet 4 (e2 oMod (eV 1) (eA cLen (aC (eV 0) (aN))))) (sCons (sSet 5 (e2 oMod (e2 oDiv (eV 1) (eC (.int 61))) (eA cLen (aC (eV 0) (aN))))) (sCons (sFor (iSeq (eA oLst (aC (eV 4) (aC (eV 5) (aN))))) (gN 6) (sCons (sSt 3 (eV 6) (eA (callR φ__law_spoilt []) (aC (e2 oIx (eV 2) (eV 6)) (aC (e2 oAdd (e2 oDiv (eV 1) (eC (.int 3721))) (eV 6)) (aN))))) (sNil)) [6, 3]) (sCons (sIf (bAnd (bE (e2 oEq (eA cLen (aC (eV 0) (aN))) (eC (.int 1)))) (bE (e2 oEq (e2 oIx (eV 3) (eC (.int 0))) (eC (.str ""))))) (sCons (sSt 3 (eC (.int 0)) (eC (.str " "))) (sNil)) (sNil)) (sCons (sIf (bNot (bE (eA (callR φ__law_same []) (aC (eA (callR φ__law_refused []) (aC (e2 fJoin (eC (.str "\n")) (eV 3)) (aN))) (aC (e2 oAdd (eA cMin2 (aC (eV 4) (aC (eV 5) (aN)))) (eC (.int 1))) (aN)))))) (sCons (sRet (eC (.bl false))) (sNil)) (sNil)) (sCons (sSet 7 (e2 fJoin (eC (.str "\n")) (eLc (iSeq (eV 0)) (gN 8) (bY) (eA (callR φ__law_text_of []) (aC (eV 8) (aN))) [8]))) (sCons (sRet (eA (callR φ__law_same []) (aC (eA (callR φ__law_refused []) (aC (e2 oAdd (eV 7) (eC (.str "\n"))) (aN))) (aC (e2 oAdd (eA cLen (aC (eV 0) (aN))) (eC (.int 1))) (aN))))) (sNil))))))))))
def φ__law_bad : Phi := phi m__law_bad 9 2
set_option maxHeartbeats 4000000 in
theorem ok__law_bad {P : Program} {w : World} {K : PySem.W.Frag} {mg : Str → Option Value} {base : Heap} {ca : Nat → Addr} {f : Addr} {fd : FuncData} (Z : Blt mg) (C__law_same : Callee P w K mg base ca 11 "_law_same" φ__law_same []) (C__law_refused : Callee P w K mg base ca 6 "_law_refused" φ__law_refused []) (C__law_text_of : Callee P w K mg base ca 1 "_law_text_of" φ__law_text_of []) (C__law_spoilt : Callee P w K mg base ca 2 "_law_spoilt" φ__law_spoilt []) (F : FunA K "_law_bad" "_law_bad" s__law_bad f fd) : FnOk P w K mg base CX0 (11 + 1) f fd ["_law_rows", "_law_n"] (spOf K ca φ__law_bad) :=
  fn_ok F sc__law_bad rfl rfl rfl (fun cdv A outer s H E hr => (svs_cons (sv_if (tv_cmp (op_eqA hr.units) od_eq (ev_callB call_lenA cd_len rfl Z.z_len b_len (av_cons (ev_var (pv 0)) av_nil)) (ev_c pe_int fun _ => .int _) (nomark _)) (svs_cons (sv_ret (ev_and (ev_fn C__law_same (hr.mono (by decide)) rfl (av_cons (ev_fn C__law_refused (hr.mono (by decide)) rfl (av_cons (ev_c pe_str fun _ => .str _) av_nil)) (av_cons (ev_c pe_int fun _ => .int _) av_nil))) (ev_one (ev_fn C__law_same (hr.mono (by decide)) rfl (av_cons (ev_fn C__law_refused (hr.mono (by decide)) rfl (av_cons (ev_c pe_str fun _ => .str _) av_nil)) (av_cons (ev_c pe_int fun _ => .int _) av_nil)))))) svs_nil) svs_nil) (svs_cons (sv_set (i := 2) sc__law_bad.nd rfl (.inl rfl) (ev_callT call_list_of cd_list rfl Z.z_list b_list (av_cons (ev_var (pv 0)) av_nil))) (svs_cons (sv_setLc (i := 3) rfl sc__law_bad.nd rfl rfl (sw_true rfl rfl rfl (by decide +kernel)) (iv_seq (ev_var (pv 0))) (blk_by (own := [("_law_row_here", 8)]) (N := ["_law_rows", "_law_n", "_law_log", "_law_texts", "_law_first", "_law_second", "_law_at", "_law_good", "_law_row_here"]) (sc := defScope s__law_bad) rfl rfl (by decide +kernel)) rfl (fun _ _ _ _ _ => (gv_name sc__law_bad.nd rfl (.inl rfl))) (fun _ _ _ _ _ => cv_nil) (fun _ _ _ _ _ => (ev_fn C__law_text_of (hr.mono (by decide)) rfl (av_cons (ev_var (pv 8)) av_nil))) (by decide) gN_ln) (svs_cons (sv_set (i := 4) sc__law_bad.nd rfl (.inl rfl) (ev_op op_modN od_mod (ev_var (pv 1)) (ev_callB call_lenA cd_len rfl Z.z_len b_len (av_cons (ev_var (pv 0)) av_nil)))) (svs_cons (sv_set (i := 5) sc__law_bad.nd rfl (.inl rfl) (ev_op op_modN od_mod (ev_op op_fdivB od_div (ev_var (pv 1)) (ev_c pe_int fun _ => .int _)) (ev_callB call_lenA cd_len rfl Z.z_len b_len (av_cons (ev_var (pv 0)) av_nil)))) (svs_cons (sv_for PassesOwn.never rfl (iv_seq (ev_lst (av_cons (ev_var (pv 4)) (av_cons (ev_var (pv 5)) av_nil)))) (gv_name sc__law_bad.nd rfl (.inl rfl)) (svs_cons (sv_store (i := 3) (ev_fn C__law_spoilt (hr.mono (by decide)) rfl (av_cons (ev_ix ix_seq od_ix (ev_var (pv 2)) (ev_var (pv 6)) (fun _ _ => rfl)) (av_cons (ev_op op_addA od_add (ev_op op_fdivB od_div (ev_var (pv 1)) (ev_c pe_int fun _ => .int _)) (ev_var (pv 6))) av_nil))) (pv 3) (ev_var (pv 6)) (pg_sub (pv 3) (ev_var (pv 6)) set_list)) svs_nil) rfl) (svs_cons (sv_if (tv_w (wv_and (tv_cmp (op_eqA hr.units) od_eq (ev_callB call_lenA cd_len rfl Z.z_len b_len (av_cons (ev_var (pv 0)) av_nil)) (ev_c pe_int fun _ => .int _) (nomark _)) (wv_one (tv_cmp (op_eqA hr.units) od_eq (ev_ix ix_seq od_ix (ev_var (pv 3)) (ev_c pe_int fun _ => .int _) (fun _ _ => rfl)) (ev_c pe_str fun _ => .str _) (nomark _))))) (svs_cons (sv_store (i := 3) (ev_c pe_str fun _ => .str _) (pv 3) (ev_c pe_int fun _ => .int _) (pg_sub (pv 3) (ev_c pe_int fun _ => .int _) set_list)) svs_nil) svs_nil) (svs_cons (sv_if (tv_not (tv_val (ev_fn C__law_same (hr.mono (by decide)) rfl (av_cons (ev_fn C__law_refused (hr.mono (by decide)) rfl (av_cons (ev_join (ev_c pe_str fun _ => .str _) (ev_var (pv 3))) av_nil)) (av_cons (ev_op op_addA od_add (ev_callB (call_min2 rfl) cd_min2 rfl Z.z_min b_min (av_cons (ev_var (pv 4)) (av_cons (ev_var (pv 5)) av_nil))) (ev_c pe_int fun _ => .int _)) av_nil))))) (svs_cons (sv_ret (ev_c pe_bl fun _ => .bl _)) svs_nil) svs_nil) (svs_cons (sv_set (i := 7) sc__law_bad.nd rfl (.inl rfl) (ev_join (ev_c pe_str fun _ => .str _) (ev_lc rfl sc__law_bad.nd (iv_seq (ev_var (pv 0))) (blk_by (own := [("_law_row_here", 8)]) (N := ["_law_rows", "_law_n", "_law_log", "_law_texts", "_law_first", "_law_second", "_law_at", "_law_good", "_law_row_here"]) (sc := defScope s__law_bad) rfl rfl (by decide +kernel)) rfl (fun _ _ _ _ _ => (gv_name sc__law_bad.nd rfl (.inl rfl))) (fun _ _ _ _ _ => cv_nil) (fun _ _ _ _ _ => (ev_fn C__law_text_of (hr.mono (by decide)) rfl (av_cons (ev_var (pv 8)) av_nil))) (by decide) gN_ln))) (svs_cons (sv_ret (ev_fn C__law_same (hr.mono (by decide)) rfl (av_cons (ev_fn C__law_refused (hr.mono (by decide)) rfl (av_cons (ev_op op_addA od_add (ev_var (pv 7)) (ev_c pe_str fun _ => .str _)) av_nil)) (av_cons (ev_op op_addA od_add (ev_callB call_lenA cd_len rfl Z.z_len b_len (av_cons (ev_var (pv 0)) av_nil)) (ev_c pe_int fun _ => .int _)) av_nil)))) svs_nil)))))))))))
theorem sc_law : FnScope ["_law_script", "_law_rows", "_law_handed", "_law_text", "_law_found", "_law_k", "_law_cell", "_law_row_here"] ["_law_script"] (defScope s_law) := ⟨rfl, rfl, rfl, by decide +kernel, rfl, by decide +kernel, by decide +kernel⟩
def m_law : Gm → Option Out := sCons (sSet 1 (eLc (iA enR (aC (eSl (eV 0) (pS (eC (.int 0))) (pS (eC (.int 60)))) (aN))) (gT (gC (gN 5) (gC (gN 6) (gE)))) (bY) (eA (callR φ__law_row []) (aC (eV 6) (aC (eV 5) (aN)))) [5, 6])) (sCons (sSet 2 (eA cList (aC (eV 1) (aN)))) (sCons (sSet 3 (e2 fJoin (eC (.str "\n")) (eLc (iSeq (eV 1)) (gN 7) (bY) (eA (callR φ__law_text_of []) (aC (eV 7) (aN))) [7]))) (sCons (sFz 2 (sIf (bOr (bNot (bE (eA (callR φ__law_same []) (aC (eA (callR φ_log_text []) (aC (eV 2) (aN))) (aC (eV 3) (aN)))))) (bE (e2 oNe (eV 2) (eV 1)))) (sCons (sRet (eC (.bl false))) (sNil)) (sNil))) (sCons (sSet 4 (eA (callR φ_heard []) (aC (eV 3) (aN)))) (sCons (sFz 1 (sIf (bNot (bE (eA (callR φ__law_same []) (aC (eV 4) (aC (eV 1) (aN)))))) (sCons (sRet (eC (.bl false))) (sNil)) (sNil))) (sCons (sApp 4 (eC (.str "more"))) (sCons (sFz 2 (sFz 1 (sIf (bOr (bNot (bE (eA (callR φ__law_same []) (aC (eA (callR φ_heard []) (aC (eV 3) (aN))) (aC (eV 1) (aN)))))) (bNot (bE (eA (callR φ__law_same []) (aC (eA (callR φ_log_text []) (aC (eV 2) (aN))) (aC (eV 3) (aN))))))) (sCons (sRet (eC (.bl false))) (sNil)) (sNil)))) (sCons (sFz 1 (sRet (eA (callR φ__law_bad []) (aC (eV 1) (aC (eA (callR φ__law_mix []) (aC (eA (callR φ__law_cell_at []) (aC (eV 0) (aC (eC (.int 1)) (aN)))) (aC (eC (.int 62089)) (aN)))) (aN)))))) (sNil)))))))))
def φ_law : Phi := phi m_law 8 1
set_option maxHeartbeats 4000000 in
theorem ok_law {P : Program} {w : World} {K : PySem.W.Frag} {mg : Str → Option Value} {base : Heap} {ca : Nat → Addr} {f : Addr} {fd : FuncData} (Z : Blt mg) (C__law_row : Callee P w K mg base ca 3 "_law_row" φ__law_row []) (C__law_text_of : Callee P w K mg base ca 1 "_law_text_of" φ__law_text_of []) (C__law_same : Callee P w K mg base ca 11 "_law_same" φ__law_same []) (C_log_text : Callee P w K mg base ca 3 "log_text" φ_log_text []) (C_heard : Callee P w K mg base ca 5 "heard" φ_heard []) (C__law_bad : Callee P w K mg base ca 12 "_law_bad" φ__law_bad []) (C__law_mix : Callee P w K mg base ca 1 "_law_mix" φ__law_mix []) (C__law_cell_at : Callee P w K mg base ca 1 "_law_cell_at" φ__law_cell_at []) (F : FunA K "law" "law" s_law f fd) : FnOk P w K mg base CX0 (12 + 1) f fd ["_law_script"] (spOf K ca φ_law) :=
  fn_ok F sc_law rfl rfl rfl (fun cdv A outer s H E hr => (svs_cons (sv_setLc (i := 1) rfl sc_law.nd rfl rfl (sw_true rfl rfl rfl (by decide +kernel)) (iv_enum rfl Z.z_enumerate (av_cons (ev_slice (ev_var (pv 0)) (ov_some (ev_c pe_int fun _ => .int _)) (ov_some (ev_c pe_int fun _ => .int _))) av_nil)) (blk_by (own := [("_law_k", 5), ("_law_cell", 6)]) (N := ["_law_script", "_law_rows", "_law_handed", "_law_text", "_law_found", "_law_k", "_law_cell", "_law_row_here"]) (sc := defScope s_law) rfl rfl (by decide +kernel)) rfl (fun _ _ _ _ _ => (gv_tup rfl (gvs_cons (gv_name sc_law.nd rfl (.inl rfl)) (gvs_cons (gv_name sc_law.nd rfl (.inl rfl)) gvs_nil)) (gC_le (gC_le gE_le)))) (fun _ _ _ _ _ => cv_nil) (fun _ _ _ _ _ => (ev_fn C__law_row (hr.mono (by decide)) rfl (av_cons (ev_var (pv 6)) (av_cons (ev_var (pv 5)) av_nil)))) (by decide) (gT_ln (gC_ln gN_ln (gC_ln gN_ln gE_ln)))) (svs_cons (sv_set (i := 2) sc_law.nd rfl (.inl rfl) (ev_callT call_list_of cd_list rfl Z.z_list b_list (av_cons (ev_var (pv 1)) av_nil))) (svs_cons (sv_set (i := 3) sc_law.nd rfl (.inl rfl) (ev_join (ev_c pe_str fun _ => .str _) (ev_lc rfl sc_law.nd (iv_seq (ev_var (pv 1))) (blk_by (own := [("_law_row_here", 7)]) (N := ["_law_script", "_law_rows", "_law_handed", "_law_text", "_law_found", "_law_k", "_law_cell", "_law_row_here"]) (sc := defScope s_law) rfl rfl (by decide +kernel)) rfl (fun _ _ _ _ _ => (gv_name sc_law.nd rfl (.inl rfl))) (fun _ _ _ _ _ => cv_nil) (fun _ _ _ _ _ => (ev_fn C__law_text_of (hr.mono (by decide)) rfl (av_cons (ev_var (pv 7)) av_nil))) (by decide) gN_ln))) (svs_cons (sv_fz (i := 2) (sv_if (tv_w (wv_or (tv_not (tv_val (ev_fn C__law_same (hr.mono (by decide)) rfl (av_cons (ev_fn C_log_text (hr.mono (by decide)) rfl (av_cons (ev_var (pv 2)) av_nil)) (av_cons (ev_var (pv 3)) av_nil))))) (wv_one' (tv_cmp (op_neA hr.units) od_ne (ev_var (pv 2)) (ev_var (pv 1)) (nomark _))))) (svs_cons (sv_ret (ev_c pe_bl fun _ => .bl _)) svs_nil) svs_nil)) (svs_cons (sv_set (i := 4) sc_law.nd rfl (.inl rfl) (ev_fn C_heard (hr.mono (by decide)) rfl (av_cons (ev_var (pv 3)) av_nil))) (svs_cons (sv_fz (i := 1) (sv_if (tv_not (tv_val (ev_fn C__law_same (hr.mono (by decide)) rfl (av_cons (ev_var (pv 4)) (av_cons (ev_var (pv 1)) av_nil))))) (svs_cons (sv_ret (ev_c pe_bl fun _ => .bl _)) svs_nil) svs_nil)) (svs_cons (sv_app (i := 4) (pv 4) (ev_c pe_str fun _ => .str _) rfl (pe_bm PySem.F.plainAttrs_list PySem.F.slot_list_append PySem.F.type_list_append mt_append (pv 4) (pa_cons (ev_c pe_str fun _ => .str _) pa_nil))) (svs_cons (sv_fz (i := 2) (sv_fz (i := 1) (sv_if (tv_w (wv_or (tv_not (tv_val (ev_fn C__law_same (hr.mono (by decide)) rfl (av_cons (ev_fn C_heard (hr.mono (by decide)) rfl (av_cons (ev_var (pv 3)) av_nil)) (av_cons (ev_var (pv 1)) av_nil))))) (wv_one' (tv_not (tv_val (ev_fn C__law_same (hr.mono (by decide)) rfl (av_cons (ev_fn C_log_text (hr.mono (by decide)) rfl (av_cons (ev_var (pv 2)) av_nil)) (av_cons (ev_var (pv 3)) av_nil)))))))) (svs_cons (sv_ret (ev_c pe_bl fun _ => .bl _)) svs_nil) svs_nil))) (svs_cons (sv_fz (i := 1) (sv_ret (ev_fn C__law_bad (hr.mono (by decide)) rfl (av_cons (ev_var (pv 1)) (av_cons (ev_fn C__law_mix (hr.mono (by decide)) rfl (av_cons (ev_fn C__law_cell_at (hr.mono (by decide)) rfl (av_cons (ev_var (pv 0)) (av_cons (ev_c pe_int fun _ => .int _) av_nil))) (av_cons (ev_c pe_int fun _ => .int _) av_nil))) av_nil))))) svs_nil))))))))))
end G
namespace G
open PySem L2 BK
set_option autoImplicit false
noncomputable def sh_made_of (text : Str) (signs : Str) : Option Bool :=
  grd (List.length (sgs text) ≤ 16777216) <|
  b1 (mapO (fun e1 : Str => b1 (sgIn e1 signs) fun t1 => some (t1)) (sgs text)) fun t2 =>
  some (List.all t2 id)
set_option maxHeartbeats 2000000 in
theorem sim_made_of {text : Str} {signs : Str} {r : Bool} (e : sh_made_of text signs = some r) : φ_made_of [D.str text, D.str signs] = some ((fun v => R.va (D.bl v)) r) := by
  refine sim_phi (m := m_made_of) (N := 3) (n := 2) (ds := [D.str text, D.str signs]) (s := sh_made_of text signs) (k := (fun v => R.va (D.bl v))) rfl ?_ e
  show J m_made_of nxt [.va (D.str text), .va (D.str signs), .un] (sh_made_of text signs) (PF (fun v => R.va (D.bl v)))
  unfold m_made_of sh_made_of
  refine j_grd fun h1 => ?_
  refine j_b1 fun t2 h3 => ?_
  exact j_ret (xA (xaC (x_lcO (e := D.str) (e' := D.bl) (xs := (sgs text)) (fun y1 => R.va (D.bl y1)) (i_seq (xV rfl) (congrArg (fun z => some (([] : List Nat), z)) (signs_sgs text))) h1 (fun e1 _ => ⟨[.va (D.str text), .va (D.str signs), .va (D.str e1)], rfl, (sm_b1 fun t1 h2 => (sm_ret (x2 (xV rfl) (xV rfl) (f_in2 (inR_sg h2))) rfl))⟩) h3) xaN) (f_all (ns := t2) rfl)) rfl
noncomputable def sh_number_of (text : Str) (most : (Option Int)) : Option (Option Int) :=
  b1 (if (decide (text = ("" : Str))) = true then some true else grd (Str.length text ≤ 16777216) <| b1 (if (decide ((60 : Int) < (Str.length text : Int))) = true then some true else b1 (sh_made_of text ("0123456789" : Str)) fun t1 => some (!t1)) fun t2 => some t2) fun t3 =>
  if t3 = true then
      some none
  else
    if ((!decide (text = ("0" : Str))) && (Txt.startswith text ("0" : Str))) = true then
        some none
    else
      b1 (if (Option.isNone most) = true then some true else b1 (intS text) fun t4 => b1 (most) fun t5 => some (decide (t4 ≤ t5))) fun t6 =>
      if t6 = true then
          b1 (intS text) fun t7 =>
          some (some t7)
      else
        some none
set_option maxHeartbeats 2000000 in
theorem sim_number_of {text : Str} {most : (Option Int)} {r : (Option Int)} (e : sh_number_of text most = some r) : φ_number_of [D.str text, (eO D.int) most] = some ((fun v => R.va ((eO D.int) v)) r) := by
  refine sim_phi (m := m_number_of) (N := 2) (n := 2) (ds := [D.str text, (eO D.int) most]) (s := sh_number_of text most) (k := (fun v => R.va ((eO D.int) v))) rfl ?_ e
  show J m_number_of nxt [.va (D.str text), .va ((eO D.int) most)] (sh_number_of text most) (PF (fun v => R.va ((eO D.int) v)))
  unfold m_number_of sh_number_of
  refine j_b1 fun t3 h4 => ?_
  refine j_if (t_orP (t_val (x2 (xV rfl) rfl (f_eq eqR_str))) (fun _ => (sm_grd fun h1 => (sm_b1 fun t2 h3 => (sm_ret (t_orP (t_val (x2 (xA (xaC (xV rfl) xaN) (f_lenS h1)) rfl (oGt_def _ _))) (fun _ => (sm_b1 fun t1 h2 => (sm_ret (t_not (t_val (xA (xaC (xV rfl) (xaC rfl xaN)) (f_call (@sim_made_of text ("0123456789" : Str) _ h2) rfl (.inl rfl))))) rfl))) h3) rfl)))) h4) (fun hc => ?_) (fun hc => ?_)
  · exact j_ret rfl rfl
  · refine j_nilC ?_
    refine j_if (t_and (t_val (x2 (xV rfl) rfl (f_ne eqR_str))) (t_val (x2 (xV rfl) rfl (f_sw _ _)))) (fun hc => ?_) (fun hc => ?_)
    · exact j_ret rfl rfl
    · refine j_nilC ?_
      refine j_b1 fun t6 h7 => ?_
      refine j_if (t_orP (t_val (x2 (xV rfl) rfl (f_isO (fun _ => rfl) _))) (fun _ => (sm_b1 fun t4 h5 => (sm_b1 fun t5 h6 => (sm_ret (t_val (x2 (xA (xaC (xV rfl) xaN) (f_intS h5)) (x_get (xV rfl) h6) (oLe_def _ _))) rfl)))) h7) (fun hc => ?_) (fun hc => ?_)
      · refine j_b1 fun t7 h8 => ?_
        exact j_ret (xA (xaC (xV rfl) xaN) (f_intS h8)) rfl
      · refine j_nilC ?_
        exact j_ret rfl rfl
noncomputable def sh_is_word (text : Str) : Option Bool :=
  grd (Str.length text ≤ 16777216) <|
  b1 (if ((decide ((0 : Int) < (Str.length text : Int))) && (decide ((Str.length text : Int) ≤ (12 : Int)))) = true then b1 (sh_made_of text ("abcdefghijklmnopqrstuvwxyz" : Str)) fun t1 => some t1 else some false) fun t2 =>
  some t2
set_option maxHeartbeats 2000000 in
theorem sim_is_word {text : Str} {r : Bool} (e : sh_is_word text = some r) : φ_is_word [D.str text] = some ((fun v => R.va (D.bl v)) r) := by
  refine sim_phi (m := m_is_word) (N := 1) (n := 1) (ds := [D.str text]) (s := sh_is_word text) (k := (fun v => R.va (D.bl v))) rfl ?_ e
  show J m_is_word nxt [.va (D.str text)] (sh_is_word text) (PF (fun v => R.va (D.bl v)))
  unfold m_is_word sh_is_word
  refine j_grd fun h1 => ?_
  refine j_b1 fun t2 h3 => ?_
  exact j_ret (v_andP (v_chain rfl (xA (xaC (xV rfl) xaN) (f_lenS h1)) rfl (oLt_def _ _) (oLe_def _ _)) (fun _ => (sm_b1 fun t1 h2 => (sm_ret (xA (xaC (xV rfl) (xaC rfl xaN)) (f_call (@sim_made_of text ("abcdefghijklmnopqrstuvwxyz" : Str) _ h2) rfl (.inl rfl))) rfl))) h3) rfl
noncomputable def sh_shared (one : Int) (other : Int) : Option Int :=
  b1 (whO (fun (st1 : Int × Int) => some (!decide (st1.2 = (0 : Int)))) (fun (st1 : Int × Int) =>
      grd (st1.2 ≠ 0) <|
      lt (st1.2) fun (one' : Int) =>
      lt (Int.fmod st1.1 st1.2) fun (other' : Int) =>
      some (one', other')) FUEL (one, other)) fun u1 =>
  some (if u1.1 < 0 then -u1.1 else u1.1)
set_option maxHeartbeats 2000000 in
theorem sim_shared {one : Int} {other : Int} {r : Int} (e : sh_shared one other = some r) : φ_shared [D.int one, D.int other] = some ((fun v => R.va (D.int v)) r) := by
  refine sim_phi (m := m_shared) (N := 2) (n := 2) (ds := [D.int one, D.int other]) (s := sh_shared one other) (k := (fun v => R.va (D.int v))) rfl ?_ e
  show J m_shared nxt [.va (D.int one), .va (D.int other)] (sh_shared one other) (PF (fun v => R.va (D.int v)))
  unfold m_shared sh_shared
  refine j_wh (F := FUEL) (fun (st : Int × Int) (g : Gm) => g = [.va (D.int st.1), .va (D.int st.2)]) rfl ?_ ?_ ?_
  · rintro st1 g rfl
    exact (sm_ret (t_val (x2 (xV rfl) rfl (oNe_int _ _))) rfl)
  · rintro st1 g rfl
    refine j_grd fun h1 => ?_
    refine j_par (g1 := [.va (D.int st1.2), .va (D.int (Int.fmod st1.1 st1.2))]) (xV rfl) (x2 (xV rfl) (xV rfl) (f_mod h1)) rfl rfl rfl ?_
    refine j_lt (fun (one' : Int) => [.va (D.int one'), .va (D.int (Int.fmod st1.1 st1.2))]) fun one' => ?_
    refine j_lt (fun (other' : Int) => [.va (D.int one'), .va (D.int other')]) fun other' => ?_
    exact jt_end rfl
  rintro u1 g rfl
  exact j_ret (xA (xaC (xV rfl) xaN) (cAbs_def _)) rfl
noncomputable def sh_made (above : Int) (beneath : Int) : Option (Int × Int) :=
  b1 (sh_shared above beneath) fun by_v =>
  b1 (if (decide (beneath < (0 : Int))) = true then
      lt (-by_v) fun (by_v' : Int) =>
      some by_v'
    else
      some by_v) fun by_v'2 =>
  grd (CDivB above by_v'2) <|
  grd (CDivB beneath by_v'2) <|
  some ((Int.fdiv above by_v'2), (Int.fdiv beneath by_v'2))
set_option maxHeartbeats 2000000 in
theorem sim_made {above : Int} {beneath : Int} {r : (Int × Int)} (e : sh_made above beneath = some r) : φ_made [D.int above, D.int beneath] = some ((fun v => R.va ((eP2 D.int D.int) v)) r) := by
  refine sim_phi (m := m_made) (N := 3) (n := 2) (ds := [D.int above, D.int beneath]) (s := sh_made above beneath) (k := (fun v => R.va ((eP2 D.int D.int) v))) rfl ?_ e
  show J m_made nxt [.va (D.int above), .va (D.int beneath), .un] (sh_made above beneath) (PF (fun v => R.va ((eP2 D.int D.int) v)))
  unfold m_made sh_made
  refine j_b1 fun by_v h1 => ?_
  refine j_setN (i := 2) (g1 := [.va (D.int above), .va (D.int beneath), .va (D.int by_v)]) (xA (xaC (xV rfl) (xaC (xV rfl) xaN)) (f_call (@sim_shared above beneath _ h1) rfl (.inl rfl))) rfl ?_
  refine j_joinB (St := fun (st : Int) (g : Gm) => g = [.va (D.int above), .va (D.int beneath), .va (D.int st)]) (t_val (x2 (xV rfl) rfl (oLt_def _ _))) (fun hc => ?_) (fun hc => ?_) ?_
  · refine j_setN (i := 2) (g1 := [.va (D.int above), .va (D.int beneath), .va (D.int (-by_v))]) (x1 (xV rfl) (uNeg_def _)) rfl ?_
    refine j_lt (fun (by_v' : Int) => [.va (D.int above), .va (D.int beneath), .va (D.int by_v')]) fun by_v' => ?_
    exact jn_end rfl
  · exact jn_end rfl
  rintro by_v'2 g rfl
  refine j_grd fun h2 => ?_
  refine j_grd fun h3 => ?_
  exact j_ret (xA (xaC (x2 (xV rfl) (xV rfl) (f_div h2)) (xaC (x2 (xV rfl) (xV rfl) (f_div h3)) xaN)) (f_tup rfl rfl rfl)) rfl
noncomputable def sh_frac_text (fraction : (Int × Int)) : Option Str :=
  if (decide (fraction.2 = (1 : Int))) = true then
      grd (Nat.log2 (Int.natAbs fraction.1) < 1920) <|
      some (toString fraction.1 : Str)
  else
    grd (Nat.log2 (Int.natAbs fraction.1) < 1920) <|
    grd (Str.length (toString fraction.1 : Str) + Str.length ("/" : Str) ≤ 16777216) <|
    grd (Nat.log2 (Int.natAbs fraction.2) < 1920) <|
    grd (Str.length ((toString fraction.1 : Str) ++ ("/" : Str)) + Str.length (toString fraction.2 : Str) ≤ 16777216) <|
    some (((toString fraction.1 : Str) ++ ("/" : Str)) ++ (toString fraction.2 : Str))
set_option maxHeartbeats 2000000 in
theorem sim_frac_text {fraction : (Int × Int)} {r : Str} (e : sh_frac_text fraction = some r) : φ_frac_text [(eP2 D.int D.int) fraction] = some ((fun v => R.va (D.str v)) r) := by
  refine sim_phi (m := m_frac_text) (N := 1) (n := 1) (ds := [(eP2 D.int D.int) fraction]) (s := sh_frac_text fraction) (k := (fun v => R.va (D.str v))) rfl ?_ e
  show J m_frac_text nxt [.va ((eP2 D.int D.int) fraction)] (sh_frac_text fraction) (PF (fun v => R.va (D.str v)))
  unfold m_frac_text sh_frac_text
  refine j_if (t_val (x2 (x2 (xV rfl) rfl (f_ixC 1 rfl)) rfl (oEq_int _ _))) (fun hc => ?_) (fun hc => ?_)
  · refine j_grd fun h1 => ?_
    exact j_ret (xA (xaC (x2 (xV rfl) rfl (f_ixC 0 rfl)) xaN) (f_strI h1)) rfl
  · refine j_nilC ?_
    refine j_grd fun h2 => ?_
    refine j_grd fun h3 => ?_
    refine j_grd fun h4 => ?_
    refine j_grd fun h5 => ?_
    exact j_ret (x2 (x2 (xA (xaC (x2 (xV rfl) rfl (f_ixC 0 rfl)) xaN) (f_strI h2)) rfl (f_addS h3)) (xA (xaC (x2 (xV rfl) rfl (f_ixC 1 rfl)) xaN) (f_strI h4)) (f_addS h5)) rfl
noncomputable def sh_frac_of (text : Str) : Option (Option (Int × Int)) :=
  b1 (if (Txt.startswith text ("-" : Str)) = true then
      grd (Str.length text ≤ 16777216) <|
      lt (cutS text (some (1 : Int)) none) fun (body' : Str) =>
      some body'
    else
      some text) fun body'2 =>
  grd ((Str.length ("/" : Str) == 0) = false ∧ Str.length body'2 ≤ 16777216) <|
  lt (Txt.partition body'2 ("/" : Str)) fun (p1 : (Str × Str × Str)) =>
  b1 (sh_number_of p1.1 none) fun top =>
  lt (some (1 : Int)) fun (bottom : (Option Int)) =>
  b1 (if (!decide (p1.2.1 = ("" : Str))) = true then
      b1 (sh_number_of p1.2.2 none) fun bottom' =>
      some bottom'
    else
      some bottom) fun bottom'2 =>
  b1 (if (Option.isNone top) = true then some true else b1 (if (Option.isNone bottom'2) = true then some true else b1 (bottom'2) fun t4 => some (decide (t4 = (0 : Int)))) fun t5 => some t5) fun t6 =>
  if t6 = true then
      some none
  else
    b1 (if (!decide (body'2 = text)) = true then
        b1 (top) fun t7 =>
        lt (some (-t7)) fun (top' : (Option Int)) =>
        some top'
      else
        some top) fun top'2 =>
    b1 (top'2) fun t8 =>
    b1 (bottom'2) fun t9 =>
    b1 (sh_made t8 t9) fun found =>
    b1 (sh_frac_text found) fun t11 =>
    if (!decide (t11 = text)) = true then
        some none
    else
      some (some found)
set_option maxHeartbeats 2000000 in
theorem sim_frac_of {text : Str} {r : (Option (Int × Int))} (e : sh_frac_of text = some r) : φ_frac_of [D.str text] = some ((fun v => R.va ((eO (eP2 D.int D.int)) v)) r) := by
  refine sim_phi (m := m_frac_of) (N := 8) (n := 1) (ds := [D.str text]) (s := sh_frac_of text) (k := (fun v => R.va ((eO (eP2 D.int D.int)) v))) rfl ?_ e
  show J m_frac_of nxt [.va (D.str text), .un, .un, .un, .un, .un, .un, .un] (sh_frac_of text) (PF (fun v => R.va ((eO (eP2 D.int D.int)) v)))
  unfold m_frac_of sh_frac_of
  refine j_setN (i := 1) (g1 := [.va (D.str text), .va (D.str text), .un, .un, .un, .un, .un, .un]) (xV rfl) rfl ?_
  refine j_joinB (St := fun (st : Str) (g : Gm) => g = [.va (D.str text), .va (D.str st), .un, .un, .un, .un, .un, .un]) (t_val (x2 (xV rfl) rfl (f_sw _ _))) (fun hc => ?_) (fun hc => ?_) ?_
  · refine j_grd fun h1 => ?_
    refine j_setN (i := 1) (g1 := [.va (D.str text), .va (D.str (cutS text (some (1 : Int)) none)), .un, .un, .un, .un, .un, .un]) (x_sl (xV rfl) (x_pS rfl) x_pN (f_slS h1)) rfl ?_
    refine j_lt (fun (body' : Str) => [.va (D.str text), .va (D.str body'), .un, .un, .un, .un, .un, .un]) fun body' => ?_
    exact jn_end rfl
  · exact jn_end rfl
  rintro body'2 g rfl
  refine j_grd fun h2 => ?_
  refine j_asg (g1 := [.va (D.str text), .va (D.str body'2), .un, .un, .un, .va (D.str ((Txt.partition body'2 ("/" : Str))).1), .va (D.str ((Txt.partition body'2 ("/" : Str))).2.1), .va (D.str ((Txt.partition body'2 ("/" : Str))).2.2)]) (x2 (xV rfl) rfl (f_part h2)) rfl ?_
  refine j_lt (fun (p1 : (Str × Str × Str)) => [.va (D.str text), .va (D.str body'2), .un, .un, .un, .va (D.str p1.1), .va (D.str p1.2.1), .va (D.str p1.2.2)]) fun p1 => ?_
  refine j_b1 fun top h3 => ?_
  refine j_setN (i := 2) (g1 := [.va (D.str text), .va (D.str body'2), .va ((eO D.int) top), .un, .un, .va (D.str p1.1), .va (D.str p1.2.1), .va (D.str p1.2.2)]) (xA (xaC (xV rfl) xaN) (f_call (@sim_number_of p1.1 none _ h3) rfl (.inl rfl))) rfl ?_
  refine j_setN (i := 3) (g1 := [.va (D.str text), .va (D.str body'2), .va ((eO D.int) top), .va ((eO D.int) (some (1 : Int))), .un, .va (D.str p1.1), .va (D.str p1.2.1), .va (D.str p1.2.2)]) rfl rfl ?_
  refine j_lt (fun (bottom : (Option Int)) => [.va (D.str text), .va (D.str body'2), .va ((eO D.int) top), .va ((eO D.int) bottom), .un, .va (D.str p1.1), .va (D.str p1.2.1), .va (D.str p1.2.2)]) fun bottom => ?_
  refine j_joinB (St := fun (st : (Option Int)) (g : Gm) => g = [.va (D.str text), .va (D.str body'2), .va ((eO D.int) top), .va ((eO D.int) st), .un, .va (D.str p1.1), .va (D.str p1.2.1), .va (D.str p1.2.2)]) (t_val (x2 (xV rfl) rfl (f_ne eqR_str))) (fun hc => ?_) (fun hc => ?_) ?_
  · refine j_b1 fun bottom' h4 => ?_
    refine j_setN (i := 3) (g1 := [.va (D.str text), .va (D.str body'2), .va ((eO D.int) top), .va ((eO D.int) bottom'), .un, .va (D.str p1.1), .va (D.str p1.2.1), .va (D.str p1.2.2)]) (xA (xaC (xV rfl) xaN) (f_call (@sim_number_of p1.2.2 none _ h4) rfl (.inl rfl))) rfl ?_
    exact jn_end rfl
  · exact jn_end rfl
  rintro bottom'2 g rfl
  refine j_b1 fun t6 h7 => ?_
  refine j_if (t_orP (t_val (x2 (xV rfl) rfl (f_isO (fun _ => rfl) _))) (fun _ => (sm_b1 fun t5 h6 => (sm_ret (t_orP (t_val (x2 (xV rfl) rfl (f_isO (fun _ => rfl) _))) (fun _ => (sm_b1 fun t4 h5 => (sm_ret (t_val (x2 (x_get (xV rfl) h5) rfl (oEq_int _ _))) rfl))) h6) rfl))) h7) (fun hc => ?_) (fun hc => ?_)
  · exact j_ret rfl rfl
  · refine j_nilC ?_
    refine j_joinB (St := fun (st : (Option Int)) (g : Gm) => g = [.va (D.str text), .va (D.str body'2), .va ((eO D.int) st), .va ((eO D.int) bottom'2), .un, .va (D.str p1.1), .va (D.str p1.2.1), .va (D.str p1.2.2)]) (t_val (x2 (xV rfl) (xV rfl) (f_ne eqR_str))) (fun hc => ?_) (fun hc => ?_) ?_
    · refine j_b1 fun t7 h8 => ?_
      refine j_setN (i := 2) (g1 := [.va (D.str text), .va (D.str body'2), .va ((eO D.int) (some (-t7))), .va ((eO D.int) bottom'2), .un, .va (D.str p1.1), .va (D.str p1.2.1), .va (D.str p1.2.2)]) (x1 (x_get (xV rfl) h8) (uNeg_def _)) rfl ?_
      refine j_lt (fun (top' : (Option Int)) => [.va (D.str text), .va (D.str body'2), .va ((eO D.int) top'), .va ((eO D.int) bottom'2), .un, .va (D.str p1.1), .va (D.str p1.2.1), .va (D.str p1.2.2)]) fun top' => ?_
      exact jn_end rfl
    · exact jn_end rfl
    rintro top'2 g rfl
    refine j_b1 fun t8 h9 => ?_
    refine j_b1 fun t9 h10 => ?_
    refine j_b1 fun found h11 => ?_
    refine j_setN (i := 4) (g1 := [.va (D.str text), .va (D.str body'2), .va ((eO D.int) top'2), .va ((eO D.int) bottom'2), .va ((eP2 D.int D.int) found), .va (D.str p1.1), .va (D.str p1.2.1), .va (D.str p1.2.2)]) (xA (xaC (x_get (xV rfl) h9) (xaC (x_get (xV rfl) h10) xaN)) (f_call (@sim_made t8 t9 _ h11) rfl (.inl rfl))) rfl ?_
    refine j_b1 fun t11 h12 => ?_
    refine j_if (t_val (x2 (xA (xaC (xV rfl) xaN) (f_call (@sim_frac_text found _ h12) rfl (.inl rfl))) (xV rfl) (f_ne eqR_str))) (fun hc => ?_) (fun hc => ?_)
    · exact j_ret rfl rfl
    · refine j_nilC ?_
      exact j_ret (xV rfl) rfl
noncomputable def sh_log_row (row : ((Int × Int) × Str × Int × Str)) : Option Str :=
  b1 (sh_frac_text row.1) fun t1 =>
  grd (Nat.log2 (Int.natAbs (row.2.2.1 + (1 : Int))) < 1920) <|
  lt ([t1, row.2.1, (toString (row.2.2.1 + (1 : Int)) : Str)]) fun (words : (List Str)) =>
  b1 (if (!decide (row.2.2.2 = ("" : Str))) = true then
      grd (List.length words < 16777216) <|
      lt (words ++ [row.2.2.2]) fun (words' : (List Str)) =>
      some words'
    else
      some words) fun words'2 =>
  grd ((List.map Str.length words'2).sum + List.length words'2 * Str.length (" " : Str) ≤ 16777216) <|
  some (Txt.join (" " : Str) words'2)
set_option maxHeartbeats 2000000 in
theorem sim_log_row {row : ((Int × Int) × Str × Int × Str)} {r : Str} (e : sh_log_row row = some r) : φ_log_row [(eP4 (eP2 D.int D.int) D.str D.int D.str) row] = some ((fun v => R.va (D.str v)) r) := by
  refine sim_phi (m := m_log_row) (N := 6) (n := 1) (ds := [(eP4 (eP2 D.int D.int) D.str D.int D.str) row]) (s := sh_log_row row) (k := (fun v => R.va (D.str v))) rfl ?_ e
  show J m_log_row nxt [.va ((eP4 (eP2 D.int D.int) D.str D.int D.str) row), .un, .un, .un, .un, .un] (sh_log_row row) (PF (fun v => R.va (D.str v)))
  unfold m_log_row sh_log_row
  refine j_asg (g1 := [.va ((eP4 (eP2 D.int D.int) D.str D.int D.str) row), .un, .va ((eP2 D.int D.int) row.1), .va (D.str row.2.1), .va (D.int row.2.2.1), .va (D.str row.2.2.2)]) (xV rfl) rfl ?_
  refine j_b1 fun t1 h1 => ?_
  refine j_grd fun h2 => ?_
  refine j_setTN (i := 1) (g1 := [.va ((eP4 (eP2 D.int D.int) D.str D.int D.str) row), .ow (List.map D.str [t1, row.2.1, (toString (row.2.2.1 + (1 : Int)) : Str)]), .va ((eP2 D.int D.int) row.1), .va (D.str row.2.1), .va (D.int row.2.2.1), .va (D.str row.2.2.2)]) (xA (xaC (xA (xaC (xV rfl) xaN) (f_call (@sim_frac_text row.1 _ h1) rfl (.inl rfl))) (xaC (xV rfl) (xaC (xA (xaC (x2 (xV rfl) rfl (oAdd_int _ _)) xaN) (f_strI h2)) xaN))) (f_lst rfl rfl rfl)) rfl ?_
  refine j_lt (fun (words : (List Str)) => [.va ((eP4 (eP2 D.int D.int) D.str D.int D.str) row), .ow (List.map D.str words), .va ((eP2 D.int D.int) row.1), .va (D.str row.2.1), .va (D.int row.2.2.1), .va (D.str row.2.2.2)]) fun words => ?_
  refine j_joinB (St := fun (st : (List Str)) (g : Gm) => g = [.va ((eP4 (eP2 D.int D.int) D.str D.int D.str) row), .ow (List.map D.str st), .va ((eP2 D.int D.int) row.1), .va (D.str row.2.1), .va (D.int row.2.2.1), .va (D.str row.2.2.2)]) (t_val (x2 (xV rfl) rfl (f_ne eqR_str))) (fun hc => ?_) (fun hc => ?_) ?_
  · refine j_grd fun h3 => ?_
    refine j_appE (i := 1) (g1 := [.va ((eP4 (eP2 D.int D.int) D.str D.int D.str) row), .ow (List.map D.str (words ++ [row.2.2.2])), .va ((eP2 D.int D.int) row.1), .va (D.str row.2.1), .va (D.int row.2.2.1), .va (D.str row.2.2.2)]) D.str words row.2.2.2 rfl (xV rfl) rfl rfl h3 rfl ?_
    refine j_lt (fun (words' : (List Str)) => [.va ((eP4 (eP2 D.int D.int) D.str D.int D.str) row), .ow (List.map D.str words'), .va ((eP2 D.int D.int) row.1), .va (D.str row.2.1), .va (D.int row.2.2.1), .va (D.str row.2.2.2)]) fun words' => ?_
    exact jn_end rfl
  · exact jn_end rfl
  rintro words'2 g rfl
  refine j_grd fun h4 => ?_
  exact j_ret (x2 rfl (xW rfl) (f_join (zs := words'2) rfl h4)) rfl
noncomputable def sh_log_text (log : (List ((Int × Int) × Str × Int × Str))) : Option Str :=
  grd (List.length log ≤ 16777216) <|
  b1 (mapO (fun e1 : ((Int × Int) × Str × Int × Str) => b1 (sh_log_row e1) fun t1 => some t1) log) fun t2 =>
  grd ((List.map Str.length t2).sum + List.length t2 * Str.length ("\n" : Str) ≤ 16777216) <|
  some (Txt.join ("\n" : Str) t2)
set_option maxHeartbeats 2000000 in
theorem sim_log_text {log : (List ((Int × Int) × Str × Int × Str))} {r : Str} (e : sh_log_text log = some r) : φ_log_text [(eL (eP4 (eP2 D.int D.int) D.str D.int D.str)) log] = some ((fun v => R.va (D.str v)) r) := by
  refine sim_phi (m := m_log_text) (N := 2) (n := 1) (ds := [(eL (eP4 (eP2 D.int D.int) D.str D.int D.str)) log]) (s := sh_log_text log) (k := (fun v => R.va (D.str v))) rfl ?_ e
  show J m_log_text nxt [.va ((eL (eP4 (eP2 D.int D.int) D.str D.int D.str)) log), .un] (sh_log_text log) (PF (fun v => R.va (D.str v)))
  unfold m_log_text sh_log_text
  refine j_grd fun h1 => ?_
  refine j_b1 fun t2 h3 => ?_
  refine j_grd fun h4 => ?_
  exact j_ret (x2 rfl (x_lcO (e := (eP4 (eP2 D.int D.int) D.str D.int D.str)) (e' := D.str) (xs := log) (fun y1 => R.va (D.str y1)) (i_seq (xV rfl) rfl) h1 (fun e1 _ => ⟨[.va ((eL (eP4 (eP2 D.int D.int) D.str D.int D.str)) log), .va ((eP4 (eP2 D.int D.int) D.str D.int D.str) e1)], rfl, (sm_b1 fun t1 h2 => (sm_ret (xA (xaC (xV rfl) xaN) (f_call (@sim_log_row e1 _ h2) rfl (.inl rfl))) rfl))⟩) h3) (f_join (zs := t2) rfl h4)) rfl
noncomputable def sh_row_heard (row : Str) (at_v : Int) : Option ((Int × Int) × Str × Int × Str) :=
  grd ((Str.length (" " : Str) == 0) = false ∧ Str.length row + 2 ≤ 16777216) <|
  lt (Txt.split row (" " : Str)) fun (words : (List Str)) =>
  if (!decide ((List.length words : Int) ∈ ([(3 : Int), (4 : Int)] : List Int))) = true then
      none
  else
    b1 (atI words (0 : Int)) fun t1 =>
    b1 (sh_frac_of t1) fun moment =>
    b1 (atI words (2 : Int)) fun t3 =>
    b1 (sh_number_of t3 none) fun cart =>
    b1 (if (Option.isNone moment) = true then some true else b1 (moment) fun t5 => b1 (if (decide (t5.1 < (0 : Int))) = true then some true else b1 (if (Option.isNone cart) = true then some true else b1 (cart) fun t6 => some (decide (t6 = (0 : Int)))) fun t7 => some t7) fun t8 => some t8) fun t9 =>
    if t9 = true then
        none
    else
      b1 (atI words (1 : Int)) fun t10 =>
      grd (PyData.strOk t10 = true ∧ List.all ([("start" : Str), ("end" : Str)] : List Str) PyData.strOk = true) <|
      if ((decide (t10 ∈ ([("start" : Str), ("end" : Str)] : List Str))) && (decide ((List.length words : Int) = (3 : Int)))) = true then
          b1 (moment) fun t11 =>
          b1 (atI words (1 : Int)) fun t12 =>
          b1 (cart) fun t13 =>
          some (t11, t12, (t13 - (1 : Int)), ("" : Str))
      else
        b1 (atI words (1 : Int)) fun t14 =>
        grd (PyData.strOk t14 = true ∧ List.all ([("come" : Str), ("on" : Str), ("off" : Str)] : List Str) PyData.strOk = true) <|
        b1 (if (decide (t14 ∈ ([("come" : Str), ("on" : Str), ("off" : Str)] : List Str))) = true then b1 (if (decide ((List.length words : Int) = (4 : Int))) = true then b1 (atI words (3 : Int)) fun t15 => b1 (sh_is_word t15) fun t16 => some t16 else some false) fun t17 => some t17 else some false) fun t18 =>
        if t18 = true then
            b1 (moment) fun t19 =>
            b1 (atI words (1 : Int)) fun t20 =>
            b1 (cart) fun t21 =>
            b1 (atI words (3 : Int)) fun t22 =>
            some (t19, t20, (t21 - (1 : Int)), t22)
        else
          none
set_option maxHeartbeats 2000000 in
theorem simJ_row_heard {row : Str} {at_v : Int} : J m_row_heard nxt [.va (D.str row), .va (D.int at_v), .un, .un, .un] (sh_row_heard row at_v) (PF (fun v => R.va ((eP4 (eP2 D.int D.int) D.str D.int D.str) v))) := by
  unfold m_row_heard sh_row_heard
  refine j_grd fun h1 => ?_
  refine j_setTN (i := 2) (g1 := [.va (D.str row), .va (D.int at_v), .ow (List.map D.str (Txt.split row (" " : Str))), .un, .un]) (x2 (xV rfl) rfl (f_split h1)) rfl ?_
  refine j_lt (fun (words : (List Str)) => [.va (D.str row), .va (D.int at_v), .ow (List.map D.str words), .un, .un]) fun words => ?_
  refine j_if (t_val (x2 (xA (xaC (xW rfl) xaN) (f_lenL (e := D.str) (xs := words) rfl)) (xA (xaC rfl (xaC rfl xaN)) (f_tup rfl rfl rfl)) (f_nin2 (inR_int (z := (List.length words : Int)) (zs := ([(3 : Int), (4 : Int)] : List Int)) rfl (.inr rfl))))) (fun hc => ?_) (fun hc => ?_)
  · exact j_none
  · refine j_nilC ?_
    refine j_b1 fun t1 h2 => ?_
    refine j_b1 fun moment h3 => ?_
    refine j_setN (i := 3) (g1 := [.va (D.str row), .va (D.int at_v), .ow (List.map D.str words), .va ((eO (eP2 D.int D.int)) moment), .un]) (xA (xaC (x2 (xW rfl) rfl (f_ixL (e := D.str) (xs := words) rfl h2)) xaN) (f_call (@sim_frac_of t1 _ h3) rfl (.inl rfl))) rfl ?_
    refine j_b1 fun t3 h4 => ?_
    refine j_b1 fun cart h5 => ?_
    refine j_setN (i := 4) (g1 := [.va (D.str row), .va (D.int at_v), .ow (List.map D.str words), .va ((eO (eP2 D.int D.int)) moment), .va ((eO D.int) cart)]) (xA (xaC (x2 (xW rfl) rfl (f_ixL (e := D.str) (xs := words) rfl h4)) xaN) (f_call (@sim_number_of t3 none _ h5) rfl (.inl rfl))) rfl ?_
    refine j_b1 fun t9 h10 => ?_
    refine j_if (t_orP (t_val (x2 (xV rfl) rfl (f_isO (fun _ => rfl) _))) (fun _ => (sm_b1 fun t5 h6 => (sm_b1 fun t8 h9 => (sm_ret (t_orP (t_val (x2 (x2 (x_get (xV rfl) h6) rfl (f_ixC 0 rfl)) rfl (oLt_def _ _))) (fun _ => (sm_b1 fun t7 h8 => (sm_ret (t_orP (t_val (x2 (xV rfl) rfl (f_isO (fun _ => rfl) _))) (fun _ => (sm_b1 fun t6 h7 => (sm_ret (t_val (x2 (x_get (xV rfl) h7) rfl (oEq_int _ _))) rfl))) h8) rfl))) h9) rfl)))) h10) (fun hc => ?_) (fun hc => ?_)
    · exact j_none
    · refine j_nilC ?_
      refine j_b1 fun t10 h11 => ?_
      refine j_grd fun h12 => ?_
      refine j_if (t_and (t_val (x2 (x2 (xW rfl) rfl (f_ixL (e := D.str) (xs := words) rfl h11)) (xA (xaC rfl (xaC rfl xaN)) (f_tup rfl rfl rfl)) (f_in2 (inR_str (z := t10) (zs := ([("start" : Str), ("end" : Str)] : List Str)) rfl (.inr rfl) h12)))) (t_val (x2 (xA (xaC (xW rfl) xaN) (f_lenL (e := D.str) (xs := words) rfl)) rfl (oEq_int _ _)))) (fun hc => ?_) (fun hc => ?_)
      · refine j_b1 fun t11 h13 => ?_
        refine j_b1 fun t12 h14 => ?_
        refine j_b1 fun t13 h15 => ?_
        exact j_ret (xA (xaC (x_get (xV rfl) h13) (xaC (x2 (xW rfl) rfl (f_ixL (e := D.str) (xs := words) rfl h14)) (xaC (x2 (x_get (xV rfl) h15) rfl (oSub_def _ _)) (xaC rfl xaN)))) (f_tup rfl rfl rfl)) rfl
      · refine j_nilC ?_
        refine j_b1 fun t14 h16 => ?_
        refine j_grd fun h17 => ?_
        refine j_b1 fun t18 h21 => ?_
        refine j_if (t_andP (t_val (x2 (x2 (xW rfl) rfl (f_ixL (e := D.str) (xs := words) rfl h16)) (xA (xaC rfl (xaC rfl (xaC rfl xaN))) (f_tup rfl rfl rfl)) (f_in2 (inR_str (z := t14) (zs := ([("come" : Str), ("on" : Str), ("off" : Str)] : List Str)) rfl (.inr rfl) h17)))) (fun _ => (sm_b1 fun t17 h20 => (sm_ret (t_andP (t_val (x2 (xA (xaC (xW rfl) xaN) (f_lenL (e := D.str) (xs := words) rfl)) rfl (oEq_int _ _))) (fun _ => (sm_b1 fun t15 h18 => (sm_b1 fun t16 h19 => (sm_ret (t_val (xA (xaC (x2 (xW rfl) rfl (f_ixL (e := D.str) (xs := words) rfl h18)) xaN) (f_call (@sim_is_word t15 _ h19) rfl (.inl rfl)))) rfl)))) h20) rfl))) h21) (fun hc => ?_) (fun hc => ?_)
        · refine j_b1 fun t19 h22 => ?_
          refine j_b1 fun t20 h23 => ?_
          refine j_b1 fun t21 h24 => ?_
          refine j_b1 fun t22 h25 => ?_
          exact j_ret (xA (xaC (x_get (xV rfl) h22) (xaC (x2 (xW rfl) rfl (f_ixL (e := D.str) (xs := words) rfl h23)) (xaC (x2 (x_get (xV rfl) h24) rfl (oSub_def _ _)) (xaC (x2 (xW rfl) rfl (f_ixL (e := D.str) (xs := words) rfl h25)) xaN)))) (f_tup rfl rfl rfl)) rfl
        · refine j_nilC ?_
          exact j_none
theorem simn_row_heard {row : Str} {at_v : Int} {r : ((Int × Int) × Str × Int × Str)} (e : sh_row_heard row at_v = some r) : υ_row_heard [D.str row, D.int at_v] = some (.inl ((fun v => R.va ((eP4 (eP2 D.int D.int) D.str D.int D.str) v)) r)) := sim_upsN (m := m_row_heard) (N := 5) (n := 2) (ds := [D.str row, D.int at_v]) (s := sh_row_heard row at_v) (k := (fun v => R.va ((eP4 (eP2 D.int D.int) D.str D.int D.str) v))) rfl simJ_row_heard e
noncomputable def shu_row_heard (row : Str) (at_v : Int) : Option (((Int × Int) × Str × Int × Str) ⊕ Exc) :=
  grd ((Str.length (" " : Str) == 0) = false ∧ Str.length row + 2 ≤ 16777216) <|
  lt (Txt.split row (" " : Str)) fun (words : (List Str)) =>
  if (!decide ((List.length words : Int) ∈ ([(3 : Int), (4 : Int)] : List Int))) = true then
      some (.inr ⟨10, [.inl at_v]⟩)
  else
    b1 (atI words (0 : Int)) fun t1 =>
    b1 (sh_frac_of t1) fun moment =>
    b1 (atI words (2 : Int)) fun t3 =>
    b1 (sh_number_of t3 none) fun cart =>
    b1 (if (Option.isNone moment) = true then some true else b1 (moment) fun t5 => b1 (if (decide (t5.1 < (0 : Int))) = true then some true else b1 (if (Option.isNone cart) = true then some true else b1 (cart) fun t6 => some (decide (t6 = (0 : Int)))) fun t7 => some t7) fun t8 => some t8) fun t9 =>
    if t9 = true then
        some (.inr ⟨10, [.inl at_v]⟩)
    else
      b1 (atI words (1 : Int)) fun t10 =>
      grd (PyData.strOk t10 = true ∧ List.all ([("start" : Str), ("end" : Str)] : List Str) PyData.strOk = true) <|
      if ((decide (t10 ∈ ([("start" : Str), ("end" : Str)] : List Str))) && (decide ((List.length words : Int) = (3 : Int)))) = true then
          b1 (moment) fun t11 =>
          b1 (atI words (1 : Int)) fun t12 =>
          b1 (cart) fun t13 =>
          some (.inl (t11, t12, (t13 - (1 : Int)), ("" : Str)))
      else
        b1 (atI words (1 : Int)) fun t14 =>
        grd (PyData.strOk t14 = true ∧ List.all ([("come" : Str), ("on" : Str), ("off" : Str)] : List Str) PyData.strOk = true) <|
        b1 (if (decide (t14 ∈ ([("come" : Str), ("on" : Str), ("off" : Str)] : List Str))) = true then b1 (if (decide ((List.length words : Int) = (4 : Int))) = true then b1 (atI words (3 : Int)) fun t15 => b1 (sh_is_word t15) fun t16 => some t16 else some false) fun t17 => some t17 else some false) fun t18 =>
        if t18 = true then
            b1 (moment) fun t19 =>
            b1 (atI words (1 : Int)) fun t20 =>
            b1 (cart) fun t21 =>
            b1 (atI words (3 : Int)) fun t22 =>
            some (.inl (t19, t20, (t21 - (1 : Int)), t22))
        else
          some (.inr ⟨10, [.inl at_v]⟩)
set_option maxHeartbeats 2000000 in
theorem simK_row_heard {row : Str} {at_v : Int} : J m_row_heard nxt [.va (D.str row), .va (D.int at_v), .un, .un, .un] (shu_row_heard row at_v) (PU (fun v => R.va ((eP4 (eP2 D.int D.int) D.str D.int D.str) v))) := by
  unfold m_row_heard shu_row_heard
  refine j_grd fun h1 => ?_
  refine j_setTN (i := 2) (g1 := [.va (D.str row), .va (D.int at_v), .ow (List.map D.str (Txt.split row (" " : Str))), .un, .un]) (x2 (xV rfl) rfl (f_split h1)) rfl ?_
  refine j_lt (fun (words : (List Str)) => [.va (D.str row), .va (D.int at_v), .ow (List.map D.str words), .un, .un]) fun words => ?_
  refine j_if (t_val (x2 (xA (xaC (xW rfl) xaN) (f_lenL (e := D.str) (xs := words) rfl)) (xA (xaC rfl (xaC rfl xaN)) (f_tup rfl rfl rfl)) (f_nin2 (inR_int (z := (List.length words : Int)) (zs := ([(3 : Int), (4 : Int)] : List Int)) rfl (.inr rfl))))) (fun hc => ?_) (fun hc => ?_)
  · exact j_rs (x_rs (xaC (xV rfl) xaN) rfl rfl) rfl
  · refine j_nilC ?_
    refine j_b1 fun t1 h2 => ?_
    refine j_b1 fun moment h3 => ?_
    refine j_setN (i := 3) (g1 := [.va (D.str row), .va (D.int at_v), .ow (List.map D.str words), .va ((eO (eP2 D.int D.int)) moment), .un]) (xA (xaC (x2 (xW rfl) rfl (f_ixL (e := D.str) (xs := words) rfl h2)) xaN) (f_call (@sim_frac_of t1 _ h3) rfl (.inl rfl))) rfl ?_
    refine j_b1 fun t3 h4 => ?_
    refine j_b1 fun cart h5 => ?_
    refine j_setN (i := 4) (g1 := [.va (D.str row), .va (D.int at_v), .ow (List.map D.str words), .va ((eO (eP2 D.int D.int)) moment), .va ((eO D.int) cart)]) (xA (xaC (x2 (xW rfl) rfl (f_ixL (e := D.str) (xs := words) rfl h4)) xaN) (f_call (@sim_number_of t3 none _ h5) rfl (.inl rfl))) rfl ?_
    refine j_b1 fun t9 h10 => ?_
    refine j_if (t_orP (t_val (x2 (xV rfl) rfl (f_isO (fun _ => rfl) _))) (fun _ => (sm_b1 fun t5 h6 => (sm_b1 fun t8 h9 => (sm_ret (t_orP (t_val (x2 (x2 (x_get (xV rfl) h6) rfl (f_ixC 0 rfl)) rfl (oLt_def _ _))) (fun _ => (sm_b1 fun t7 h8 => (sm_ret (t_orP (t_val (x2 (xV rfl) rfl (f_isO (fun _ => rfl) _))) (fun _ => (sm_b1 fun t6 h7 => (sm_ret (t_val (x2 (x_get (xV rfl) h7) rfl (oEq_int _ _))) rfl))) h8) rfl))) h9) rfl)))) h10) (fun hc => ?_) (fun hc => ?_)
    · exact j_rs (x_rs (xaC (xV rfl) xaN) rfl rfl) rfl
    · refine j_nilC ?_
      refine j_b1 fun t10 h11 => ?_
      refine j_grd fun h12 => ?_
      refine j_if (t_and (t_val (x2 (x2 (xW rfl) rfl (f_ixL (e := D.str) (xs := words) rfl h11)) (xA (xaC rfl (xaC rfl xaN)) (f_tup rfl rfl rfl)) (f_in2 (inR_str (z := t10) (zs := ([("start" : Str), ("end" : Str)] : List Str)) rfl (.inr rfl) h12)))) (t_val (x2 (xA (xaC (xW rfl) xaN) (f_lenL (e := D.str) (xs := words) rfl)) rfl (oEq_int _ _)))) (fun hc => ?_) (fun hc => ?_)
      · refine j_b1 fun t11 h13 => ?_
        refine j_b1 fun t12 h14 => ?_
        refine j_b1 fun t13 h15 => ?_
        exact j_ret (xA (xaC (x_get (xV rfl) h13) (xaC (x2 (xW rfl) rfl (f_ixL (e := D.str) (xs := words) rfl h14)) (xaC (x2 (x_get (xV rfl) h15) rfl (oSub_def _ _)) (xaC rfl xaN)))) (f_tup rfl rfl rfl)) rfl
      · refine j_nilC ?_
        refine j_b1 fun t14 h16 => ?_
        refine j_grd fun h17 => ?_
        refine j_b1 fun t18 h21 => ?_
        refine j_if (t_andP (t_val (x2 (x2 (xW rfl) rfl (f_ixL (e := D.str) (xs := words) rfl h16)) (xA (xaC rfl (xaC rfl (xaC rfl xaN))) (f_tup rfl rfl rfl)) (f_in2 (inR_str (z := t14) (zs := ([("come" : Str), ("on" : Str), ("off" : Str)] : List Str)) rfl (.inr rfl) h17)))) (fun _ => (sm_b1 fun t17 h20 => (sm_ret (t_andP (t_val (x2 (xA (xaC (xW rfl) xaN) (f_lenL (e := D.str) (xs := words) rfl)) rfl (oEq_int _ _))) (fun _ => (sm_b1 fun t15 h18 => (sm_b1 fun t16 h19 => (sm_ret (t_val (xA (xaC (x2 (xW rfl) rfl (f_ixL (e := D.str) (xs := words) rfl h18)) xaN) (f_call (@sim_is_word t15 _ h19) rfl (.inl rfl)))) rfl)))) h20) rfl))) h21) (fun hc => ?_) (fun hc => ?_)
        · refine j_b1 fun t19 h22 => ?_
          refine j_b1 fun t20 h23 => ?_
          refine j_b1 fun t21 h24 => ?_
          refine j_b1 fun t22 h25 => ?_
          exact j_ret (xA (xaC (x_get (xV rfl) h22) (xaC (x2 (xW rfl) rfl (f_ixL (e := D.str) (xs := words) rfl h23)) (xaC (x2 (x_get (xV rfl) h24) rfl (oSub_def _ _)) (xaC (x2 (xW rfl) rfl (f_ixL (e := D.str) (xs := words) rfl h25)) xaN)))) (f_tup rfl rfl rfl)) rfl
        · refine j_nilC ?_
          exact j_rs (x_rs (xaC (xV rfl) xaN) rfl rfl) rfl
theorem simu_row_heard {row : Str} {at_v : Int} {r : ((Int × Int) × Str × Int × Str) ⊕ Exc} (e : shu_row_heard row at_v = some r) : υ_row_heard [D.str row, D.int at_v] = some (KU (fun v => R.va ((eP4 (eP2 D.int D.int) D.str D.int D.str) v)) r) := sim_ups (m := m_row_heard) (N := 5) (n := 2) (ds := [D.str row, D.int at_v]) (s := shu_row_heard row at_v) (k := (fun v => R.va ((eP4 (eP2 D.int D.int) D.str D.int D.str) v))) rfl simK_row_heard e
noncomputable def sh_heard (text : Str) : Option (List ((Int × Int) × Str × Int × Str)) :=
  if (decide (text = ("" : Str))) = true then
      some []
  else
    grd ((Str.length ("\n" : Str) == 0) = false ∧ Str.length text + 2 ≤ 16777216) <|
    grd (List.length (en1I (Txt.split text ("\n" : Str))) ≤ 16777216) <|
    b1 (mapO (fun e1 : (Int × Str) => sh_row_heard e1.2 e1.1) (en1I (Txt.split text ("\n" : Str)))) fun t1 =>
    some t1
set_option maxHeartbeats 2000000 in
theorem simJ_heard {text : Str} : J m_heard nxt [.va (D.str text), .un, .un] (sh_heard text) (PF (fun v => R.tm (List.map (eP4 (eP2 D.int D.int) D.str D.int D.str) v))) := by
  unfold m_heard sh_heard
  refine j_if (t_val (x2 (xV rfl) rfl (f_eq eqR_str))) (fun hc => ?_) (fun hc => ?_)
  · exact j_ret (xA xaN (f_lst rfl rfl rfl)) rfl
  · refine j_nilC ?_
    refine j_grd fun h1 => ?_
    refine j_grd fun h2 => ?_
    refine j_b1 fun t1 h3 => ?_
    exact j_retU (x_uLcN (enc := (eP2 D.int D.str)) (k := (eP4 (eP2 D.int D.int) D.str D.int D.str)) (xs := (en1I (Txt.split text ("\n" : Str)))) (fun v => R.va ((eP4 (eP2 D.int D.int) D.str D.int D.str) v)) (i_A (xaC (x2 (xV rfl) rfl (f_split h1)) (xaC rfl xaN)) (f_en1 (e := D.str) (xs := (Txt.split text ("\n" : Str))) rfl)) h2 (fun e1 _ => ⟨[.va (D.str text), .va (D.int e1.1), .va (D.str e1.2)], rfl, fun _ hv => x_uC (xaC (xV rfl) (xaC (xV rfl) xaN)) (f_cuN (@simn_row_heard e1.2 e1.1 _ hv) rfl (.inl rfl))⟩) h3) rfl
theorem sim_heard {text : Str} {r : (List ((Int × Int) × Str × Int × Str))} (e : sh_heard text = some r) : φ_heard [D.str text] = some ((fun v => R.tm (List.map (eP4 (eP2 D.int D.int) D.str D.int D.str) v)) r) := sim_phi (m := m_heard) (N := 3) (n := 1) (ds := [D.str text]) (s := sh_heard text) (k := (fun v => R.tm (List.map (eP4 (eP2 D.int D.int) D.str D.int D.str) v))) rfl simJ_heard e
noncomputable def shu_heard (text : Str) : Option ((List ((Int × Int) × Str × Int × Str)) ⊕ Exc) :=
  if (decide (text = ("" : Str))) = true then
      some (.inl [])
  else
    grd ((Str.length ("\n" : Str) == 0) = false ∧ Str.length text + 2 ≤ 16777216) <|
    grd (List.length (en1I (Txt.split text ("\n" : Str))) ≤ 16777216) <|
    bU Sum.inr (mapU (fun e1 : (Int × Str) => shu_row_heard e1.2 e1.1) (en1I (Txt.split text ("\n" : Str)))) fun t1 =>
    some (.inl t1)
set_option maxHeartbeats 2000000 in
theorem simK_heard {text : Str} : J m_heard nxt [.va (D.str text), .un, .un] (shu_heard text) (PU (fun v => R.tm (List.map (eP4 (eP2 D.int D.int) D.str D.int D.str) v))) := by
  unfold m_heard shu_heard
  refine j_if (t_val (x2 (xV rfl) rfl (f_eq eqR_str))) (fun hc => ?_) (fun hc => ?_)
  · exact j_ret (xA xaN (f_lst rfl rfl rfl)) rfl
  · refine j_nilC ?_
    refine j_grd fun h1 => ?_
    refine j_grd fun h2 => ?_
    refine j_bU (fun x hx => sU_inr (x_uLcU (z := .inr x) (enc := (eP2 D.int D.str)) (k := (eP4 (eP2 D.int D.int) D.str D.int D.str)) (xs := (en1I (Txt.split text ("\n" : Str)))) (fun v => R.va ((eP4 (eP2 D.int D.int) D.str D.int D.str) v)) (i_A (xaC (x2 (xV rfl) rfl (f_split h1)) (xaC rfl xaN)) (f_en1 (e := D.str) (xs := (Txt.split text ("\n" : Str))) rfl)) h2 (fun e1 _ => ⟨[.va (D.str text), .va (D.int e1.1), .va (D.str e1.2)], rfl, fun _ hw => ⟨_, x_uC (xaC (xV rfl) (xaC (xV rfl) xaN)) (f_cuW (@simu_row_heard e1.2 e1.1 _ hw) rfl rfl), rfl⟩⟩) hx)) (fun _ => rfl) fun t1 h3 => ?_
    exact j_retU (x_uLcU (z := .inl t1) (enc := (eP2 D.int D.str)) (k := (eP4 (eP2 D.int D.int) D.str D.int D.str)) (xs := (en1I (Txt.split text ("\n" : Str)))) (fun v => R.va ((eP4 (eP2 D.int D.int) D.str D.int D.str) v)) (i_A (xaC (x2 (xV rfl) rfl (f_split h1)) (xaC rfl xaN)) (f_en1 (e := D.str) (xs := (Txt.split text ("\n" : Str))) rfl)) h2 (fun e1 _ => ⟨[.va (D.str text), .va (D.int e1.1), .va (D.str e1.2)], rfl, fun _ hw => ⟨_, x_uC (xaC (xV rfl) (xaC (xV rfl) xaN)) (f_cuW (@simu_row_heard e1.2 e1.1 _ hw) rfl rfl), rfl⟩⟩) h3) rfl
theorem simu_heard {text : Str} {r : (List ((Int × Int) × Str × Int × Str)) ⊕ Exc} (e : shu_heard text = some r) : υ_heard [D.str text] = some (KU (fun v => R.tm (List.map (eP4 (eP2 D.int D.int) D.str D.int D.str) v)) r) := sim_ups (m := m_heard) (N := 3) (n := 1) (ds := [D.str text]) (s := shu_heard text) (k := (fun v => R.tm (List.map (eP4 (eP2 D.int D.int) D.str D.int D.str) v))) rfl simK_heard e
noncomputable def sh__law_cell_at (script : (List Int)) (k_v : Int) : Option Int :=
  if (decide (k_v < (List.length script : Int))) = true then
      b1 (atI script k_v) fun t1 =>
      some t1
  else
    some (0 : Int)
set_option maxHeartbeats 2000000 in
theorem sim__law_cell_at {script : (List Int)} {k_v : Int} {r : Int} (e : sh__law_cell_at script k_v = some r) : φ__law_cell_at [eRL script, D.int k_v] = some ((fun v => R.va (D.int v)) r) := by
  refine sim_phi (m := m__law_cell_at) (N := 2) (n := 2) (ds := [eRL script, D.int k_v]) (s := sh__law_cell_at script k_v) (k := (fun v => R.va (D.int v))) rfl ?_ e
  show J m__law_cell_at nxt [.va (eRL script), .va (D.int k_v)] (sh__law_cell_at script k_v) (PF (fun v => R.va (D.int v)))
  unfold m__law_cell_at sh__law_cell_at
  refine j_if (t_val (x2 (xV rfl) (xA (xaC (xV rfl) xaN) (f_lenR rfl)) (oLt_def _ _))) (fun hc => ?_) (fun hc => ?_)
  · refine j_b1 fun t1 h1 => ?_
    exact j_ret (x2 (xV rfl) (xV rfl) (f_ixR rfl h1)) rfl
  · refine j_nilC ?_
    exact j_ret rfl rfl
noncomputable def sh__law_mix (cell : Int) (factor : Int) : Option Int :=
  grd (CMulB cell factor) <|
  lt (((cell * factor) + (12345 : Int)) % (2147483647 : Int)) fun (mixed : Int) =>
  grd (CMulB mixed mixed) <|
  some (((mixed * mixed) % (2147483629 : Int)) / (3 : Int))
set_option maxHeartbeats 2000000 in
theorem sim__law_mix {cell : Int} {factor : Int} {r : Int} (e : sh__law_mix cell factor = some r) : φ__law_mix [D.int cell, D.int factor] = some ((fun v => R.va (D.int v)) r) := by
  refine sim_phi (m := m__law_mix) (N := 3) (n := 2) (ds := [D.int cell, D.int factor]) (s := sh__law_mix cell factor) (k := (fun v => R.va (D.int v))) rfl ?_ e
  show J m__law_mix nxt [.va (D.int cell), .va (D.int factor), .un] (sh__law_mix cell factor) (PF (fun v => R.va (D.int v)))
  unfold m__law_mix sh__law_mix
  refine j_grd fun h1 => ?_
  refine j_setN (i := 2) (g1 := [.va (D.int cell), .va (D.int factor), .va (D.int (((cell * factor) + (12345 : Int)) % (2147483647 : Int)))]) (x2 (x2 (x2 (xV rfl) (xV rfl) (f_mul h1)) rfl (oAdd_int _ _)) rfl (f_modK (by decide))) rfl ?_
  refine j_lt (fun (mixed : Int) => [.va (D.int cell), .va (D.int factor), .va (D.int mixed)]) fun mixed => ?_
  refine j_grd fun h2 => ?_
  exact j_ret (x2 (x2 (x2 (xV rfl) (xV rfl) (f_mul h2)) rfl (f_modK (by decide))) rfl (f_divK (by decide))) rfl
theorem zipL_same : ∀ xs : List D, zipL xs xs = xs.map fun x => .tup [x, x]
  | [] => rfl
  | x :: xs => by
    rw [List.map_cons, ← zipL_same xs]
    rfl
theorem same_seq (φ : Phi) (mk : List D → D) (xs : List D) (hm : mk = .lst ∨ mk = .tup) (hl : xs.length ≤ 1000000) (ih : ∀ x ∈ xs, φ [x, x] = some (.va (.bl true))) : phi (mr__law_same φ) 4 2 [mk xs, mk xs] = some (.va (.bl true)) := by
  have hcp := compL_map (gT (gC (gN 2) (gC (gN 3) (gE)))) bY (eA (callR φ []) (aC (eV 2) (aC (eV 3) (aN)))) [.va (mk xs), .va (mk xs), .un, .un] (fun x : D => D.tup [x, x]) (fun _ => D.bl true) xs (by
    intro x hx rest
    simp [ih x hx])
  have hz := zipL_same xs
  have ha : cAll [R.va (.lst (xs.map fun _ => D.bl true))] = some (.va (.bl true)) := by
    rw [cAll_def (ns := xs.map fun _ => true) (by simp)]
    simp
  have hl2 : xs.length ≤ 16777216 := by omega
  rcases hm with rfl | rfl
  · simp [mr__law_same, phi_def, hz, hcp, hl2, ha]
  · simp [mr__law_same, phi_def, hz, hcp, hl2, ha]
theorem same_non (n : Nat) : φr__law_same (n + 1) [.non, .non] = some (.va (.bl true)) := by simp [φr__law_same, mr__law_same, phi_def]
theorem same_bl (n : Nat) (b : Bool) : φr__law_same (n + 1) [.bl b, .bl b] = some (.va (.bl true)) := by cases b <;> simp [φr__law_same, mr__law_same, phi_def]
theorem same_int (n : Nat) (i : Int) : φr__law_same (n + 1) [.int i, .int i] = some (.va (.bl true)) := by simp [φr__law_same, mr__law_same, phi_def]
theorem same_str (n : Nat) (z : Str) : φr__law_same (n + 1) [.str z, .str z] = some (.va (.bl true)) := by simp [φr__law_same, mr__law_same, phi_def]
theorem same_refl (n : Nat) : ∀ d : D, pl n d = true → φr__law_same (n + 1) [d, d] = some (.va (.bl true)) := by
  induction n with
  | zero =>
    intro d h
    cases d with
    | non => exact same_non 0
    | bl b => exact same_bl 0 b
    | int i => exact same_int 0 i
    | str z => exact same_str 0 z
    | lst xs => cases h
    | tup xs => cases h
    | ins c fs => cases h
    | rol xs => cases h
    | dic ks xs => cases h
    | exc c fs => cases h
    | opq a => cases h
  | succ n ih =>
    intro d h
    have hR : φr__law_same (n + 2) = phi (mr__law_same (φr__law_same (n + 1))) 4 2 := rfl
    cases d with
    | non => exact same_non _
    | bl b => exact same_bl _ b
    | int i => exact same_int _ i
    | str z => exact same_str _ z
    | lst xs =>
      unfold pl at h
      rw [Bool.and_eq_true, decide_eq_true_eq, List.all_eq_true] at h
      rw [hR]
      exact same_seq (φr__law_same (n + 1)) .lst xs (.inl rfl) h.1 fun x hx => ih x (h.2 x hx)
    | tup xs =>
      unfold pl at h
      rw [Bool.and_eq_true, decide_eq_true_eq, List.all_eq_true] at h
      rw [hR]
      exact same_seq (φr__law_same (n + 1)) .tup xs (.inr rfl) h.1 fun x hx => ih x (h.2 x hx)
    | ins c fs => cases h
    | rol xs => cases h
    | dic ks xs => cases h
    | exc c fs => cases h
    | opq a => cases h
noncomputable def sh__law_same (a b : D) : Option Bool := sameG a b
theorem sim__law_same {a b : D} {r : Bool} (e : sh__law_same a b = some r) : φ__law_same [eD a, eD b] = some (.va (.bl r)) := by
  obtain ⟨rfl, h, rfl⟩ := sameG_inv e
  exact same_refl 9 a h
noncomputable def sh__law_word (cell : Int) (k_v : Int) : Option Str :=
  lt ("abcdefghijklmnopqrstuvwxyz" : Str) fun (letters : Str) =>
  lt ((1 : Int) + (cell % (12 : Int))) fun (size : Int) =>
  grd (size ≠ 0) <|
  lt (Int.fmod (cell / (12 : Int)) size) fun (place : Int) =>
  lt ("" : Str) fun (word_here : Str) =>
  grd (-4611686018427387904 ≤ size ∧ size < 4611686018427387904) <|
  b1 (forO (fun (e3 : Int) (st3 : Str) =>
      grd (CMulB e3 e3) <|
      grd (CMulB (e3 * e3) ((cell / (7 : Int)) % (3 : Int))) <|
      lt ((e3 * e3) * ((cell / (7 : Int)) % (3 : Int))) fun (far : Int) =>
      b1 (if (decide (e3 = place)) = true then
          grd (CMulB (3 : Int) k_v) <|
          lt ((cell / (97 : Int)) + ((3 : Int) * k_v)) fun (far' : Int) =>
          some far'
        else
          some far) fun far'2 =>
      grd (Str.length letters ≤ 16777216) <|
      b1 (sgAt letters (((cell / (144 : Int)) + far'2) % (26 : Int))) fun t1 =>
      grd (Str.length st3 + Str.length t1 ≤ 16777216) <|
      lt (st3 ++ t1) fun (word_here' : Str) =>
      some word_here') (rgI 0 size) word_here) fun word_here'2 =>
  some word_here'2
set_option maxHeartbeats 2000000 in
theorem sim__law_word {cell : Int} {k_v : Int} {r : Str} (e : sh__law_word cell k_v = some r) : φ__law_word [D.int cell, D.int k_v] = some ((fun v => R.va (D.str v)) r) := by
  refine sim_phi (m := m__law_word) (N := 8) (n := 2) (ds := [D.int cell, D.int k_v]) (s := sh__law_word cell k_v) (k := (fun v => R.va (D.str v))) rfl ?_ e
  show J m__law_word nxt [.va (D.int cell), .va (D.int k_v), .un, .un, .un, .un, .un, .un] (sh__law_word cell k_v) (PF (fun v => R.va (D.str v)))
  unfold m__law_word sh__law_word
  refine j_setN (i := 2) (g1 := [.va (D.int cell), .va (D.int k_v), .va (D.str ("abcdefghijklmnopqrstuvwxyz" : Str)), .un, .un, .un, .un, .un]) rfl rfl ?_
  refine j_lt (fun (letters : Str) => [.va (D.int cell), .va (D.int k_v), .va (D.str letters), .un, .un, .un, .un, .un]) fun letters => ?_
  refine j_setN (i := 3) (g1 := [.va (D.int cell), .va (D.int k_v), .va (D.str letters), .va (D.int ((1 : Int) + (cell % (12 : Int)))), .un, .un, .un, .un]) (x2 rfl (x2 (xV rfl) rfl (f_modK (by decide))) (oAdd_int _ _)) rfl ?_
  refine j_lt (fun (size : Int) => [.va (D.int cell), .va (D.int k_v), .va (D.str letters), .va (D.int size), .un, .un, .un, .un]) fun size => ?_
  refine j_grd fun h1 => ?_
  refine j_setN (i := 4) (g1 := [.va (D.int cell), .va (D.int k_v), .va (D.str letters), .va (D.int size), .va (D.int (Int.fmod (cell / (12 : Int)) size)), .un, .un, .un]) (x2 (x2 (xV rfl) rfl (f_divK (by decide))) (xV rfl) (f_mod h1)) rfl ?_
  refine j_lt (fun (place : Int) => [.va (D.int cell), .va (D.int k_v), .va (D.str letters), .va (D.int size), .va (D.int place), .un, .un, .un]) fun place => ?_
  refine j_setN (i := 5) (g1 := [.va (D.int cell), .va (D.int k_v), .va (D.str letters), .va (D.int size), .va (D.int place), .va (D.str ("" : Str)), .un, .un]) rfl rfl ?_
  refine j_lt (fun (word_here : Str) => [.va (D.int cell), .va (D.int k_v), .va (D.str letters), .va (D.int size), .va (D.int place), .va (D.str word_here), .un, .un]) fun word_here => ?_
  refine j_grd fun h2 => ?_
  refine j_for D.int (fun (st : Str) (g : Gm) => ∃ s1 s2 : Slot, g = [.va (D.int cell), .va (D.int k_v), .va (D.str letters), .va (D.int size), .va (D.int place), .va (D.str st), s2, s1]) (i_A (xaC (xV rfl) xaN) (f_rg1 h2)) rfl ⟨_, _, rfl⟩ ?_ ?_
  · rintro e3 hx st3 g ⟨s1, s2, rfl⟩
    refine ⟨[.va (D.int cell), .va (D.int k_v), .va (D.str letters), .va (D.int size), .va (D.int place), .va (D.str st3), .va (D.int e3), s1], rfl, ?_⟩
    refine j_grd fun h3 => ?_
    refine j_grd fun h4 => ?_
    refine j_setN (i := 7) (g1 := [.va (D.int cell), .va (D.int k_v), .va (D.str letters), .va (D.int size), .va (D.int place), .va (D.str st3), .va (D.int e3), .va (D.int ((e3 * e3) * ((cell / (7 : Int)) % (3 : Int))))]) (x2 (x2 (xV rfl) (xV rfl) (f_mul h3)) (x2 (x2 (xV rfl) rfl (f_divK (by decide))) rfl (f_modK (by decide))) (f_mul h4)) rfl ?_
    refine j_lt (fun (far : Int) => [.va (D.int cell), .va (D.int k_v), .va (D.str letters), .va (D.int size), .va (D.int place), .va (D.str st3), .va (D.int e3), .va (D.int far)]) fun far => ?_
    refine j_joinB (St := fun (st : Int) (g : Gm) => g = [.va (D.int cell), .va (D.int k_v), .va (D.str letters), .va (D.int size), .va (D.int place), .va (D.str st3), .va (D.int e3), .va (D.int st)]) (t_val (x2 (xV rfl) (xV rfl) (oEq_int _ _))) (fun hc => ?_) (fun hc => ?_) ?_
    · refine j_grd fun h5 => ?_
      refine j_setN (i := 7) (g1 := [.va (D.int cell), .va (D.int k_v), .va (D.str letters), .va (D.int size), .va (D.int place), .va (D.str st3), .va (D.int e3), .va (D.int ((cell / (97 : Int)) + ((3 : Int) * k_v)))]) (x2 (x2 (xV rfl) rfl (f_divK (by decide))) (x2 rfl (xV rfl) (f_mul h5)) (oAdd_int _ _)) rfl ?_
      refine j_lt (fun (far' : Int) => [.va (D.int cell), .va (D.int k_v), .va (D.str letters), .va (D.int size), .va (D.int place), .va (D.str st3), .va (D.int e3), .va (D.int far')]) fun far' => ?_
      exact jn_end rfl
    · exact jn_end rfl
    rintro far'2 g rfl
    refine j_grd fun h6 => ?_
    refine j_b1 fun t1 h7 => ?_
    refine j_grd fun h8 => ?_
    refine j_setN (i := 5) (g1 := [.va (D.int cell), .va (D.int k_v), .va (D.str letters), .va (D.int size), .va (D.int place), .va (D.str (st3 ++ t1)), .va (D.int e3), .va (D.int far'2)]) (x2 (xV rfl) (x2 (xV rfl) (x2 (x2 (x2 (xV rfl) rfl (f_divK (by decide))) (xV rfl) (oAdd_int _ _)) rfl (f_modK (by decide))) (f_ixS h6 h7)) (f_addS h8)) rfl ?_
    refine j_lt (fun (word_here' : Str) => [.va (D.int cell), .va (D.int k_v), .va (D.str letters), .va (D.int size), .va (D.int place), .va (D.str word_here'), .va (D.int e3), .va (D.int far'2)]) fun word_here' => ?_
    exact jt_end ⟨_, _, rfl⟩
  rintro word_here'2 g ⟨s1, s2, rfl⟩
  exact j_ret (xV rfl) rfl
noncomputable def sh__law_shared (one : Int) (other : Int) : Option Int :=
  b1 (whO (fun (st2 : Int × Int) => some (decide ((0 : Int) < st2.2))) (fun (st2 : Int × Int) =>
      grd (st2.2 ≠ 0) <|
      lt (Int.fmod st2.1 st2.2) fun (kept : Int) =>
      lt (st2.2) fun (one' : Int) =>
      some (one', kept)) FUEL (one, other)) fun u1 =>
  some u1.1
set_option maxHeartbeats 2000000 in
theorem sim__law_shared {one : Int} {other : Int} {r : Int} (e : sh__law_shared one other = some r) : φ__law_shared [D.int one, D.int other] = some ((fun v => R.va (D.int v)) r) := by
  refine sim_phi (m := m__law_shared) (N := 3) (n := 2) (ds := [D.int one, D.int other]) (s := sh__law_shared one other) (k := (fun v => R.va (D.int v))) rfl ?_ e
  show J m__law_shared nxt [.va (D.int one), .va (D.int other), .un] (sh__law_shared one other) (PF (fun v => R.va (D.int v)))
  unfold m__law_shared sh__law_shared
  refine j_wh (F := FUEL) (fun (st : Int × Int) (g : Gm) => ∃ s1 : Slot, g = [.va (D.int st.1), .va (D.int st.2), s1]) ⟨_, rfl⟩ ?_ ?_ ?_
  · rintro st2 g ⟨s1, rfl⟩
    exact (sm_ret (t_val (x2 (xV rfl) rfl (oGt_def _ _))) rfl)
  · rintro st2 g ⟨s1, rfl⟩
    refine j_grd fun h1 => ?_
    refine j_setN (i := 2) (g1 := [.va (D.int st2.1), .va (D.int st2.2), .va (D.int (Int.fmod st2.1 st2.2))]) (x2 (xV rfl) (xV rfl) (f_mod h1)) rfl ?_
    refine j_lt (fun (kept : Int) => [.va (D.int st2.1), .va (D.int st2.2), .va (D.int kept)]) fun kept => ?_
    refine j_setN (i := 0) (g1 := [.va (D.int st2.2), .va (D.int st2.2), .va (D.int kept)]) (xV rfl) rfl ?_
    refine j_lt (fun (one' : Int) => [.va (D.int one'), .va (D.int st2.2), .va (D.int kept)]) fun one' => ?_
    refine j_setN (i := 1) (g1 := [.va (D.int one'), .va (D.int kept), .va (D.int kept)]) (xV rfl) rfl ?_
    exact jt_end ⟨_, rfl⟩
  rintro u1 g ⟨s1, rfl⟩
  exact j_ret (xV rfl) rfl
noncomputable def sh__law_time (cell : Int) (m_v : Int) : Option (Int × Int) :=
  b1 (atI ([(m_v % (50 : Int)), (cell % (1000000000000000000000000000000 : Int)), (0 : Int), m_v] : List Int) (m_v % (4 : Int))) fun top =>
  b1 (atI ([(1 : Int), ((1 : Int) + ((m_v / (4 : Int)) % (12 : Int))), (27720 : Int), ((1 : Int) + ((cell / (7 : Int)) % (1000000000000000000000000000000 : Int)))] : List Int) ((m_v / (64 : Int)) % (4 : Int))) fun bottom =>
  b1 (sh__law_shared top bottom) fun by_v =>
  grd (CDivB top by_v) <|
  grd (CDivB bottom by_v) <|
  some ((Int.fdiv top by_v), (Int.fdiv bottom by_v))
set_option maxHeartbeats 2000000 in
theorem sim__law_time {cell : Int} {m_v : Int} {r : (Int × Int)} (e : sh__law_time cell m_v = some r) : φ__law_time [D.int cell, D.int m_v] = some ((fun v => R.va ((eP2 D.int D.int) v)) r) := by
  refine sim_phi (m := m__law_time) (N := 5) (n := 2) (ds := [D.int cell, D.int m_v]) (s := sh__law_time cell m_v) (k := (fun v => R.va ((eP2 D.int D.int) v))) rfl ?_ e
  show J m__law_time nxt [.va (D.int cell), .va (D.int m_v), .un, .un, .un] (sh__law_time cell m_v) (PF (fun v => R.va ((eP2 D.int D.int) v)))
  unfold m__law_time sh__law_time
  refine j_b1 fun top h1 => ?_
  refine j_setN (i := 2) (g1 := [.va (D.int cell), .va (D.int m_v), .va (D.int top), .un, .un]) (x2 (xA (xaC (x2 (xV rfl) rfl (f_modK (by decide))) (xaC (x2 (xV rfl) (x2 rfl rfl (f_powK (by decide) (by decide))) (f_modK (by decide))) (xaC rfl (xaC (xV rfl) xaN)))) (f_lst rfl rfl rfl)) (x2 (xV rfl) rfl (f_modK (by decide))) (f_ixL (e := D.int) (xs := [(m_v % (50 : Int)), (cell % (1000000000000000000000000000000 : Int)), (0 : Int), m_v]) rfl h1)) rfl ?_
  refine j_b1 fun bottom h2 => ?_
  refine j_setN (i := 3) (g1 := [.va (D.int cell), .va (D.int m_v), .va (D.int top), .va (D.int bottom), .un]) (x2 (xA (xaC rfl (xaC (x2 rfl (x2 (x2 (xV rfl) rfl (f_divK (by decide))) rfl (f_modK (by decide))) (oAdd_int _ _)) (xaC rfl (xaC (x2 rfl (x2 (x2 (xV rfl) rfl (f_divK (by decide))) (x2 rfl rfl (f_powK (by decide) (by decide))) (f_modK (by decide))) (oAdd_int _ _)) xaN)))) (f_lst rfl rfl rfl)) (x2 (x2 (xV rfl) rfl (f_divK (by decide))) rfl (f_modK (by decide))) (f_ixL (e := D.int) (xs := [(1 : Int), ((1 : Int) + ((m_v / (4 : Int)) % (12 : Int))), (27720 : Int), ((1 : Int) + ((cell / (7 : Int)) % (1000000000000000000000000000000 : Int)))]) rfl h2)) rfl ?_
  refine j_b1 fun by_v h3 => ?_
  refine j_setN (i := 4) (g1 := [.va (D.int cell), .va (D.int m_v), .va (D.int top), .va (D.int bottom), .va (D.int by_v)]) (xA (xaC (xV rfl) (xaC (xV rfl) xaN)) (f_call (@sim__law_shared top bottom _ h3) rfl (.inl rfl))) rfl ?_
  refine j_grd fun h4 => ?_
  refine j_grd fun h5 => ?_
  exact j_ret (xA (xaC (x2 (xV rfl) (xV rfl) (f_div h4)) (xaC (x2 (xV rfl) (xV rfl) (f_div h5)) xaN)) (f_tup rfl rfl rfl)) rfl
noncomputable def sh__law_row (cell : Int) (k_v : Int) : Option ((Int × Int) × Str × Int × Str) :=
  grd (CMulB (101 : Int) k_v) <|
  b1 (sh__law_mix (cell + ((101 : Int) * k_v)) (48271 : Int)) fun m_v =>
  grd (CMulB (101 : Int) k_v) <|
  b1 (sh__law_mix (cell + ((101 : Int) * k_v)) (16807 : Int)) fun n_v =>
  b1 (atI ([("off" : Str), ("end" : Str), ("start" : Str), ("come" : Str), ("on" : Str)] : List Str) ((m_v / (3 : Int)) % (5 : Int))) fun word_here =>
  lt ("" : Str) fun (bridge : Str) =>
  grd (PyData.strOk word_here = true ∧ List.all ([("end" : Str), ("start" : Str)] : List Str) PyData.strOk = true) <|
  b1 (if (!decide (word_here ∈ ([("end" : Str), ("start" : Str)] : List Str))) = true then
      b1 (sh__law_word n_v ((n_v / (5 : Int)) % (3 : Int))) fun bridge' =>
      some bridge'
    else
      some bridge) fun bridge'2 =>
  b1 (atI ([(n_v % (10 : Int)), (cell % (1000000000000000000000000000000 : Int))] : List Int) (((n_v / (10 : Int)) % (3 : Int)) / (2 : Int))) fun cart =>
  b1 (sh__law_time cell m_v) fun t6 =>
  some (t6, word_here, cart, bridge'2)
set_option maxHeartbeats 2000000 in
theorem sim__law_row {cell : Int} {k_v : Int} {r : ((Int × Int) × Str × Int × Str)} (e : sh__law_row cell k_v = some r) : φ__law_row [D.int cell, D.int k_v] = some ((fun v => R.va ((eP4 (eP2 D.int D.int) D.str D.int D.str) v)) r) := by
  refine sim_phi (m := m__law_row) (N := 7) (n := 2) (ds := [D.int cell, D.int k_v]) (s := sh__law_row cell k_v) (k := (fun v => R.va ((eP4 (eP2 D.int D.int) D.str D.int D.str) v))) rfl ?_ e
  show J m__law_row nxt [.va (D.int cell), .va (D.int k_v), .un, .un, .un, .un, .un] (sh__law_row cell k_v) (PF (fun v => R.va ((eP4 (eP2 D.int D.int) D.str D.int D.str) v)))
  unfold m__law_row sh__law_row
  refine j_grd fun h1 => ?_
  refine j_b1 fun m_v h2 => ?_
  refine j_setN (i := 2) (g1 := [.va (D.int cell), .va (D.int k_v), .va (D.int m_v), .un, .un, .un, .un]) (xA (xaC (x2 (xV rfl) (x2 rfl (xV rfl) (f_mul h1)) (oAdd_int _ _)) (xaC rfl xaN)) (f_call (@sim__law_mix (cell + ((101 : Int) * k_v)) (48271 : Int) _ h2) rfl (.inl rfl))) rfl ?_
  refine j_grd fun h3 => ?_
  refine j_b1 fun n_v h4 => ?_
  refine j_setN (i := 3) (g1 := [.va (D.int cell), .va (D.int k_v), .va (D.int m_v), .va (D.int n_v), .un, .un, .un]) (xA (xaC (x2 (xV rfl) (x2 rfl (xV rfl) (f_mul h3)) (oAdd_int _ _)) (xaC rfl xaN)) (f_call (@sim__law_mix (cell + ((101 : Int) * k_v)) (16807 : Int) _ h4) rfl (.inl rfl))) rfl ?_
  refine j_b1 fun word_here h5 => ?_
  refine j_setN (i := 4) (g1 := [.va (D.int cell), .va (D.int k_v), .va (D.int m_v), .va (D.int n_v), .va (D.str word_here), .un, .un]) (x2 (xA (xaC rfl (xaC rfl (xaC rfl (xaC rfl (xaC rfl xaN))))) (f_lst rfl rfl rfl)) (x2 (x2 (xV rfl) rfl (f_divK (by decide))) rfl (f_modK (by decide))) (f_ixL (e := D.str) (xs := [("off" : Str), ("end" : Str), ("start" : Str), ("come" : Str), ("on" : Str)]) rfl h5)) rfl ?_
  refine j_setN (i := 5) (g1 := [.va (D.int cell), .va (D.int k_v), .va (D.int m_v), .va (D.int n_v), .va (D.str word_here), .va (D.str ("" : Str)), .un]) rfl rfl ?_
  refine j_lt (fun (bridge : Str) => [.va (D.int cell), .va (D.int k_v), .va (D.int m_v), .va (D.int n_v), .va (D.str word_here), .va (D.str bridge), .un]) fun bridge => ?_
  refine j_grd fun h6 => ?_
  refine j_joinB (St := fun (st : Str) (g : Gm) => g = [.va (D.int cell), .va (D.int k_v), .va (D.int m_v), .va (D.int n_v), .va (D.str word_here), .va (D.str st), .un]) (t_val (x2 (xV rfl) (xA (xaC rfl (xaC rfl xaN)) (f_lst rfl rfl rfl)) (f_nin2 (inR_str (z := word_here) (zs := ([("end" : Str), ("start" : Str)] : List Str)) rfl (.inl rfl) h6)))) (fun hc => ?_) (fun hc => ?_) ?_
  · refine j_b1 fun bridge' h7 => ?_
    refine j_setN (i := 5) (g1 := [.va (D.int cell), .va (D.int k_v), .va (D.int m_v), .va (D.int n_v), .va (D.str word_here), .va (D.str bridge'), .un]) (xA (xaC (xV rfl) (xaC (x2 (x2 (xV rfl) rfl (f_divK (by decide))) rfl (f_modK (by decide))) xaN)) (f_call (@sim__law_word n_v ((n_v / (5 : Int)) % (3 : Int)) _ h7) rfl (.inl rfl))) rfl ?_
    exact jn_end rfl
  · exact jn_end rfl
  rintro bridge'2 g rfl
  refine j_b1 fun cart h8 => ?_
  refine j_setN (i := 6) (g1 := [.va (D.int cell), .va (D.int k_v), .va (D.int m_v), .va (D.int n_v), .va (D.str word_here), .va (D.str bridge'2), .va (D.int cart)]) (x2 (xA (xaC (x2 (xV rfl) rfl (f_modK (by decide))) (xaC (x2 (xV rfl) (x2 rfl rfl (f_powK (by decide) (by decide))) (f_modK (by decide))) xaN)) (f_lst rfl rfl rfl)) (x2 (x2 (x2 (xV rfl) rfl (f_divK (by decide))) rfl (f_modK (by decide))) rfl (f_divK (by decide))) (f_ixL (e := D.int) (xs := [(n_v % (10 : Int)), (cell % (1000000000000000000000000000000 : Int))]) rfl h8)) rfl ?_
  refine j_b1 fun t6 h9 => ?_
  exact j_ret (xA (xaC (xA (xaC (xV rfl) (xaC (xV rfl) xaN)) (f_call (@sim__law_time cell m_v _ h9) rfl (.inl rfl))) (xaC (xV rfl) (xaC (xV rfl) (xaC (xV rfl) xaN)))) (f_tup rfl rfl rfl)) rfl
noncomputable def sh__law_text_of (row_here : ((Int × Int) × Str × Int × Str)) : Option Str :=
  grd (Nat.log2 (Int.natAbs row_here.1.1) < 1920) <|
  lt (toString row_here.1.1 : Str) fun (text : Str) =>
  b1 (if (!decide (row_here.1.2 = (1 : Int))) = true then
      grd (Str.length text + Str.length ("/" : Str) ≤ 16777216) <|
      grd (Nat.log2 (Int.natAbs row_here.1.2) < 1920) <|
      grd (Str.length (text ++ ("/" : Str)) + Str.length (toString row_here.1.2 : Str) ≤ 16777216) <|
      lt ((text ++ ("/" : Str)) ++ (toString row_here.1.2 : Str)) fun (text' : Str) =>
      some text'
    else
      some text) fun text'2 =>
  grd (Str.length text'2 + Str.length (" " : Str) ≤ 16777216) <|
  grd (Str.length (text'2 ++ (" " : Str)) + Str.length row_here.2.1 ≤ 16777216) <|
  grd (Str.length ((text'2 ++ (" " : Str)) ++ row_here.2.1) + Str.length (" " : Str) ≤ 16777216) <|
  grd (Nat.log2 (Int.natAbs (row_here.2.2.1 + (1 : Int))) < 1920) <|
  grd (Str.length (((text'2 ++ (" " : Str)) ++ row_here.2.1) ++ (" " : Str)) + Str.length (toString (row_here.2.2.1 + (1 : Int)) : Str) ≤ 16777216) <|
  lt ((((text'2 ++ (" " : Str)) ++ row_here.2.1) ++ (" " : Str)) ++ (toString (row_here.2.2.1 + (1 : Int)) : Str)) fun (text'3 : Str) =>
  b1 (if (!decide (row_here.2.2.2 = ("" : Str))) = true then
      grd (Str.length text'3 + Str.length (" " : Str) ≤ 16777216) <|
      grd (Str.length (text'3 ++ (" " : Str)) + Str.length row_here.2.2.2 ≤ 16777216) <|
      lt ((text'3 ++ (" " : Str)) ++ row_here.2.2.2) fun (text'4 : Str) =>
      some text'4
    else
      some text'3) fun text'5 =>
  some text'5
set_option maxHeartbeats 2000000 in
theorem sim__law_text_of {row_here : ((Int × Int) × Str × Int × Str)} {r : Str} (e : sh__law_text_of row_here = some r) : φ__law_text_of [(eP4 (eP2 D.int D.int) D.str D.int D.str) row_here] = some ((fun v => R.va (D.str v)) r) := by
  refine sim_phi (m := m__law_text_of) (N := 6) (n := 1) (ds := [(eP4 (eP2 D.int D.int) D.str D.int D.str) row_here]) (s := sh__law_text_of row_here) (k := (fun v => R.va (D.str v))) rfl ?_ e
  show J m__law_text_of nxt [.va ((eP4 (eP2 D.int D.int) D.str D.int D.str) row_here), .un, .un, .un, .un, .un] (sh__law_text_of row_here) (PF (fun v => R.va (D.str v)))
  unfold m__law_text_of sh__law_text_of
  refine j_asg (g1 := [.va ((eP4 (eP2 D.int D.int) D.str D.int D.str) row_here), .un, .va ((eP2 D.int D.int) row_here.1), .va (D.str row_here.2.1), .va (D.int row_here.2.2.1), .va (D.str row_here.2.2.2)]) (xV rfl) rfl ?_
  refine j_grd fun h1 => ?_
  refine j_setN (i := 1) (g1 := [.va ((eP4 (eP2 D.int D.int) D.str D.int D.str) row_here), .va (D.str (toString row_here.1.1 : Str)), .va ((eP2 D.int D.int) row_here.1), .va (D.str row_here.2.1), .va (D.int row_here.2.2.1), .va (D.str row_here.2.2.2)]) (xA (xaC (x2 (xV rfl) rfl (f_ixC 0 rfl)) xaN) (f_strI h1)) rfl ?_
  refine j_lt (fun (text : Str) => [.va ((eP4 (eP2 D.int D.int) D.str D.int D.str) row_here), .va (D.str text), .va ((eP2 D.int D.int) row_here.1), .va (D.str row_here.2.1), .va (D.int row_here.2.2.1), .va (D.str row_here.2.2.2)]) fun text => ?_
  refine j_joinB (St := fun (st : Str) (g : Gm) => g = [.va ((eP4 (eP2 D.int D.int) D.str D.int D.str) row_here), .va (D.str st), .va ((eP2 D.int D.int) row_here.1), .va (D.str row_here.2.1), .va (D.int row_here.2.2.1), .va (D.str row_here.2.2.2)]) (t_val (x2 (x2 (xV rfl) rfl (f_ixC 1 rfl)) rfl (oNe_int _ _))) (fun hc => ?_) (fun hc => ?_) ?_
  · refine j_grd fun h2 => ?_
    refine j_grd fun h3 => ?_
    refine j_grd fun h4 => ?_
    refine j_setN (i := 1) (g1 := [.va ((eP4 (eP2 D.int D.int) D.str D.int D.str) row_here), .va (D.str ((text ++ ("/" : Str)) ++ (toString row_here.1.2 : Str))), .va ((eP2 D.int D.int) row_here.1), .va (D.str row_here.2.1), .va (D.int row_here.2.2.1), .va (D.str row_here.2.2.2)]) (x2 (x2 (xV rfl) rfl (f_addS h2)) (xA (xaC (x2 (xV rfl) rfl (f_ixC 1 rfl)) xaN) (f_strI h3)) (f_addS h4)) rfl ?_
    refine j_lt (fun (text' : Str) => [.va ((eP4 (eP2 D.int D.int) D.str D.int D.str) row_here), .va (D.str text'), .va ((eP2 D.int D.int) row_here.1), .va (D.str row_here.2.1), .va (D.int row_here.2.2.1), .va (D.str row_here.2.2.2)]) fun text' => ?_
    exact jn_end rfl
  · exact jn_end rfl
  rintro text'2 g rfl
  refine j_grd fun h5 => ?_
  refine j_grd fun h6 => ?_
  refine j_grd fun h7 => ?_
  refine j_grd fun h8 => ?_
  refine j_grd fun h9 => ?_
  refine j_setN (i := 1) (g1 := [.va ((eP4 (eP2 D.int D.int) D.str D.int D.str) row_here), .va (D.str ((((text'2 ++ (" " : Str)) ++ row_here.2.1) ++ (" " : Str)) ++ (toString (row_here.2.2.1 + (1 : Int)) : Str))), .va ((eP2 D.int D.int) row_here.1), .va (D.str row_here.2.1), .va (D.int row_here.2.2.1), .va (D.str row_here.2.2.2)]) (x2 (x2 (x2 (x2 (xV rfl) rfl (f_addS h5)) (xV rfl) (f_addS h6)) rfl (f_addS h7)) (xA (xaC (x2 (xV rfl) rfl (oAdd_int _ _)) xaN) (f_strI h8)) (f_addS h9)) rfl ?_
  refine j_lt (fun (text'3 : Str) => [.va ((eP4 (eP2 D.int D.int) D.str D.int D.str) row_here), .va (D.str text'3), .va ((eP2 D.int D.int) row_here.1), .va (D.str row_here.2.1), .va (D.int row_here.2.2.1), .va (D.str row_here.2.2.2)]) fun text'3 => ?_
  refine j_joinB (St := fun (st : Str) (g : Gm) => g = [.va ((eP4 (eP2 D.int D.int) D.str D.int D.str) row_here), .va (D.str st), .va ((eP2 D.int D.int) row_here.1), .va (D.str row_here.2.1), .va (D.int row_here.2.2.1), .va (D.str row_here.2.2.2)]) (t_val (x2 (xV rfl) rfl (f_ne eqR_str))) (fun hc => ?_) (fun hc => ?_) ?_
  · refine j_grd fun h10 => ?_
    refine j_grd fun h11 => ?_
    refine j_setN (i := 1) (g1 := [.va ((eP4 (eP2 D.int D.int) D.str D.int D.str) row_here), .va (D.str ((text'3 ++ (" " : Str)) ++ row_here.2.2.2)), .va ((eP2 D.int D.int) row_here.1), .va (D.str row_here.2.1), .va (D.int row_here.2.2.1), .va (D.str row_here.2.2.2)]) (x2 (x2 (xV rfl) rfl (f_addS h10)) (xV rfl) (f_addS h11)) rfl ?_
    refine j_lt (fun (text'4 : Str) => [.va ((eP4 (eP2 D.int D.int) D.str D.int D.str) row_here), .va (D.str text'4), .va ((eP2 D.int D.int) row_here.1), .va (D.str row_here.2.1), .va (D.int row_here.2.2.1), .va (D.str row_here.2.2.2)]) fun text'4 => ?_
    exact jn_end rfl
  · exact jn_end rfl
  rintro text'5 g rfl
  exact j_ret (xV rfl) rfl
noncomputable def sh__law_spoilt (row_here : ((Int × Int) × Str × Int × Str)) (n_v : Int) : Option Str :=
  b1 (sh__law_text_of row_here) fun t1 =>
  grd ((Str.length (" " : Str) == 0) = false ∧ Str.length t1 + 2 ≤ 16777216) <|
  lt (Txt.split t1 (" " : Str)) fun (words : (List Str)) =>
  lt (n_v % (8 : Int)) fun (way : Int) =>
  b1 (if (decide (way = (0 : Int))) = true then
      b1 (atI ([("-1" : Str), ("-1/2" : Str), ("2/4" : Str), ("0/3" : Str), ("1/1" : Str), ("1/0" : Str), ("x" : Str), ("01" : Str), ("1.5" : Str), ("+1" : Str), ("1//2" : Str), ("" : Str)] : List Str) ((n_v / (8 : Int)) % (12 : Int))) fun t2 =>
      b1 (setI words (0 : Int) t2) fun u3 =>
      some u3
    else
      some words) fun words' =>
  b1 (if (decide (way = (1 : Int))) = true then
      b1 (atI ([("Off" : Str), ("ons" : Str), ("stop" : Str), ("come1" : Str), ("offs" : Str), ("" : Str)] : List Str) ((n_v / (8 : Int)) % (6 : Int))) fun t4 =>
      b1 (setI words' (1 : Int) t4) fun u5 =>
      some u5
    else
      some words') fun words'2 =>
  b1 (if (decide (way = (2 : Int))) = true then
      b1 (atI words'2 (2 : Int)) fun t6 =>
      grd (Str.length ("0" : Str) + Str.length t6 ≤ 16777216) <|
      b1 (atI words'2 (2 : Int)) fun t7 =>
      grd (Str.length t7 + Str.length ("a" : Str) ≤ 16777216) <|
      b1 (atI ([("0" : Str), (("0" : Str) ++ t6), ("-1" : Str), ("x" : Str), ("" : Str), (t7 ++ ("a" : Str))] : List Str) ((n_v / (8 : Int)) % (6 : Int))) fun t8 =>
      b1 (setI words'2 (2 : Int) t8) fun u9 =>
      some u9
    else
      some words'2) fun words'3 =>
  b1 (if (decide (way = (3 : Int))) = true then
      b1 (atI ([("a" : Str), ("" : Str), ("abc" : Str)] : List Str) ((n_v / (8 : Int)) % (3 : Int))) fun t10 =>
      grd (List.length words'3 < 16777216) <|
      lt (words'3 ++ [t10]) fun (words'4 : (List Str)) =>
      some words'4
    else
      some words'3) fun words'5 =>
  b1 (if (decide (way = (4 : Int))) = true then
      grd (words'5 ≠ []) <|
      lt (List.dropLast words'5) fun (words'6 : (List Str)) =>
      some words'6
    else
      some words'5) fun words'7 =>
  b1 (if ((decide (way = (5 : Int))) && (!decide (row_here.2.2.2 = ("" : Str)))) = true then
      grd (Str.length row_here.2.2.2 + Str.length ("1" : Str) ≤ 16777216) <|
      b1 (atI ([("A" : Str), (row_here.2.2.2 ++ ("1" : Str)), ("abcdefghijklm" : Str), ("" : Str), ("a-b" : Str)] : List Str) ((n_v / (8 : Int)) % (5 : Int))) fun t11 =>
      b1 (setI words'7 (3 : Int) t11) fun u12 =>
      some u12
    else
      some words'7) fun words'8 =>
  b1 (if ((decide (way = (5 : Int))) && (decide (row_here.2.2.2 = ("" : Str)))) = true then
      b1 (atI ([("off" : Str), ("come" : Str), ("on" : Str)] : List Str) ((n_v / (8 : Int)) % (3 : Int))) fun t13 =>
      b1 (setI words'8 (1 : Int) t13) fun u14 =>
      some u14
    else
      some words'8) fun words'9 =>
  b1 (if ((decide (way = (6 : Int))) && (!decide (row_here.2.2.2 = ("" : Str)))) = true then
      b1 (atI ([("end" : Str), ("start" : Str)] : List Str) ((n_v / (8 : Int)) % (2 : Int))) fun t15 =>
      b1 (setI words'9 (1 : Int) t15) fun u16 =>
      some u16
    else
      some words'9) fun words'10 =>
  if (((decide (way = (6 : Int))) && (decide (row_here.2.2.2 = ("" : Str)))) || (decide (way = (7 : Int)))) = true then
      grd ((List.map Str.length words'10).sum + List.length words'10 * Str.length (" " : Str) ≤ 16777216) <|
      grd (Str.length (" " : Str) + Str.length (Txt.join (" " : Str) words'10) ≤ 16777216) <|
      grd ((List.map Str.length words'10).sum + List.length words'10 * Str.length (" " : Str) ≤ 16777216) <|
      grd (Str.length (Txt.join (" " : Str) words'10) + Str.length (" " : Str) ≤ 16777216) <|
      grd ((List.map Str.length words'10).sum + List.length words'10 * Str.length (" " : Str) ≤ 16777216) <|
      grd (Str.length (Txt.join (" " : Str) words'10) + Str.length ("\t" : Str) ≤ 16777216) <|
      grd ((List.map Str.length words'10).sum + List.length words'10 * Str.length ("  " : Str) ≤ 16777216) <|
      b1 (atI ([("" : Str), ((" " : Str) ++ (Txt.join (" " : Str) words'10)), ((Txt.join (" " : Str) words'10) ++ (" " : Str)), ((Txt.join (" " : Str) words'10) ++ ("\t" : Str)), (Txt.join ("  " : Str) words'10)] : List Str) ((n_v / (8 : Int)) % (5 : Int))) fun t17 =>
      some t17
  else
    grd ((List.map Str.length words'10).sum + List.length words'10 * Str.length (" " : Str) ≤ 16777216) <|
    some (Txt.join (" " : Str) words'10)
set_option maxHeartbeats 2000000 in
theorem sim__law_spoilt {row_here : ((Int × Int) × Str × Int × Str)} {n_v : Int} {r : Str} (e : sh__law_spoilt row_here n_v = some r) : φ__law_spoilt [(eP4 (eP2 D.int D.int) D.str D.int D.str) row_here, D.int n_v] = some ((fun v => R.va (D.str v)) r) := by
  refine sim_phi (m := m__law_spoilt) (N := 8) (n := 2) (ds := [(eP4 (eP2 D.int D.int) D.str D.int D.str) row_here, D.int n_v]) (s := sh__law_spoilt row_here n_v) (k := (fun v => R.va (D.str v))) rfl ?_ e
  show J m__law_spoilt nxt [.va ((eP4 (eP2 D.int D.int) D.str D.int D.str) row_here), .va (D.int n_v), .un, .un, .un, .un, .un, .un] (sh__law_spoilt row_here n_v) (PF (fun v => R.va (D.str v)))
  unfold m__law_spoilt sh__law_spoilt
  refine j_asg (g1 := [.va ((eP4 (eP2 D.int D.int) D.str D.int D.str) row_here), .va (D.int n_v), .un, .un, .va ((eP2 D.int D.int) row_here.1), .va (D.str row_here.2.1), .va (D.int row_here.2.2.1), .va (D.str row_here.2.2.2)]) (xV rfl) rfl ?_
  refine j_b1 fun t1 h1 => ?_
  refine j_grd fun h2 => ?_
  refine j_setTN (i := 2) (g1 := [.va ((eP4 (eP2 D.int D.int) D.str D.int D.str) row_here), .va (D.int n_v), .ow (List.map D.str (Txt.split t1 (" " : Str))), .un, .va ((eP2 D.int D.int) row_here.1), .va (D.str row_here.2.1), .va (D.int row_here.2.2.1), .va (D.str row_here.2.2.2)]) (x2 (xA (xaC (xV rfl) xaN) (f_call (@sim__law_text_of row_here _ h1) rfl (.inl rfl))) rfl (f_split h2)) rfl ?_
  refine j_lt (fun (words : (List Str)) => [.va ((eP4 (eP2 D.int D.int) D.str D.int D.str) row_here), .va (D.int n_v), .ow (List.map D.str words), .un, .va ((eP2 D.int D.int) row_here.1), .va (D.str row_here.2.1), .va (D.int row_here.2.2.1), .va (D.str row_here.2.2.2)]) fun words => ?_
  refine j_setN (i := 3) (g1 := [.va ((eP4 (eP2 D.int D.int) D.str D.int D.str) row_here), .va (D.int n_v), .ow (List.map D.str words), .va (D.int (n_v % (8 : Int))), .va ((eP2 D.int D.int) row_here.1), .va (D.str row_here.2.1), .va (D.int row_here.2.2.1), .va (D.str row_here.2.2.2)]) (x2 (xV rfl) rfl (f_modK (by decide))) rfl ?_
  refine j_lt (fun (way : Int) => [.va ((eP4 (eP2 D.int D.int) D.str D.int D.str) row_here), .va (D.int n_v), .ow (List.map D.str words), .va (D.int way), .va ((eP2 D.int D.int) row_here.1), .va (D.str row_here.2.1), .va (D.int row_here.2.2.1), .va (D.str row_here.2.2.2)]) fun way => ?_
  refine j_joinB (St := fun (st : (List Str)) (g : Gm) => g = [.va ((eP4 (eP2 D.int D.int) D.str D.int D.str) row_here), .va (D.int n_v), .ow (List.map D.str st), .va (D.int way), .va ((eP2 D.int D.int) row_here.1), .va (D.str row_here.2.1), .va (D.int row_here.2.2.1), .va (D.str row_here.2.2.2)]) (t_val (x2 (xV rfl) rfl (oEq_int _ _))) (fun hc => ?_) (fun hc => ?_) ?_
  · refine j_b1 fun t2 h3 => ?_
    refine j_b1 fun u3 h4 => ?_
    refine j_store (i := 2) (e := D.str) (xs := words) (g1 := [.va ((eP4 (eP2 D.int D.int) D.str D.int D.str) row_here), .va (D.int n_v), .ow (List.map D.str u3), .va (D.int way), .va ((eP2 D.int D.int) row_here.1), .va (D.str row_here.2.1), .va (D.int row_here.2.2.1), .va (D.str row_here.2.2.2)]) rfl (x2 (xA (xaC rfl (xaC rfl (xaC rfl (xaC rfl (xaC rfl (xaC rfl (xaC rfl (xaC rfl (xaC rfl (xaC rfl (xaC rfl (xaC rfl xaN)))))))))))) (f_lst rfl rfl rfl)) (x2 (x2 (xV rfl) rfl (f_divK (by decide))) rfl (f_modK (by decide))) (f_ixL (e := D.str) (xs := [("-1" : Str), ("-1/2" : Str), ("2/4" : Str), ("0/3" : Str), ("1/1" : Str), ("1/0" : Str), ("x" : Str), ("01" : Str), ("1.5" : Str), ("+1" : Str), ("1//2" : Str), ("" : Str)]) rfl h3)) rfl rfl rfl h4 rfl ?_
    exact jn_end rfl
  · exact jn_end rfl
  rintro words' g rfl
  refine j_joinB (St := fun (st : (List Str)) (g : Gm) => g = [.va ((eP4 (eP2 D.int D.int) D.str D.int D.str) row_here), .va (D.int n_v), .ow (List.map D.str st), .va (D.int way), .va ((eP2 D.int D.int) row_here.1), .va (D.str row_here.2.1), .va (D.int row_here.2.2.1), .va (D.str row_here.2.2.2)]) (t_val (x2 (xV rfl) rfl (oEq_int _ _))) (fun hc => ?_) (fun hc => ?_) ?_
  · refine j_b1 fun t4 h5 => ?_
    refine j_b1 fun u5 h6 => ?_
    refine j_store (i := 2) (e := D.str) (xs := words') (g1 := [.va ((eP4 (eP2 D.int D.int) D.str D.int D.str) row_here), .va (D.int n_v), .ow (List.map D.str u5), .va (D.int way), .va ((eP2 D.int D.int) row_here.1), .va (D.str row_here.2.1), .va (D.int row_here.2.2.1), .va (D.str row_here.2.2.2)]) rfl (x2 (xA (xaC rfl (xaC rfl (xaC rfl (xaC rfl (xaC rfl (xaC rfl xaN)))))) (f_lst rfl rfl rfl)) (x2 (x2 (xV rfl) rfl (f_divK (by decide))) rfl (f_modK (by decide))) (f_ixL (e := D.str) (xs := [("Off" : Str), ("ons" : Str), ("stop" : Str), ("come1" : Str), ("offs" : Str), ("" : Str)]) rfl h5)) rfl rfl rfl h6 rfl ?_
    exact jn_end rfl
  · exact jn_end rfl
  rintro words'2 g rfl
  refine j_joinB (St := fun (st : (List Str)) (g : Gm) => g = [.va ((eP4 (eP2 D.int D.int) D.str D.int D.str) row_here), .va (D.int n_v), .ow (List.map D.str st), .va (D.int way), .va ((eP2 D.int D.int) row_here.1), .va (D.str row_here.2.1), .va (D.int row_here.2.2.1), .va (D.str row_here.2.2.2)]) (t_val (x2 (xV rfl) rfl (oEq_int _ _))) (fun hc => ?_) (fun hc => ?_) ?_
  · refine j_b1 fun t6 h7 => ?_
    refine j_grd fun h8 => ?_
    refine j_b1 fun t7 h9 => ?_
    refine j_grd fun h10 => ?_
    refine j_b1 fun t8 h11 => ?_
    refine j_b1 fun u9 h12 => ?_
    refine j_store (i := 2) (e := D.str) (xs := words'2) (g1 := [.va ((eP4 (eP2 D.int D.int) D.str D.int D.str) row_here), .va (D.int n_v), .ow (List.map D.str u9), .va (D.int way), .va ((eP2 D.int D.int) row_here.1), .va (D.str row_here.2.1), .va (D.int row_here.2.2.1), .va (D.str row_here.2.2.2)]) rfl (x2 (xA (xaC rfl (xaC (x2 rfl (x2 (xW rfl) rfl (f_ixL (e := D.str) (xs := words'2) rfl h7)) (f_addS h8)) (xaC rfl (xaC rfl (xaC rfl (xaC (x2 (x2 (xW rfl) rfl (f_ixL (e := D.str) (xs := words'2) rfl h9)) rfl (f_addS h10)) xaN)))))) (f_lst rfl rfl rfl)) (x2 (x2 (xV rfl) rfl (f_divK (by decide))) rfl (f_modK (by decide))) (f_ixL (e := D.str) (xs := [("0" : Str), (("0" : Str) ++ t6), ("-1" : Str), ("x" : Str), ("" : Str), (t7 ++ ("a" : Str))]) rfl h11)) rfl rfl rfl h12 rfl ?_
    exact jn_end rfl
  · exact jn_end rfl
  rintro words'3 g rfl
  refine j_joinB (St := fun (st : (List Str)) (g : Gm) => g = [.va ((eP4 (eP2 D.int D.int) D.str D.int D.str) row_here), .va (D.int n_v), .ow (List.map D.str st), .va (D.int way), .va ((eP2 D.int D.int) row_here.1), .va (D.str row_here.2.1), .va (D.int row_here.2.2.1), .va (D.str row_here.2.2.2)]) (t_val (x2 (xV rfl) rfl (oEq_int _ _))) (fun hc => ?_) (fun hc => ?_) ?_
  · refine j_b1 fun t10 h13 => ?_
    refine j_grd fun h14 => ?_
    refine j_appE (i := 2) (g1 := [.va ((eP4 (eP2 D.int D.int) D.str D.int D.str) row_here), .va (D.int n_v), .ow (List.map D.str (words'3 ++ [t10])), .va (D.int way), .va ((eP2 D.int D.int) row_here.1), .va (D.str row_here.2.1), .va (D.int row_here.2.2.1), .va (D.str row_here.2.2.2)]) D.str words'3 t10 rfl (x2 (xA (xaC rfl (xaC rfl (xaC rfl xaN))) (f_lst rfl rfl rfl)) (x2 (x2 (xV rfl) rfl (f_divK (by decide))) rfl (f_modK (by decide))) (f_ixL (e := D.str) (xs := [("a" : Str), ("" : Str), ("abc" : Str)]) rfl h13)) rfl rfl h14 rfl ?_
    refine j_lt (fun (words'4 : (List Str)) => [.va ((eP4 (eP2 D.int D.int) D.str D.int D.str) row_here), .va (D.int n_v), .ow (List.map D.str words'4), .va (D.int way), .va ((eP2 D.int D.int) row_here.1), .va (D.str row_here.2.1), .va (D.int row_here.2.2.1), .va (D.str row_here.2.2.2)]) fun words'4 => ?_
    exact jn_end rfl
  · exact jn_end rfl
  rintro words'5 g rfl
  refine j_joinB (St := fun (st : (List Str)) (g : Gm) => g = [.va ((eP4 (eP2 D.int D.int) D.str D.int D.str) row_here), .va (D.int n_v), .ow (List.map D.str st), .va (D.int way), .va ((eP2 D.int D.int) row_here.1), .va (D.str row_here.2.1), .va (D.int row_here.2.2.1), .va (D.str row_here.2.2.2)]) (t_val (x2 (xV rfl) rfl (oEq_int _ _))) (fun hc => ?_) (fun hc => ?_) ?_
  · refine j_grd fun h15 => ?_
    refine j_pop0 (i := 2) (e := D.str) (xs := words'5) (g1 := [.va ((eP4 (eP2 D.int D.int) D.str D.int D.str) row_here), .va (D.int n_v), .ow (List.map D.str (List.dropLast words'5)), .va (D.int way), .va ((eP2 D.int D.int) row_here.1), .va (D.str row_here.2.1), .va (D.int row_here.2.2.1), .va (D.str row_here.2.2.2)]) rfl h15 rfl ?_
    refine j_lt (fun (words'6 : (List Str)) => [.va ((eP4 (eP2 D.int D.int) D.str D.int D.str) row_here), .va (D.int n_v), .ow (List.map D.str words'6), .va (D.int way), .va ((eP2 D.int D.int) row_here.1), .va (D.str row_here.2.1), .va (D.int row_here.2.2.1), .va (D.str row_here.2.2.2)]) fun words'6 => ?_
    exact jn_end rfl
  · exact jn_end rfl
  rintro words'7 g rfl
  refine j_joinB (St := fun (st : (List Str)) (g : Gm) => g = [.va ((eP4 (eP2 D.int D.int) D.str D.int D.str) row_here), .va (D.int n_v), .ow (List.map D.str st), .va (D.int way), .va ((eP2 D.int D.int) row_here.1), .va (D.str row_here.2.1), .va (D.int row_here.2.2.1), .va (D.str row_here.2.2.2)]) (t_and (t_val (x2 (xV rfl) rfl (oEq_int _ _))) (t_val (x2 (xV rfl) rfl (f_ne eqR_str)))) (fun hc => ?_) (fun hc => ?_) ?_
  · refine j_grd fun h16 => ?_
    refine j_b1 fun t11 h17 => ?_
    refine j_b1 fun u12 h18 => ?_
    refine j_store (i := 2) (e := D.str) (xs := words'7) (g1 := [.va ((eP4 (eP2 D.int D.int) D.str D.int D.str) row_here), .va (D.int n_v), .ow (List.map D.str u12), .va (D.int way), .va ((eP2 D.int D.int) row_here.1), .va (D.str row_here.2.1), .va (D.int row_here.2.2.1), .va (D.str row_here.2.2.2)]) rfl (x2 (xA (xaC rfl (xaC (x2 (xV rfl) rfl (f_addS h16)) (xaC rfl (xaC rfl (xaC rfl xaN))))) (f_lst rfl rfl rfl)) (x2 (x2 (xV rfl) rfl (f_divK (by decide))) rfl (f_modK (by decide))) (f_ixL (e := D.str) (xs := [("A" : Str), (row_here.2.2.2 ++ ("1" : Str)), ("abcdefghijklm" : Str), ("" : Str), ("a-b" : Str)]) rfl h17)) rfl rfl rfl h18 rfl ?_
    exact jn_end rfl
  · exact jn_end rfl
  rintro words'8 g rfl
  refine j_joinB (St := fun (st : (List Str)) (g : Gm) => g = [.va ((eP4 (eP2 D.int D.int) D.str D.int D.str) row_here), .va (D.int n_v), .ow (List.map D.str st), .va (D.int way), .va ((eP2 D.int D.int) row_here.1), .va (D.str row_here.2.1), .va (D.int row_here.2.2.1), .va (D.str row_here.2.2.2)]) (t_and (t_val (x2 (xV rfl) rfl (oEq_int _ _))) (t_val (x2 (xV rfl) rfl (f_eq eqR_str)))) (fun hc => ?_) (fun hc => ?_) ?_
  · refine j_b1 fun t13 h19 => ?_
    refine j_b1 fun u14 h20 => ?_
    refine j_store (i := 2) (e := D.str) (xs := words'8) (g1 := [.va ((eP4 (eP2 D.int D.int) D.str D.int D.str) row_here), .va (D.int n_v), .ow (List.map D.str u14), .va (D.int way), .va ((eP2 D.int D.int) row_here.1), .va (D.str row_here.2.1), .va (D.int row_here.2.2.1), .va (D.str row_here.2.2.2)]) rfl (x2 (xA (xaC rfl (xaC rfl (xaC rfl xaN))) (f_lst rfl rfl rfl)) (x2 (x2 (xV rfl) rfl (f_divK (by decide))) rfl (f_modK (by decide))) (f_ixL (e := D.str) (xs := [("off" : Str), ("come" : Str), ("on" : Str)]) rfl h19)) rfl rfl rfl h20 rfl ?_
    exact jn_end rfl
  · exact jn_end rfl
  rintro words'9 g rfl
  refine j_joinB (St := fun (st : (List Str)) (g : Gm) => g = [.va ((eP4 (eP2 D.int D.int) D.str D.int D.str) row_here), .va (D.int n_v), .ow (List.map D.str st), .va (D.int way), .va ((eP2 D.int D.int) row_here.1), .va (D.str row_here.2.1), .va (D.int row_here.2.2.1), .va (D.str row_here.2.2.2)]) (t_and (t_val (x2 (xV rfl) rfl (oEq_int _ _))) (t_val (x2 (xV rfl) rfl (f_ne eqR_str)))) (fun hc => ?_) (fun hc => ?_) ?_
  · refine j_b1 fun t15 h21 => ?_
    refine j_b1 fun u16 h22 => ?_
    refine j_store (i := 2) (e := D.str) (xs := words'9) (g1 := [.va ((eP4 (eP2 D.int D.int) D.str D.int D.str) row_here), .va (D.int n_v), .ow (List.map D.str u16), .va (D.int way), .va ((eP2 D.int D.int) row_here.1), .va (D.str row_here.2.1), .va (D.int row_here.2.2.1), .va (D.str row_here.2.2.2)]) rfl (x2 (xA (xaC rfl (xaC rfl xaN)) (f_lst rfl rfl rfl)) (x2 (x2 (xV rfl) rfl (f_divK (by decide))) rfl (f_modK (by decide))) (f_ixL (e := D.str) (xs := [("end" : Str), ("start" : Str)]) rfl h21)) rfl rfl rfl h22 rfl ?_
    exact jn_end rfl
  · exact jn_end rfl
  rintro words'10 g rfl
  refine j_if (t_or (t_and (t_val (x2 (xV rfl) rfl (oEq_int _ _))) (t_val (x2 (xV rfl) rfl (f_eq eqR_str)))) (t_val (x2 (xV rfl) rfl (oEq_int _ _)))) (fun hc => ?_) (fun hc => ?_)
  · refine j_grd fun h23 => ?_
    refine j_grd fun h24 => ?_
    refine j_grd fun h25 => ?_
    refine j_grd fun h26 => ?_
    refine j_grd fun h27 => ?_
    refine j_grd fun h28 => ?_
    refine j_grd fun h29 => ?_
    refine j_b1 fun t17 h30 => ?_
    exact j_ret (x2 (xA (xaC rfl (xaC (x2 rfl (x2 rfl (xW rfl) (f_join (zs := words'10) rfl h23)) (f_addS h24)) (xaC (x2 (x2 rfl (xW rfl) (f_join (zs := words'10) rfl h25)) rfl (f_addS h26)) (xaC (x2 (x2 rfl (xW rfl) (f_join (zs := words'10) rfl h27)) rfl (f_addS h28)) (xaC (x2 rfl (xW rfl) (f_join (zs := words'10) rfl h29)) xaN))))) (f_lst rfl rfl rfl)) (x2 (x2 (xV rfl) rfl (f_divK (by decide))) rfl (f_modK (by decide))) (f_ixL (e := D.str) (xs := [("" : Str), ((" " : Str) ++ (Txt.join (" " : Str) words'10)), ((Txt.join (" " : Str) words'10) ++ (" " : Str)), ((Txt.join (" " : Str) words'10) ++ ("\t" : Str)), (Txt.join ("  " : Str) words'10)]) rfl h30)) rfl
  · refine j_nilC ?_
    refine j_grd fun h31 => ?_
    exact j_ret (x2 rfl (xW rfl) (f_join (zs := words'10) rfl h31)) rfl
noncomputable def sh__law_refused (text : Str) : Option Int :=
  b1 (tryU (
      bU Sum.inr (shu_heard text) fun t1 =>
      some (.inl (0 : Int))) fun x => grd (List.contains [10] x.c = true) (
      grd (List.contains [10] x.c = true) <|
      grd (List.contains [10] x.c = true) <|
      grd (List.contains [10] x.c = true) <|
      grd (List.contains [10] x.c = true) <|
      lt ([(xsub x.c 10), (xsub x.c 9), true, (xsub x.c 11)]) fun (told' : (List Bool)) =>
      b1 (if (decide (told' = ([true, true, true, false] : (List Bool)))) = true then
          grd (List.contains [10] x.c = true) <|
          b1 (xInt "row" x) fun row_here' =>
          some row_here'
        else
          some (0 : Int)) fun row_here'2 =>
      some row_here'2)) fun row_here'3 =>
  some row_here'3
set_option maxHeartbeats 2000000 in
theorem sim__law_refused {text : Str} {r : Int} (e : sh__law_refused text = some r) : φ__law_refused [D.str text] = some ((fun v => R.va (D.int v)) r) := by
  refine sim_phi (m := m__law_refused) (N := 4) (n := 1) (ds := [D.str text]) (s := sh__law_refused text) (k := (fun v => R.va (D.int v))) rfl ?_ e
  show J m__law_refused nxt [.va (D.str text), .un, .un, .un] (sh__law_refused text) (PF (fun v => R.va (D.int v)))
  unfold m__law_refused sh__law_refused
  refine j_setN (i := 1) (g1 := [.va (D.str text), .va (D.int (0 : Int)), .un, .un]) rfl rfl ?_
  refine j_setTN (i := 2) (g1 := [.va (D.str text), .va (D.int (0 : Int)), .ow (List.map D.bl []), .un]) (xA xaN (f_lst rfl rfl rfl)) rfl ?_
  refine j_tryB (ie := 3) (St := fun (st : Int) (g : Gm) => ∃ s1 s2 : Slot, g = [.va (D.str text), .va (D.int st), s1, s2]) ?_ (by simp) (fun x hxc => ?_) ?_
  · refine j_bU (fun x hx => sU_inr (x_uC (xaC (xV rfl) xaN) (f_cuX (@simu_heard text _ hx) rfl))) (fun _ => rfl) fun t1 h1 => ?_
    refine j_expU (x_uC (xaC (xV rfl) xaN) (f_cuN (@simu_heard text _ h1) rfl (.inl rfl))) ?_
    exact jb_end ⟨_, _, rfl⟩
  · refine j_grd fun h2 => ?_
    refine j_grd fun h3 => ?_
    refine j_grd fun h4 => ?_
    refine j_grd fun h5 => ?_
    refine j_setTN (i := 2) (g1 := [.va (D.str text), .va (D.int (0 : Int)), .ow (List.map D.bl [(xsub x.c 10), (xsub x.c 9), true, (xsub x.c 11)]), .va (eX x)]) (xA (xaC (x1 (xV rfl) (f_isx h2)) (xaC (x1 (xV rfl) (f_isx h3)) (xaC (x1 (xV rfl) (f_isx h4)) (xaC (x1 (xV rfl) (f_isx h5)) xaN)))) (f_lst rfl rfl rfl)) rfl ?_
    refine j_lt (fun (told' : (List Bool)) => [.va (D.str text), .va (D.int (0 : Int)), .ow (List.map D.bl told'), .va (eX x)]) fun told' => ?_
    refine j_joinB (St := fun (st : Int) (g : Gm) => g = [.va (D.str text), .va (D.int st), .ow (List.map D.bl told'), .va (eX x)]) (t_val (x2 (xW rfl) (xA (xaC rfl (xaC rfl (xaC rfl (xaC rfl xaN)))) (f_lst rfl rfl rfl)) (f_eq (eqR_K (x := told') (y := ([true, true, true, false] : (List Bool))) (EQ_L (EQ_bl 7)) (OK_L (OK_bl 7)) rfl rfl)))) (fun hc => ?_) (fun hc => ?_) ?_
    · refine j_grd fun h6 => ?_
      refine j_b1 fun row_here' h7 => ?_
      refine j_setN (i := 1) (g1 := [.va (D.str text), .va (D.int row_here'), .ow (List.map D.bl told'), .va (eX x)]) (x1 (xV rfl) (f_xfI h6 h7)) rfl ?_
      exact jn_end rfl
    · exact jn_end rfl
    rintro row_here'2 g rfl
    exact jh_end ⟨_, _, rfl⟩
  rintro row_here'3 g ⟨s1, s2, rfl⟩
  exact j_ret (xV rfl) rfl
noncomputable def sh__law_bad (rows : (List ((Int × Int) × Str × Int × Str))) (n_v : Int) : Option Bool :=
  if (decide ((List.length rows : Int) = (0 : Int))) = true then
      b1 (sh__law_refused ("\n" : Str)) fun t1 =>
      b1 (sh__law_same (D.int t1) (D.int (1 : Int))) fun t2 =>
      b1 (if t2 = true then b1 (sh__law_refused (" " : Str)) fun t3 => b1 (sh__law_same (D.int t3) (D.int (1 : Int))) fun t4 => some t4 else some false) fun t5 =>
      some t5
  else
    grd (List.length rows ≤ 16777216) <|
    b1 (mapO (fun e1 : ((Int × Int) × Str × Int × Str) => b1 (sh__law_text_of e1) fun t6 => some t6) rows) fun texts =>
    grd ((List.length rows : Int) ≠ 0) <|
    lt (Int.fmod n_v (List.length rows : Int)) fun (first : Int) =>
    grd ((List.length rows : Int) ≠ 0) <|
    lt (Int.fmod (n_v / (61 : Int)) (List.length rows : Int)) fun (second : Int) =>
    b1 (forO (fun (e3 : Int) (st3 : (List Str)) =>
        b1 (atI rows e3) fun t8 =>
        b1 (sh__law_spoilt t8 ((n_v / (3721 : Int)) + e3)) fun t9 =>
        b1 (setI st3 e3 t9) fun u10 =>
        some u10) ([first, second] : List Int) texts) fun texts' =>
    b1 (if (decide ((List.length rows : Int) = (1 : Int))) = true then b1 (atI texts' (0 : Int)) fun t11 => some (decide (t11 = ("" : Str))) else some false) fun t12 =>
    b1 (if t12 = true then
        b1 (setI texts' (0 : Int) (" " : Str)) fun u13 =>
        some u13
      else
        some texts') fun texts'2 =>
    grd ((List.map Str.length texts'2).sum + List.length texts'2 * Str.length ("\n" : Str) ≤ 16777216) <|
    b1 (sh__law_refused (Txt.join ("\n" : Str) texts'2)) fun t14 =>
    b1 (sh__law_same (D.int t14) (D.int ((Min.min first second) + (1 : Int)))) fun t15 =>
    if (!t15) = true then
        some false
    else
      grd (List.length rows ≤ 16777216) <|
      b1 (mapO (fun e4 : ((Int × Int) × Str × Int × Str) => b1 (sh__law_text_of e4) fun t16 => some t16) rows) fun t17 =>
      grd ((List.map Str.length t17).sum + List.length t17 * Str.length ("\n" : Str) ≤ 16777216) <|
      lt (Txt.join ("\n" : Str) t17) fun (good : Str) =>
      grd (Str.length good + Str.length ("\n" : Str) ≤ 16777216) <|
      b1 (sh__law_refused (good ++ ("\n" : Str))) fun t18 =>
      b1 (sh__law_same (D.int t18) (D.int ((List.length rows : Int) + (1 : Int)))) fun t19 =>
      some t19
set_option maxHeartbeats 2000000 in
theorem sim__law_bad {rows : (List ((Int × Int) × Str × Int × Str))} {n_v : Int} {r : Bool} (e : sh__law_bad rows n_v = some r) : φ__law_bad [(eL (eP4 (eP2 D.int D.int) D.str D.int D.str)) rows, D.int n_v] = some ((fun v => R.va (D.bl v)) r) := by
  refine sim_phi (m := m__law_bad) (N := 9) (n := 2) (ds := [(eL (eP4 (eP2 D.int D.int) D.str D.int D.str)) rows, D.int n_v]) (s := sh__law_bad rows n_v) (k := (fun v => R.va (D.bl v))) rfl ?_ e
  show J m__law_bad nxt [.va ((eL (eP4 (eP2 D.int D.int) D.str D.int D.str)) rows), .va (D.int n_v), .un, .un, .un, .un, .un, .un, .un] (sh__law_bad rows n_v) (PF (fun v => R.va (D.bl v)))
  unfold m__law_bad sh__law_bad
  refine j_if (t_val (x2 (xA (xaC (xV rfl) xaN) (f_lenL (e := (eP4 (eP2 D.int D.int) D.str D.int D.str)) (xs := rows) rfl)) rfl (oEq_int _ _))) (fun hc => ?_) (fun hc => ?_)
  · refine j_b1 fun t1 h1 => ?_
    refine j_b1 fun t2 h2 => ?_
    refine j_b1 fun t5 h5 => ?_
    exact j_ret (v_andP (xA (xaC (xA (xaC rfl xaN) (f_call (@sim__law_refused ("\n" : Str) _ h1) rfl (.inl rfl))) (xaC rfl xaN)) (f_call (@sim__law_same (D.int t1) (D.int (1 : Int)) _ h2) rfl (.inl rfl))) (fun _ => (sm_b1 fun t3 h3 => (sm_b1 fun t4 h4 => (sm_ret (xA (xaC (xA (xaC rfl xaN) (f_call (@sim__law_refused (" " : Str) _ h3) rfl (.inl rfl))) (xaC rfl xaN)) (f_call (@sim__law_same (D.int t3) (D.int (1 : Int)) _ h4) rfl (.inl rfl))) rfl)))) h5) rfl
  · refine j_nilC ?_
    refine j_setTN (i := 2) (g1 := [.va ((eL (eP4 (eP2 D.int D.int) D.str D.int D.str)) rows), .va (D.int n_v), .ow (List.map (eP4 (eP2 D.int D.int) D.str D.int D.str) rows), .un, .un, .un, .un, .un, .un]) (xA (xaC (xV rfl) xaN) (f_list (.inl rfl))) rfl ?_
    refine j_grd fun h6 => ?_
    refine j_b1 fun texts h8 => ?_
    refine j_setTN (i := 3) (g1 := [.va ((eL (eP4 (eP2 D.int D.int) D.str D.int D.str)) rows), .va (D.int n_v), .ow (List.map (eP4 (eP2 D.int D.int) D.str D.int D.str) rows), .ow (List.map D.str texts), .un, .un, .un, .un, .un]) (x_lcO (e := (eP4 (eP2 D.int D.int) D.str D.int D.str)) (e' := D.str) (xs := rows) (fun y1 => R.va (D.str y1)) (i_seq (xV rfl) rfl) h6 (fun e1 _ => ⟨[.va ((eL (eP4 (eP2 D.int D.int) D.str D.int D.str)) rows), .va (D.int n_v), .ow (List.map (eP4 (eP2 D.int D.int) D.str D.int D.str) rows), .un, .un, .un, .un, .un, .va ((eP4 (eP2 D.int D.int) D.str D.int D.str) e1)], rfl, (sm_b1 fun t6 h7 => (sm_ret (xA (xaC (xV rfl) xaN) (f_call (@sim__law_text_of e1 _ h7) rfl (.inl rfl))) rfl))⟩) h8) rfl ?_
    refine j_grd fun h9 => ?_
    refine j_setN (i := 4) (g1 := [.va ((eL (eP4 (eP2 D.int D.int) D.str D.int D.str)) rows), .va (D.int n_v), .ow (List.map (eP4 (eP2 D.int D.int) D.str D.int D.str) rows), .ow (List.map D.str texts), .va (D.int (Int.fmod n_v (List.length rows : Int))), .un, .un, .un, .un]) (x2 (xV rfl) (xA (xaC (xV rfl) xaN) (f_lenL (e := (eP4 (eP2 D.int D.int) D.str D.int D.str)) (xs := rows) rfl)) (f_mod h9)) rfl ?_
    refine j_lt (fun (first : Int) => [.va ((eL (eP4 (eP2 D.int D.int) D.str D.int D.str)) rows), .va (D.int n_v), .ow (List.map (eP4 (eP2 D.int D.int) D.str D.int D.str) rows), .ow (List.map D.str texts), .va (D.int first), .un, .un, .un, .un]) fun first => ?_
    refine j_grd fun h10 => ?_
    refine j_setN (i := 5) (g1 := [.va ((eL (eP4 (eP2 D.int D.int) D.str D.int D.str)) rows), .va (D.int n_v), .ow (List.map (eP4 (eP2 D.int D.int) D.str D.int D.str) rows), .ow (List.map D.str texts), .va (D.int first), .va (D.int (Int.fmod (n_v / (61 : Int)) (List.length rows : Int))), .un, .un, .un]) (x2 (x2 (xV rfl) rfl (f_divK (by decide))) (xA (xaC (xV rfl) xaN) (f_lenL (e := (eP4 (eP2 D.int D.int) D.str D.int D.str)) (xs := rows) rfl)) (f_mod h10)) rfl ?_
    refine j_lt (fun (second : Int) => [.va ((eL (eP4 (eP2 D.int D.int) D.str D.int D.str)) rows), .va (D.int n_v), .ow (List.map (eP4 (eP2 D.int D.int) D.str D.int D.str) rows), .ow (List.map D.str texts), .va (D.int first), .va (D.int second), .un, .un, .un]) fun second => ?_
    refine j_for D.int (fun (st : (List Str)) (g : Gm) => ∃ s2 : Slot, g = [.va ((eL (eP4 (eP2 D.int D.int) D.str D.int D.str)) rows), .va (D.int n_v), .ow (List.map (eP4 (eP2 D.int D.int) D.str D.int D.str) rows), .ow (List.map D.str st), .va (D.int first), .va (D.int second), s2, .un, .un]) (i_seq (xA (xaC (xV rfl) (xaC (xV rfl) xaN)) (f_lst rfl rfl rfl)) rfl) rfl ⟨_, rfl⟩ ?_ ?_
    · rintro e3 hx st3 g ⟨s2, rfl⟩
      refine ⟨[.va ((eL (eP4 (eP2 D.int D.int) D.str D.int D.str)) rows), .va (D.int n_v), .ow (List.map (eP4 (eP2 D.int D.int) D.str D.int D.str) rows), .ow (List.map D.str st3), .va (D.int first), .va (D.int second), .va (D.int e3), .un, .un], rfl, ?_⟩
      refine j_b1 fun t8 h11 => ?_
      refine j_b1 fun t9 h12 => ?_
      refine j_b1 fun u10 h13 => ?_
      refine j_store (i := 3) (e := D.str) (xs := st3) (g1 := [.va ((eL (eP4 (eP2 D.int D.int) D.str D.int D.str)) rows), .va (D.int n_v), .ow (List.map (eP4 (eP2 D.int D.int) D.str D.int D.str) rows), .ow (List.map D.str u10), .va (D.int first), .va (D.int second), .va (D.int e3), .un, .un]) rfl (xA (xaC (x2 (xW rfl) (xV rfl) (f_ixL (e := (eP4 (eP2 D.int D.int) D.str D.int D.str)) (xs := rows) rfl h11)) (xaC (x2 (x2 (xV rfl) rfl (f_divK (by decide))) (xV rfl) (oAdd_int _ _)) xaN)) (f_call (@sim__law_spoilt t8 ((n_v / (3721 : Int)) + e3) _ h12) rfl (.inl rfl))) rfl rfl (xV rfl) h13 rfl ?_
      exact jt_end ⟨_, rfl⟩
    rintro texts' g ⟨s2, rfl⟩
    refine j_b1 fun t12 h15 => ?_
    refine j_joinB (St := fun (st : (List Str)) (g : Gm) => g = [.va ((eL (eP4 (eP2 D.int D.int) D.str D.int D.str)) rows), .va (D.int n_v), .ow (List.map (eP4 (eP2 D.int D.int) D.str D.int D.str) rows), .ow (List.map D.str st), .va (D.int first), .va (D.int second), s2, .un, .un]) (t_andP (t_val (x2 (xA (xaC (xV rfl) xaN) (f_lenL (e := (eP4 (eP2 D.int D.int) D.str D.int D.str)) (xs := rows) rfl)) rfl (oEq_int _ _))) (fun _ => (sm_b1 fun t11 h14 => (sm_ret (t_val (x2 (x2 (xW rfl) rfl (f_ixL (e := D.str) (xs := texts') rfl h14)) rfl (f_eq eqR_str))) rfl))) h15) (fun hc => ?_) (fun hc => ?_) ?_
    · refine j_b1 fun u13 h16 => ?_
      refine j_store (i := 3) (e := D.str) (xs := texts') (g1 := [.va ((eL (eP4 (eP2 D.int D.int) D.str D.int D.str)) rows), .va (D.int n_v), .ow (List.map (eP4 (eP2 D.int D.int) D.str D.int D.str) rows), .ow (List.map D.str u13), .va (D.int first), .va (D.int second), s2, .un, .un]) rfl rfl rfl rfl rfl h16 rfl ?_
      exact jn_end rfl
    · exact jn_end rfl
    rintro texts'2 g rfl
    refine j_grd fun h17 => ?_
    refine j_b1 fun t14 h18 => ?_
    refine j_b1 fun t15 h19 => ?_
    refine j_if (t_not (t_val (xA (xaC (xA (xaC (x2 rfl (xW rfl) (f_join (zs := texts'2) rfl h17)) xaN) (f_call (@sim__law_refused (Txt.join ("\n" : Str) texts'2) _ h18) rfl (.inl rfl))) (xaC (x2 (xA (xaC (xV rfl) (xaC (xV rfl) xaN)) (cMin2_def _ _)) rfl (oAdd_int _ _)) xaN)) (f_call (@sim__law_same (D.int t14) (D.int ((Min.min first second) + (1 : Int))) _ h19) rfl (.inl rfl))))) (fun hc => ?_) (fun hc => ?_)
    · exact j_ret rfl rfl
    · refine j_nilC ?_
      refine j_grd fun h20 => ?_
      refine j_b1 fun t17 h22 => ?_
      refine j_grd fun h23 => ?_
      refine j_setN (i := 7) (g1 := [.va ((eL (eP4 (eP2 D.int D.int) D.str D.int D.str)) rows), .va (D.int n_v), .ow (List.map (eP4 (eP2 D.int D.int) D.str D.int D.str) rows), .ow (List.map D.str texts'2), .va (D.int first), .va (D.int second), s2, .va (D.str (Txt.join ("\n" : Str) t17)), .un]) (x2 rfl (x_lcO (e := (eP4 (eP2 D.int D.int) D.str D.int D.str)) (e' := D.str) (xs := rows) (fun y4 => R.va (D.str y4)) (i_seq (xV rfl) rfl) h20 (fun e4 _ => ⟨[.va ((eL (eP4 (eP2 D.int D.int) D.str D.int D.str)) rows), .va (D.int n_v), .ow (List.map (eP4 (eP2 D.int D.int) D.str D.int D.str) rows), .ow (List.map D.str texts'2), .va (D.int first), .va (D.int second), s2, .un, .va ((eP4 (eP2 D.int D.int) D.str D.int D.str) e4)], rfl, (sm_b1 fun t16 h21 => (sm_ret (xA (xaC (xV rfl) xaN) (f_call (@sim__law_text_of e4 _ h21) rfl (.inl rfl))) rfl))⟩) h22) (f_join (zs := t17) rfl h23)) rfl ?_
      refine j_lt (fun (good : Str) => [.va ((eL (eP4 (eP2 D.int D.int) D.str D.int D.str)) rows), .va (D.int n_v), .ow (List.map (eP4 (eP2 D.int D.int) D.str D.int D.str) rows), .ow (List.map D.str texts'2), .va (D.int first), .va (D.int second), s2, .va (D.str good), .un]) fun good => ?_
      refine j_grd fun h24 => ?_
      refine j_b1 fun t18 h25 => ?_
      refine j_b1 fun t19 h26 => ?_
      exact j_ret (xA (xaC (xA (xaC (x2 (xV rfl) rfl (f_addS h24)) xaN) (f_call (@sim__law_refused (good ++ ("\n" : Str)) _ h25) rfl (.inl rfl))) (xaC (x2 (xA (xaC (xV rfl) xaN) (f_lenL (e := (eP4 (eP2 D.int D.int) D.str D.int D.str)) (xs := rows) rfl)) rfl (oAdd_int _ _)) xaN)) (f_call (@sim__law_same (D.int t18) (D.int ((List.length rows : Int) + (1 : Int))) _ h26) rfl (.inl rfl))) rfl
noncomputable def sh_law (script : (List Int)) : Option Bool :=
  grd (List.length (enI (cutL script (some (0 : Int)) (some (60 : Int)))) ≤ 16777216) <|
  b1 (mapO (fun e1 : (Int × Int) => b1 (sh__law_row e1.2 e1.1) fun t1 => some t1) (enI (cutL script (some (0 : Int)) (some (60 : Int))))) fun rows =>
  grd (List.length rows ≤ 16777216) <|
  b1 (mapO (fun e2 : ((Int × Int) × Str × Int × Str) => b1 (sh__law_text_of e2) fun t3 => some t3) rows) fun t4 =>
  grd ((List.map Str.length t4).sum + List.length t4 * Str.length ("\n" : Str) ≤ 16777216) <|
  lt (Txt.join ("\n" : Str) t4) fun (text : Str) =>
  b1 (sh_log_text rows) fun t5 =>
  b1 (sh__law_same (D.str t5) (D.str text)) fun t6 =>
  b1 (if (!t6) = true then some true else grd (okn 8 ((eL (eP4 (eP2 D.int D.int) D.str D.int D.str)) rows) = true ∧ okn 8 ((eL (eP4 (eP2 D.int D.int) D.str D.int D.str)) rows) = true) <| some (!decide (rows = rows))) fun t7 =>
  if t7 = true then
      some false
  else
    b1 (sh_heard text) fun t8 =>
    lt (List.map (eP4 (eP2 D.int D.int) D.str D.int D.str) t8) fun (found : (List D)) =>
    b1 (sh__law_same ((eL eD) found) ((eL (eP4 (eP2 D.int D.int) D.str D.int D.str)) rows)) fun t9 =>
    if (!t9) = true then
        some false
    else
      grd (List.length found < 16777216) <|
      lt (found ++ [(D.str ("more" : Str))]) fun (found' : (List D)) =>
      b1 (sh_heard text) fun t10 =>
      b1 (sh__law_same ((eL (eP4 (eP2 D.int D.int) D.str D.int D.str)) t10) ((eL (eP4 (eP2 D.int D.int) D.str D.int D.str)) rows)) fun t11 =>
      b1 (if (!t11) = true then some true else b1 (sh_log_text rows) fun t12 => b1 (sh__law_same (D.str t12) (D.str text)) fun t13 => some (!t13)) fun t14 =>
      if t14 = true then
          some false
      else
        b1 (sh__law_cell_at script (1 : Int)) fun t15 =>
        b1 (sh__law_mix t15 (62089 : Int)) fun t16 =>
        b1 (sh__law_bad rows t16) fun t17 =>
        some t17
set_option maxHeartbeats 2000000 in
theorem sim_law {script : (List Int)} {r : Bool} (e : sh_law script = some r) : φ_law [eRL script] = some ((fun v => R.va (D.bl v)) r) := by
  refine sim_phi (m := m_law) (N := 8) (n := 1) (ds := [eRL script]) (s := sh_law script) (k := (fun v => R.va (D.bl v))) rfl ?_ e
  show J m_law nxt [.va (eRL script), .un, .un, .un, .un, .un, .un, .un] (sh_law script) (PF (fun v => R.va (D.bl v)))
  unfold m_law sh_law
  refine j_grd fun h1 => ?_
  refine j_b1 fun rows h3 => ?_
  refine j_setTN (i := 1) (g1 := [.va (eRL script), .ow (List.map (eP4 (eP2 D.int D.int) D.str D.int D.str) rows), .un, .un, .un, .un, .un, .un]) (x_lcO (e := (eP2 D.int D.int)) (e' := (eP4 (eP2 D.int D.int) D.str D.int D.str)) (xs := (enI (cutL script (some (0 : Int)) (some (60 : Int))))) (fun y1 => R.va ((eP4 (eP2 D.int D.int) D.str D.int D.str) y1)) (i_A (xaC (x_sl (xV rfl) (x_pS rfl) (x_pS rfl) (f_slR rfl)) xaN) (f_en (e := D.int) (xs := (cutL script (some (0 : Int)) (some (60 : Int)))) rfl)) h1 (fun e1 _ => ⟨[.va (eRL script), .un, .un, .un, .un, .va (D.int e1.1), .va (D.int e1.2), .un], rfl, (sm_b1 fun t1 h2 => (sm_ret (xA (xaC (xV rfl) (xaC (xV rfl) xaN)) (f_call (@sim__law_row e1.2 e1.1 _ h2) rfl (.inl rfl))) rfl))⟩) h3) rfl ?_
  refine j_setTN (i := 2) (g1 := [.va (eRL script), .ow (List.map (eP4 (eP2 D.int D.int) D.str D.int D.str) rows), .ow (List.map (eP4 (eP2 D.int D.int) D.str D.int D.str) rows), .un, .un, .un, .un, .un]) (xA (xaC (xW rfl) xaN) (f_list (.inl rfl))) rfl ?_
  refine j_grd fun h4 => ?_
  refine j_b1 fun t4 h6 => ?_
  refine j_grd fun h7 => ?_
  refine j_setN (i := 3) (g1 := [.va (eRL script), .ow (List.map (eP4 (eP2 D.int D.int) D.str D.int D.str) rows), .ow (List.map (eP4 (eP2 D.int D.int) D.str D.int D.str) rows), .va (D.str (Txt.join ("\n" : Str) t4)), .un, .un, .un, .un]) (x2 rfl (x_lcO (e := (eP4 (eP2 D.int D.int) D.str D.int D.str)) (e' := D.str) (xs := rows) (fun y2 => R.va (D.str y2)) (i_seq (xW rfl) rfl) h4 (fun e2 _ => ⟨[.va (eRL script), .ow (List.map (eP4 (eP2 D.int D.int) D.str D.int D.str) rows), .ow (List.map (eP4 (eP2 D.int D.int) D.str D.int D.str) rows), .un, .un, .un, .un, .va ((eP4 (eP2 D.int D.int) D.str D.int D.str) e2)], rfl, (sm_b1 fun t3 h5 => (sm_ret (xA (xaC (xV rfl) xaN) (f_call (@sim__law_text_of e2 _ h5) rfl (.inl rfl))) rfl))⟩) h6) (f_join (zs := t4) rfl h7)) rfl ?_
  refine j_lt (fun (text : Str) => [.va (eRL script), .ow (List.map (eP4 (eP2 D.int D.int) D.str D.int D.str) rows), .ow (List.map (eP4 (eP2 D.int D.int) D.str D.int D.str) rows), .va (D.str text), .un, .un, .un, .un]) fun text => ?_
  refine j_fzO (g1 := [.va (eRL script), .ow (List.map (eP4 (eP2 D.int D.int) D.str D.int D.str) rows), .va ((eL (eP4 (eP2 D.int D.int) D.str D.int D.str)) rows), .va (D.str text), .un, .un, .un, .un]) rfl rfl ?_
  refine j_b1 fun t5 h8 => ?_
  refine j_b1 fun t6 h9 => ?_
  refine j_b1 fun t7 h11 => ?_
  refine j_if (t_orP (t_not (t_val (xA (xaC (xA (xaC (xV rfl) xaN) (f_call (@sim_log_text rows _ h8) rfl (.inl rfl))) (xaC (xV rfl) xaN)) (f_call (@sim__law_same (D.str t5) (D.str text) _ h9) rfl (.inl rfl))))) (fun _ => (sm_grd fun h10 => (sm_ret (t_val (x2 (xV rfl) (xW rfl) (f_ne (eqR_T (x := rows) (y := rows) (EQ_L (EQ_P4 (EQ_P2 (EQ_int 5) (EQ_int 5)) (EQ_str 6) (EQ_int 6) (EQ_str 6))) rfl rfl h10)))) rfl))) h11) (fun hc => ?_) (fun hc => ?_)
  · exact j_ret rfl rfl
  · refine j_nilC ?_
    refine j_b1 fun t8 h12 => ?_
    refine j_setTN (i := 4) (g1 := [.va (eRL script), .ow (List.map (eP4 (eP2 D.int D.int) D.str D.int D.str) rows), .va ((eL (eP4 (eP2 D.int D.int) D.str D.int D.str)) rows), .va (D.str text), .ow (List.map eD (List.map (eP4 (eP2 D.int D.int) D.str D.int D.str) t8)), .un, .un, .un]) (x_tmD (xA (xaC (xV rfl) xaN) (f_call (@sim_heard text _ h12) rfl (.inl rfl)))) rfl ?_
    refine j_lt (fun (found : (List D)) => [.va (eRL script), .ow (List.map (eP4 (eP2 D.int D.int) D.str D.int D.str) rows), .va ((eL (eP4 (eP2 D.int D.int) D.str D.int D.str)) rows), .va (D.str text), .ow (List.map eD found), .un, .un, .un]) fun found => ?_
    refine j_fzO (g1 := [.va (eRL script), .va ((eL (eP4 (eP2 D.int D.int) D.str D.int D.str)) rows), .va ((eL (eP4 (eP2 D.int D.int) D.str D.int D.str)) rows), .va (D.str text), .ow (List.map eD found), .un, .un, .un]) rfl rfl ?_
    refine j_b1 fun t9 h13 => ?_
    refine j_if (t_not (t_val (xA (xaC (xW rfl) (xaC (xV rfl) xaN)) (f_call (@sim__law_same ((eL eD) found) ((eL (eP4 (eP2 D.int D.int) D.str D.int D.str)) rows) _ h13) rfl (.inr (.inl (lf_vaE (LF_bool 8)))))))) (fun hc => ?_) (fun hc => ?_)
    · exact j_ret rfl rfl
    · refine j_nilC ?_
      refine j_grd fun h14 => ?_
      refine j_appE (i := 4) (g1 := [.va (eRL script), .va ((eL (eP4 (eP2 D.int D.int) D.str D.int D.str)) rows), .va ((eL (eP4 (eP2 D.int D.int) D.str D.int D.str)) rows), .va (D.str text), .ow (List.map eD (found ++ [(D.str ("more" : Str))])), .un, .un, .un]) eD found (D.str ("more" : Str)) rfl rfl rfl rfl h14 rfl ?_
      refine j_lt (fun (found' : (List D)) => [.va (eRL script), .va ((eL (eP4 (eP2 D.int D.int) D.str D.int D.str)) rows), .va ((eL (eP4 (eP2 D.int D.int) D.str D.int D.str)) rows), .va (D.str text), .ow (List.map eD found'), .un, .un, .un]) fun found' => ?_
      refine j_fzV rfl ?_
      refine j_fzV rfl ?_
      refine j_b1 fun t10 h15 => ?_
      refine j_b1 fun t11 h16 => ?_
      refine j_b1 fun t14 h19 => ?_
      refine j_if (t_orP (t_not (t_val (xA (xaC (xA (xaC (xV rfl) xaN) (f_call (@sim_heard text _ h15) rfl (.inl rfl))) (xaC (xV rfl) xaN)) (f_call (@sim__law_same ((eL (eP4 (eP2 D.int D.int) D.str D.int D.str)) t10) ((eL (eP4 (eP2 D.int D.int) D.str D.int D.str)) rows) _ h16) rfl (.inl rfl))))) (fun _ => (sm_b1 fun t12 h17 => (sm_b1 fun t13 h18 => (sm_ret (t_not (t_val (xA (xaC (xA (xaC (xV rfl) xaN) (f_call (@sim_log_text rows _ h17) rfl (.inl rfl))) (xaC (xV rfl) xaN)) (f_call (@sim__law_same (D.str t12) (D.str text) _ h18) rfl (.inl rfl))))) rfl)))) h19) (fun hc => ?_) (fun hc => ?_)
      · exact j_ret rfl rfl
      · refine j_nilC ?_
        refine j_fzV rfl ?_
        refine j_b1 fun t15 h20 => ?_
        refine j_b1 fun t16 h21 => ?_
        refine j_b1 fun t17 h22 => ?_
        exact j_ret (xA (xaC (xV rfl) (xaC (xA (xaC (xA (xaC (xV rfl) (xaC rfl xaN)) (f_call (@sim__law_cell_at script (1 : Int) _ h20) rfl (.inl rfl))) (xaC rfl xaN)) (f_call (@sim__law_mix t15 (62089 : Int) _ h21) rfl (.inl rfl))) xaN)) (f_call (@sim__law_bad rows t16 _ h22) rfl (.inl rfl))) rfl
end G
namespace G
open PySem L2 BK
set_option autoImplicit false
-- made_of
theorem madeof_sh (l a : List Nat) (h : l.length ≤ 16777216) : sh_made_of (S' l) (S' a) = some (l.all fun c => decide (c ∈ a)) := by
  unfold sh_made_of
  rw [grd_pos (by rw [sgs_len, S'_len]; exact h), sgs_S, mapO_eq (g := fun x : Str => decide ((x.cps.toList.headD 0) ∈ a))]
  · rw [b1_some, List.all_map, List.all_map]
    rfl
  · intro x hx
    obtain ⟨c, _, rfl⟩ := List.mem_map.mp hx
    rfl
-- number_of
theorem fig_all (l : List Nat) : (l.all fun c => decide (c ∈ ([48, 49, 50, 51, 52, 53, 54, 55, 56, 57] : List Nat))) = decide (∀ c ∈ l, isFig c) := by
  rw [Bool.eq_iff_iff, List.all_eq_true, decide_eq_true_iff]
  constructor
  · intro h c hc
    exact (fig_mem c).mp (of_decide_eq_true (h c hc))
  · intro h c hc
    exact decide_eq_true ((fig_mem c).mpr (h c hc))
def numM (most : Option Int) (l : List Nat) : Option Int := match numV l with
  | none => none
  | some v => match most with
    | none => some v
    | some m => if v ≤ m then some v else none
theorem number_sh (l : List Nat) (h : l.length ≤ 16777216) (most : Option Int) : sh_number_of (S' l) most = some (numM most l) := by
  have hf : ("0123456789" : Str) = S' [48, 49, 50, 51, 52, 53, 54, 55, 56, 57] := FIG_eq
  have he : ("" : Str) = S' [] := by decide +kernel
  have h0 : ("0" : Str) = S' [48] := by decide +kernel
  unfold sh_number_of
  rw [hf, he, h0]
  by_cases c1 : l = []
  · subst c1
    rw [if_pos (by simp)]
    rw [b1_some, if_pos rfl]
    unfold numM
    rw [numV_no (fun x => x.2.1 rfl)]
  rw [if_neg (by simp [S'_eq, c1]), grd_pos (by rw [S'_len]; exact h)]
  by_cases c2 : 60 < l.length
  · rw [if_pos (by rw [S'_len]; simp; omega), b1_some, b1_some, if_pos rfl]
    unfold numM
    rw [numV_no (fun x => absurd x.2.2.1 (by omega))]
  rw [if_neg (by rw [S'_len]; simp; omega), madeof_sh _ _ h, b1_some, b1_some, b1_some, fig_all]
  by_cases c3 : ∀ c ∈ l, isFig c
  rotate_left
  · rw [if_pos (by simpa using c3)]
    unfold numM
    rw [numV_no (fun x => c3 x.1)]
  rw [if_neg (by simpa using c3), starts_one]
  by_cases c4 : l ≠ [48] ∧ l.head? = some 48
  · rw [if_pos (by simp [S'_eq, c4])]
    unfold numM
    rw [numV_no (fun x => x.2.2.2 ?_)]
    refine ⟨?_, c4.2⟩
    obtain ⟨c4a, c4b⟩ := c4
    match l, c4a, c4b with
    | [c], c4a, c4b => simp at c4b; exact absurd (by rw [c4b]) c4a
    | a :: b :: l, _, _ => simp
  have hv : numV l = some (valF l : Int) := by
    refine numV_yes ⟨c3, c1, by omega, fun x => c4 ⟨fun e => ?_, x.2⟩⟩
    rw [e] at x
    simp at x
  rw [if_neg (by
    intro e
    apply c4
    rw [Bool.and_eq_true, Bool.not_eq_true', decide_eq_false_iff_not, decide_eq_true_iff, S'_eq] at e
    exact e)]
  rw [intS_fig l c3 c1 (by omega)]
  unfold numM
  rw [hv]
  cases most with
  | none =>
    rfl
  | some m =>
    show b1 (b1 (some (valF l : Int)) _) _ = _
    rw [b1_some, b1_some, b1_some]
    by_cases c5 : (valF l : Int) ≤ m
    · simp [c5]
    · simp [c5]
-- is_word
theorem let_all (l : List Nat) : (l.all fun c => decide (c ∈ LETl)) = decide (∀ c ∈ l, 97 ≤ c ∧ c ≤ 122) := by
  rw [Bool.eq_iff_iff, List.all_eq_true, decide_eq_true_iff]
  constructor
  · intro h c hc
    exact (LET_mem c).mp (of_decide_eq_true (h c hc))
  · intro h c hc
    exact decide_eq_true ((LET_mem c).mpr (h c hc))
def wordOk (l : List Nat) : Prop := 1 ≤ l.length ∧ l.length ≤ 12 ∧ ∀ c ∈ l, 97 ≤ c ∧ c ≤ 122
instance (l : List Nat) : Decidable (wordOk l) := by unfold wordOk; infer_instance
theorem word_sh (l : List Nat) (h : l.length ≤ 16777216) : sh_is_word (S' l) = some (decide (wordOk l)) := by
  have hf : ("abcdefghijklmnopqrstuvwxyz" : Str) = S' LETl := LET_eq
  unfold sh_is_word
  rw [hf, grd_pos (by rw [S'_len]; exact h), S'_len, madeof_sh _ _ h, let_all]
  unfold wordOk
  by_cases c : 1 ≤ l.length ∧ l.length ≤ 12
  · rw [if_pos (by simp; omega), b1_some, b1_some]
    simp [c.1, c.2]
  · rw [if_neg (by simp; omega), b1_some]
    have : ¬ (1 ≤ l.length ∧ l.length ≤ 12 ∧ ∀ c ∈ l, 97 ≤ c ∧ c ≤ 122) := fun x => c ⟨x.1, x.2.1⟩
    rw [decide_eq_false this]
-- shared
theorem shared_sh {a b : Int} {n : Nat} (h : Sz n b) (hn : n ≤ 1000000) : sh_shared a b = some ((Int.gcd a b : Nat) : Int) := by
  refine Gs.eq (gs_b1 (whO_inv (fun st => Int.gcd st.1 st.2 = Int.gcd a b) (fun st => st.2 = 0 ∧ Int.gcd st.1 st.2 = Int.gcd a b) (fun st => st.2.natAbs) ?_ FUEL (a, b) rfl (fuel_gt h hn)) ?_)
  · rintro ⟨x, y⟩ hx
    by_cases hy : y = 0
    · exact .inl ⟨by simp [hy], hy, hx⟩
    · refine .inr ⟨by simp [hy], gs_grd hy (gs_lt (gs_lt (gs_some ⟨?_, fmod_abs_lt x y hy⟩)))⟩
      show Int.gcd y (x.fmod y) = _
      rw [gcd_fmod]
      exact hx
  · rintro ⟨x, y⟩ ⟨h1, h2⟩
    refine gs_some ?_
    have h1 : y = 0 := h1
    subst h1
    have h2 : Int.gcd x 0 = Int.gcd a b := h2
    rw [Int.gcd_zero_right] at h2
    rw [← h2]
    show (if x < 0 then -x else x) = _
    split <;> omega
-- made
theorem made_sh {a b : Int} (h : b ≠ 0) {n : Nat} (hs : Sz n b) (hn : n ≤ 9000) : sh_made a b = some (qt (Rat.divInt a b)) := by
  have h1 := shared_sh (a := a) (b := b) hs (by omega)
  have g0 := gcd_pos (a := a) h
  have g1 := gcd_le_right (a := a) h
  have hl : (Int.gcd a b).log2 < 9000 := by
    have := log_lt (x := (Int.gcd a b : Int)) (n := 9000) (by omega) (Nat.lt_of_le_of_lt (by omega : _ ≤ b.natAbs) (hs.mono hn).lt)
    simpa using this
  rw [qt_divInt h]
  unfold sh_made
  rw [h1, b1_some]
  by_cases hb : b < 0
  · have d1 : ∀ c : Int, CDivB c (-(Int.gcd a b : Int)) := fun c => ⟨by omega, by simpa using hl⟩
    simp [hb, lt_def, grd_pos (d1 _)]
  · have d1 : ∀ c : Int, CDivB c (Int.gcd a b : Int) := fun c => ⟨by omega, by simpa using hl⟩
    simp [hb, lt_def, grd_pos (d1 _)]
-- frac_text
theorem log_big {z : Int} (h : z.natAbs < 10 ^ 100) : z.natAbs.log2 < 1920 := by
  have : Sz 400 z := ⟨Nat.lt_trans h (by decide +kernel)⟩
  have := this.log (by omega)
  omega
theorem slash_S : ("/" : Str) = S' [47] := by decide +kernel
theorem frL_len {f : Fr} (h1 : f.1.natAbs < 10 ^ 100) (h2 : f.2.natAbs < 10 ^ 100) : (frL f).length ≤ 203 ∧ 1 ≤ (frL f).length := by
  have a1 := txtI_len (z := f.1) (k := 100) (by omega) h1
  have a2 := txtI_len (z := f.2) (k := 100) (by omega) h2
  unfold frL
  split
  · omega
  · rw [List.length_append, List.length_cons]; omega
theorem frac_text_sh (f : Fr) (h1 : f.1.natAbs < 10 ^ 100) (h2 : f.2.natAbs < 10 ^ 100) : sh_frac_text f = some (S' (frL f)) := by
  have a1 := txtI_len (z := f.1) (k := 100) (by omega) h1
  have a2 := txtI_len (z := f.2) (k := 100) (by omega) h2
  unfold sh_frac_text
  rw [slash_S, str_int, str_int]
  unfold frL
  by_cases h : f.2 = 1
  · rw [if_pos (by simp [h]), grd_pos (log_big h1), if_pos h]
  · rw [if_neg (by simp [h]), grd_pos (log_big h1), grd_pos (by rw [S'_len, S'_len]; simp; omega), grd_pos (log_big h2), grd_pos (by rw [S'_add, S'_len, S'_len, List.length_append]; simp; omega), if_neg h, S'_add, S'_add, List.append_assoc]
    rfl
-- frac_of
/-- a text cut at its first stroke -/
inductive Cut : List Nat → List Nat → Option (List Nat) → Prop
  | no {l : List Nat} (h : 47 ∉ l) : Cut l l none
  | at {a b : List Nat} (h : 47 ∉ a) : Cut (a ++ 47 :: b) a (some b)
theorem Cut.ex (l : List Nat) : ∃ a b, Cut l a b := by
  by_cases h : 47 ∈ l
  · obtain ⟨a, b, rfl, hn⟩ := List.eq_append_cons_of_mem h
    exact ⟨a, some b, .at hn⟩
  · exact ⟨l, none, .no h⟩
def partL (a : List Nat) : Option (List Nat) → Str × Str × Str
  | none => (S' a, S' [], S' [])
  | some b => (S' a, S' [47], S' b)
def botL : Option (List Nat) → Option Int
  | none => some 1
  | some b => numV b
theorem cut_part {l a : List Nat} {b : Option (List Nat)} (h : Cut l a b) : Txt.partition (S' l) (S' [47]) = partL a b := by
  cases h with
  | no h => exact SX.partition_none (by simp) (SX.par_head_none h)
  | «at» h => exact SX.partition_some (by simp) (SX.par_head _ h)
def bodyL (a : List Nat) : Option (List Nat) → List Nat
  | none => a
  | some b => a ++ 47 :: b
theorem Cut.body {l a : List Nat} {b : Option (List Nat)} (h : Cut l a b) : l = bodyL a b ∧ 47 ∉ a := by
  cases h with
  | no h => exact ⟨rfl, h⟩
  | «at» h => exact ⟨rfl, h⟩
/-- what a text of a fraction tells -/
def frV (neg : Bool) (a : List Nat) (b : Option (List Nat)) : Option Fr := match numV a with
  | none => none
  | some t => match botL b with
    | none => none
    | some m => if (b.isSome = true ∧ m < 2) ∨ (neg = true ∧ t = 0) ∨ Int.gcd t m ≠ 1 then none else some ((if neg = true then -t else t), m)
theorem frL_pos {t m : Int} (ht : 0 ≤ t) (hm : 1 ≤ m) (b : Option (List Nat)) (hb : m = 1 ↔ b = none) (hb2 : ∀ x, b = some x → x = TL.numL m.toNat) : frL (t, m) = bodyL (TL.numL t.toNat) b := by
  have e1 : txtI t = TL.numL t.toNat := by
    unfold txtI
    rw [if_neg (by omega)]
    congr 1
    omega
  have e2 : txtI m = TL.numL m.toNat := by
    unfold txtI
    rw [if_neg (by omega)]
    congr 1
    omega
  unfold frL
  cases b with
  | none => rw [if_pos (hb.mpr rfl)]; exact e1
  | some x =>
    rw [if_neg (fun e => by have := hb.mp e; cases this)]
    show txtI t ++ 47 :: txtI m = TL.numL t.toNat ++ 47 :: x
    rw [e1, e2, hb2 x rfl]
theorem app47 {a b c d : List Nat} (h : a ++ 47 :: b = c ++ 47 :: d) (h1 : 47 ∉ a) (h2 : 47 ∉ c) : a = c ∧ b = d := by
  induction a generalizing c with
  | nil =>
    cases c with
    | nil => simp at h; exact ⟨rfl, h⟩
    | cons x c => simp at h; exact absurd (by rw [h.1]; simp) h2
  | cons y a ih =>
    cases c with
    | nil => simp at h; exact absurd (by rw [h.1]; simp) h1
    | cons x c =>
      simp at h
      have := ih h.2 (fun q => h1 (List.mem_cons_of_mem _ q)) (fun q => h2 (List.mem_cons_of_mem _ q))
      exact ⟨by rw [h.1, this.1], this.2⟩
theorem no47 (n : Nat) : 47 ∉ TL.numL n := TL.numL_free (by omega)
theorem no45 (n : Nat) : 45 ∉ TL.numL n := TL.numL_free (by omega)
/-- the parts of a written fraction -/
theorem frL_inv {neg : Bool} {a : List Nat} {b : Option (List Nat)} {x m : Int} (h45 : 45 ∉ a) (h47 : 47 ∉ a) (hm : 1 ≤ m) (h : frL (x, m) = (if neg = true then [45] else []) ++ bodyL a b) : (x < 0 ↔ neg = true) ∧ a = TL.numL x.natAbs ∧ (match b with | none => m = 1 | some b => m ≠ 1 ∧ b = TL.numL m.toNat) := by
  have e2 : txtI m = TL.numL m.toNat := by
    unfold txtI
    rw [if_neg (by omega)]
    congr 1
    omega
  have key : ∃ c : List Nat, frL (x, m) = (if x < 0 then [45] else []) ++ (TL.numL x.natAbs ++ c) ∧ (m = 1 ∧ c = [] ∨ m ≠ 1 ∧ c = 47 :: TL.numL m.toNat) := by
    unfold frL txtI
    by_cases hx : x < 0
    · by_cases h1 : m = 1
      · exact ⟨[], by simp [hx, h1], .inl ⟨h1, rfl⟩⟩
      · refine ⟨47 :: TL.numL m.toNat, ?_, .inr ⟨h1, rfl⟩⟩
        have e2' := e2
        unfold txtI at e2'
        simp [hx, h1, e2']
    · by_cases h1 : m = 1
      · exact ⟨[], by simp [hx, h1], .inl ⟨h1, rfl⟩⟩
      · refine ⟨47 :: TL.numL m.toNat, ?_, .inr ⟨h1, rfl⟩⟩
        have e2' := e2
        unfold txtI at e2'
        simp [hx, h1, e2']
  obtain ⟨c, e, hc⟩ := key
  rw [e] at h
  have hne := TL.numL_ne x.natAbs
  have hneg : (x < 0 ↔ neg = true) ∧ TL.numL x.natAbs ++ c = bodyL a b := by
    by_cases hx : x < 0
    · cases neg with
      | true =>
        rw [if_pos hx, if_pos rfl] at h
        simp at h
        exact ⟨by simp [hx], h⟩
      | false =>
        rw [if_pos hx] at h
        exfalso
        cases b with
        | none =>
          simp [bodyL] at h
          exact h45 (by rw [← h]; simp)
        | some b =>
          simp at h
          match a, h45, h with
          | [], _, h => simp [bodyL] at h
          | y :: a, h45, h =>
            simp [bodyL] at h
            exact h45 (by rw [← h.1]; simp)
    · cases neg with
      | false =>
        rw [if_neg hx, if_neg (by simp)] at h
        simp at h
        exact ⟨by simp [hx], h⟩
      | true =>
        rw [if_neg hx, if_pos rfl] at h
        exfalso
        have := no45 x.natAbs
        match hl : TL.numL x.natAbs, hne with
        | y :: l, _ =>
          rw [hl] at h this
          simp at h
          exact this (by rw [h.1]; simp)
  refine ⟨hneg.1, ?_⟩
  have h2 := hneg.2
  rcases hc with ⟨hm1, rfl⟩ | ⟨hm1, rfl⟩
  · cases b with
    | none => simp [bodyL] at h2; exact ⟨h2.symm, hm1⟩
    | some b =>
      simp [bodyL] at h2
      exact absurd (by rw [h2]; simp) (no47 x.natAbs)
  · cases b with
    | none =>
      simp [bodyL] at h2
      exact absurd (by rw [← h2]; simp) h47
    | some b =>
      obtain ⟨h3, h4⟩ := app47 h2 (no47 _) h47
      exact ⟨h3.symm, hm1, h4.symm⟩
theorem frL_neg {t m : Int} (ht : 0 < t) : frL (-t, m) = 45 :: frL (t, m) := by
  have e : txtI (-t) = 45 :: txtI t := by
    unfold txtI
    rw [if_pos (by omega), if_neg (by omega), Int.natAbs_neg]
  unfold frL
  show (if m = 1 then txtI (-t) else txtI (-t) ++ 47 :: txtI m) = 45 :: (if m = 1 then txtI t else txtI t ++ 47 :: txtI m)
  rw [e]
  split <;> rfl
theorem numM_none (l : List Nat) : numM none l = numV l := by
  unfold numM
  cases numV l <;> rfl
theorem numV_lt {l : List Nat} {v : Int} (h : numV l = some v) : 0 ≤ v ∧ v.natAbs < 10 ^ 60 := by
  unfold numV at h
  split at h
  · rename_i hk
    cases h
    have h1 := valF_lt l hk.1
    have h2 : (10 : Nat) ^ l.length ≤ 10 ^ 60 := Nat.pow_le_pow_right (by omega) hk.2.2.1
    exact ⟨by omega, by rw [Int.natAbs_natCast]; exact Nat.lt_of_lt_of_le h1 h2⟩
  · cases h
def negL (l : List Nat) : Bool := decide (l.head? = some 45)
def bdL (l : List Nat) : List Nat := if negL l = true then l.drop 1 else l
theorem bdL_eq (l : List Nat) : l = (if negL l = true then [45] else []) ++ bdL l := by
  unfold bdL negL
  by_cases h : l.head? = some 45
  · rw [if_pos (by simpa using h), if_pos (by simpa using h)]
    match l, h with
    | c :: l, h => simp at h; simp [h]
  · rw [if_neg (by simpa using h), if_neg (by simpa using h)]
    rfl
theorem frac_of_sh (l : List Nat) (hl : l.length ≤ 1000) {a : List Nat} {b : Option (List Nat)} (hc : Cut (bdL l) a b) : sh_frac_of (S' l) = some (frV (negL l) a b) := by
  have hm : ("-" : Str) = S' [45] := by decide +kernel
  have he : ("" : Str) = S' [] := by decide +kernel
  have hb0 : (bdL l).length ≤ 1000 := by
    unfold bdL
    split
    · rw [List.length_drop]; omega
    · exact hl
  have hbody := hc.body
  have hal : a.length ≤ 1000 := by
    have := hbody.1
    cases b <;> (rw [this] at hb0; simp [bodyL] at hb0; omega)
  have hbl : ∀ x, b = some x → x.length ≤ 1000 := by
    intro x hx
    subst hx
    have := hbody.1
    rw [this] at hb0; simp [bodyL] at hb0; omega
  refine Gs.eq ?_
  unfold sh_frac_of
  rw [hm, slash_S, he, starts_one]
  refine gs_b1 (Q := fun x => x = S' (bdL l)) ?_ fun body hbd => ?_
  · show Gs (if negL l = true then _ else _) _
    unfold bdL
    refine gs_if (fun h => ?_) fun h => ?_
    · refine gs_grd (by rw [S'_len]; omega) ?_
      refine gs_lt (gs_some ?_)
      rw [if_pos h, cutS_S]
      congr 2
      exact cut_from l 1
    · rw [h]
      exact gs_some rfl
  subst hbd
  refine gs_grd ⟨by decide +kernel, by rw [S'_len]; omega⟩ ?_
  rw [lt_def, cut_part hc]
  have hp1 : (partL a b).1 = S' a := by cases b <;> rfl
  rw [hp1, number_sh a (by omega), b1_some, numM_none, lt_def]
  refine gs_b1 (Q := fun x => x = botL b) ?_ fun bot hbot => ?_
  · cases b with
    | none =>
      rw [if_neg (by simp [partL])]
      exact gs_some rfl
    | some x =>
      rw [if_pos (by simp [partL, S'_eq])]
      show Gs (b1 (sh_number_of (S' x) none) _) _
      rw [number_sh x (by have := hbl x rfl; omega), b1_some, numM_none]
      exact gs_some rfl
  unfold frV
  cases hta : numV a with
  | none =>
    rw [if_pos (show (none : Option Int).isNone = true from rfl), b1_some, if_pos rfl]
    exact gs_some rfl
  | some t =>
    rw [← hbot]
    cases hbb : bot with
    | none =>
      rw [if_neg (show ¬ (some t).isNone = true from by simp), if_pos (show (none : Option Int).isNone = true from rfl), b1_some, b1_some, if_pos rfl]
      exact gs_some rfl
    | some m =>
      have tlt := numV_lt hta
      have hmm : 0 ≤ m ∧ m.natAbs < 10 ^ 60 := by
        rw [hbb] at hbot
        cases b with
        | none => cases hbot; exact ⟨by omega, by decide⟩
        | some x => exact numV_lt hbot.symm
      show Gs _ fun x => x = (if (b.isSome = true ∧ m < 2) ∨ (negL l = true ∧ t = 0) ∨ Int.gcd t m ≠ 1 then none else some ((if negL l = true then -t else t), m))
      rw [if_neg (show ¬ (some t).isNone = true from by simp), if_neg (show ¬ (some m).isNone = true from by simp), b1_some, b1_some, b1_some]
      by_cases hm0 : m = 0
      · subst hm0
        rw [if_pos (by decide)]
        have : b.isSome = true := by
          cases b with
          | none => rw [hbb] at hbot; cases hbot
          | some x => rfl
        rw [if_pos (.inl ⟨this, by omega⟩)]
        exact gs_some rfl
      rw [if_neg (by simp [hm0])]
      have hneg : (decide (S' (bdL l) = S' l)) = !negL l := by
        have h0 := bdL_eq l
        cases hn : negL l with
        | true =>
          rw [hn, if_pos rfl] at h0
          rw [Bool.not_true, decide_eq_false_iff_not, S'_eq]
          intro e
          rw [e] at h0
          have := congrArg List.length h0
          simp at this
        | false =>
          rw [hn, if_neg (by decide)] at h0
          rw [Bool.not_false, decide_eq_true_iff, S'_eq]
          exact h0.symm
      rw [hneg, Bool.not_not]
      refine gs_b1 (Q := fun x => x = some (if negL l = true then -t else t)) ?_ fun top htop => ?_
      · cases negL l with
        | true => exact gs_some rfl
        | false => exact gs_some rfl
      rw [htop, b1_some, b1_some]
      have sz : Sz 300 m := ⟨Nat.lt_trans hmm.2 (by decide +kernel)⟩
      rw [made_sh hm0 sz (by omega), b1_some, qt_divInt hm0, if_neg (show ¬ m < 0 from by omega)]
      have hg0 : (0 : Int) < Int.gcd t m := by have := gcd_pos (a := t) hm0; omega
      have hgd : Int.gcd (if negL l = true then -t else t) m = Int.gcd t m := by
        split
        · exact Int.neg_gcd
        · rfl
      rw [hgd]
      have hx : ((if negL l = true then -t else t).fdiv (Int.gcd t m : Int)) * (Int.gcd t m : Int) = (if negL l = true then -t else t) := Int.fdiv_mul_cancel (by rw [← hgd]; exact Int.gcd_dvd_left ..)
      have hy : (m.fdiv (Int.gcd t m : Int)) * (Int.gcd t m : Int) = m := Int.fdiv_mul_cancel (Int.gcd_dvd_right ..)
      generalize hgg : (Int.gcd t m : Int) = g at hx hy hg0
      generalize (if negL l = true then -t else t).fdiv g = x at hx ⊢
      generalize m.fdiv g = y at hy ⊢
      have hy1 : 1 ≤ y := by
        rcases Int.lt_or_le 0 y with h | h
        · omega
        · have := Int.mul_nonpos_of_nonpos_of_nonneg h (Int.le_of_lt hg0)
          omega
      have gn : 1 ≤ g.natAbs := by omega
      have hxl : x.natAbs < 10 ^ 100 := by
        have h1 := congrArg Int.natAbs hx
        rw [Int.natAbs_mul] at h1
        have h2 : x.natAbs ≤ x.natAbs * g.natAbs := Nat.le_mul_of_pos_right _ gn
        have h3 : (if negL l = true then -t else t).natAbs = t.natAbs := by split <;> simp
        have h4 : (10 : Nat) ^ 60 ≤ 10 ^ 100 := Nat.pow_le_pow_right (by omega) (by omega)
        rw [h1, h3] at h2
        exact Nat.lt_of_le_of_lt h2 (Nat.lt_of_lt_of_le tlt.2 h4)
      have hyl : y.natAbs < 10 ^ 100 := by
        have h1 := congrArg Int.natAbs hy
        rw [Int.natAbs_mul] at h1
        have h2 : y.natAbs ≤ y.natAbs * g.natAbs := Nat.le_mul_of_pos_right _ gn
        have h4 : (10 : Nat) ^ 60 ≤ 10 ^ 100 := Nat.pow_le_pow_right (by omega) (by omega)
        rw [h1] at h2
        exact Nat.lt_of_le_of_lt h2 (Nat.lt_of_lt_of_le hmm.2 h4)
      rw [frac_text_sh (x, y) hxl hyl, b1_some]
      have hal2 : 45 ∉ a := by
        rw [(numV_inv hta).2.1]
        exact no45 _
      have key : frL (x, y) = l ↔ ¬ ((b.isSome = true ∧ m < 2) ∨ (negL l = true ∧ t = 0) ∨ Int.gcd t m ≠ 1) := by
        rw [hbb] at hbot
        constructor
        · intro h
          have h0 := bdL_eq l
          rw [hbody.1] at h0
          obtain ⟨i1, i2, i3⟩ := frL_inv hal2 hbody.2 hy1 (h.trans h0)
          have i4 := (numV_inv hta).2.1.symm.trans i2
          have i5 := TL.numL_inj i4
          have hmy : m = y := by
            cases b with
            | none =>
              cases hbot
              exact i3.symm
            | some z =>
              have j := numV_inv hbot.symm
              have := TL.numL_inj (j.2.1.symm.trans i3.2)
              omega
          have hg1 : g = 1 := by
            rw [← hmy] at hy
            have : m * g = m * 1 := by rw [hy, Int.mul_one]
            exact Int.eq_of_mul_eq_mul_left (by omega) this
          have hg2 : Int.gcd t m = 1 := by omega
          rintro (⟨c1, c2⟩ | ⟨c1, c2⟩ | c1)
          · cases b with
            | none => cases c1
            | some z =>
              have := i3.1
              omega
          · have := i1.mpr c1
            omega
          · exact c1 hg2
        · intro h
          have hg2 : Int.gcd t m = 1 := by
            rcases Nat.decEq (Int.gcd t m) 1 with e | e
            · exact absurd (.inr (.inr e)) h
            · exact e
          have hg1 : g = 1 := by omega
          rw [hg1, Int.mul_one] at hx hy
          subst hx
          subst hy
          have hp := frL_pos (t := t) (m := y) tlt.1 hy1 b (by
            cases b with
            | none => cases hbot; simp
            | some z =>
              have : ¬ y < 2 := fun q => h (.inl ⟨rfl, q⟩)
              constructor
              · intro e; omega
              · intro e; cases e) (by
            intro z hz
            subst hz
            exact (numV_inv hbot.symm).2.1)
          have ha := (numV_inv hta).2.1
          rw [← ha] at hp
          have h0 := bdL_eq l
          rw [hbody.1] at h0
          refine Eq.trans ?_ h0.symm
          cases hn : negL l with
          | true =>
            have ht0 : t ≠ 0 := fun q => h (.inr (.inl ⟨hn, q⟩))
            rw [if_pos rfl, if_pos rfl, frL_neg (by omega), hp]
            rfl
          | false =>
            rw [if_neg (by decide), if_neg (by decide), hp]
            rfl
      by_cases hk : frL (x, y) = l
      · have hcond := key.mp hk
        rw [if_neg (by simp [hk]), if_neg hcond]
        refine gs_some ?_
        have hg2 : Int.gcd t m = 1 := by
          rcases Nat.decEq (Int.gcd t m) 1 with e | e
          · exact absurd (.inr (.inr e)) hcond
          · exact e
        have hg1 : g = 1 := by omega
        rw [hg1, Int.mul_one] at hx hy
        rw [← hx, ← hy]
      · have hcond := fun h => hk (key.mpr h)
        rw [if_pos (by simp [S'_eq, hk]), if_pos (Classical.not_not.mp hcond)]
        exact gs_some rfl
-- _law_cell_at
theorem cellat_sh (ns : List Int) (k : Nat) : sh__law_cell_at ns (k : Int) = some (cellN ns k) := by
  unfold sh__law_cell_at cellN
  by_cases h : k < ns.length
  · rw [if_pos (by simpa using h), atI_ofNat, List.getElem?_eq_getElem h, b1_some]
    simp [h]
  · rw [if_neg (by simpa using h)]
    simp [h]
-- _law_mix
theorem mix_sh (c f : Int) (hc : Sz 1100000 c) (hf : f.natAbs < 18446744073709551616) : Gs (sh__law_mix c f) fun r => 0 ≤ r ∧ r < 715827877 := by
  have h1 : CMulB c f := hc.cmul (Sz.small hf) (by omega) (by omega) (by omega)
  refine gs_grd h1 (gs_ltE fun m hm => gs_grd (cmul_s (by omega) (by omega)) (gs_some ?_))
  have := Int.emod_nonneg (m * m) (show (2147483629 : Int) ≠ 0 by omega)
  have := Int.emod_lt_of_pos (m * m) (show (0 : Int) < 2147483629 by omega)
  omega
-- _law_word
theorem mapO_mapK {α β γ : Type} {f : β → Option γ} {e : α → β} : ∀ (xs : List α), mapO f (xs.map e) = mapO (fun x => f (e x)) xs
  | [] => rfl
  | x :: xs => by
    rw [List.map_cons, mapO, mapO, mapO_mapK xs]
/-- a drawn word, alike but for one letter -/
def wdK (c k : Int) : List Nat := (List.range (1 + c % 12).toNat).map fun n : Nat => 97 + ((c / 144 + (if (n : Int) = Int.fmod (c / 12) (1 + c % 12) then c / 97 + 3 * k else (n : Int) * (n : Int) * (c / 7 % 3))) % 26).toNat
theorem lword_sh (c k : Int) (hc : 0 ≤ c ∧ c < 1000000000000) (hk : 0 ≤ k ∧ k ≤ 100) : sh__law_word c k = some (S' (wdK c k)) := by
  refine Gs.eq ?_
  unfold sh__law_word
  refine gs_lt (gs_ltE fun size hsz => gs_grd (by omega) (gs_ltE fun place hpl => gs_lt (gs_grd (by omega) ?_)))
  refine gs_rg size.toNat (fun i st => st = S' ((List.range i).map fun n : Nat => 97 + ((c / 144 + (if (n : Int) = place then c / 97 + 3 * k else (n : Int) * (n : Int) * (c / 7 % 3))) % 26).toNat)) (by omega) (show ("" : Str) = S' [] by decide +kernel) ?_ ?_
  · rintro i st hi rfl
    have hi2 : i < 12 := by omega
    have q1 : 0 ≤ (i : Int) * (i : Int) ∧ (i : Int) * (i : Int) ≤ 12 * 12 := ⟨Int.mul_nonneg (by omega) (by omega), Int.mul_le_mul (by omega) (by omega) (by omega) (by omega)⟩
    refine gs_grd (cmul_s (by omega) (by omega)) (gs_grd (cmul_s (by omega) (by omega)) (gs_lt ?_))
    refine gs_b1 (Q := fun x => x = if (i : Int) = place then c / 97 + 3 * k else (i : Int) * (i : Int) * (c / 7 % 3)) (gs_if (fun h => gs_grd (cmul_s (by omega) (by omega)) (gs_lt (gs_some (by rw [if_pos (of_decide_eq_true h)])))) fun h => gs_some (by rw [if_neg (of_decide_eq_false h)])) ?_
    rintro _ rfl
    refine gs_grd (by show LET.length ≤ _; rw [LET_len]; omega) ?_
    have f1 := Int.emod_nonneg (c / 144 + (if (i : Int) = place then c / 97 + 3 * k else (i : Int) * (i : Int) * (c / 7 % 3))) (show (26 : Int) ≠ 0 by omega)
    have f2 := Int.emod_lt_of_pos (c / 144 + (if (i : Int) = place then c / 97 + 3 * k else (i : Int) * (i : Int) * (c / 7 % 3))) (show (0 : Int) < 26 by omega)
    refine gs_eq (LET_at f1 f2) (gs_grd (by rw [S'_len, List.length_map, List.length_range]; show _ + 1 ≤ _; omega) (gs_lt (gs_some ?_)))
    rw [List.range_succ, List.map_append, ← S'_add]
    rfl
  · rintro st rfl
    refine gs_some ?_
    subst hsz hpl
    rfl
-- _law_shared
theorem lshared_sh {a b : Int} {n : Nat} (ha : 0 ≤ a) (hb : 0 ≤ b) (h : Sz n b) (hn : n ≤ 1000000) : sh__law_shared a b = some ((Int.gcd a b : Nat) : Int) := by
  refine Gs.eq (gs_b1 (whO_inv (fun st => 0 ≤ st.1 ∧ 0 ≤ st.2 ∧ Int.gcd st.1 st.2 = Int.gcd a b) (fun st => 0 ≤ st.1 ∧ st.2 = 0 ∧ Int.gcd st.1 st.2 = Int.gcd a b) (fun st => st.2.natAbs) ?_ FUEL (a, b) ⟨ha, hb, rfl⟩ (fuel_gt h hn)) ?_)
  · rintro ⟨x, y⟩ ⟨h0, h1, hx⟩
    have h0 : 0 ≤ x := h0
    have h1 : 0 ≤ y := h1
    by_cases hy : y = 0
    · exact .inl ⟨by simp [hy], h0, hy, hx⟩
    · refine .inr ⟨by simp; omega, gs_grd hy (gs_lt (gs_lt (gs_some ⟨⟨h1, ?_, ?_⟩, fmod_abs_lt x y hy⟩)))⟩
      · show 0 ≤ x.fmod y
        rw [fmod_nn h1]
        exact Int.emod_nonneg _ hy
      · show Int.gcd y (x.fmod y) = _
        rw [gcd_fmod]
        exact hx
  · rintro ⟨x, y⟩ ⟨h0, h1, h2⟩
    refine gs_some ?_
    have h1 : y = 0 := h1
    subst h1
    have h2 : Int.gcd x 0 = Int.gcd a b := h2
    have h0 : 0 ≤ x := h0
    rw [Int.gcd_zero_right] at h2
    rw [← h2]
    show x = _
    omega
-- k39a
theorem frac_is (f : Fr) (h1 : f.1.natAbs < 10 ^ 31) (h2 : 1 ≤ f.2) (h3 : f.2.natAbs < 10 ^ 31) (h4 : Int.gcd f.1 f.2 = 1) : sh_frac_of (S' (frL f)) = some (some f) := by
  obtain ⟨t, m⟩ := f
  have hp : (10 : Nat) ^ 31 < 10 ^ 100 := Nat.pow_lt_pow_right (by omega) (by omega)
  have hlen := frL_len (f := (t, m)) (Nat.lt_trans h1 hp) (Nat.lt_trans h3 hp)
  have h1 : t.natAbs < 10 ^ 31 := h1
  have h2 : 1 ≤ m := h2
  have h3 : m.natAbs < 10 ^ 31 := h3
  have h4 : Int.gcd t m = 1 := h4
  have ha : (TL.numL t.natAbs).length ≤ 31 := TL.numL_len (by omega) h1
  have hb : (TL.numL m.natAbs).length ≤ 31 := TL.numL_len (by omega) h3
  have hmn : m.toNat = m.natAbs := by omega
  have key : ∃ b : Option (List Nat), (m = 1 ↔ b = none) ∧ (∀ x, b = some x → x = TL.numL m.toNat) := by
    by_cases hm : m = 1
    · exact ⟨none, by simp [hm], by simp⟩
    · exact ⟨some (TL.numL m.toNat), by simp [hm], by simp⟩
  obtain ⟨b, hb1, hb2⟩ := key
  have hfr : frL (t, m) = (if t < 0 then [45] else []) ++ bodyL (TL.numL t.natAbs) b := by
    by_cases ht : t < 0
    · have e := frL_neg (t := -t) (m := m) (by omega)
      rw [Int.neg_neg, frL_pos (t := -t) (by omega) h2 b hb1 hb2] at e
      rw [e, if_pos ht, show (-t).toNat = t.natAbs from by omega]
      rfl
    · rw [frL_pos (t := t) (by omega) h2 b hb1 hb2, if_neg ht, show t.toNat = t.natAbs from by omega]
      rfl
  have hneg : negL (frL (t, m)) = decide (t < 0) := by
    rw [hfr]
    unfold negL
    by_cases ht : t < 0
    · simp [ht]
    · have hne := TL.numL_ne t.natAbs
      have h45 := no45 t.natAbs
      rw [if_neg ht, decide_eq_false ht, decide_eq_false_iff_not]
      match hl : TL.numL t.natAbs, hne with
      | y :: l, _ =>
        rw [hl] at h45
        cases b <;> (simp [bodyL]; intro e; exact h45 (by rw [e]; simp))
  have hbd : bdL (frL (t, m)) = bodyL (TL.numL t.natAbs) b := by
    have e := bdL_eq (frL (t, m))
    rw [hneg] at e
    by_cases ht : t < 0
    · rw [decide_eq_true ht, if_pos rfl] at e
      have e2 := hfr
      rw [if_pos ht] at e2
      exact List.append_cancel_left (e.symm.trans e2)
    · rw [decide_eq_false ht, if_neg (by decide)] at e
      have e2 := hfr
      rw [if_neg ht] at e2
      exact List.append_cancel_left (e.symm.trans e2)
  have hc : Cut (bdL (frL (t, m))) (TL.numL t.natAbs) b := by
    rw [hbd]
    cases b with
    | none => exact .no (no47 _)
    | some x => exact .at (no47 _)
  rw [frac_of_sh _ (by omega) hc]
  congr 1
  unfold frV
  rw [numV_numL (by omega)]
  have hbot : botL b = some m := by
    cases b with
    | none =>
      rw [hb1.mpr rfl]
      rfl
    | some x =>
      show numV x = _
      rw [hb2 x rfl, numV_numL (by rw [hmn]; omega)]
      congr 1
      omega
  rw [hbot]
  show (if (b.isSome = true ∧ m < 2) ∨ (negL (frL (t, m)) = true ∧ (t.natAbs : Int) = 0) ∨ Int.gcd (t.natAbs : Int) m ≠ 1 then none else some ((if negL (frL (t, m)) = true then -(t.natAbs : Int) else (t.natAbs : Int)), m)) = some (t, m)
  rw [hneg, if_neg]
  · by_cases ht : t < 0
    · rw [if_pos (decide_eq_true ht)]
      congr 2
      omega
    · rw [if_neg (by simp [ht])]
      congr 2
      omega
  · rintro (⟨c1, c2⟩ | ⟨c1, c2⟩ | c1)
    · have : m = 1 := by omega
      rw [hb1.mp this] at c1
      cases c1
    · have := of_decide_eq_true c1
      omega
    · apply c1
      rw [← h4]
      show Nat.gcd (Int.natAbs (t.natAbs : Int)) m.natAbs = Nat.gcd t.natAbs m.natAbs
      rw [Int.natAbs_natCast]
/-! words of a log -/
def cutA (l : List Nat) : List Nat := l.takeWhile fun c => !(c == 47)
def cutB (l : List Nat) : Option (List Nat) := match l.dropWhile (fun c => !(c == 47)) with
  | [] => none
  | _ :: b => some b
theorem cut_ok : ∀ l : List Nat, Cut l (cutA l) (cutB l)
  | [] => .no (by simp)
  | c :: l => by
    by_cases h : c = 47
    · subst h
      exact .at (a := []) (b := l) (by simp)
    · have e1 : cutA (c :: l) = c :: cutA l := by unfold cutA; rw [List.takeWhile_cons, if_pos (by simpa using h)]
      have e2 : cutB (c :: l) = cutB l := by unfold cutB; rw [List.dropWhile_cons, if_pos (by simpa using h)]
      rw [e1, e2]
      have ih := cut_ok l
      generalize cutA l = a at ih
      generalize cutB l = b at ih
      cases ih with
      | no q => exact .no (by simp [q]; omega)
      | «at» q => exact .at (a := c :: _) (by simp [q]; omega)
def frO (l : List Nat) : Option Fr := frV (negL l) (cutA (bdL l)) (cutB (bdL l))
theorem frO_sh {l : List Nat} (h : l.length ≤ 1000) : sh_frac_of (S' l) = some (frO l) := frac_of_sh l h (cut_ok _)
def W0 (l : List Nat) : Prop := (∀ c ∈ l, c ≠ 32 ∧ c ≠ 10 ∧ c < 1114112) ∧ l.length ≤ 100
instance (l : List Nat) : Decidable (W0 l) := by unfold W0; infer_instance
def rowS (ls : List (List Nat)) : Str := Txt.join " " (ls.map S')
theorem rowS_split {ls : List (List Nat)} (hn : ls ≠ []) (h : ∀ l ∈ ls, W0 l) : Txt.split (rowS ls) " " = ls.map S' :=
  TL.split_join (s := 32) (S := []) (by rw [sp_eq]) (by decide +kernel) (fun e => hn (List.map_eq_nil_iff.mp e)) fun p hp => by
    obtain ⟨l, hl, rfl⟩ := List.mem_map.mp hp
    exact fun q => ((h l hl).1 32 q).1 rfl
theorem rowS_no {ls : List (List Nat)} (h : ∀ l ∈ ls, W0 l) : 10 ∉ (rowS ls).cps.toList := by
  unfold rowS
  rw [join_cps, sp_eq]
  intro q
  rcases joinL_mem q with q | ⟨p, hp, q⟩
  · simp at q
  · obtain ⟨w, hw, rfl⟩ := List.mem_map.mp hp
    obtain ⟨l, hl, rfl⟩ := List.mem_map.mp hw
    exact ((h l hl).1 10 q).2.1 rfl
theorem rowS_sum {ls : List (List Nat)} (h : ∀ l ∈ ls, W0 l) : ((ls.map S').map Str.length).sum ≤ 100 * ls.length := by
  have := sum_len (n := 100) (ws := ls.map S') fun w hw => by
    obtain ⟨l, hl, rfl⟩ := List.mem_map.mp hw
    rw [S'_len]
    exact (h l hl).2
  rwa [List.length_map] at this
theorem rowS_len {ls : List (List Nat)} (h : ∀ l ∈ ls, W0 l) : (rowS ls).length ≤ 101 * ls.length := by
  have h1 : (Txt.join " " (ls.map S')).length ≤ ((ls.map S').map Str.length).sum + (ls.map S').length * (" " : Str).length := join_le " " (ls.map S')
  have h2 := rowS_sum h
  have h3 : (" " : Str).length = 1 := by decide +kernel
  rw [h3, List.length_map] at h1
  unfold rowS
  omega
def endW : List (List Nat) := [[115, 116, 97, 114, 116], [101, 110, 100]]
def onW : List (List Nat) := [[99, 111, 109, 101], [111, 110], [111, 102, 102]]
theorem endW_S : ([("start" : Str), ("end" : Str)] : List Str) = endW.map S' := by decide +kernel
theorem onW_S : ([("come" : Str), ("on" : Str), ("off" : Str)] : List Str) = onW.map S' := by decide +kernel
theorem mem_S {w : List Nat} {ls : List (List Nat)} : S' w ∈ ls.map S' ↔ w ∈ ls := by
  rw [List.mem_map]
  exact ⟨fun ⟨x, hx, e⟩ => S'_inj e ▸ hx, fun h => ⟨w, h, rfl⟩⟩
abbrev RowT := (Int × Int) × Str × Int × Str
def badR (at_v : Int) : Exc := ⟨10, [.inl at_v]⟩
/-- what a row of three or four words tells -/
def hv (a w c : List Nat) (rest : List (List Nat)) (at_v : Int) : RowT ⊕ Exc := match frO a with
  | none => .inr (badR at_v)
  | some f => if f.1 < 0 then .inr (badR at_v) else match numV c with
    | none => .inr (badR at_v)
    | some n => if n = 0 then .inr (badR at_v) else
      if w ∈ endW ∧ rest = [] then .inl (f, S' w, n - 1, S' []) else match rest with
        | [b] => if w ∈ onW ∧ wordOk b then .inl (f, S' w, n - 1, S' b) else .inr (badR at_v)
        | _ => .inr (badR at_v)
theorem w0_ok {w : List Nat} (h : W0 w) : PyData.strOk (S' w) = true := sok_iff.mpr fun c hc => (h.1 c hc).2.2
theorem endW_ok : List.all ([("start" : Str), ("end" : Str)] : List Str) PyData.strOk = true := by decide +kernel
theorem onW_ok : List.all ([("come" : Str), ("on" : Str), ("off" : Str)] : List Str) PyData.strOk = true := by decide +kernel
theorem heardU {a w c : List Nat} {rest : List (List Nat)} (h : ∀ l ∈ a :: w :: c :: rest, W0 l) (hr : rest.length ≤ 1) (at_v : Int) : shu_row_heard (rowS (a :: w :: c :: rest)) at_v = some (hv a w c rest at_v) := by
  have hs : Txt.split (rowS (a :: w :: c :: rest)) " " = S' a :: S' w :: S' c :: rest.map S' := rowS_split (by simp) h
  have hl := rowS_len h
  have ha := h a (by simp)
  have hw := h w (by simp)
  have hc := h c (by simp)
  unfold shu_row_heard
  rw [hs]
  rw [grd_pos ⟨by decide +kernel, by simp at hl; omega⟩]
  show (if _ then _ else _) = _
  rw [if_neg (by simp; omega)]
  rw [atI_zero, b1_some, frO_sh (by have := ha.2; omega), b1_some, atI_two, b1_some, number_sh c (by have := hc.2; omega), b1_some, numM_none]
  unfold hv
  cases hf : frO a with
  | none => rfl
  | some f =>
    dsimp only
    by_cases h0 : f.1 < 0
    · rw [if_pos h0]
      rw [if_neg (by simp), b1_some, if_pos (by simpa using h0)]
      rfl
    · rw [if_neg h0]
      cases hn : numV c with
      | none =>
        rw [if_neg (by simp), b1_some, if_neg (by simpa using h0), if_pos (by rfl)]
        rfl
      | some n =>
        dsimp only
        by_cases hn0 : n = 0
        · rw [if_pos hn0, if_neg (by simp), b1_some, if_neg (by simpa using h0), if_neg (by simp), b1_some, b1_some, b1_some, b1_some, if_pos (by simpa using hn0)]
          rfl
        · rw [if_neg hn0, if_neg (by simp), b1_some, if_neg (by simpa using h0), if_neg (by simp), b1_some, b1_some, b1_some, b1_some, if_neg (by simpa using hn0), atI_one, b1_some, grd_pos ⟨w0_ok hw, endW_ok⟩]
          by_cases h1 : w ∈ endW ∧ rest = []
          · obtain ⟨h1, rfl⟩ := h1
            rw [endW_S, decide_eq_true (mem_S.mpr h1)]
            rw [if_pos (by simp), if_pos ⟨h1, rfl⟩]
            rfl
          · rw [if_neg h1, if_neg (by
              intro e
              rw [endW_S, Bool.and_eq_true, decide_eq_true_eq, decide_eq_true_eq, mem_S] at e
              refine h1 ⟨e.1, ?_⟩
              have := e.2
              simp at this
              cases rest with
              | nil => rfl
              | cons x xs => simp at this; omega)]
            rw [b1_some, grd_pos ⟨w0_ok hw, onW_ok⟩, onW_S]
            match rest, hr with
            | [], _ =>
              by_cases h2 : w ∈ onW
              · rw [if_pos (decide_eq_true (mem_S.mpr h2)), if_neg (by simp)]
                rfl
              · rw [if_neg (by rw [decide_eq_true_eq, mem_S]; exact h2)]
                rfl
            | [b], _ =>
              have hb := h b (by simp)
              dsimp only
              by_cases h2 : w ∈ onW
              · rw [if_pos (decide_eq_true (mem_S.mpr h2)), if_pos (by simp)]
                show b1 (b1 (b1 (b1 (atI [S' a, S' w, S' c, S' b] 3) _) _) _) _ = _
                rw [atI_three]
                show b1 (b1 (b1 (sh_is_word (S' b)) _) _) _ = _
                rw [word_sh b (by have := hb.2; omega)]
                show (if decide (wordOk b) = true then _ else _) = _
                by_cases h3 : wordOk b
                · rw [if_pos (decide_eq_true h3), if_pos ⟨h2, h3⟩]
                  rfl
                · rw [if_neg (by simpa using h3), if_neg fun z => h3 z.2]
                  rfl
              · rw [if_neg (by rw [decide_eq_true_eq, mem_S]; exact h2), if_neg fun z => h2 z.1]
                rfl
            | _ :: _ :: _, hr => simp at hr
theorem heardU_many {ls : List (List Nat)} (hn : ls ≠ []) (h : ∀ l ∈ ls, W0 l) (hl : ls.length ≤ 1000) (h3 : ls.length ≠ 3) (h4 : ls.length ≠ 4) (at_v : Int) : shu_row_heard (rowS ls) at_v = some (.inr (badR at_v)) := by
  have hs := rowS_split hn h
  have hl := rowS_len h
  unfold shu_row_heard
  rw [hs]
  rw [grd_pos ⟨by decide +kernel, by omega⟩]
  show (if _ then _ else _) = _
  rw [if_pos (by simp; omega)]
  rfl
theorem hv_bad {a w c : List Nat} {rest : List (List Nat)} {at_v : Int} (h : (∀ f, frO a = some f → f.1 < 0) ∨ (∀ n, numV c = some n → n = 0) ∨ (w ∉ endW ∧ w ∉ onW) ∨ (rest = [] ∧ w ∉ endW) ∨ (∃ b, rest = [b] ∧ (w ∉ onW ∨ ¬ wordOk b))) : hv a w c rest at_v = .inr (badR at_v) := by
  unfold hv
  cases hf : frO a with
  | none => rfl
  | some f =>
    dsimp only
    by_cases h0 : f.1 < 0
    · rw [if_pos h0]
    rw [if_neg h0]
    cases hn : numV c with
    | none => rfl
    | some n =>
      dsimp only
      by_cases hn0 : n = 0
      · rw [if_pos hn0]
      rw [if_neg hn0]
      rcases h with h | h | h | h | h
      · exact absurd (h f hf) h0
      · exact absurd (h n hn) hn0
      · rw [if_neg fun z => h.1 z.1]
        split
        · rw [if_neg fun z => h.2 z.1]
        · rfl
      · obtain ⟨rfl, h⟩ := h
        rw [if_neg fun z => h z.1]
      · obtain ⟨b, rfl, h⟩ := h
        rw [if_neg fun z => by cases z.2]
        dsimp only
        rw [if_neg fun z => h.elim (fun q => q z.1) fun q => q z.2]
/-- a good row -/
structure RK (f : Fr) (w : List Nat) (c : Int) (b : List Nat) : Prop where
  t0 : 0 ≤ f.1
  t1 : f.1.natAbs < 10 ^ 31
  m0 : 1 ≤ f.2
  m1 : f.2.natAbs < 10 ^ 31
  g : Int.gcd f.1 f.2 = 1
  c0 : 0 ≤ c
  c1 : c.natAbs < 10 ^ 30
  wb : (w ∈ endW ∧ b = []) ∨ (w ∈ onW ∧ wordOk b)
def restL (b : List Nat) : List (List Nat) := if b = [] then [] else [b]
theorem txtI_pos {z : Int} (h : 0 ≤ z) : txtI z = TL.numL z.natAbs := by
  unfold txtI
  rw [if_neg (by omega)]
theorem numL_W0 {n : Nat} (h : n < 10 ^ 60) : W0 (TL.numL n) := by
  have hd := TL.numL_digits n
  refine ⟨fun c hc => ?_, ?_⟩
  · have := hd c hc
    unfold isFig at this
    omega
  · have := TL.numL_len (k := 60) (by omega) h
    omega
theorem frL_W0 {f : Fr} (h0 : 0 ≤ f.1) (h1 : f.1.natAbs < 10 ^ 31) (h2 : 0 ≤ f.2) (h3 : f.2.natAbs < 10 ^ 31) : W0 (frL f) := by
  have hp : (10 : Nat) ^ 31 < 10 ^ 60 := by decide
  have a := numL_W0 (Nat.lt_trans h1 hp)
  have b := numL_W0 (Nat.lt_trans h3 hp)
  have la : (TL.numL f.1.natAbs).length ≤ 31 := TL.numL_len (by omega) h1
  have lb : (TL.numL f.2.natAbs).length ≤ 31 := TL.numL_len (by omega) h3
  unfold frL
  rw [txtI_pos h0, txtI_pos h2]
  split
  · exact a
  · refine ⟨fun c hc => ?_, by rw [List.length_append, List.length_cons]; omega⟩
    rw [List.mem_append, List.mem_cons] at hc
    rcases hc with hc | hc | hc
    · exact a.1 c hc
    · subst hc; decide
    · exact b.1 c hc
theorem wordOk_W0 {b : List Nat} (h : wordOk b) : W0 b := ⟨fun c hc => by have := h.2.2 c hc; omega, by have := h.2.1; omega⟩
theorem endOn_W0 : (∀ w ∈ endW, W0 w) ∧ ∀ w ∈ onW, W0 w := by decide +kernel
section
variable {f : Fr} {w b : List Nat} {c : Int}
theorem RK.w0 (h : RK f w c b) : W0 w := by
  rcases h.wb with q | q
  · exact endOn_W0.1 w q.1
  · exact endOn_W0.2 w q.1
theorem RK.cc (h : RK f w c b) : (c + 1).natAbs < 10 ^ 31 := by
  have := h.c0
  have := h.c1
  have : (10 : Nat) ^ 30 < 10 ^ 31 := by decide
  omega
theorem RK.restW (h : RK f w c b) : ∀ l ∈ restL b, W0 l := by
  intro l hl
  unfold restL at hl
  split at hl
  · cases hl
  · rename_i hb
    rw [List.mem_singleton] at hl
    subst hl
    rcases h.wb with q | q
    · exact absurd q.2 hb
    · exact wordOk_W0 q.2
def wsL (f : Fr) (w : List Nat) (c : Int) (b : List Nat) : List (List Nat) := frL f :: w :: txtI (c + 1) :: restL b
theorem RK.all (h : RK f w c b) : ∀ l ∈ wsL f w c b, W0 l := by
  intro l hl
  have := h.c0
  have hc := h.cc
  have hp : (10 : Nat) ^ 31 < 10 ^ 60 := by decide
  rcases List.mem_cons.mp hl with rfl | hl
  · exact frL_W0 h.t0 h.t1 (by have := h.m0; omega) h.m1
  rcases List.mem_cons.mp hl with rfl | hl
  · exact h.w0
  rcases List.mem_cons.mp hl with rfl | hl
  · rw [txtI_pos (by omega)]
    exact numL_W0 (Nat.lt_trans hc hp)
  · exact h.restW l hl
theorem restL_len (b : List Nat) : (restL b).length ≤ 1 := by
  unfold restL
  split <;> simp
theorem RK.good (h : RK f w c b) (at_v : Int) : hv (frL f) w (txtI (c + 1)) (restL b) at_v = .inl (f, S' w, c, S' b) := by
  have hf : frO (frL f) = some f := by
    have e := frac_is f h.t1 h.m0 h.m1 h.g
    rw [frO_sh (by have := (h.all (frL f) (by unfold wsL; simp)).2; omega)] at e
    exact Option.some.inj e
  have := h.c0
  have hcl := h.cc
  have hn : numV (txtI (c + 1)) = some (c + 1) := by
    rw [txtI_pos (by omega), numV_numL (by have := TL.numL_len (k := 31) (by omega) hcl; omega)]
    congr 1
    omega
  have h0 := h.t0
  unfold hv
  rw [hf]
  dsimp only
  rw [if_neg (by omega), hn]
  dsimp only
  rw [if_neg (by omega), show c + 1 - 1 = c by omega]
  rcases h.wb with ⟨q, rfl⟩ | ⟨q, q2⟩
  · rw [if_pos ⟨q, rfl⟩]
  · have hb : b ≠ [] := fun e => by rw [e] at q2; exact absurd q2.1 (by decide)
    have hr : restL b = [b] := if_neg hb
    rw [hr, if_neg fun z => by cases z.2]
    dsimp only
    rw [if_pos ⟨q, q2⟩]
theorem RK.heardU (h : RK f w c b) (at_v : Int) : shu_row_heard (rowS (wsL f w c b)) at_v = some (.inl (f, S' w, c, S' b)) := by
  unfold wsL
  rw [G.heardU h.all (restL_len b), h.good]
end
-- k39b
theorem rowS_S (ls : List (List Nat)) : rowS ls = S' (TL.joinL [32] ls) := by
  refine str_ext ?_
  unfold rowS
  rw [join_cps, sp_eq, S'_cps, S'_cps, List.map_map]
  congr 1
  exact List.map_id ls
theorem pow31_100 {n : Nat} (h : n < 10 ^ 31) : n < 10 ^ 100 := Nat.lt_trans h (Nat.pow_lt_pow_right (by omega) (by omega))
section
variable {f : Fr} {w b : List Nat} {c : Int}
theorem RK.lens (h : RK f w c b) : (frL f).length ≤ 100 ∧ w.length ≤ 100 ∧ (txtI (c + 1)).length ≤ 100 ∧ b.length ≤ 100 := by
  refine ⟨(h.all _ (by unfold wsL; simp)).2, (h.all _ (by unfold wsL; simp)).2, (h.all _ (by unfold wsL; simp)).2, ?_⟩
  rcases h.wb with q | q
  · rw [q.2]; simp
  · exact (wordOk_W0 q.2).2
theorem RK.join (h : RK f w c b) : rowS (wsL f w c b) = S' (frL f ++ 32 :: (w ++ 32 :: txtI (c + 1)) ++ (if b = [] then [] else 32 :: b)) := by
  rw [rowS_S]
  unfold wsL restL
  split
  · simp [TL.joinL]
  · simp [TL.joinL]
theorem frac_tx {f : Fr} (h1 : f.1.natAbs < 10 ^ 31) (h2 : f.2.natAbs < 10 ^ 31) {α : Type} {P : α → Prop} {t : Str → Option α} (k : Gs (t (S' (frL f))) P) : Gs (b1 (if (!decide (f.2 = (1 : Int))) = true then
      grd (Str.length (toString f.1 : Str) + Str.length ("/" : Str) ≤ 16777216) <|
      grd (Nat.log2 (Int.natAbs f.2) < 1920) <|
      grd (Str.length ((toString f.1 : Str) ++ ("/" : Str)) + Str.length (toString f.2 : Str) ≤ 16777216) <|
      lt (((toString f.1 : Str) ++ ("/" : Str)) ++ (toString f.2 : Str)) fun (text' : Str) =>
      some text'
    else
      some (toString f.1 : Str)) t) P := by
  have a1 := txtI_len (z := f.1) (k := 31) (by omega) h1
  have a2 := txtI_len (z := f.2) (k := 31) (by omega) h2
  have e : frL f = if f.2 = 1 then txtI f.1 else txtI f.1 ++ 47 :: txtI f.2 := rfl
  rw [slash_S, str_int, str_int]
  by_cases h : f.2 = 1
  · rw [if_pos h] at e
    rw [if_neg (by simp [h]), b1_some, ← e]
    exact k
  · rw [if_neg h] at e
    rw [if_pos (by simp [h]), grd_pos (by rw [S'_len, S'_len]; simp; omega), grd_pos (log_big (pow31_100 h2)), grd_pos (by rw [S'_add, S'_len, S'_len, List.length_append]; simp; omega), S'_add, S'_add, List.append_assoc]
    rw [e] at k
    exact k
theorem text_of_sh (h : RK f w c b) : sh__law_text_of (f, S' w, c, S' b) = some (rowS (wsL f w c b)) := by
  obtain ⟨l1, l2, l3, l4⟩ := h.lens
  rw [h.join]
  refine Gs.eq ?_
  unfold sh__law_text_of
  refine gs_grd (log_big (pow31_100 h.t1)) (gs_lt ?_)
  refine frac_tx h.t1 h.m1 ?_
  show Gs (grd (Str.length (S' (frL f)) + Str.length (" " : Str) ≤ 16777216) <|
  grd (Str.length (S' (frL f) ++ (" " : Str)) + Str.length (S' w) ≤ 16777216) <|
  grd (Str.length ((S' (frL f) ++ (" " : Str)) ++ S' w) + Str.length (" " : Str) ≤ 16777216) <|
  grd (Nat.log2 (Int.natAbs (c + (1 : Int))) < 1920) <|
  grd (Str.length (((S' (frL f) ++ (" " : Str)) ++ S' w) ++ (" " : Str)) + Str.length (toString (c + (1 : Int)) : Str) ≤ 16777216) <|
  lt ((((S' (frL f) ++ (" " : Str)) ++ S' w) ++ (" " : Str)) ++ (toString (c + (1 : Int)) : Str)) fun (text'3 : Str) =>
  b1 (if (!decide (S' b = ("" : Str))) = true then
      grd (Str.length text'3 + Str.length (" " : Str) ≤ 16777216) <|
      grd (Str.length (text'3 ++ (" " : Str)) + Str.length (S' b) ≤ 16777216) <|
      lt ((text'3 ++ (" " : Str)) ++ S' b) fun (text'4 : Str) =>
      some text'4
    else
      some text'3) fun text'5 =>
  some text'5) _
  have he : ("" : Str) = S' [] := by decide +kernel
  rw [sp_eq, he, str_int]
  simp only [S'_add, S'_len]
  refine gs_grd (by simp; omega) (gs_grd (by simp; omega) (gs_grd (by simp; omega) (gs_grd (log_big (pow31_100 h.cc)) (gs_grd (by simp; omega) (gs_lt ?_)))))
  by_cases hb : b = []
  · rw [if_neg (by simp [hb]), b1_some, if_pos hb]
    exact gs_some (by simp)
  · rw [if_pos (by simp [hb, S'_eq])]
    refine gs_b1 (Q := fun x => x = _) (gs_grd (by rw [S'_len]; simp; omega) (gs_grd (by rw [S'_add, S'_len]; simp; omega) (gs_lt (gs_some rfl)))) fun x hx => gs_some ?_
    rw [hx, if_neg hb, S'_add, S'_add]
    simp
theorem log_row_sh (h : RK f w c b) : sh_log_row (f, S' w, c, S' b) = some (rowS (wsL f w c b)) := by
  obtain ⟨l1, l2, l3, l4⟩ := h.lens
  have hs := rowS_sum h.all
  have hr := restL_len b
  have he : ("" : Str) = S' [] := by decide +kernel
  have hsp : (" " : Str).length = 1 := by decide +kernel
  unfold sh_log_row
  show b1 (sh_frac_text f) _ = _
  rw [frac_text_sh f (pow31_100 h.t1) (pow31_100 h.m1), b1_some]
  show grd (Nat.log2 (Int.natAbs (c + (1 : Int))) < 1920) _ = _
  rw [grd_pos (log_big (pow31_100 h.cc))]
  show b1 (if (!decide (S' b = ("" : Str))) = true then
      grd (List.length ([S' (frL f), S' w, (toString (c + (1 : Int)) : Str)]) < 16777216) <|
      lt ([S' (frL f), S' w, (toString (c + (1 : Int)) : Str)] ++ [S' b]) fun (words' : (List Str)) =>
      some words'
    else
      some [S' (frL f), S' w, (toString (c + (1 : Int)) : Str)]) (fun words'2 =>
    grd ((List.map Str.length words'2).sum + List.length words'2 * Str.length (" " : Str) ≤ 16777216) <|
    some (Txt.join (" " : Str) words'2)) = _
  have key : (if (!decide (S' b = ("" : Str))) = true then
      grd (List.length ([S' (frL f), S' w, (toString (c + (1 : Int)) : Str)]) < 16777216) <|
      lt ([S' (frL f), S' w, (toString (c + (1 : Int)) : Str)] ++ [S' b]) fun (words' : (List Str)) =>
      some words'
    else
      some [S' (frL f), S' w, (toString (c + (1 : Int)) : Str)]) = some ((wsL f w c b).map S') := by
    rw [he, str_int]
    unfold wsL restL
    by_cases hb : b = []
    · rw [if_neg (by simp [hb]), if_pos hb]
      rfl
    · rw [if_pos (by simp [hb, S'_eq]), if_neg hb, grd_pos (by simp)]
      rfl
  rw [key, b1_some, grd_pos (by rw [hsp, List.length_map]; unfold wsL at *; simp at hs ⊢; omega)]
  rfl
end
-- k39c
def SpOk (x : Str) : Prop := ∃ ls : List (List Nat), ls ≠ [] ∧ (∀ l ∈ ls, W0 l) ∧ ls.length ≤ 10 ∧ x = rowS ls ∧ ∀ at_v, shu_row_heard x at_v = some (.inr (badR at_v))
theorem sp3 {a w c : List Nat} {rest : List (List Nat)} (h : ∀ l ∈ a :: w :: c :: rest, W0 l) (hr : rest.length ≤ 1) (hb : (∀ f, frO a = some f → f.1 < 0) ∨ (∀ n, numV c = some n → n = 0) ∨ (w ∉ endW ∧ w ∉ onW) ∨ (rest = [] ∧ w ∉ endW) ∨ (∃ b, rest = [b] ∧ (w ∉ onW ∨ ¬ wordOk b))) : SpOk (rowS (a :: w :: c :: rest)) :=
  ⟨_, by simp, h, by simp; omega, rfl, fun at_v => by rw [heardU h hr, hv_bad hb]⟩
theorem spN {ls : List (List Nat)} (hn : ls ≠ []) (h : ∀ l ∈ ls, W0 l) (hl : ls.length ≤ 10) (h3 : ls.length ≠ 3) (h4 : ls.length ≠ 4) : SpOk (rowS ls) :=
  ⟨_, hn, h, hl, rfl, fun at_v => heardU_many hn h (by omega) h3 h4 at_v⟩
theorem ends_on : (∀ w ∈ endW, w ∉ onW) ∧ ∀ w ∈ onW, w ∉ endW := by decide +kernel
section
variable {α σ : Type} {P : α → Prop}
theorem gs_skip {c : Bool} {a : Option σ} {s : σ} {t : σ → Option α} (h : c = false) (k : Gs (t s) P) : Gs (b1 (if c = true then a else some s) t) P := by
  subst h
  exact k
theorem gs_take {c : Bool} {a b : Option σ} {t : σ → Option α} (h : c = true) (k : Gs (b1 a t) P) : Gs (b1 (if c = true then a else b) t) P := by
  subst h
  exact k
theorem setI_0 {x v : α} {xs : List α} : setI (x :: xs) 0 v = some (v :: xs) := by
  unfold setI
  rw [show (0 : Int) = ((0 : Nat) : Int) from rfl, ixN_nat rfl (by simp)]
  rfl
theorem setI_1 {x y v : α} {xs : List α} : setI (x :: y :: xs) 1 v = some (x :: v :: xs) := by
  unfold setI
  rw [show (1 : Int) = ((1 : Nat) : Int) from rfl, ixN_nat rfl (by simp)]
  rfl
theorem setI_2 {x y z v : α} {xs : List α} : setI (x :: y :: z :: xs) 2 v = some (x :: y :: v :: xs) := by
  unfold setI
  rw [show (2 : Int) = ((2 : Nat) : Int) from rfl, ixN_nat rfl (by simp)]
  rfl
theorem setI_3 {x y z u v : α} {xs : List α} : setI (x :: y :: z :: u :: xs) 3 v = some (x :: y :: z :: v :: xs) := by
  unfold setI
  rw [show (3 : Int) = ((3 : Nat) : Int) from rfl, ixN_nat rfl (by simp)]
  rfl
end
theorem pickS {xs : List Str} {ls : List (List Nat)} (e : xs = ls.map S') {i : Int} (h0 : 0 ≤ i) (h1 : i < xs.length) : Gs (atI xs i) fun x => ∃ l ∈ ls, x = S' l := by
  subst e
  refine Gs.mono (gs_pick h0 h1) fun x hx => ?_
  obtain ⟨l, hl, rfl⟩ := List.mem_map.mp hx
  exact ⟨l, hl, rfl⟩
theorem fin_sh {ls : List (List Nat)} (h : SpOk (rowS ls)) (hw : ∀ l ∈ ls, W0 l) (hl : ls.length ≤ 10) : Gs (grd ((List.map Str.length (ls.map S')).sum + List.length (ls.map S') * Str.length (" " : Str) ≤ 16777216) <| some (Txt.join (" " : Str) (ls.map S'))) SpOk := by
  have hs := rowS_sum hw
  have hsp : (" " : Str).length = 1 := by decide +kernel
  exact gs_grd (by rw [hsp, List.length_map]; omega) (gs_some h)
def L0 : List (List Nat) := [[45, 49], [45, 49, 47, 50], [50, 47, 52], [48, 47, 51], [49, 47, 49], [49, 47, 48], [120], [48, 49], [49, 46, 53], [43, 49], [49, 47, 47, 50], []]
theorem L0_S : ([("-1" : Str), ("-1/2" : Str), ("2/4" : Str), ("0/3" : Str), ("1/1" : Str), ("1/0" : Str), ("x" : Str), ("01" : Str), ("1.5" : Str), ("+1" : Str), ("1//2" : Str), ("" : Str)] : List Str) = L0.map S' := by decide +kernel
def negO (o : Option Fr) : Bool := match o with
  | none => true
  | some f => decide (f.1 < 0)
theorem negO_ok {o : Option Fr} (h : negO o = true) : ∀ f, o = some f → f.1 < 0 := by
  rintro f rfl
  exact of_decide_eq_true h
theorem L0_bad : ∀ l ∈ L0, W0 l ∧ negO (frO l) = true := by decide +kernel
def L1 : List (List Nat) := [[79, 102, 102], [111, 110, 115], [115, 116, 111, 112], [99, 111, 109, 101, 49], [111, 102, 102, 115], []]
theorem L1_S : ([("Off" : Str), ("ons" : Str), ("stop" : Str), ("come1" : Str), ("offs" : Str), ("" : Str)] : List Str) = L1.map S' := by decide +kernel
theorem L1_bad : ∀ l ∈ L1, W0 l ∧ l ∉ endW ∧ l ∉ onW := by decide +kernel
def zerO (o : Option Int) : Bool := match o with
  | none => true
  | some n => decide (n = 0)
theorem zerO_ok {o : Option Int} (h : zerO o = true) : ∀ f, o = some f → f = 0 := by
  rintro f rfl
  exact of_decide_eq_true h
def L2 (c : List Nat) : List (List Nat) := [[48], 48 :: c, [45, 49], [120], [], c ++ [97]]
theorem L2_S (c : List Nat) : ([("0" : Str), (("0" : Str) ++ S' c), ("-1" : Str), ("x" : Str), ("" : Str), (S' c ++ ("a" : Str))] : List Str) = (L2 c).map S' := by
  rw [show ("0" : Str) = S' [48] by decide +kernel, show ("a" : Str) = S' [97] by decide +kernel, show ("-1" : Str) = S' [45, 49] by decide +kernel, show ("x" : Str) = S' [120] by decide +kernel, show ("" : Str) = S' [] by decide +kernel, S'_add, S'_add]
  rfl
theorem numV_last {l : List Nat} {x : Nat} (h : ¬ isFig x) : numV (l ++ [x]) = none := numV_no fun q => h (q.1 x (by simp))
theorem L2_bad {c : List Nat} (hc : c ≠ []) (hw : W0 c) (hl : c.length ≤ 90) : ∀ l ∈ L2 c, W0 l ∧ zerO (numV l) = true := by
  intro l h
  unfold L2 at h
  rw [List.mem_cons, List.mem_cons, List.mem_cons, List.mem_cons, List.mem_cons, List.mem_singleton] at h
  rcases h with rfl | rfl | rfl | rfl | rfl | rfl
  · decide +kernel
  · refine ⟨⟨fun x hx => ?_, by rw [List.length_cons]; omega⟩, ?_⟩
    · rcases List.mem_cons.mp hx with rfl | hx
      · decide
      · exact hw.1 x hx
    · rw [numV_no fun q => q.2.2.2 ⟨?_, rfl⟩]
      · rfl
      · have := List.length_pos_iff.mpr hc
        rw [List.length_cons]
        omega
  · decide +kernel
  · decide +kernel
  · decide +kernel
  · refine ⟨⟨fun x hx => ?_, by rw [List.length_append, List.length_singleton]; omega⟩, ?_⟩
    · rcases List.mem_append.mp hx with hx | hx
      · exact hw.1 x hx
      · rw [List.mem_singleton] at hx; subst hx; decide
    · rw [numV_last (by decide)]
      rfl
def L3 : List (List Nat) := [[97], [], [97, 98, 99]]
theorem L3_S : ([("a" : Str), ("" : Str), ("abc" : Str)] : List Str) = L3.map S' := by decide +kernel
theorem L3_ok : ∀ l ∈ L3, W0 l := by decide +kernel
def L5 (b : List Nat) : List (List Nat) := [[65], b ++ [49], [97, 98, 99, 100, 101, 102, 103, 104, 105, 106, 107, 108, 109], [], [97, 45, 98]]
theorem L5_S (b : List Nat) : ([("A" : Str), (S' b ++ ("1" : Str)), ("abcdefghijklm" : Str), ("" : Str), ("a-b" : Str)] : List Str) = (L5 b).map S' := by
  rw [show ("A" : Str) = S' [65] by decide +kernel, show ("1" : Str) = S' [49] by decide +kernel, show ("abcdefghijklm" : Str) = S' [97, 98, 99, 100, 101, 102, 103, 104, 105, 106, 107, 108, 109] by decide +kernel, show ("" : Str) = S' [] by decide +kernel, show ("a-b" : Str) = S' [97, 45, 98] by decide +kernel, S'_add]
  rfl
theorem wordOk_last {l : List Nat} {x : Nat} (h : ¬ (97 ≤ x ∧ x ≤ 122)) : ¬ wordOk (l ++ [x]) := fun q => h (q.2.2 x (by simp))
theorem L5_bad {b : List Nat} (hb : W0 b) (hl : b.length ≤ 90) : ∀ l ∈ L5 b, W0 l ∧ ¬ wordOk l := by
  intro l h
  unfold L5 at h
  rw [List.mem_cons, List.mem_cons, List.mem_cons, List.mem_cons, List.mem_singleton] at h
  rcases h with rfl | rfl | rfl | rfl | rfl
  · decide +kernel
  · refine ⟨⟨fun x hx => ?_, by rw [List.length_append, List.length_singleton]; omega⟩, wordOk_last (by omega)⟩
    rcases List.mem_append.mp hx with hx | hx
    · exact hb.1 x hx
    · rw [List.mem_singleton] at hx; subst hx; decide
  · decide +kernel
  · decide +kernel
  · decide +kernel
def L5b : List (List Nat) := [[111, 102, 102], [99, 111, 109, 101], [111, 110]]
theorem L5b_S : ([("off" : Str), ("come" : Str), ("on" : Str)] : List Str) = L5b.map S' := by decide +kernel
theorem L5b_ok : ∀ l ∈ L5b, W0 l ∧ l ∉ endW := by decide +kernel
def L6 : List (List Nat) := [[101, 110, 100], [115, 116, 97, 114, 116]]
theorem L6_S : ([("end" : Str), ("start" : Str)] : List Str) = L6.map S' := by decide +kernel
theorem L6_ok : ∀ l ∈ L6, W0 l ∧ l ∉ onW := by decide +kernel
theorem tab_W0 {l : List Nat} (h : W0 l) (hl : l.length ≤ 90) : W0 (l ++ [9]) := by
  refine ⟨fun x hx => ?_, by rw [List.length_append, List.length_singleton]; omega⟩
  rcases List.mem_append.mp hx with hx | hx
  · exact h.1 x hx
  · rw [List.mem_singleton] at hx; subst hx; decide
theorem nil_W0 : W0 [] := by decide
theorem join2_S (ls : List (List Nat)) : Txt.join "  " (ls.map S') = S' (TL.joinL [32, 32] ls) := by
  refine str_ext ?_
  rw [join_cps, show ("  " : Str) = S' [32, 32] by decide +kernel, S'_cps, S'_cps, List.map_map]
  congr 1
  exact List.map_id ls
theorem odd_mem {a w c : List Nat} {rest : List (List Nat)} (h : ∀ l ∈ a :: w :: c :: rest, W0 l) (hc : c.length ≤ 90) (hb : (rest = [] ∧ w ∈ endW) ∨ ∃ b, rest = [b] ∧ w ∈ onW ∧ b.length ≤ 90) {x : Str} (hx : x ∈ ([("" : Str), ((" " : Str) ++ rowS (a :: w :: c :: rest)), (rowS (a :: w :: c :: rest) ++ (" " : Str)), (rowS (a :: w :: c :: rest) ++ ("\t" : Str)), (Txt.join ("  " : Str) ((a :: w :: c :: rest).map S'))] : List Str)) : SpOk x := by
  have ha := h a (by simp)
  have hw := h w (by simp)
  have hc0 := h c (by simp)
  rw [List.mem_cons, List.mem_cons, List.mem_cons, List.mem_cons, List.mem_singleton] at hx
  rcases hx with rfl | rfl | rfl | rfl | rfl
  · have e : ("" : Str) = rowS [[]] := by decide +kernel
    rw [e]
    exact spN (by simp) (by simp [nil_W0]) (by simp) (by simp) (by simp)
  · have e : (" " : Str) ++ rowS (a :: w :: c :: rest) = rowS ([] :: a :: w :: c :: rest) := by
      rw [rowS_S, rowS_S, sp_eq, S'_add]
      rfl
    rw [e]
    rcases hb with ⟨rfl, hb⟩ | ⟨b, rfl, hb, _⟩
    · exact sp3 (by simp [nil_W0, ha, hw, hc0]) (by simp) (.inl (negO_ok (by decide +kernel)))
    · exact spN (by simp) (by simp [nil_W0, ha, hw, hc0, h b]) (by simp) (by simp) (by simp)
  · have e : rowS (a :: w :: c :: rest) ++ (" " : Str) = rowS (a :: w :: c :: (rest ++ [[]])) := by
      rw [rowS_S, rowS_S, sp_eq, S'_add]
      rcases hb with ⟨rfl, hb⟩ | ⟨b, rfl, hb, _⟩ <;> simp [TL.joinL]
    rw [e]
    rcases hb with ⟨rfl, hb⟩ | ⟨b, rfl, hb, _⟩
    · exact sp3 (by simp [nil_W0, ha, hw, hc0]) (by simp) (.inr (.inr (.inr (.inr ⟨[], rfl, .inr (by decide)⟩))))
    · exact spN (by simp) (by simp [nil_W0, ha, hw, hc0, h b]) (by simp) (by simp) (by simp)
  · rw [show ("\t" : Str) = S' [9] by decide +kernel]
    rcases hb with ⟨rfl, hb⟩ | ⟨b, rfl, hb, hbl⟩
    · have e : rowS [a, w, c] ++ S' [9] = rowS [a, w, c ++ [9]] := by
        rw [rowS_S, rowS_S, S'_add]
        simp [TL.joinL]
      rw [e]
      exact sp3 (by simp [tab_W0 hc0 hc, ha, hw]) (by simp) (.inr (.inl (zerO_ok (by rw [numV_last (by decide)]; rfl))))
    · have e : rowS [a, w, c, b] ++ S' [9] = rowS [a, w, c, b ++ [9]] := by
        rw [rowS_S, rowS_S, S'_add]
        simp [TL.joinL]
      rw [e]
      exact sp3 (by simp [tab_W0 (h b (by simp)) hbl, ha, hw, hc0]) (by simp) (.inr (.inr (.inr (.inr ⟨_, rfl, .inr (wordOk_last (by omega))⟩))))
  · rw [join2_S]
    rcases hb with ⟨rfl, hb⟩ | ⟨b, rfl, hb, hbl⟩
    · have e : S' (TL.joinL [32, 32] [a, w, c]) = rowS [a, [], w, [], c] := by
        rw [rowS_S]
        simp [TL.joinL]
      rw [e]
      exact spN (by simp) (by simp [nil_W0, ha, hw, hc0]) (by simp) (by simp) (by simp)
    · have e : S' (TL.joinL [32, 32] [a, w, c, b]) = rowS [a, [], w, [], c, [], b] := by
        rw [rowS_S]
        simp [TL.joinL]
      rw [e]
      exact spN (by simp) (by simp [nil_W0, ha, hw, hc0, h b]) (by simp) (by simp) (by simp)
-- k39d
section
variable {f : Fr} {w b : List Nat} {c : Int}
theorem RK.cl (h : RK f w c b) : (txtI (c + 1)).length ≤ 31 ∧ txtI (c + 1) ≠ [] ∧ b.length ≤ 12 := by
  have h0 := h.c0
  refine ⟨?_, ?_, ?_⟩
  · rw [txtI_pos (by omega)]
    exact TL.numL_len (by omega) h.cc
  · rw [txtI_pos (by omega)]
    exact TL.numL_ne _
  · rcases h.wb with q | q
    · rw [q.2]; simp
    · exact q.2.2.1
theorem way_of {n : Int} (hn : 0 ≤ n) {way : Int} (h : way = n % 8) : way = 0 ∨ way = 1 ∨ way = 2 ∨ way = 3 ∨ way = 4 ∨ way = 5 ∨ way = 6 ∨ way = 7 := by omega
theorem odd3 {a w c : List Nat} {rest : List (List Nat)} (h : ∀ l ∈ a :: w :: c :: rest, W0 l) (hc : c.length ≤ 90) (hb : (rest = [] ∧ w ∈ endW) ∨ ∃ b, rest = [b] ∧ w ∈ onW ∧ b.length ≤ 90) {i : Int} (h0 : 0 ≤ i) (h1 : i < 5) : Gs (
      grd ((List.map Str.length ((a :: w :: c :: rest).map S')).sum + List.length ((a :: w :: c :: rest).map S') * Str.length (" " : Str) ≤ 16777216) <|
      grd (Str.length (" " : Str) + Str.length (Txt.join (" " : Str) ((a :: w :: c :: rest).map S')) ≤ 16777216) <|
      grd ((List.map Str.length ((a :: w :: c :: rest).map S')).sum + List.length ((a :: w :: c :: rest).map S') * Str.length (" " : Str) ≤ 16777216) <|
      grd (Str.length (Txt.join (" " : Str) ((a :: w :: c :: rest).map S')) + Str.length (" " : Str) ≤ 16777216) <|
      grd ((List.map Str.length ((a :: w :: c :: rest).map S')).sum + List.length ((a :: w :: c :: rest).map S') * Str.length (" " : Str) ≤ 16777216) <|
      grd (Str.length (Txt.join (" " : Str) ((a :: w :: c :: rest).map S')) + Str.length ("\t" : Str) ≤ 16777216) <|
      grd ((List.map Str.length ((a :: w :: c :: rest).map S')).sum + List.length ((a :: w :: c :: rest).map S') * Str.length ("  " : Str) ≤ 16777216) <|
      b1 (atI ([("" : Str), ((" " : Str) ++ (Txt.join (" " : Str) ((a :: w :: c :: rest).map S'))), ((Txt.join (" " : Str) ((a :: w :: c :: rest).map S')) ++ (" " : Str)), ((Txt.join (" " : Str) ((a :: w :: c :: rest).map S')) ++ ("\t" : Str)), (Txt.join ("  " : Str) ((a :: w :: c :: rest).map S'))] : List Str) i) fun t17 =>
      some t17) SpOk := by
  have hs := rowS_sum h
  have hl : (Txt.join " " ((a :: w :: c :: rest).map S')).length ≤ 101 * (a :: w :: c :: rest).length := rowS_len h
  have hr : rest.length ≤ 1 := by rcases hb with ⟨rfl, _⟩ | ⟨b, rfl, _⟩ <;> simp
  have h2 : ("  " : Str).length = 2 := by decide +kernel
  have h3 : (" " : Str).length = 1 := by decide +kernel
  have h4 : ("\t" : Str).length = 1 := by decide +kernel
  rw [h2, h3, h4]
  have hn : ((a :: w :: c :: rest).map S').length = rest.length + 3 := by simp
  rw [hn]
  have hn2 : (a :: w :: c :: rest).length = rest.length + 3 := rfl
  rw [hn2] at hs hl
  refine gs_grd (by omega) (gs_grd (by omega) (gs_grd (by omega) (gs_grd (by omega) (gs_grd (by omega) (gs_grd (by omega) (gs_grd (by omega) ?_))))))
  refine gs_b1 (Q := fun x => SpOk x) (Gs.mono (gs_pick h0 (by simp; omega)) fun x hx => odd_mem h hc hb hx) fun x hx => gs_some hx
theorem spoilt3 (h : RK f w c []) (hw : w ∈ endW) (n : Int) (hn : 0 ≤ n) : Gs (sh__law_spoilt (f, S' w, c, S' []) n) SpOk := by
  obtain ⟨cl, cn, _⟩ := h.cl
  have ha := h.all
  have e3 : wsL f w c [] = [frL f, w, txtI (c + 1)] := rfl
  rw [e3] at ha
  have hA := ha (frL f) (by simp)
  have hW := ha w (by simp)
  have hC := ha (txtI (c + 1)) (by simp)
  have hb : ("" : Str) = S' [] := by decide +kernel
  have hlen := rowS_len ha
  unfold sh__law_spoilt
  refine gs_eq (text_of_sh h) ?_
  rw [e3, rowS_split (by simp) ha]
  refine gs_grd ⟨by decide +kernel, by simp at hlen; omega⟩ (gs_lt (gs_ltE fun way hway => ?_))
  show Gs (b1 (if (decide (way = (0 : Int))) = true then _ else some [S' (frL f), S' w, S' (txtI (c + 1))]) _) _
  rcases way_of hn hway with rfl | rfl | rfl | rfl | rfl | rfl | rfl | rfl
  · refine gs_take rfl (gs_b1 (Q := fun u => ∃ x ∈ L0, u = [x, w, txtI (c + 1)].map S') (gs_b1 (pickS L0_S (by omega) (by simp; omega)) ?_) ?_)
    · rintro _ ⟨l, hl, rfl⟩
      exact gs_eq setI_0 (gs_some ⟨l, hl, rfl⟩)
    · rintro _ ⟨l, hl, rfl⟩
      have q := L0_bad l hl
      have hw0 : ∀ y ∈ [l, w, txtI (c + 1)], W0 y := by simp [q.1, hW, hC]
      refine gs_skip rfl (gs_skip rfl (gs_skip rfl (gs_skip rfl (gs_skip rfl (gs_skip rfl (gs_skip rfl (gs_ifF rfl ?_)))))))
      exact fin_sh (sp3 hw0 (by simp) (.inl (negO_ok q.2))) hw0 (by simp)
  · refine gs_skip rfl (gs_take rfl (gs_b1 (Q := fun u => ∃ x ∈ L1, u = [frL f, x, txtI (c + 1)].map S') (gs_b1 (pickS L1_S (by omega) (by simp; omega)) ?_) ?_))
    · rintro _ ⟨l, hl, rfl⟩
      exact gs_eq setI_1 (gs_some ⟨l, hl, rfl⟩)
    · rintro _ ⟨l, hl, rfl⟩
      have q := L1_bad l hl
      have hw0 : ∀ y ∈ [frL f, l, txtI (c + 1)], W0 y := by simp [q.1, hA, hC]
      refine gs_skip rfl (gs_skip rfl (gs_skip rfl (gs_skip rfl (gs_skip rfl (gs_skip rfl (gs_ifF rfl ?_))))))
      exact fin_sh (sp3 hw0 (by simp) (.inr (.inr (.inl q.2)))) hw0 (by simp)
  · refine gs_skip rfl (gs_skip rfl (gs_take rfl (gs_b1 (Q := fun u => ∃ x ∈ G.L2 (txtI (c + 1)), u = [frL f, w, x].map S') ?_ ?_)))
    · refine gs_eq (atI_two _ _ _ _) (gs_grd (by rw [show ("0" : Str).length = 1 by decide +kernel, S'_len]; omega) (gs_eq (atI_two _ _ _ _) (gs_grd (by rw [show ("a" : Str).length = 1 by decide +kernel, S'_len]; omega) ?_)))
      refine gs_b1 (pickS (L2_S _) (by omega) (by simp; omega)) ?_
      rintro _ ⟨l, hl, rfl⟩
      exact gs_eq setI_2 (gs_some ⟨l, hl, rfl⟩)
    · rintro _ ⟨l, hl, rfl⟩
      have q := L2_bad cn hC (by omega) l hl
      have hw0 : ∀ y ∈ [frL f, w, l], W0 y := by simp [q.1, hA, hW]
      refine gs_skip rfl (gs_skip rfl (gs_skip rfl (gs_skip rfl (gs_skip rfl (gs_ifF rfl ?_)))))
      exact fin_sh (sp3 hw0 (by simp) (.inr (.inl (zerO_ok q.2)))) hw0 (by simp)
  · refine gs_skip rfl (gs_skip rfl (gs_skip rfl (gs_take rfl (gs_b1 (Q := fun u => ∃ x ∈ L3, u = [frL f, w, txtI (c + 1), x].map S') (gs_b1 (pickS L3_S (by omega) (by simp; omega)) ?_) ?_))))
    · rintro _ ⟨l, hl, rfl⟩
      exact gs_grd (by simp) (gs_lt (gs_some ⟨l, hl, rfl⟩))
    · rintro _ ⟨l, hl, rfl⟩
      have hw0 : ∀ y ∈ [frL f, w, txtI (c + 1), l], W0 y := by simp [L3_ok l hl, hA, hW, hC]
      refine gs_skip rfl (gs_skip rfl (gs_skip rfl (gs_skip rfl (gs_ifF rfl ?_))))
      exact fin_sh (sp3 hw0 (by simp) (.inr (.inr (.inr (.inr ⟨l, rfl, .inl (ends_on.1 w hw)⟩))))) hw0 (by simp)
  · refine gs_skip rfl (gs_skip rfl (gs_skip rfl (gs_skip rfl (gs_take rfl (gs_b1 (Q := fun u => u = [frL f, w].map S') (gs_grd (by simp) (gs_lt (gs_some rfl))) ?_)))))
    rintro _ rfl
    have hw0 : ∀ y ∈ [frL f, w], W0 y := by simp [hA, hW]
    refine gs_skip rfl (gs_skip rfl (gs_skip rfl (gs_ifF rfl ?_)))
    exact fin_sh (spN (by simp) hw0 (by simp) (by simp) (by simp)) hw0 (by simp)
  · refine gs_skip rfl (gs_skip rfl (gs_skip rfl (gs_skip rfl (gs_skip rfl (gs_skip (by simp [hb]) (gs_take (by simp [hb]) (gs_b1 (Q := fun u => ∃ x ∈ L5b, u = [frL f, x, txtI (c + 1)].map S') (gs_b1 (pickS L5b_S (by omega) (by simp; omega)) ?_) ?_)))))))
    · rintro _ ⟨l, hl, rfl⟩
      exact gs_eq setI_1 (gs_some ⟨l, hl, rfl⟩)
    · rintro _ ⟨l, hl, rfl⟩
      have q := L5b_ok l hl
      have hw0 : ∀ y ∈ [frL f, l, txtI (c + 1)], W0 y := by simp [q.1, hA, hC]
      refine gs_skip rfl (gs_ifF rfl ?_)
      exact fin_sh (sp3 hw0 (by simp) (.inr (.inr (.inr (.inl ⟨rfl, q.2⟩))))) hw0 (by simp)
  · refine gs_skip rfl (gs_skip rfl (gs_skip rfl (gs_skip rfl (gs_skip rfl (gs_skip rfl (gs_skip rfl (gs_skip (by simp [hb]) (gs_ifT (by simp [hb]) ?_))))))))
    exact odd3 ha (by omega) (.inl ⟨rfl, hw⟩) (by omega) (by omega)
  · refine gs_skip rfl (gs_skip rfl (gs_skip rfl (gs_skip rfl (gs_skip rfl (gs_skip rfl (gs_skip rfl (gs_skip rfl (gs_ifT rfl ?_))))))))
    exact odd3 ha (by omega) (.inl ⟨rfl, hw⟩) (by omega) (by omega)
theorem spoilt4 (h : RK f w c b) (hw : w ∈ onW) (hb0 : wordOk b) (n : Int) (hn : 0 ≤ n) : Gs (sh__law_spoilt (f, S' w, c, S' b) n) SpOk := by
  obtain ⟨cl, cn, bl⟩ := h.cl
  have ha := h.all
  have hbn : b ≠ [] := fun e => by rw [e] at hb0; exact absurd hb0.1 (by decide)
  have e3 : wsL f w c b = [frL f, w, txtI (c + 1), b] := by unfold wsL restL; rw [if_neg hbn]
  rw [e3] at ha
  have hA := ha (frL f) (by simp)
  have hW := ha w (by simp)
  have hC := ha (txtI (c + 1)) (by simp)
  have hB := ha b (by simp)
  have hb : ¬ S' b = ("" : Str) := by rw [show ("" : Str) = S' [] by decide +kernel, S'_eq]; exact hbn
  have hlen := rowS_len ha
  unfold sh__law_spoilt
  refine gs_eq (text_of_sh h) ?_
  rw [e3, rowS_split (by simp) ha]
  refine gs_grd ⟨by decide +kernel, by simp at hlen; omega⟩ (gs_lt (gs_ltE fun way hway => ?_))
  show Gs (b1 (if (decide (way = (0 : Int))) = true then _ else some [S' (frL f), S' w, S' (txtI (c + 1)), S' b]) _) _
  rcases way_of hn hway with rfl | rfl | rfl | rfl | rfl | rfl | rfl | rfl
  · refine gs_take rfl (gs_b1 (Q := fun u => ∃ x ∈ L0, u = [x, w, txtI (c + 1), b].map S') (gs_b1 (pickS L0_S (by omega) (by simp; omega)) ?_) ?_)
    · rintro _ ⟨l, hl, rfl⟩
      exact gs_eq setI_0 (gs_some ⟨l, hl, rfl⟩)
    · rintro _ ⟨l, hl, rfl⟩
      have q := L0_bad l hl
      have hw0 : ∀ y ∈ [l, w, txtI (c + 1), b], W0 y := by simp [q.1, hW, hC, hB]
      refine gs_skip rfl (gs_skip rfl (gs_skip rfl (gs_skip rfl (gs_skip rfl (gs_skip rfl (gs_skip rfl (gs_ifF rfl ?_)))))))
      exact fin_sh (sp3 hw0 (by simp) (.inl (negO_ok q.2))) hw0 (by simp)
  · refine gs_skip rfl (gs_take rfl (gs_b1 (Q := fun u => ∃ x ∈ L1, u = [frL f, x, txtI (c + 1), b].map S') (gs_b1 (pickS L1_S (by omega) (by simp; omega)) ?_) ?_))
    · rintro _ ⟨l, hl, rfl⟩
      exact gs_eq setI_1 (gs_some ⟨l, hl, rfl⟩)
    · rintro _ ⟨l, hl, rfl⟩
      have q := L1_bad l hl
      have hw0 : ∀ y ∈ [frL f, l, txtI (c + 1), b], W0 y := by simp [q.1, hA, hC, hB]
      refine gs_skip rfl (gs_skip rfl (gs_skip rfl (gs_skip rfl (gs_skip rfl (gs_skip rfl (gs_ifF rfl ?_))))))
      exact fin_sh (sp3 hw0 (by simp) (.inr (.inr (.inl q.2)))) hw0 (by simp)
  · refine gs_skip rfl (gs_skip rfl (gs_take rfl (gs_b1 (Q := fun u => ∃ x ∈ G.L2 (txtI (c + 1)), u = [frL f, w, x, b].map S') ?_ ?_)))
    · refine gs_eq (atI_two _ _ _ _) (gs_grd (by rw [show ("0" : Str).length = 1 by decide +kernel, S'_len]; omega) (gs_eq (atI_two _ _ _ _) (gs_grd (by rw [show ("a" : Str).length = 1 by decide +kernel, S'_len]; omega) ?_)))
      refine gs_b1 (pickS (L2_S _) (by omega) (by simp; omega)) ?_
      rintro _ ⟨l, hl, rfl⟩
      exact gs_eq setI_2 (gs_some ⟨l, hl, rfl⟩)
    · rintro _ ⟨l, hl, rfl⟩
      have q := L2_bad cn hC (by omega) l hl
      have hw0 : ∀ y ∈ [frL f, w, l, b], W0 y := by simp [q.1, hA, hW, hB]
      refine gs_skip rfl (gs_skip rfl (gs_skip rfl (gs_skip rfl (gs_skip rfl (gs_ifF rfl ?_)))))
      exact fin_sh (sp3 hw0 (by simp) (.inr (.inl (zerO_ok q.2)))) hw0 (by simp)
  · refine gs_skip rfl (gs_skip rfl (gs_skip rfl (gs_take rfl (gs_b1 (Q := fun u => ∃ x ∈ L3, u = [frL f, w, txtI (c + 1), b, x].map S') (gs_b1 (pickS L3_S (by omega) (by simp; omega)) ?_) ?_))))
    · rintro _ ⟨l, hl, rfl⟩
      exact gs_grd (by simp) (gs_lt (gs_some ⟨l, hl, rfl⟩))
    · rintro _ ⟨l, hl, rfl⟩
      have hw0 : ∀ y ∈ [frL f, w, txtI (c + 1), b, l], W0 y := by simp [L3_ok l hl, hA, hW, hC, hB]
      refine gs_skip rfl (gs_skip rfl (gs_skip rfl (gs_skip rfl (gs_ifF rfl ?_))))
      exact fin_sh (spN (by simp) hw0 (by simp) (by simp) (by simp)) hw0 (by simp)
  · refine gs_skip rfl (gs_skip rfl (gs_skip rfl (gs_skip rfl (gs_take rfl (gs_b1 (Q := fun u => u = [frL f, w, txtI (c + 1)].map S') (gs_grd (by simp) (gs_lt (gs_some rfl))) ?_)))))
    rintro _ rfl
    have hw0 : ∀ y ∈ [frL f, w, txtI (c + 1)], W0 y := by simp [hA, hW, hC]
    refine gs_skip rfl (gs_skip rfl (gs_skip rfl (gs_ifF rfl ?_)))
    exact fin_sh (sp3 hw0 (by simp) (.inr (.inr (.inr (.inl ⟨rfl, ends_on.2 w hw⟩))))) hw0 (by simp)
  · refine gs_skip rfl (gs_skip rfl (gs_skip rfl (gs_skip rfl (gs_skip rfl (gs_take (by simp [hb]) (gs_b1 (Q := fun u => ∃ x ∈ L5 b, u = [frL f, w, txtI (c + 1), x].map S') (gs_grd (by rw [show ("1" : Str).length = 1 by decide +kernel]; show (S' b).length + 1 ≤ _; rw [S'_len]; omega) (gs_b1 (pickS (L5_S b) (by omega) (by simp; omega)) ?_)) ?_))))))
    · rintro _ ⟨l, hl, rfl⟩
      exact gs_eq setI_3 (gs_some ⟨l, hl, rfl⟩)
    · rintro _ ⟨l, hl, rfl⟩
      have q := L5_bad hB (by omega) l hl
      have hw0 : ∀ y ∈ [frL f, w, txtI (c + 1), l], W0 y := by simp [q.1, hA, hW, hC]
      refine gs_skip (by simp [hb]) (gs_skip rfl (gs_ifF (by simp [hb]) ?_))
      exact fin_sh (sp3 hw0 (by simp) (.inr (.inr (.inr (.inr ⟨l, rfl, .inr q.2⟩))))) hw0 (by simp)
  · refine gs_skip rfl (gs_skip rfl (gs_skip rfl (gs_skip rfl (gs_skip rfl (gs_skip rfl (gs_skip rfl (gs_take (by simp [hb]) (gs_b1 (Q := fun u => ∃ x ∈ L6, u = [frL f, x, txtI (c + 1), b].map S') (gs_b1 (pickS L6_S (by omega) (by simp; omega)) ?_) ?_))))))))
    · rintro _ ⟨l, hl, rfl⟩
      exact gs_eq setI_1 (gs_some ⟨l, hl, rfl⟩)
    · rintro _ ⟨l, hl, rfl⟩
      have q := L6_ok l hl
      have hw0 : ∀ y ∈ [frL f, l, txtI (c + 1), b], W0 y := by simp [q.1, hA, hC, hB]
      refine gs_ifF (by simp [hb]) ?_
      exact fin_sh (sp3 hw0 (by simp) (.inr (.inr (.inr (.inr ⟨b, rfl, .inl q.2⟩))))) hw0 (by simp)
  · refine gs_skip rfl (gs_skip rfl (gs_skip rfl (gs_skip rfl (gs_skip rfl (gs_skip rfl (gs_skip rfl (gs_skip rfl (gs_ifT rfl ?_))))))))
    exact odd3 ha (by omega) (.inr ⟨b, rfl, hw, by omega⟩) (by omega) (by omega)
theorem RK.spoilt (h : RK f w c b) (n : Int) (hn : 0 ≤ n) : Gs (sh__law_spoilt (f, S' w, c, S' b) n) SpOk := by
  rcases h.wb with ⟨q, rfl⟩ | ⟨q, q2⟩
  · exact spoilt3 h q n hn
  · exact spoilt4 h q q2 n hn
end
-- k39e
/-! rows -/
def rtx (r : RowT) : Str := rowS (wsL r.1 r.2.1.cps.toList r.2.2.1 r.2.2.2.cps.toList)
def RowOk (r : RowT) : Prop := ∃ (f : Fr) (w : List Nat) (c : Int) (b : List Nat), r = (f, S' w, c, S' b) ∧ RK f w c b
/-- what answers, answers the plain way too -/
def Dn {α : Type} (s : Option α) (u : Option (α ⊕ Exc)) : Prop := ∀ v, u = some (.inl v) → s = some v
section
variable {α β : Type}
theorem dn_some {v : α} : Dn (some v) (some (.inl v)) := fun _ e => by cases e; rfl
theorem dn_inr {s : Option α} {x : Exc} : Dn s (some (.inr x)) := fun _ e => by cases e
theorem dn_b1 {p : Option β} {t : β → Option α} {u : β → Option (α ⊕ Exc)} (h : ∀ x, Dn (t x) (u x)) : Dn (b1 p t) (b1 p u) := by
  cases p with
  | none => exact fun _ e => by cases e
  | some x => exact h x
theorem dn_grd {c : Prop} [Decidable c] {s : Option α} {u : Option (α ⊕ Exc)} (h : Dn s u) : Dn (grd c s) (grd c u) := by
  unfold grd
  split
  · exact h
  · exact fun _ e => by cases e
theorem dn_if {c : Bool} {s s' : Option α} {u u' : Option (α ⊕ Exc)} (h : Dn s u) (h' : Dn s' u') : Dn (if c = true then s else s') (if c = true then u else u') := by
  split
  · exact h
  · exact h'
theorem dn_lt {v : β} {t : β → Option α} {u : β → Option (α ⊕ Exc)} (h : Dn (t v) (u v)) : Dn (lt v t) (lt v u) := h
end
theorem dn_row (t : Str) (at_v : Int) : Dn (sh_row_heard t at_v) (shu_row_heard t at_v) :=
  dn_grd (dn_lt (dn_if dn_inr (dn_b1 fun _ => dn_b1 fun _ => dn_b1 fun _ => dn_b1 fun _ => dn_b1 fun _ => dn_if dn_inr (dn_b1 fun _ => dn_grd (dn_if (dn_b1 fun _ => dn_b1 fun _ => dn_b1 fun _ => dn_some) (dn_b1 fun _ => dn_grd (dn_b1 fun _ => dn_if (dn_b1 fun _ => dn_b1 fun _ => dn_b1 fun _ => dn_b1 fun _ => dn_some) dn_inr)))))))
theorem RowOk.tx {r : RowT} (h : RowOk r) : sh__law_text_of r = some (rtx r) ∧ sh_log_row r = some (rtx r) ∧ (∀ at_v, shu_row_heard (rtx r) at_v = some (.inl r)) ∧ (∀ at_v, sh_row_heard (rtx r) at_v = some r) ∧ 10 ∉ (rtx r).cps.toList ∧ (rtx r).length ≤ 1010 ∧ rtx r ≠ "" := by
  obtain ⟨f, w, c, b, rfl, h⟩ := h
  have e : rtx (f, S' w, c, S' b) = rowS (wsL f w c b) := rfl
  have hl := rowS_len h.all
  have hl2 := restL_len b
  rw [e]
  refine ⟨text_of_sh h, log_row_sh h, h.heardU, fun at_v => dn_row _ _ _ (h.heardU at_v), rowS_no h.all, ?_, ?_⟩
  · unfold wsL at hl ⊢
    simp at hl
    omega
  · rw [h.join, show ("" : Str) = S' [] by decide +kernel]
    intro z
    have := S'_inj z
    simp at this
theorem SpOk.tx {x : Str} (h : SpOk x) : (∀ at_v, shu_row_heard x at_v = some (.inr (badR at_v))) ∧ 10 ∉ x.cps.toList ∧ x.length ≤ 1010 := by
  obtain ⟨ls, hn, hw, hl, rfl, h⟩ := h
  have := rowS_len hw
  exact ⟨h, rowS_no hw, by omega⟩
/-! lists of rows -/
theorem mapU_bad {α β : Type} {F : α → Option (β ⊕ Exc)} {x : α} {post : List α} {e : Exc} (hx : F x = some (.inr e)) : ∀ {pre : List α}, (∀ p ∈ pre, ∃ y, F p = some (.inl y)) → mapU F (pre ++ x :: post) = some (.inr e)
  | [], _ => by
    show (F x).bind _ = _
    rw [hx]
    rfl
  | p :: pre, h => by
    obtain ⟨y, hy⟩ := h p List.mem_cons_self
    show (F p).bind _ = _
    rw [hy]
    show (mapU F (pre ++ x :: post)).map _ = _
    rw [mapU_bad hx fun q hq => h q (List.mem_cons_of_mem _ hq)]
    rfl
theorem en1I_split {α : Type} (pre : List α) (x : α) (post : List α) : ∃ q, en1I (pre ++ x :: post) = en1I pre ++ ((pre.length : Int) + 1, x) :: q := by
  refine ⟨(post.zipIdx (1 + pre.length + 1)).map fun p => ((p.2 : Int), p.1), ?_⟩
  unfold en1I
  rw [List.zipIdx_append, List.map_append, List.zipIdx_cons, List.map_cons]
  rw [show (((x, 1 + pre.length) : α × Nat).2 : Int) = (pre.length : Int) + 1 by show ((1 + pre.length : Nat) : Int) = _; omega]
theorem en1I_snd {α : Type} (xs : List α) : (en1I xs).map (·.2) = xs := by
  unfold en1I
  rw [List.map_map]
  exact List.zipIdx_map_fst 1 xs
theorem en1I_mem {α : Type} {xs : List α} {p : Int × α} (h : p ∈ en1I xs) : p.2 ∈ xs := by
  rw [← en1I_snd xs]
  exact List.mem_map.mpr ⟨p, h, rfl⟩
theorem en1I_len {α : Type} (xs : List α) : (en1I xs).length = xs.length := by
  unfold en1I
  rw [List.length_map, List.length_zipIdx]
theorem en1I_map {α β : Type} (g : α → β) (xs : List α) : en1I (xs.map g) = (en1I xs).map fun p => (p.1, g p.2) := by
  unfold en1I
  rw [List.zipIdx_map, List.map_map, List.map_map]
  rfl
theorem textR_ne {xs : List Str} (hn : xs ≠ []) (h : ∀ x ∈ xs, 10 ∉ x.cps.toList) (h1 : xs ≠ [("" : Str)]) : textR xs ≠ "" := fun e => by
  have a := textR_split hn h
  rw [e] at a
  have b : Txt.split ("" : Str) "\n" = [("" : Str)] := by
    have := textR_split (rows := [("" : Str)]) (by simp) (by intro r hr; rw [List.mem_singleton] at hr; subst hr; decide +kernel)
    rwa [show textR [("" : Str)] = "" by decide +kernel] at this
  exact h1 (a.symm.trans b)
theorem nl_len : (Str.length ("\n" : Str) == 0) = false := by decide +kernel
theorem textR_small {xs : List Str} (h : ∀ x ∈ xs, x.length ≤ 1010) (hl : xs.length ≤ 100) : (textR xs).length + 2 ≤ 16777216 ∧ (xs.map Str.length).sum + xs.length * Str.length ("\n" : Str) ≤ 16777216 := by
  have a := textR_len h
  have b := sum_len h
  have c : ("\n" : Str).length = 1 := by decide +kernel
  have d : (1010 + 1) * xs.length ≤ 1011 * 100 := Nat.mul_le_mul_left _ hl
  have e : 1010 * xs.length ≤ 1010 * 100 := Nat.mul_le_mul_left _ hl
  rw [c]
  omega
theorem heard_good {rows : List RowT} (h : ∀ r ∈ rows, RowOk r) (hl : rows.length ≤ 60) : sh_heard (textR (rows.map rtx)) = some rows := by
  by_cases hn : rows = []
  · subst hn
    unfold sh_heard
    rw [if_pos (by decide +kernel)]
  have h10 : ∀ x ∈ rows.map rtx, 10 ∉ x.cps.toList := fun x hx => by
    obtain ⟨r, hr, rfl⟩ := List.mem_map.mp hx
    exact (h r hr).tx.2.2.2.2.1
  have hs := textR_small (xs := rows.map rtx) (fun x hx => by
    obtain ⟨r, hr, rfl⟩ := List.mem_map.mp hx
    exact (h r hr).tx.2.2.2.2.2.1) (by rw [List.length_map]; omega)
  have hne : rows.map rtx ≠ [("" : Str)] := fun e => by
    obtain ⟨r, rs, rfl⟩ := List.exists_cons_of_ne_nil hn
    rw [List.map_cons] at e
    exact (h r (by simp)).tx.2.2.2.2.2.2 (List.cons.inj e).1
  have hn2 : rows.map rtx ≠ [] := fun e => hn (List.map_eq_nil_iff.mp e)
  unfold sh_heard
  rw [if_neg (by simpa using textR_ne hn2 h10 hne), textR_split hn2 h10, grd_pos ⟨nl_len, hs.1⟩, grd_pos (by rw [en1I_len, List.length_map]; omega), en1I_map, mapO_mapK, mapO_eq (g := fun p : Int × RowT => p.2) _ fun p hp => (h _ (en1I_mem hp)).tx.2.2.2.1 p.1, en1I_snd]
  rfl
theorem heard_bad {pre post : List Str} {x : Str} (hg : ∀ t ∈ pre, ∃ r : RowT, ∀ at_v, shu_row_heard t at_v = some (.inl r)) (hx : ∀ at_v, shu_row_heard x at_v = some (.inr (badR at_v))) (h10 : ∀ t ∈ pre ++ x :: post, 10 ∉ t.cps.toList ∧ t.length ≤ 1010) (hl : (pre ++ x :: post).length ≤ 100) (hne : pre ++ x :: post ≠ [("" : Str)]) : shu_heard (textR (pre ++ x :: post)) = some (.inr (badR ((pre.length : Int) + 1))) := by
  have hs := textR_small (xs := pre ++ x :: post) (fun t ht => (h10 t ht).2) hl
  have hn : pre ++ x :: post ≠ [] := by simp
  obtain ⟨q, eq⟩ := en1I_split pre x post
  unfold shu_heard
  rw [if_neg (by simpa using textR_ne hn (fun t ht => (h10 t ht).1) hne), textR_split hn (fun t ht => (h10 t ht).1), grd_pos ⟨nl_len, hs.1⟩, grd_pos (by rw [en1I_len]; omega), eq]
  rw [mapU_bad (F := fun e1 : Int × Str => shu_row_heard e1.2 e1.1) (x := ((pre.length : Int) + 1, x)) (e := badR ((pre.length : Int) + 1)) (hx _) fun p hp => by
    obtain ⟨r, hr⟩ := hg _ (en1I_mem hp)
    exact ⟨r, hr _⟩]
  rfl
theorem refused_sh {t : Str} {n : Int} (h : shu_heard t = some (.inr (badR n))) : sh__law_refused t = some n := by
  unfold sh__law_refused
  rw [h]
  rfl
theorem refused_bad {pre post : List Str} {x : Str} (hg : ∀ t ∈ pre, ∃ r : RowT, ∀ at_v, shu_row_heard t at_v = some (.inl r)) (hx : ∀ at_v, shu_row_heard x at_v = some (.inr (badR at_v))) (h10 : ∀ t ∈ pre ++ x :: post, 10 ∉ t.cps.toList ∧ t.length ≤ 1010) (hl : (pre ++ x :: post).length ≤ 100) (hne : pre ++ x :: post ≠ [("" : Str)]) : sh__law_refused (textR (pre ++ x :: post)) = some ((pre.length : Int) + 1) := refused_sh (heard_bad hg hx h10 hl hne)
theorem sp_nil : SpOk "" := by
  rw [show ("" : Str) = rowS [[]] by decide +kernel]
  exact spN (by simp) (by simp [nil_W0]) (by simp) (by simp) (by simp)
theorem sp_blank : SpOk " " := by
  rw [show (" " : Str) = rowS [[], []] by decide +kernel]
  exact spN (by simp) (by simp [nil_W0]) (by simp) (by simp) (by simp)
theorem textR_snoc {xs : List Str} (h : xs ≠ []) : textR xs ++ "\n" = textR (xs ++ [("" : Str)]) := by
  refine str_ext ?_
  unfold textR
  rw [show (Txt.join "\n" xs ++ ("\n" : Str)).cps.toList = (Txt.join "\n" xs).cps.toList ++ ("\n" : Str).cps.toList from TL.tl_append _ _, join_cps, join_cps, List.map_append]
  generalize hm : xs.map (fun p : Str => p.cps.toList) = ys
  have hy : ys ≠ [] := fun e => by
    rw [e] at hm
    exact h (List.map_eq_nil_iff.mp hm)
  clear hm h
  rw [show [("" : Str)].map (fun p : Str => p.cps.toList) = [[]] by decide +kernel]
  generalize ("\n" : Str).cps.toList = s
  induction ys with
  | nil => exact absurd rfl hy
  | cons y ys ih =>
    cases ys with
    | nil => simp [TL.joinL]
    | cons z zs =>
      have := ih (by simp)
      rw [List.cons_append] at this ⊢
      rw [TL.joinL, List.cons_append, TL.joinL, List.append_assoc, List.append_assoc, this]
/-! the spoilt ones -/
/-- these stand, but for the ones in D, which are spoilt -/
def SpAt (ts0 ts : List Str) (D : List Nat) : Prop := ts.length = ts0.length ∧ ∀ i t, ts[i]? = some t → (i ∈ D ∧ SpOk t) ∨ (i ∉ D ∧ ts0[i]? = some t)
theorem SpAt.set {ts0 ts : List Str} {D : List Nat} (h : SpAt ts0 ts D) {k : Nat} {x : Str} (hx : SpOk x) : SpAt ts0 (ts.set k x) (k :: D) := by
  refine ⟨by rw [List.length_set]; exact h.1, fun i t ht => ?_⟩
  by_cases e : k = i
  · subst e
    rw [List.getElem?_set] at ht
    rw [if_pos rfl] at ht
    split at ht
    · cases ht
      exact .inl ⟨List.mem_cons_self, hx⟩
    · cases ht
  · rw [List.getElem?_set_ne e] at ht
    rcases h.2 i t ht with q | q
    · exact .inl ⟨List.mem_cons_of_mem _ q.1, q.2⟩
    · exact .inr ⟨fun z => by
        rcases List.mem_cons.mp z with z | z
        · exact e z.symm
        · exact q.1 z, q.2⟩
theorem refused_at {rows : List RowT} (h : ∀ r ∈ rows, RowOk r) (hl : rows.length ≤ 60) {ts : List Str} {D : List Nat} (hs : SpAt (rows.map rtx) ts D) {k : Nat} (hk : k < rows.length) (hkD : k ∈ D) (hmin : ∀ i, i < k → i ∉ D) (hne : ts ≠ [("" : Str)]) : sh__law_refused (textR ts) = some ((k : Int) + 1) := by
  have hlen : ts.length = rows.length := by rw [hs.1, List.length_map]
  have hkl : k < ts.length := by omega
  have e : ts = ts.take k ++ ts[k] :: ts.drop (k + 1) := by
    rw [List.getElem_cons_drop, List.take_append_drop]
  have ho : ∀ i t, (rows.map rtx)[i]? = some t → ∃ r ∈ rows, t = rtx r := fun i t ht => by
    rw [List.getElem?_map] at ht
    obtain ⟨r, hr, rfl⟩ := Option.map_eq_some_iff.mp ht
    exact ⟨r, List.mem_of_getElem? hr, rfl⟩
  have hall : ∀ t ∈ ts, 10 ∉ t.cps.toList ∧ t.length ≤ 1010 := fun t ht => by
    obtain ⟨i, hi⟩ := List.mem_iff_getElem?.mp ht
    rcases hs.2 i t hi with q | q
    · exact q.2.tx.2
    · obtain ⟨r, hr, rfl⟩ := ho i t q.2
      have := (h r hr).tx
      exact ⟨this.2.2.2.2.1, this.2.2.2.2.2.1⟩
  have hx : SpOk ts[k] := by
    rcases hs.2 k ts[k] (List.getElem?_eq_getElem hkl) with q | q
    · exact q.2
    · exact absurd hkD q.1
  have hp : ∀ t ∈ ts.take k, ∃ r : RowT, ∀ at_v, shu_row_heard t at_v = some (.inl r) := fun t ht => by
    obtain ⟨i, hi⟩ := List.mem_iff_getElem?.mp ht
    rw [List.getElem?_take] at hi
    split at hi
    · rename_i hik
      rcases hs.2 i t hi with q | q
      · exact absurd q.1 (hmin i hik)
      · obtain ⟨r, hr, rfl⟩ := ho i t q.2
        exact ⟨r, (h r hr).tx.2.2.1⟩
    · cases hi
  have main := refused_bad (pre := ts.take k) (x := ts[k]) (post := ts.drop (k + 1)) hp hx.tx.1 (by rw [← e]; exact hall) (by rw [← e]; omega) (by rw [← e]; exact hne)
  rw [← e, List.length_take, Nat.min_eq_left (by omega)] at main
  exact main
theorem bad_sh {rows : List RowT} (h : ∀ r ∈ rows, RowOk r) (hl : rows.length ≤ 60) (n : Int) (hn : 0 ≤ n) : sh__law_bad rows n = some true := by
  refine Gs.eq ?_
  unfold sh__law_bad
  by_cases h0 : rows = []
  · subst h0
    refine gs_ifT rfl ?_
    have e1 : sh__law_refused ("\n" : Str) = some 1 := by
      rw [show ("\n" : Str) = textR [("" : Str), ""] by decide +kernel]
      exact refused_bad (pre := []) (post := [("" : Str)]) (by simp) sp_nil.tx.1 (by intro t ht; simp at ht; subst ht; exact sp_nil.tx.2) (by simp) (by simp)
    have e2 : sh__law_refused (" " : Str) = some 1 := by
      rw [show (" " : Str) = textR [(" " : Str)] by decide +kernel]
      exact refused_bad (pre := []) (post := []) (by simp) sp_blank.tx.1 (by intro t ht; simp at ht; subst ht; exact sp_blank.tx.2) (by simp) (by decide +kernel)
    exact gs_eq e1 (gs_eq (sameG_ok rfl rfl) (gs_take rfl (gs_b1 (Q := fun x => x = true) (gs_eq e2 (gs_eq (sameG_ok rfl rfl) (gs_some rfl))) fun x hx => gs_some hx)))
  have hlp := List.length_pos_iff.mpr h0
  refine gs_ifF (by simp; omega) (gs_grd (by omega) (gs_eq (x := rows.map rtx) (mapO_eq _ fun r hr => by rw [(h r hr).tx.1, b1_some]) ?_))
  have hz : (rows.length : Int) ≠ 0 := by omega
  refine gs_grd hz (gs_ltE fun fst hfst => gs_grd hz (gs_ltE fun snd hsnd => ?_))
  have b1' : 0 ≤ fst ∧ fst < rows.length := by
    rw [hfst, Int.fmod_eq_emod_of_nonneg _ (by omega)]
    exact ⟨Int.emod_nonneg _ hz, Int.emod_lt_of_pos _ (by omega)⟩
  have b2' : 0 ≤ snd ∧ snd < rows.length := by
    rw [hsnd, Int.fmod_eq_emod_of_nonneg _ (by omega)]
    exact ⟨Int.emod_nonneg _ hz, Int.emod_lt_of_pos _ (by omega)⟩
  clear hfst hsnd
  obtain ⟨p, rfl⟩ := Int.eq_ofNat_of_zero_le b1'.1
  obtain ⟨q, rfl⟩ := Int.eq_ofNat_of_zero_le b2'.1
  have hp : p < rows.length := by omega
  have hq : q < rows.length := by omega
  have step : ∀ (k : Nat) (st : List Str) (D : List Nat), k < rows.length → SpAt (rows.map rtx) st D → Gs (b1 (atI rows (k : Int)) fun t8 => b1 (sh__law_spoilt t8 ((n / (3721 : Int)) + (k : Int))) fun t9 => b1 (setI st (k : Int) t9) fun u10 => some u10) fun st' => SpAt (rows.map rtx) st' (k :: D) := fun k st D hk hst => by
    refine gs_eq (x := rows[k]) (by rw [atI_ofNat, List.getElem?_eq_getElem hk]) ?_
    have hr := h rows[k] (List.getElem_mem hk)
    have hsl : st.length = rows.length := by rw [hst.1, List.length_map]
    obtain ⟨f, w, c, b, e, rk⟩ := hr
    rw [e]
    refine gs_b1 (rk.spoilt _ (by omega)) fun x hx => ?_
    refine gs_eq (x := st.set k x) (by unfold setI; rw [ixN_nat rfl (by omega)]; rfl) (gs_some (hst.set hx))
  have s0 : SpAt (rows.map rtx) (rows.map rtx) [] := ⟨rfl, fun i t ht => .inr ⟨by simp, ht⟩⟩
  refine gs_b1 (Q := fun st => SpAt (rows.map rtx) st [q, p]) ?_ fun ts hts => ?_
  · refine gs_b1 (step p _ [] hp s0) fun st1 h1 => ?_
    refine gs_b1 (step q _ [p] hq h1) fun st2 h2 => gs_some h2
  have hlen : ts.length = rows.length := by rw [hts.1, List.length_map]
  have fin : ∀ ts' : List Str, SpAt (rows.map rtx) ts' [q, p] → ts' ≠ [("" : Str)] → Gs (grd ((List.map Str.length ts').sum + List.length ts' * Str.length ("\n" : Str) ≤ 16777216) <|
    b1 (sh__law_refused (Txt.join ("\n" : Str) ts')) fun t14 =>
    b1 (sh__law_same (D.int t14) (D.int ((Min.min (p : Int) (q : Int)) + (1 : Int)))) fun t15 =>
    if (!t15) = true then
        some false
    else
      grd (List.length rows ≤ 16777216) <|
      b1 (mapO (fun e4 : ((Int × Int) × Str × Int × Str) => b1 (sh__law_text_of e4) fun t16 => some t16) rows) fun t17 =>
      grd ((List.map Str.length t17).sum + List.length t17 * Str.length ("\n" : Str) ≤ 16777216) <|
      lt (Txt.join ("\n" : Str) t17) fun (good : Str) =>
      grd (Str.length good + Str.length ("\n" : Str) ≤ 16777216) <|
      b1 (sh__law_refused (good ++ ("\n" : Str))) fun t18 =>
      b1 (sh__law_same (D.int t18) (D.int ((List.length rows : Int) + (1 : Int)))) fun t19 =>
      some t19) fun x => x = true := fun ts' hs hne => by
    have hle' : ts'.length = rows.length := by rw [hs.1, List.length_map]
    have hall : ∀ t ∈ ts', t.length ≤ 1010 := fun t ht => by
      obtain ⟨i, hi⟩ := List.mem_iff_getElem?.mp ht
      rcases hs.2 i t hi with z | z
      · exact z.2.tx.2.2
      · have z := z.2
        rw [List.getElem?_map] at z
        obtain ⟨r, hr, rfl⟩ := Option.map_eq_some_iff.mp z
        exact (h r (List.mem_of_getElem? hr)).tx.2.2.2.2.2.1
    have hgl : ∀ t ∈ rows.map rtx, t.length ≤ 1010 := fun t ht => by
      obtain ⟨r, hr, rfl⟩ := List.mem_map.mp ht
      exact (h r hr).tx.2.2.2.2.2.1
    have ref : sh__law_refused (textR ts') = some ((Min.min (p : Int) (q : Int)) + 1) := by
      have := refused_at h hl hs (k := min p q) (by have := Nat.min_le_left p q; exact Nat.lt_of_le_of_lt this hp) (by
        rcases Nat.le_total p q with z | z
        · rw [Nat.min_eq_left z]; simp
        · rw [Nat.min_eq_right z]; simp) (fun i hi z => by
        have a := Nat.min_le_left p q
        have b := Nat.min_le_right p q
        have hi : i < min p q := hi
        simp at z
        omega) hne
      rw [show textR ts' = textR ts' from rfl, this]
      congr 1
      show ((min p q : Nat) : Int) + 1 = _
      omega
    refine gs_grd (textR_small hall (by omega)).2 (gs_eq ref (gs_eq (sameG_ok rfl rfl) (gs_ifF rfl ?_)))
    refine gs_grd (by omega) (gs_eq (x := rows.map rtx) (mapO_eq _ fun r hr => by rw [(h r hr).tx.1, b1_some]) ?_)
    have hg := textR_small hgl (by rw [List.length_map]; omega)
    refine gs_grd hg.2 (gs_lt (gs_grd (by have := hg.1; rw [show ("\n" : Str).length = 1 by decide +kernel]; unfold textR at this; omega) ?_))
    have e : Txt.join ("\n" : Str) (rows.map rtx) ++ ("\n" : Str) = textR (rows.map rtx ++ [("" : Str)]) := textR_snoc fun z => h0 (List.map_eq_nil_iff.mp z)
    rw [e]
    have r2 := refused_bad (pre := rows.map rtx) (x := "") (post := []) (fun t ht => by
      obtain ⟨r, hr, rfl⟩ := List.mem_map.mp ht
      exact ⟨r, (h r hr).tx.2.2.1⟩) sp_nil.tx.1 (fun t ht => by
      rcases List.mem_append.mp ht with ht | ht
      · obtain ⟨r, hr, rfl⟩ := List.mem_map.mp ht
        exact ⟨(h r hr).tx.2.2.2.2.1, (h r hr).tx.2.2.2.2.2.1⟩
      · rw [List.mem_singleton] at ht
        subst ht
        exact sp_nil.tx.2) (by simp; omega) (fun z => by
      have := congrArg List.length z
      simp at this
      exact h0 this)
    rw [List.length_map] at r2
    exact gs_eq r2 (gs_eq (sameG_ok rfl rfl) (gs_some rfl))
  by_cases hone : rows.length = 1
  · have ht1 : ∃ t, ts = [t] := List.length_eq_one_iff.mp (by omega)
    obtain ⟨t, rfl⟩ := ht1
    have hp0 : p = 0 := by omega
    have hq0 : q = 0 := by omega
    refine gs_b1 (Q := fun x => x = decide (t = "")) ?_ fun x hx => ?_
    · refine gs_ifT (by simp [hone]) (gs_eq (atI_zero _ _) (gs_some rfl))
    · subst hx
      by_cases ht : t = ""
      · refine gs_take (by simp [ht]) (gs_b1 (Q := fun z => z = [(" " : Str)]) (gs_eq setI_0 (gs_some rfl)) fun z hz => ?_)
        subst hz
        refine fin _ ?_ (by decide +kernel)
        have := hts.set (k := 0) sp_blank
        refine ⟨by simp [hone], fun i s hs => ?_⟩
        rcases this.2 i s hs with z | z
        · refine .inl ⟨?_, z.2⟩
          have z := z.1
          simp at z
          simp
          omega
        · exact .inr ⟨fun y => z.1 (List.mem_cons_of_mem _ y), z.2⟩
      · refine gs_skip (by simp [ht]) (fin _ hts (by simpa using ht))
  · refine gs_b1 (Q := fun x => x = false) (gs_ifF (by simp; omega) (gs_some rfl)) fun x hx => ?_
    subst hx
    refine gs_skip rfl (fin _ hts fun e => ?_)
    rw [e] at hlen
    exact hone hlen.symm
-- k39
theorem ltime_sh (cell m : Int) (hm : 0 ≤ m ∧ m < 715827877) : Gs (sh__law_time cell m) fun f => 0 ≤ f.1 ∧ f.1.natAbs < 10 ^ 31 ∧ 1 ≤ f.2 ∧ f.2.natAbs < 10 ^ 31 ∧ Int.gcd f.1 f.2 = 1 := by
  have hc0 := Int.emod_nonneg cell (show (1000000000000000000000000000000 : Int) ≠ 0 by omega)
  have hc1 := Int.emod_lt_of_pos cell (show (0 : Int) < 1000000000000000000000000000000 by omega)
  have hd0 := Int.emod_nonneg (cell / 7) (show (1000000000000000000000000000000 : Int) ≠ 0 by omega)
  have hd1 := Int.emod_lt_of_pos (cell / 7) (show (0 : Int) < 1000000000000000000000000000000 by omega)
  have hp : (10 : Nat) ^ 31 = 10000000000000000000000000000000 := by decide
  unfold sh__law_time
  refine gs_b1 (Q := fun t => 0 ≤ t ∧ t < 1000000000000000000000000000000) (Gs.mono (gs_pick (by omega) (by simp; omega)) fun x hx => ?_) fun t ht => ?_
  · simp at hx
    rcases hx with rfl | rfl | rfl | rfl <;> omega
  refine gs_b1 (Q := fun t => 1 ≤ t ∧ t ≤ 1000000000000000000000000000000) (Gs.mono (gs_pick (by omega) (by simp; omega)) fun x hx => ?_) fun u hu => ?_
  · simp at hx
    rcases hx with rfl | rfl | rfl | rfl <;> omega
  have su : Sz 101 u := ⟨Nat.lt_of_le_of_lt (show u.natAbs ≤ 1000000000000000000000000000000 by omega) (by decide +kernel)⟩
  refine gs_eq (lshared_sh ht.1 (by omega) su (by omega)) ?_
  have hg : 0 < Int.gcd t u := Int.gcd_pos_of_ne_zero_right _ (by omega)
  have hgu : (Int.gcd t u : Int) ∣ u := Int.gcd_dvd_right _ _
  have hgt : (Int.gcd t u : Int) ∣ t := Int.gcd_dvd_left _ _
  have hle : (Int.gcd t u : Int) ≤ u := Int.le_of_dvd (by omega) hgu
  have sg : Sz 101 (Int.gcd t u : Int) := Sz.le (by omega) hle su
  refine gs_grd (sg.cdiv (by omega) (by omega) (by omega)) (gs_grd (sg.cdiv (by omega) (by omega) (by omega)) (gs_some ?_))
  have hg0 : (0 : Int) < (Int.gcd t u : Int) := by omega
  rw [Int.fdiv_eq_ediv_of_nonneg _ (by omega), Int.fdiv_eq_ediv_of_nonneg _ (by omega)]
  have k1 : 0 ≤ t / (Int.gcd t u : Int) := Int.ediv_nonneg ht.1 (by omega)
  have k2 : t / (Int.gcd t u : Int) ≤ t := Int.ediv_le_self _ ht.1
  have k3 : 1 ≤ u / (Int.gcd t u : Int) := (Int.le_ediv_iff_mul_le hg0).mpr (by omega)
  have k4 : u / (Int.gcd t u : Int) ≤ u := Int.ediv_le_self _ (by omega)
  refine ⟨k1, by omega, k3, by omega, ?_⟩
  exact Int.gcd_ediv_gcd_ediv_gcd_of_ne_zero_right (by omega)
theorem words_S : ([("off" : Str), ("end" : Str), ("start" : Str), ("come" : Str), ("on" : Str)] : List Str) = ([[111, 102, 102], [101, 110, 100], [115, 116, 97, 114, 116], [99, 111, 109, 101], [111, 110]] : List (List Nat)).map S' := by decide +kernel
theorem words_in : ∀ w ∈ ([[111, 102, 102], [101, 110, 100], [115, 116, 97, 114, 116], [99, 111, 109, 101], [111, 110]] : List (List Nat)), W0 w ∧ ((w ∈ endW ∧ w ∈ L6) ∨ (w ∈ onW ∧ w ∉ L6)) := by decide +kernel
theorem L6_all : List.all ([("end" : Str), ("start" : Str)] : List Str) PyData.strOk = true := by decide +kernel
theorem wdK_word {c k : Int} : wordOk (wdK c k) := by
  unfold wordOk wdK
  have h1 := Int.emod_nonneg c (show (12 : Int) ≠ 0 by omega)
  have h2 := Int.emod_lt_of_pos c (show (0 : Int) < 12 by omega)
  refine ⟨by rw [List.length_map, List.length_range]; omega, by rw [List.length_map, List.length_range]; omega, fun x hx => ?_⟩
  obtain ⟨n, _, rfl⟩ := List.mem_map.mp hx
  generalize (c / 144 + _) = z
  have h1 := Int.emod_nonneg z (show (26 : Int) ≠ 0 by omega)
  have h2 := Int.emod_lt_of_pos z (show (0 : Int) < 26 by omega)
  omega
theorem lrow39_sh (cell : Int) (k : Nat) (hk : k < 64) (hc : Sz 1048576 cell) : Gs (sh__law_row cell (k : Int)) RowOk := by
  have hs : Sz 1100000 (cell + (101 : Int) * (k : Int)) := (hc.add (n := 64) (Sz.small (by omega))).mono (by decide)
  have hc0 := Int.emod_nonneg cell (show (1000000000000000000000000000000 : Int) ≠ 0 by omega)
  have hc1 := Int.emod_lt_of_pos cell (show (0 : Int) < 1000000000000000000000000000000 by omega)
  have hp : (10 : Nat) ^ 30 = 1000000000000000000000000000000 := by decide
  unfold sh__law_row
  refine gs_grd (cmul_s (by omega) (by omega)) (gs_b1 (mix_sh _ _ hs (by omega)) fun m hm => ?_)
  refine gs_grd (cmul_s (by omega) (by omega)) (gs_b1 (mix_sh _ _ hs (by omega)) fun n hn => ?_)
  refine gs_b1 (pickS words_S (by omega) (by simp; omega)) ?_
  rintro _ ⟨w, hw, rfl⟩
  obtain ⟨w0, hww⟩ := words_in w hw
  refine gs_lt (gs_grd ⟨w0_ok w0, L6_all⟩ ?_)
  refine gs_b1 (Q := fun b => ∃ bl, b = S' bl ∧ ((w ∈ endW ∧ bl = []) ∨ (w ∈ onW ∧ wordOk bl))) ?_ ?_
  · rw [L6_S]
    rcases hww with ⟨q, q2⟩ | ⟨q, q2⟩
    · refine gs_ifF (by rw [decide_eq_true (mem_S.mpr q2)]; rfl) (gs_some ⟨[], by decide +kernel, .inl ⟨q, rfl⟩⟩)
    · refine gs_ifT (by rw [decide_eq_false (fun z => q2 (mem_S.mp z))]; rfl) (gs_eq (lword_sh _ _ ⟨hn.1, by omega⟩ (by omega)) (gs_some ⟨_, rfl, .inr ⟨q, wdK_word⟩⟩))
  rintro _ ⟨b, rfl, hb⟩
  refine gs_b1 (Q := fun c => 0 ≤ c ∧ c < 1000000000000000000000000000000) (Gs.mono (gs_pick (by omega) (by simp; omega)) fun x hx => ?_) fun c hcc => ?_
  · simp at hx
    rcases hx with rfl | rfl <;> omega
  refine gs_b1 (ltime_sh cell m hm) fun f hf => gs_some ?_
  exact ⟨f, w, c, b, rfl, hf.1, hf.2.1, hf.2.2.1, hf.2.2.2.1, hf.2.2.2.2, hcc.1, by omega, hb⟩
theorem log_text_sh {rows : List RowT} (h : ∀ r ∈ rows, RowOk r) (hl : rows.length ≤ 60) : sh_log_text rows = some (textR (rows.map rtx)) := by
  unfold sh_log_text
  rw [grd_pos (by omega), mapO_eq (g := rtx) _ fun r hr => by rw [(h r hr).tx.2.1, b1_some], b1_some, grd_pos (textR_small (fun x hx => by
    obtain ⟨r, hr, rfl⟩ := List.mem_map.mp hx
    exact (h r hr).tx.2.2.2.2.2.1) (by rw [List.length_map]; omega)).2]
  rfl
theorem k39_sh (ns : List Int) (hl : ns.length ≤ 63) (hz : ∀ z ∈ ns, Sz 1048576 z) : sh_law ns = some true := by
  refine Gs.eq ?_
  unfold sh_law
  have hcut : (cutL ns (some (0 : Int)) (some (60 : Int))) = ns.take 60 := by
    have := cut_mid ns 0 60
    simpa using this
  rw [hcut]
  have hlen : (enI (ns.take 60)).length ≤ 60 := by
    unfold enI
    rw [List.length_map, List.length_zipIdx, List.length_take]
    omega
  refine gs_grd (by omega) ?_
  refine gs_b1 (Q := fun rows => rows.length ≤ 60 ∧ ∀ r ∈ rows, RowOk r) ?_ ?_
  · refine Gs.mono (mapO_all (fun _ r => RowOk r) _ fun p hp => ?_) fun rows hr => ⟨by omega, fun r hrr => ?_⟩
    · obtain ⟨pre, post, e⟩ := List.append_of_mem hp
      obtain ⟨e1, post', e2⟩ := enI_split ⟨post, e⟩
      have hpl : pre.length < 60 := by
        have := congrArg List.length e
        rw [List.length_append, List.length_cons] at this
        omega
      have hmem : p.2 ∈ ns := List.mem_of_mem_take (i := 60) (by rw [e2]; simp)
      rw [e1]
      exact gs_b1 (lrow39_sh p.2 pre.length (by omega) (hz _ hmem)) fun r hr => gs_some hr
    · obtain ⟨i, hi⟩ := List.mem_iff_getElem?.mp hrr
      have hil : i < rows.length := (List.getElem?_eq_some_iff.mp hi).1
      exact hr.2 i (enI (ns.take 60))[i] r (List.getElem?_eq_getElem (by omega)) hi
  rintro rows ⟨hrl, hr⟩
  have hsm := textR_small (xs := rows.map rtx) (fun x hx => by
    obtain ⟨r, hrr, rfl⟩ := List.mem_map.mp hx
    exact (hr r hrr).tx.2.2.2.2.2.1) (by rw [List.length_map]; omega)
  have hlog := log_text_sh hr hrl
  have hh := heard_good hr hrl
  have hpl : pl 9 ((eL (eP4 (eP2 D.int D.int) D.str D.int D.str)) rows) = true := pl_L (by omega) fun r _ => by
    show pl 8 (.tup [.tup [.int r.1.1, .int r.1.2], .str r.2.1, .int r.2.2.1, .str r.2.2.2]) = true
    simp
  have hok : okn 8 ((eL (eP4 (eP2 D.int D.int) D.str D.int D.str)) rows) = true := by
    show (rows.map (eP4 (eP2 D.int D.int) D.str D.int D.str)).all (okn 7) = true
    rw [List.all_map, List.all_eq_true]
    intro r hrr
    obtain ⟨f, w, c, b, rfl, rk⟩ := hr r hrr
    have hb0 : W0 b := by
      rcases rk.wb with q | q
      · rw [q.2]; exact nil_W0
      · exact wordOk_W0 q.2
    show okn 7 (.tup [.tup [.int f.1, .int f.2], .str (S' w), .int c, .str (S' b)]) = true
    simp [w0_ok rk.w0, w0_ok hb0]
  refine gs_grd (by omega) (gs_eq (x := rows.map rtx) (mapO_eq _ fun r hrr => by rw [(hr r hrr).tx.1, b1_some]) ?_)
  refine gs_grd hsm.2 (gs_lt (gs_eq hlog (gs_eq (sameG_ok rfl rfl) (gs_b1 (Q := fun x => x = false) ?_ ?_))))
  · exact gs_ifF rfl (gs_grd ⟨hok, hok⟩ (gs_some (by simp)))
  rintro _ rfl
  refine gs_ifF rfl (gs_eq hh (gs_lt ?_))
  have e : (eL eD) (List.map (eP4 (eP2 D.int D.int) D.str D.int D.str) rows) = (eL (eP4 (eP2 D.int D.int) D.str D.int D.str)) rows := by
    show D.lst (List.map eD _) = D.lst _
    congr 1
    exact List.map_id _
  refine gs_eq (sameG_ok e hpl) (gs_ifF rfl (gs_grd (by rw [List.length_map]; omega) (gs_lt (gs_eq hh (gs_eq (sameG_ok rfl hpl) (gs_b1 (Q := fun x => x = false) ?_ ?_))))))
  · exact gs_ifF rfl (gs_eq hlog (gs_eq (sameG_ok rfl rfl) (gs_some rfl)))
  rintro _ rfl
  refine gs_ifF rfl (gs_eq (cellat_sh ns 1) (gs_b1 (mix_sh _ _ ?_ (by omega)) fun x hx => gs_eq (bad_sh hr hrl x hx.1) (gs_some rfl)))
  exact (cellN_sz hz 1).mono (by omega)
end G
namespace G
open PySem L2 BK
set_option autoImplicit false
theorem law_true (ns : List Int) (hl : ns.length ≤ 63) (hb : ∀ z ∈ ns, Builtin.Int.intBits z ≤ 1048576) : φ_law [.rol (ns.map D.int)] = some (.va (.bl true)) := sim_law (k39_sh ns hl fun z h => bits_sz (hb z h))
end G
namespace G
open PySem PySem.Spec L2 BK
set_option autoImplicit false
set_option maxHeartbeats 0 in
theorem all_mkT {l : PySem.W.OpenLaw} {w : World} {K : PySem.W.Frag} {h : Heap} {mg : Str → Option Value} {fa : Addr} (X : K.In h) (Gn : h.Ns mainGlobals mg) (hfa : mg "law" = some (.ref fa)) (c : He.SaysX faL fnL [] [] exB w h K) : LamX.LawAtS l w K CX0 13 63 "_law_script" mg fa h := by
  have cD : He.SaysD faL fnL K := congrArg (fun z : He.AlT => z.1) c.t
  have a0 := He.glo_ok X Gn (cD.fact 0 rfl)
  have a1 := He.glo_ok X Gn (cD.fact 1 rfl)
  have a2 := He.glo_ok X Gn (cD.fact 2 rfl)
  have a3 := He.glo_ok X Gn (cD.fact 3 rfl)
  have a4 := He.glo_ok X Gn (cD.fact 4 rfl)
  have a5 := He.glo_ok X Gn (cD.fact 5 rfl)
  have a6 := He.glo_ok X Gn (cD.fact 6 rfl)
  have a7 := He.glo_ok X Gn (cD.fact 7 rfl)
  have a8 := He.glo_ok X Gn (cD.fact 8 rfl)
  have a9 := He.glo_ok X Gn (cD.fact 9 rfl)
  have a10 := He.glo_ok X Gn (cD.fact 10 rfl)
  have a11 := He.glo_ok X Gn (cD.fact 11 rfl)
  have a12 := He.glo_ok X Gn (cD.fact 12 rfl)
  have a13 := He.glo_ok X Gn (cD.fact 13 rfl)
  have a14 := He.glo_ok X Gn (cD.fact 14 rfl)
  have a15 := He.glo_ok X Gn (cD.fact 15 rfl)
  have a16 := He.glo_ok X Gn (cD.fact 16 rfl)
  have a17 := He.glo_ok X Gn (cD.fact 17 rfl)
  have a18 := He.glo_ok X Gn (cD.fact 18 rfl)
  have a19 := He.glo_ok X Gn (cD.fact 19 rfl)
  have a20 := He.glo_ok X Gn (cD.fact 20 rfl)
  have a21 := He.glo_ok X Gn (cD.fact 21 rfl)
  have a22 := He.glo_ok X Gn (cD.fact 22 rfl)
  have e := hfa.symm.trans a22
  cases e
  have Z : Blt mg := ⟨He.free_ok X Gn (cD.fact 23 rfl), He.free_ok X Gn (cD.fact 24 rfl), He.free_ok X Gn (cD.fact 25 rfl), He.free_ok X Gn (cD.fact 26 rfl), He.free_ok X Gn (cD.fact 27 rfl), He.free_ok X Gn (cD.fact 28 rfl), He.free_ok X Gn (cD.fact 29 rfl), He.free_ok X Gn (cD.fact 30 rfl), He.free_ok X Gn (cD.fact 31 rfl), He.free_ok X Gn (cD.fact 32 rfl), He.free_ok X Gn (cD.fact 33 rfl), He.free_ok X Gn (cD.fact 34 rfl), He.free_ok X Gn (cD.fact 35 rfl), He.free_ok X Gn (cD.fact 36 rfl)⟩
  have K_FIGURES := He.str_ok X Gn (cD.fact 37 rfl)
  have K_LETTERS := He.str_ok X Gn (cD.fact 38 rfl)
  have K_MOST_FIGURES := He.int_ok X Gn (cD.fact 39 rfl)
  have K_MOST_LETTERS := He.int_ok X Gn (cD.fact 40 rfl)
  obtain ⟨x_XE, cm0⟩ := He.ba c.more
  obtain ⟨x_XF_row, cm1⟩ := He.ba cm0
  obtain ⟨x_XI_BadRow, cm2⟩ := He.ba cm1
  obtain ⟨x_XI_TextError, cm3⟩ := He.ba cm2
  obtain ⟨x_XI_Twice, cm4⟩ := He.ba cm3
  obtain ⟨x_XI_ValueError, cm5⟩ := He.ba cm4
  obtain ⟨x_XT_WayError, cm6⟩ := He.ba cm5
  obtain ⟨x_raBadRow, cm7⟩ := He.ba cm6
  obtain ⟨x_noBadRow_row, cm8⟩ := He.ba cm7
  obtain ⟨x_rdW, cm9⟩ := He.ba cm8
  obtain ⟨x_gaW, cm10⟩ := He.ba cm9
  have x_fcW := cm10
  obtain ⟨fd0, D0'⟩ := cD.def_ 0 rfl
  have D0 : FunD K "made_of" "made_of" (defArgs s_made_of) (defBody s_made_of) (defScope s_made_of) [] [] (He.fAd K ("made_of", none)) fd0 := D0'
  have FA0 : FunA K "made_of" "made_of" s_made_of (He.ga K "made_of") fd0 := funA_ofD D0
  have b0 := D0.bindsN (ps := ["text", "signs"]) fun _ _ _ _ _ _ us hl => match us, hl with | [_, _], _ => rfl
  obtain ⟨fd1, D1'⟩ := cD.def_ 1 rfl
  have D1 : FunD K "number_of" "number_of" (defArgs s_number_of) (defBody s_number_of) (defScope s_number_of) [.non] [] (He.fAd K ("number_of", none)) fd1 := D1'
  have FA1 : FunA K "number_of" "number_of" s_number_of (He.ga K "number_of") fd1 := funA_ofD D1
  obtain ⟨ds1_0, vd1_0, b1_0⟩ := D1.binds1 (ps := ["text", "most"]) 2 1 (by simp) rfl (fun T kV doc pm an cdv ct us its hl hi => match us, its, hl, hi with | [_, _], [_], _, _ => ⟨_, rfl, rfl⟩)
  obtain ⟨ds1_1, vd1_1, b1_1⟩ := D1.binds1 (ps := ["text", "most"]) 1 0 (by simp) rfl (fun T kV doc pm an cdv ct us its hl hi => match us, its, hl, hi with | [_], [_], _, _ => ⟨_, rfl, rfl⟩)
  cases vd1_0
  have b1 := b1_0
  obtain ⟨fd2, D2'⟩ := cD.def_ 2 rfl
  have D2 : FunD K "is_word" "is_word" (defArgs s_is_word) (defBody s_is_word) (defScope s_is_word) [] [] (He.fAd K ("is_word", none)) fd2 := D2'
  have FA2 : FunA K "is_word" "is_word" s_is_word (He.ga K "is_word") fd2 := funA_ofD D2
  have b2 := D2.bindsN (ps := ["text"]) fun _ _ _ _ _ _ us hl => match us, hl with | [_], _ => rfl
  obtain ⟨fd3, D3'⟩ := cD.def_ 3 rfl
  have D3 : FunD K "shared" "shared" (defArgs s_shared) (defBody s_shared) (defScope s_shared) [] [] (He.fAd K ("shared", none)) fd3 := D3'
  have FA3 : FunA K "shared" "shared" s_shared (He.ga K "shared") fd3 := funA_ofD D3
  have b3 := D3.bindsN (ps := ["one", "other"]) fun _ _ _ _ _ _ us hl => match us, hl with | [_, _], _ => rfl
  obtain ⟨fd4, D4'⟩ := cD.def_ 4 rfl
  have D4 : FunD K "made" "made" (defArgs s_made) (defBody s_made) (defScope s_made) [] [] (He.fAd K ("made", none)) fd4 := D4'
  have FA4 : FunA K "made" "made" s_made (He.ga K "made") fd4 := funA_ofD D4
  have b4 := D4.bindsN (ps := ["above", "beneath"]) fun _ _ _ _ _ _ us hl => match us, hl with | [_, _], _ => rfl
  obtain ⟨fd5, D5'⟩ := cD.def_ 5 rfl
  have D5 : FunD K "frac_text" "frac_text" (defArgs s_frac_text) (defBody s_frac_text) (defScope s_frac_text) [] [] (He.fAd K ("frac_text", none)) fd5 := D5'
  have FA5 : FunA K "frac_text" "frac_text" s_frac_text (He.ga K "frac_text") fd5 := funA_ofD D5
  have b5 := D5.bindsN (ps := ["fraction"]) fun _ _ _ _ _ _ us hl => match us, hl with | [_], _ => rfl
  obtain ⟨fd6, D6'⟩ := cD.def_ 6 rfl
  have D6 : FunD K "frac_of" "frac_of" (defArgs s_frac_of) (defBody s_frac_of) (defScope s_frac_of) [] [] (He.fAd K ("frac_of", none)) fd6 := D6'
  have FA6 : FunA K "frac_of" "frac_of" s_frac_of (He.ga K "frac_of") fd6 := funA_ofD D6
  have b6 := D6.bindsN (ps := ["text"]) fun _ _ _ _ _ _ us hl => match us, hl with | [_], _ => rfl
  obtain ⟨fd7, D7'⟩ := cD.def_ 7 rfl
  have D7 : FunD K "log_row" "log_row" (defArgs s_log_row) (defBody s_log_row) (defScope s_log_row) [] [] (He.fAd K ("log_row", none)) fd7 := D7'
  have FA7 : FunA K "log_row" "log_row" s_log_row (He.ga K "log_row") fd7 := funA_ofD D7
  have b7 := D7.bindsN (ps := ["row"]) fun _ _ _ _ _ _ us hl => match us, hl with | [_], _ => rfl
  obtain ⟨fd8, D8'⟩ := cD.def_ 8 rfl
  have D8 : FunD K "log_text" "log_text" (defArgs s_log_text) (defBody s_log_text) (defScope s_log_text) [] [] (He.fAd K ("log_text", none)) fd8 := D8'
  have FA8 : FunA K "log_text" "log_text" s_log_text (He.ga K "log_text") fd8 := funA_ofD D8
  have b8 := D8.bindsN (ps := ["log"]) fun _ _ _ _ _ _ us hl => match us, hl with | [_], _ => rfl
  obtain ⟨fd9, D9'⟩ := cD.def_ 9 rfl
  have D9 : FunD K "row_heard" "row_heard" (defArgs s_row_heard) (defBody s_row_heard) (defScope s_row_heard) [] [] (He.fAd K ("row_heard", none)) fd9 := D9'
  have FA9 : FunA K "row_heard" "row_heard" s_row_heard (He.ga K "row_heard") fd9 := funA_ofD D9
  have b9 := D9.bindsN (ps := ["row", "at"]) fun _ _ _ _ _ _ us hl => match us, hl with | [_, _], _ => rfl
  obtain ⟨fd10, D10'⟩ := cD.def_ 10 rfl
  have D10 : FunD K "heard" "heard" (defArgs s_heard) (defBody s_heard) (defScope s_heard) [] [] (He.fAd K ("heard", none)) fd10 := D10'
  have FA10 : FunA K "heard" "heard" s_heard (He.ga K "heard") fd10 := funA_ofD D10
  have b10 := D10.bindsN (ps := ["text"]) fun _ _ _ _ _ _ us hl => match us, hl with | [_], _ => rfl
  obtain ⟨fd11, D11'⟩ := cD.def_ 11 rfl
  have D11 : FunD K "_law_cell_at" "_law_cell_at" (defArgs s__law_cell_at) (defBody s__law_cell_at) (defScope s__law_cell_at) [] [] (He.fAd K ("_law_cell_at", none)) fd11 := D11'
  have FA11 : FunA K "_law_cell_at" "_law_cell_at" s__law_cell_at (He.ga K "_law_cell_at") fd11 := funA_ofD D11
  have b11 := D11.bindsN (ps := ["_law_script", "_law_k"]) fun _ _ _ _ _ _ us hl => match us, hl with | [_, _], _ => rfl
  obtain ⟨fd12, D12'⟩ := cD.def_ 12 rfl
  have D12 : FunD K "_law_mix" "_law_mix" (defArgs s__law_mix) (defBody s__law_mix) (defScope s__law_mix) [] [] (He.fAd K ("_law_mix", none)) fd12 := D12'
  have FA12 : FunA K "_law_mix" "_law_mix" s__law_mix (He.ga K "_law_mix") fd12 := funA_ofD D12
  have b12 := D12.bindsN (ps := ["_law_cell", "_law_factor"]) fun _ _ _ _ _ _ us hl => match us, hl with | [_, _], _ => rfl
  obtain ⟨fd13, D13'⟩ := cD.def_ 13 rfl
  have D13 : FunD K "_law_same" "_law_same" (defArgs s__law_same) (defBody s__law_same) (defScope s__law_same) [] [] (He.fAd K ("_law_same", none)) fd13 := D13'
  have FA13 : FunA K "_law_same" "_law_same" s__law_same (He.ga K "_law_same") fd13 := funA_ofD D13
  have b13 := D13.bindsN (ps := ["_law_found", "_law_due"]) fun _ _ _ _ _ _ us hl => match us, hl with | [_, _], _ => rfl
  obtain ⟨fd14, D14'⟩ := cD.def_ 14 rfl
  have D14 : FunD K "_law_word" "_law_word" (defArgs s__law_word) (defBody s__law_word) (defScope s__law_word) [] [] (He.fAd K ("_law_word", none)) fd14 := D14'
  have FA14 : FunA K "_law_word" "_law_word" s__law_word (He.ga K "_law_word") fd14 := funA_ofD D14
  have b14 := D14.bindsN (ps := ["_law_cell", "_law_k"]) fun _ _ _ _ _ _ us hl => match us, hl with | [_, _], _ => rfl
  obtain ⟨fd15, D15'⟩ := cD.def_ 15 rfl
  have D15 : FunD K "_law_shared" "_law_shared" (defArgs s__law_shared) (defBody s__law_shared) (defScope s__law_shared) [] [] (He.fAd K ("_law_shared", none)) fd15 := D15'
  have FA15 : FunA K "_law_shared" "_law_shared" s__law_shared (He.ga K "_law_shared") fd15 := funA_ofD D15
  have b15 := D15.bindsN (ps := ["_law_one", "_law_other"]) fun _ _ _ _ _ _ us hl => match us, hl with | [_, _], _ => rfl
  obtain ⟨fd16, D16'⟩ := cD.def_ 16 rfl
  have D16 : FunD K "_law_time" "_law_time" (defArgs s__law_time) (defBody s__law_time) (defScope s__law_time) [] [] (He.fAd K ("_law_time", none)) fd16 := D16'
  have FA16 : FunA K "_law_time" "_law_time" s__law_time (He.ga K "_law_time") fd16 := funA_ofD D16
  have b16 := D16.bindsN (ps := ["_law_cell", "_law_m"]) fun _ _ _ _ _ _ us hl => match us, hl with | [_, _], _ => rfl
  obtain ⟨fd17, D17'⟩ := cD.def_ 17 rfl
  have D17 : FunD K "_law_row" "_law_row" (defArgs s__law_row) (defBody s__law_row) (defScope s__law_row) [] [] (He.fAd K ("_law_row", none)) fd17 := D17'
  have FA17 : FunA K "_law_row" "_law_row" s__law_row (He.ga K "_law_row") fd17 := funA_ofD D17
  have b17 := D17.bindsN (ps := ["_law_cell", "_law_k"]) fun _ _ _ _ _ _ us hl => match us, hl with | [_, _], _ => rfl
  obtain ⟨fd18, D18'⟩ := cD.def_ 18 rfl
  have D18 : FunD K "_law_text_of" "_law_text_of" (defArgs s__law_text_of) (defBody s__law_text_of) (defScope s__law_text_of) [] [] (He.fAd K ("_law_text_of", none)) fd18 := D18'
  have FA18 : FunA K "_law_text_of" "_law_text_of" s__law_text_of (He.ga K "_law_text_of") fd18 := funA_ofD D18
  have b18 := D18.bindsN (ps := ["_law_row_here"]) fun _ _ _ _ _ _ us hl => match us, hl with | [_], _ => rfl
  obtain ⟨fd19, D19'⟩ := cD.def_ 19 rfl
  have D19 : FunD K "_law_spoilt" "_law_spoilt" (defArgs s__law_spoilt) (defBody s__law_spoilt) (defScope s__law_spoilt) [] [] (He.fAd K ("_law_spoilt", none)) fd19 := D19'
  have FA19 : FunA K "_law_spoilt" "_law_spoilt" s__law_spoilt (He.ga K "_law_spoilt") fd19 := funA_ofD D19
  have b19 := D19.bindsN (ps := ["_law_row_here", "_law_n"]) fun _ _ _ _ _ _ us hl => match us, hl with | [_, _], _ => rfl
  obtain ⟨fd20, D20'⟩ := cD.def_ 20 rfl
  have D20 : FunD K "_law_refused" "_law_refused" (defArgs s__law_refused) (defBody s__law_refused) (defScope s__law_refused) [] [] (He.fAd K ("_law_refused", none)) fd20 := D20'
  have FA20 : FunA K "_law_refused" "_law_refused" s__law_refused (He.ga K "_law_refused") fd20 := funA_ofD D20
  have b20 := D20.bindsN (ps := ["_law_text"]) fun _ _ _ _ _ _ us hl => match us, hl with | [_], _ => rfl
  obtain ⟨fd21, D21'⟩ := cD.def_ 21 rfl
  have D21 : FunD K "_law_bad" "_law_bad" (defArgs s__law_bad) (defBody s__law_bad) (defScope s__law_bad) [] [] (He.fAd K ("_law_bad", none)) fd21 := D21'
  have FA21 : FunA K "_law_bad" "_law_bad" s__law_bad (He.ga K "_law_bad") fd21 := funA_ofD D21
  have b21 := D21.bindsN (ps := ["_law_rows", "_law_n"]) fun _ _ _ _ _ _ us hl => match us, hl with | [_, _], _ => rfl
  obtain ⟨fd22, D22'⟩ := cD.def_ 22 rfl
  have D22 : FunD K "law" "law" (defArgs s_law) (defBody s_law) (defScope s_law) [] [] (He.fAd K ("law", none)) fd22 := D22'
  have FA22 : FunA K "law" "law" s_law (He.ga K "law") fd22 := funA_ofD D22
  have b22 := D22.bindsN (ps := ["_law_script"]) fun _ _ _ _ _ _ us hl => match us, hl with | [_], _ => rfl
  refine ⟨fd22, [], spOf K (caOf [0, 0, 0, 0, 0, 0, He.ga K "WayError", 0, 0, He.ga K "TextError", He.ga K "BadRow", He.ga K "Twice", 0, 0, 0, 0, 0, 0, 0, 0, 0, 0, 0, 0]) φ_law, ?_, ?_, ?_, fun s v => D22.bindsA (ps := ["_law_script"]) (fun _ _ _ _ _ _ us hl => match us, hl with | [_], _ => rfl) s [v] rfl, ?_, fun base _ _ TB => ?_⟩
  · intro p hp; cases hp
  · intro p hp; cases hp
  · intro p hp; cases hp
  · intro H a ns hl hb hT hS
    exact ⟨[.rol (ns.map D.int)], noT H, .va (.bl true), noT_same _, noT_nt _, tabsC0 rfl rfl, .cons (.rol (noT_sq hS) .ints) .nil, law_true ns hl hb, fun v H' F' _ r => by cases r; rfl⟩
  have XE : ∀ c ∈ ([10] : List Nat), ExcC K ((caOf [0, 0, 0, 0, 0, 0, He.ga K "WayError", 0, 0, He.ga K "TextError", He.ga K "BadRow", He.ga K "Twice", 0, 0, 0, 0, 0, 0, 0, 0, 0, 0, 0, 0]) c) := xe_ok (ca := caOf [0, 0, 0, 0, 0, 0, He.ga K "WayError", 0, 0, He.ga K "TextError", He.ga K "BadRow", He.ga K "Twice", 0, 0, 0, 0, 0, 0, 0, 0, 0, 0, 0, 0]) x_XE
  have NX_BadRow : mg "BadRow" = some (.ref ((caOf [0, 0, 0, 0, 0, 0, He.ga K "WayError", 0, 0, He.ga K "TextError", He.ga K "BadRow", He.ga K "Twice", 0, 0, 0, 0, 0, 0, 0, 0, 0, 0, 0, 0]) 10)) := He.glo_ok X Gn (cD.fact 41 rfl)
  have NX_TextError : mg "TextError" = some (.ref ((caOf [0, 0, 0, 0, 0, 0, He.ga K "WayError", 0, 0, He.ga K "TextError", He.ga K "BadRow", He.ga K "Twice", 0, 0, 0, 0, 0, 0, 0, 0, 0, 0, 0, 0]) 9)) := He.glo_ok X Gn (cD.fact 42 rfl)
  have NX_Twice : mg "Twice" = some (.ref ((caOf [0, 0, 0, 0, 0, 0, He.ga K "WayError", 0, 0, He.ga K "TextError", He.ga K "BadRow", He.ga K "Twice", 0, 0, 0, 0, 0, 0, 0, 0, 0, 0, 0, 0]) 11)) := He.glo_ok X Gn (cD.fact 43 rfl)
  have NX_WayError : mg "WayError" = some (.ref ((caOf [0, 0, 0, 0, 0, 0, He.ga K "WayError", 0, 0, He.ga K "TextError", He.ga K "BadRow", He.ga K "Twice", 0, 0, 0, 0, 0, 0, 0, 0, 0, 0, 0, 0]) 6)) := He.glo_ok X Gn (cD.fact 44 rfl)
  have XF_row := xf_ok (ca := caOf [0, 0, 0, 0, 0, 0, He.ga K "WayError", 0, 0, He.ga K "TextError", He.ga K "BadRow", He.ga K "Twice", 0, 0, 0, 0, 0, 0, 0, 0, 0, 0, 0, 0]) x_XF_row
  have XI_BadRow := xi_ok (ca := caOf [0, 0, 0, 0, 0, 0, He.ga K "WayError", 0, 0, He.ga K "TextError", He.ga K "BadRow", He.ga K "Twice", 0, 0, 0, 0, 0, 0, 0, 0, 0, 0, 0, 0]) XE x_XI_BadRow
  have XI_TextError := xi_ok (ca := caOf [0, 0, 0, 0, 0, 0, He.ga K "WayError", 0, 0, He.ga K "TextError", He.ga K "BadRow", He.ga K "Twice", 0, 0, 0, 0, 0, 0, 0, 0, 0, 0, 0, 0]) XE x_XI_TextError
  have XI_Twice := xi_ok (ca := caOf [0, 0, 0, 0, 0, 0, He.ga K "WayError", 0, 0, He.ga K "TextError", He.ga K "BadRow", He.ga K "Twice", 0, 0, 0, 0, 0, 0, 0, 0, 0, 0, 0, 0]) XE x_XI_Twice
  have XI_ValueError := xi_ok (ca := caOf [0, 0, 0, 0, 0, 0, He.ga K "WayError", 0, 0, He.ga K "TextError", He.ga K "BadRow", He.ga K "Twice", 0, 0, 0, 0, 0, 0, 0, 0, 0, 0, 0, 0]) XE x_XI_ValueError
  have XT_WayError := xt_ok (ca := caOf [0, 0, 0, 0, 0, 0, He.ga K "WayError", 0, 0, He.ga K "TextError", He.ga K "BadRow", He.ga K "Twice", 0, 0, 0, 0, 0, 0, 0, 0, 0, 0, 0, 0]) x_XT_WayError
  obtain ⟨fdITextError, DITextError'⟩ := cD.def_ 23 rfl
  have DITextError : FunD K "__init__" "TextError.__init__" (defArgs sI_TextError) (defBody sI_TextError) (defScope sI_TextError) [] [] (He.fAd K ("TextError", some "__init__")) fdITextError := DITextError'
  have FITextError := fun_ofD (st := sI_TextError) DITextError
  have bITextError := FITextError.binds (ps := ["self", "row"]) fun _ _ _ _ _ _ us hl => match us, hl with | [_, _], _ => rfl
  have XR_BadRow : Raiser l.prog w K mg base (caOf [0, 0, 0, 0, 0, 0, He.ga K "WayError", 0, 0, He.ga K "TextError", He.ga K "BadRow", He.ga K "Twice", 0, 0, 0, 0, 0, 0, 0, 0, 0, 0, 0, 0]) 1 10 "BadRow" := ra_ok x_raBadRow (fun T => okI_TextError (He.glo_ok X Gn (cD.fact 44 rfl)) x_rdW (He.eqO_ok x_gaW) (fcvB_ok x_fcW) (He.eqO_ok x_noBadRow_row) FITextError.toA T) bITextError (He.glo_ok X Gn (cD.fact 41 rfl))
  have G0 : FnOk l.prog w K mg base CX0 1 _ _ _ (spOf K (caOf [0, 0, 0, 0, 0, 0, He.ga K "WayError", 0, 0, He.ga K "TextError", He.ga K "BadRow", He.ga K "Twice", 0, 0, 0, 0, 0, 0, 0, 0, 0, 0, 0, 0]) φ_made_of) := ok_made_of Z FA0
  have C_made_of : Callee l.prog w K mg base (caOf [0, 0, 0, 0, 0, 0, He.ga K "WayError", 0, 0, He.ga K "TextError", He.ga K "BadRow", He.ga K "Twice", 0, 0, 0, 0, 0, 0, 0, 0, 0, 0, 0, 0]) 1 "made_of" φ_made_of [] := fn_callee FA0 G0 a0 b0 .nil fun _ => .nil
  have G1 : FnOk l.prog w K mg base CX0 2 _ _ _ (spOf K (caOf [0, 0, 0, 0, 0, 0, He.ga K "WayError", 0, 0, He.ga K "TextError", He.ga K "BadRow", He.ga K "Twice", 0, 0, 0, 0, 0, 0, 0, 0, 0, 0, 0, 0]) φ_number_of) := ok_number_of Z K_FIGURES K_MOST_FIGURES C_made_of FA1
  have C_number_of : Callee l.prog w K mg base (caOf [0, 0, 0, 0, 0, 0, He.ga K "WayError", 0, 0, He.ga K "TextError", He.ga K "BadRow", He.ga K "Twice", 0, 0, 0, 0, 0, 0, 0, 0, 0, 0, 0, 0]) 2 "number_of" φ_number_of [] := fn_callee FA1 G1 a1 b1 .nil fun _ => .nil
  have C_number_of_1 : Callee l.prog w K mg base (caOf [0, 0, 0, 0, 0, 0, He.ga K "WayError", 0, 0, He.ga K "TextError", He.ga K "BadRow", He.ga K "Twice", 0, 0, 0, 0, 0, 0, 0, 0, 0, 0, 0, 0]) 2 "number_of" φ_number_of [.non] := fn_callee FA1 G1 a1 b1_1 vd1_1 fun _ => .cons .non .nil
  have G2 : FnOk l.prog w K mg base CX0 2 _ _ _ (spOf K (caOf [0, 0, 0, 0, 0, 0, He.ga K "WayError", 0, 0, He.ga K "TextError", He.ga K "BadRow", He.ga K "Twice", 0, 0, 0, 0, 0, 0, 0, 0, 0, 0, 0, 0]) φ_is_word) := ok_is_word Z K_LETTERS K_MOST_LETTERS C_made_of FA2
  have C_is_word : Callee l.prog w K mg base (caOf [0, 0, 0, 0, 0, 0, He.ga K "WayError", 0, 0, He.ga K "TextError", He.ga K "BadRow", He.ga K "Twice", 0, 0, 0, 0, 0, 0, 0, 0, 0, 0, 0, 0]) 2 "is_word" φ_is_word [] := fn_callee FA2 G2 a2 b2 .nil fun _ => .nil
  have G3 : FnOk l.prog w K mg base CX0 1 _ _ _ (spOf K (caOf [0, 0, 0, 0, 0, 0, He.ga K "WayError", 0, 0, He.ga K "TextError", He.ga K "BadRow", He.ga K "Twice", 0, 0, 0, 0, 0, 0, 0, 0, 0, 0, 0, 0]) φ_shared) := ok_shared Z FA3
  have C_shared : Callee l.prog w K mg base (caOf [0, 0, 0, 0, 0, 0, He.ga K "WayError", 0, 0, He.ga K "TextError", He.ga K "BadRow", He.ga K "Twice", 0, 0, 0, 0, 0, 0, 0, 0, 0, 0, 0, 0]) 1 "shared" φ_shared [] := fn_callee FA3 G3 a3 b3 .nil fun _ => .nil
  have G4 : FnOk l.prog w K mg base CX0 2 _ _ _ (spOf K (caOf [0, 0, 0, 0, 0, 0, He.ga K "WayError", 0, 0, He.ga K "TextError", He.ga K "BadRow", He.ga K "Twice", 0, 0, 0, 0, 0, 0, 0, 0, 0, 0, 0, 0]) φ_made) := ok_made Z C_shared FA4
  have C_made : Callee l.prog w K mg base (caOf [0, 0, 0, 0, 0, 0, He.ga K "WayError", 0, 0, He.ga K "TextError", He.ga K "BadRow", He.ga K "Twice", 0, 0, 0, 0, 0, 0, 0, 0, 0, 0, 0, 0]) 2 "made" φ_made [] := fn_callee FA4 G4 a4 b4 .nil fun _ => .nil
  have G5 : FnOk l.prog w K mg base CX0 1 _ _ _ (spOf K (caOf [0, 0, 0, 0, 0, 0, He.ga K "WayError", 0, 0, He.ga K "TextError", He.ga K "BadRow", He.ga K "Twice", 0, 0, 0, 0, 0, 0, 0, 0, 0, 0, 0, 0]) φ_frac_text) := ok_frac_text Z FA5
  have C_frac_text : Callee l.prog w K mg base (caOf [0, 0, 0, 0, 0, 0, He.ga K "WayError", 0, 0, He.ga K "TextError", He.ga K "BadRow", He.ga K "Twice", 0, 0, 0, 0, 0, 0, 0, 0, 0, 0, 0, 0]) 1 "frac_text" φ_frac_text [] := fn_callee FA5 G5 a5 b5 .nil fun _ => .nil
  have G6 : FnOk l.prog w K mg base CX0 3 _ _ _ (spOf K (caOf [0, 0, 0, 0, 0, 0, He.ga K "WayError", 0, 0, He.ga K "TextError", He.ga K "BadRow", He.ga K "Twice", 0, 0, 0, 0, 0, 0, 0, 0, 0, 0, 0, 0]) φ_frac_of) := ok_frac_of Z C_number_of_1 C_made C_frac_text FA6
  have C_frac_of : Callee l.prog w K mg base (caOf [0, 0, 0, 0, 0, 0, He.ga K "WayError", 0, 0, He.ga K "TextError", He.ga K "BadRow", He.ga K "Twice", 0, 0, 0, 0, 0, 0, 0, 0, 0, 0, 0, 0]) 3 "frac_of" φ_frac_of [] := fn_callee FA6 G6 a6 b6 .nil fun _ => .nil
  have G7 : FnOk l.prog w K mg base CX0 2 _ _ _ (spOf K (caOf [0, 0, 0, 0, 0, 0, He.ga K "WayError", 0, 0, He.ga K "TextError", He.ga K "BadRow", He.ga K "Twice", 0, 0, 0, 0, 0, 0, 0, 0, 0, 0, 0, 0]) φ_log_row) := ok_log_row Z C_frac_text FA7
  have C_log_row : Callee l.prog w K mg base (caOf [0, 0, 0, 0, 0, 0, He.ga K "WayError", 0, 0, He.ga K "TextError", He.ga K "BadRow", He.ga K "Twice", 0, 0, 0, 0, 0, 0, 0, 0, 0, 0, 0, 0]) 2 "log_row" φ_log_row [] := fn_callee FA7 G7 a7 b7 .nil fun _ => .nil
  have G8 : FnOk l.prog w K mg base CX0 3 _ _ _ (spOf K (caOf [0, 0, 0, 0, 0, 0, He.ga K "WayError", 0, 0, He.ga K "TextError", He.ga K "BadRow", He.ga K "Twice", 0, 0, 0, 0, 0, 0, 0, 0, 0, 0, 0, 0]) φ_log_text) := ok_log_text Z C_log_row FA8
  have C_log_text : Callee l.prog w K mg base (caOf [0, 0, 0, 0, 0, 0, He.ga K "WayError", 0, 0, He.ga K "TextError", He.ga K "BadRow", He.ga K "Twice", 0, 0, 0, 0, 0, 0, 0, 0, 0, 0, 0, 0]) 3 "log_text" φ_log_text [] := fn_callee FA8 G8 a8 b8 .nil fun _ => .nil
  have G9 : FnOk l.prog w K mg base CX0 4 _ _ _ (spOf K (caOf [0, 0, 0, 0, 0, 0, He.ga K "WayError", 0, 0, He.ga K "TextError", He.ga K "BadRow", He.ga K "Twice", 0, 0, 0, 0, 0, 0, 0, 0, 0, 0, 0, 0]) φ_row_heard) := ok_row_heard Z C_frac_of C_number_of_1 C_is_word XR_BadRow FA9
  have C_row_heard : Callee l.prog w K mg base (caOf [0, 0, 0, 0, 0, 0, He.ga K "WayError", 0, 0, He.ga K "TextError", He.ga K "BadRow", He.ga K "Twice", 0, 0, 0, 0, 0, 0, 0, 0, 0, 0, 0, 0]) 4 "row_heard" φ_row_heard [] := fn_callee FA9 G9 a9 b9 .nil fun _ => .nil
  have X_row_heard : CalleeX l.prog w K mg base (caOf [0, 0, 0, 0, 0, 0, He.ga K "WayError", 0, 0, He.ga K "TextError", He.ga K "BadRow", He.ga K "Twice", 0, 0, 0, 0, 0, 0, 0, 0, 0, 0, 0, 0]) 4 "row_heard" ψ_row_heard := ⟨⟨_, _, _, okx_row_heard Z C_frac_of C_number_of_1 C_is_word XR_BadRow FA9, a9, FA9.kp, b9⟩⟩
  have G10 : FnOk l.prog w K mg base CX0 5 _ _ _ (spOf K (caOf [0, 0, 0, 0, 0, 0, He.ga K "WayError", 0, 0, He.ga K "TextError", He.ga K "BadRow", He.ga K "Twice", 0, 0, 0, 0, 0, 0, 0, 0, 0, 0, 0, 0]) φ_heard) := ok_heard Z C_row_heard X_row_heard FA10
  have C_heard : Callee l.prog w K mg base (caOf [0, 0, 0, 0, 0, 0, He.ga K "WayError", 0, 0, He.ga K "TextError", He.ga K "BadRow", He.ga K "Twice", 0, 0, 0, 0, 0, 0, 0, 0, 0, 0, 0, 0]) 5 "heard" φ_heard [] := fn_callee FA10 G10 a10 b10 .nil fun _ => .nil
  have X_heard : CalleeX l.prog w K mg base (caOf [0, 0, 0, 0, 0, 0, He.ga K "WayError", 0, 0, He.ga K "TextError", He.ga K "BadRow", He.ga K "Twice", 0, 0, 0, 0, 0, 0, 0, 0, 0, 0, 0, 0]) 5 "heard" ψ_heard := ⟨⟨_, _, _, okx_heard Z C_row_heard X_row_heard FA10, a10, FA10.kp, b10⟩⟩
  have G11 : FnOk l.prog w K mg base CX0 1 _ _ _ (spOf K (caOf [0, 0, 0, 0, 0, 0, He.ga K "WayError", 0, 0, He.ga K "TextError", He.ga K "BadRow", He.ga K "Twice", 0, 0, 0, 0, 0, 0, 0, 0, 0, 0, 0, 0]) φ__law_cell_at) := ok__law_cell_at Z FA11
  have C__law_cell_at : Callee l.prog w K mg base (caOf [0, 0, 0, 0, 0, 0, He.ga K "WayError", 0, 0, He.ga K "TextError", He.ga K "BadRow", He.ga K "Twice", 0, 0, 0, 0, 0, 0, 0, 0, 0, 0, 0, 0]) 1 "_law_cell_at" φ__law_cell_at [] := fn_callee FA11 G11 a11 b11 .nil fun _ => .nil
  have G12 : FnOk l.prog w K mg base CX0 1 _ _ _ (spOf K (caOf [0, 0, 0, 0, 0, 0, He.ga K "WayError", 0, 0, He.ga K "TextError", He.ga K "BadRow", He.ga K "Twice", 0, 0, 0, 0, 0, 0, 0, 0, 0, 0, 0, 0]) φ__law_mix) := ok__law_mix Z FA12
  have C__law_mix : Callee l.prog w K mg base (caOf [0, 0, 0, 0, 0, 0, He.ga K "WayError", 0, 0, He.ga K "TextError", He.ga K "BadRow", He.ga K "Twice", 0, 0, 0, 0, 0, 0, 0, 0, 0, 0, 0, 0]) 1 "_law_mix" φ__law_mix [] := fn_callee FA12 G12 a12 b12 .nil fun _ => .nil
  have G13 : FnOk l.prog w K mg base CX0 11 _ _ _ (spOf K (caOf [0, 0, 0, 0, 0, 0, He.ga K "WayError", 0, 0, He.ga K "TextError", He.ga K "BadRow", He.ga K "Twice", 0, 0, 0, 0, 0, 0, 0, 0, 0, 0, 0, 0]) φ__law_same) := okr__law_same Z  FA13 a13 b13 10
  have C__law_same : Callee l.prog w K mg base (caOf [0, 0, 0, 0, 0, 0, He.ga K "WayError", 0, 0, He.ga K "TextError", He.ga K "BadRow", He.ga K "Twice", 0, 0, 0, 0, 0, 0, 0, 0, 0, 0, 0, 0]) 11 "_law_same" φ__law_same [] := fn_callee FA13 G13 a13 b13 .nil fun _ => .nil
  have G14 : FnOk l.prog w K mg base CX0 1 _ _ _ (spOf K (caOf [0, 0, 0, 0, 0, 0, He.ga K "WayError", 0, 0, He.ga K "TextError", He.ga K "BadRow", He.ga K "Twice", 0, 0, 0, 0, 0, 0, 0, 0, 0, 0, 0, 0]) φ__law_word) := ok__law_word Z FA14
  have C__law_word : Callee l.prog w K mg base (caOf [0, 0, 0, 0, 0, 0, He.ga K "WayError", 0, 0, He.ga K "TextError", He.ga K "BadRow", He.ga K "Twice", 0, 0, 0, 0, 0, 0, 0, 0, 0, 0, 0, 0]) 1 "_law_word" φ__law_word [] := fn_callee FA14 G14 a14 b14 .nil fun _ => .nil
  have G15 : FnOk l.prog w K mg base CX0 1 _ _ _ (spOf K (caOf [0, 0, 0, 0, 0, 0, He.ga K "WayError", 0, 0, He.ga K "TextError", He.ga K "BadRow", He.ga K "Twice", 0, 0, 0, 0, 0, 0, 0, 0, 0, 0, 0, 0]) φ__law_shared) := ok__law_shared Z FA15
  have C__law_shared : Callee l.prog w K mg base (caOf [0, 0, 0, 0, 0, 0, He.ga K "WayError", 0, 0, He.ga K "TextError", He.ga K "BadRow", He.ga K "Twice", 0, 0, 0, 0, 0, 0, 0, 0, 0, 0, 0, 0]) 1 "_law_shared" φ__law_shared [] := fn_callee FA15 G15 a15 b15 .nil fun _ => .nil
  have G16 : FnOk l.prog w K mg base CX0 2 _ _ _ (spOf K (caOf [0, 0, 0, 0, 0, 0, He.ga K "WayError", 0, 0, He.ga K "TextError", He.ga K "BadRow", He.ga K "Twice", 0, 0, 0, 0, 0, 0, 0, 0, 0, 0, 0, 0]) φ__law_time) := ok__law_time Z C__law_shared FA16
  have C__law_time : Callee l.prog w K mg base (caOf [0, 0, 0, 0, 0, 0, He.ga K "WayError", 0, 0, He.ga K "TextError", He.ga K "BadRow", He.ga K "Twice", 0, 0, 0, 0, 0, 0, 0, 0, 0, 0, 0, 0]) 2 "_law_time" φ__law_time [] := fn_callee FA16 G16 a16 b16 .nil fun _ => .nil
  have G17 : FnOk l.prog w K mg base CX0 3 _ _ _ (spOf K (caOf [0, 0, 0, 0, 0, 0, He.ga K "WayError", 0, 0, He.ga K "TextError", He.ga K "BadRow", He.ga K "Twice", 0, 0, 0, 0, 0, 0, 0, 0, 0, 0, 0, 0]) φ__law_row) := ok__law_row Z C__law_mix C__law_word C__law_time FA17
  have C__law_row : Callee l.prog w K mg base (caOf [0, 0, 0, 0, 0, 0, He.ga K "WayError", 0, 0, He.ga K "TextError", He.ga K "BadRow", He.ga K "Twice", 0, 0, 0, 0, 0, 0, 0, 0, 0, 0, 0, 0]) 3 "_law_row" φ__law_row [] := fn_callee FA17 G17 a17 b17 .nil fun _ => .nil
  have G18 : FnOk l.prog w K mg base CX0 1 _ _ _ (spOf K (caOf [0, 0, 0, 0, 0, 0, He.ga K "WayError", 0, 0, He.ga K "TextError", He.ga K "BadRow", He.ga K "Twice", 0, 0, 0, 0, 0, 0, 0, 0, 0, 0, 0, 0]) φ__law_text_of) := ok__law_text_of Z FA18
  have C__law_text_of : Callee l.prog w K mg base (caOf [0, 0, 0, 0, 0, 0, He.ga K "WayError", 0, 0, He.ga K "TextError", He.ga K "BadRow", He.ga K "Twice", 0, 0, 0, 0, 0, 0, 0, 0, 0, 0, 0, 0]) 1 "_law_text_of" φ__law_text_of [] := fn_callee FA18 G18 a18 b18 .nil fun _ => .nil
  have G19 : FnOk l.prog w K mg base CX0 2 _ _ _ (spOf K (caOf [0, 0, 0, 0, 0, 0, He.ga K "WayError", 0, 0, He.ga K "TextError", He.ga K "BadRow", He.ga K "Twice", 0, 0, 0, 0, 0, 0, 0, 0, 0, 0, 0, 0]) φ__law_spoilt) := ok__law_spoilt Z C__law_text_of FA19
  have C__law_spoilt : Callee l.prog w K mg base (caOf [0, 0, 0, 0, 0, 0, He.ga K "WayError", 0, 0, He.ga K "TextError", He.ga K "BadRow", He.ga K "Twice", 0, 0, 0, 0, 0, 0, 0, 0, 0, 0, 0, 0]) 2 "_law_spoilt" φ__law_spoilt [] := fn_callee FA19 G19 a19 b19 .nil fun _ => .nil
  have G20 : FnOk l.prog w K mg base CX0 6 _ _ _ (spOf K (caOf [0, 0, 0, 0, 0, 0, He.ga K "WayError", 0, 0, He.ga K "TextError", He.ga K "BadRow", He.ga K "Twice", 0, 0, 0, 0, 0, 0, 0, 0, 0, 0, 0, 0]) φ__law_refused) := ok__law_refused Z C_heard X_heard NX_BadRow NX_TextError NX_Twice NX_WayError XT_WayError XI_BadRow XI_TextError XI_Twice XI_ValueError XF_row FA20
  have C__law_refused : Callee l.prog w K mg base (caOf [0, 0, 0, 0, 0, 0, He.ga K "WayError", 0, 0, He.ga K "TextError", He.ga K "BadRow", He.ga K "Twice", 0, 0, 0, 0, 0, 0, 0, 0, 0, 0, 0, 0]) 6 "_law_refused" φ__law_refused [] := fn_callee FA20 G20 a20 b20 .nil fun _ => .nil
  have G21 : FnOk l.prog w K mg base CX0 12 _ _ _ (spOf K (caOf [0, 0, 0, 0, 0, 0, He.ga K "WayError", 0, 0, He.ga K "TextError", He.ga K "BadRow", He.ga K "Twice", 0, 0, 0, 0, 0, 0, 0, 0, 0, 0, 0, 0]) φ__law_bad) := ok__law_bad Z C__law_same C__law_refused C__law_text_of C__law_spoilt FA21
  have C__law_bad : Callee l.prog w K mg base (caOf [0, 0, 0, 0, 0, 0, He.ga K "WayError", 0, 0, He.ga K "TextError", He.ga K "BadRow", He.ga K "Twice", 0, 0, 0, 0, 0, 0, 0, 0, 0, 0, 0, 0]) 12 "_law_bad" φ__law_bad [] := fn_callee FA21 G21 a21 b21 .nil fun _ => .nil
  have G22 : FnOk l.prog w K mg base CX0 13 _ _ _ (spOf K (caOf [0, 0, 0, 0, 0, 0, He.ga K "WayError", 0, 0, He.ga K "TextError", He.ga K "BadRow", He.ga K "Twice", 0, 0, 0, 0, 0, 0, 0, 0, 0, 0, 0, 0]) φ_law) := ok_law Z C__law_row C__law_text_of C__law_same C_log_text C_heard C__law_bad C__law_mix C__law_cell_at FA22
  exact G22
end G
open PySem PySem.W PyProof.Rows
set_option maxRecDepth 100000 in
set_option maxHeartbeats 0 in
theorem PySem.Challenge.cw_ballastway_k39_logs_written_and_heard_holds : PySem.Challenge.rw_ballastway_k39_logs_written_and_heard.Holds := by
  w_on; o_law
  refine HandSHeadRun.head_any (r := OpenLaw.row PySem.Challenge.rw_ballastway_k39_logs_written_and_heard) (q := view (OpenLaw.row PySem.Challenge.rw_ballastway_k39_logs_written_and_heard).prog [36]) (H := G.hkT) (ob := G.obT) (M := 6000) (loose := G.looseL) (d := HandSHeadRun.topDef (OpenLaw.row PySem.Challenge.rw_ballastway_k39_logs_written_and_heard).prog 36) (kwd := []) G.ob_eqT
    (by kernel_rfl) (fun s => by kernel_rfl) G.runT (by kernel_rfl) (by kernel_rfl) (by kernel_rfl) (by rfl) (by first | assumption | decide +kernel) (by decide +kernel) ⟨rfl, rfl, rfl, rfl, rfl, by decide +kernel⟩ ?hw ?hc
  case hw => w_witness2
  case hc =>
    refine LamX.walk_ofTsE (l := PySem.Challenge.rw_ballastway_k39_logs_written_and_heard) (n := 63) (k := 13) (x := "_law_script") (CX := fun _ => L2.CX0) rfl (by decide) (by kernel_rfl) ⟨rfl, by decide, by decide⟩ ?F (fun _ _ _ _ _ z => z)
    intro w mg fa h Y G0 hmg0
    obtain ⟨K, KX, c⟩ := Y
    have hmg : mg ("law" : PySem.Str) = some (.ref fa) := by
      have e : (HandSHeadRun.topDef (OpenLaw.row PySem.Challenge.rw_ballastway_k39_logs_written_and_heard).prog 36).name = ("law" : PySem.Str) := by kernel_rfl
      rw [← e]
      exact hmg0
    exact ⟨K, KX, G.all_mkT KX G0 hmg c⟩
