import PyProof.Rows.All
import Wide.All
import OpenK.AllK
import Wide.FinOn
import HandS.ForMost
import HandS.EndBits
import HandS.IsInst
import HandS.TupAny
import HandS.Style
import HandS.Lambda
import HandS.EndTab
import HandS.HeadHook4
import HandS.HeadWalk
import HandS.Head2
import HandS.Exc
import HandS.Defaults
import HandS.Zip
import HandS.RaiseMore
import HandS.More
import KE.SortUse
import HandS.Codes
import PyProof.Rows.StrFirst
import KE.IntTextText
import HandS.Conv
import HandS.Rev
import PyProof.ListRange
import HandS.Deep
import HandS.ExcInit
import HandS.ExcOwn
import HandS.ExcIs
import HandS.ExcField
import HandS.ExcBuiltin
import HandS.ExcValue
import HandS.FStr
import HandS.SortInts
import KE.KAsSuite
import KE.GoesEnum
import KE.KIndexOf
import KE.LtSeq
import PySem.Challenge.RW_ballastway_k19_fewest_carts
set_option Elab.async false
set_option linter.all false
set_option maxRecDepth 100000
namespace BK
open PySem PySem.Spec L2
set_option autoImplicit false
def fcB (o : Option PySem.W.CFound) (f : Addr) : Bool := match o with
  | some (.val (.ref a)) => decide (a = f)
  | _ => false
theorem fcB_ok {o : Option PySem.W.CFound} {f : Addr} (h : fcB o f = true) : o = some (.val (.ref f)) := by
  unfold fcB at h
  split at h
  · rw [of_decide_eq_true h]
  · cases h
end BK
namespace He
open PySem PySem.Spec L2
set_option autoImplicit false
/-- what the names reach, and the interpreter's own statics -/
def asY (g : Addr → Option Obj) (n : Nat) : List Addr := asD g n ++ [PySem.cStatics]
def obsY (n : Nat) (fa : List Fa) (fn : List DefD) (tf : List Defn) (ex : PySem.W.Frag → Bool) (g : Addr → Option Obj) : AlX := (obsT fa fn [] (frT g (asY g n)), ex (frT g (asY g n)) && tabsB g tf (frT g (asY g n)))
theorem saysY_of {fa : List Fa} {fn : List DefD} {tf : List Defn} {ex : PySem.W.Frag → Bool} {w : World} {h : Heap} {as : List Addr} (e : ((obsT fa fn [] (frT h.get? as), ex (frT h.get? as) && tabsB h.get? tf (frT h.get? as)) : AlX) = valX fn [] w) : SaysX fa fn [] tf ex w h (frT h.get? as) := by
  have e1 : obsT fa fn [] (frT h.get? as) = valT fn [] w := congrArg (fun z : AlX => z.1) e
  have e2 : (ex (frT h.get? as) && tabsB h.get? tf (frT h.get? as)) = true := congrArg (fun z : AlX => z.2) e
  obtain ⟨h1, h2⟩ := ba e2
  have key : ∀ p ∈ tf, PySem.W.codeHdIn (frT h.get? as) (cT (frT h.get? as) p).1 (cT (frT h.get? as) p).2 = true ∧ ∃ o, h.get? (cT (frT h.get? as) p).2 = some o ∧ emptyTab o = true := fun p hp => by
    obtain ⟨h3, h4⟩ := ba (List.all_eq_true.mp h2 p hp)
    refine ⟨h3, ?_⟩
    cases q : h.get? (cT (frT h.get? as) p).2 with
    | none =>
      rw [q] at h4
      cases h4
    | some o =>
      rw [q] at h4
      exact ⟨o, rfl, h4⟩
  exact ⟨e1, h1, fun p hp => (key p hp).1, fun p hp => by
    obtain ⟨_, o, q, z⟩ := key p hp
    exact frT_none q z, fun p hp => by
    obtain ⟨_, o, q, z⟩ := key p hp
    rw [q, emptyTab_eq z]⟩
def hookY (n : Nat) (fa : List Fa) (fn : List DefD) (tf : List Defn) (ex : PySem.W.Frag → Bool) : PySem.W.Hook where
  α := AlX
  obs := fun s => obsY n fa fn tf ex s.heap.get?
  val := fun w => valX fn [] w
  says := fun w h => ∃ K : PySem.W.Frag, K.In h ∧ SaysX fa fn [] tf ex w h K
  of := fun _ _ e => ⟨_, frT_in, saysY_of e⟩
  keeps := fun _ _ _ ⟨K, hK, c⟩ k => ⟨K, PySem.W.Frag.In.keeps hK k, ⟨c.t, c.more, c.hd, c.out, fun p hp => k _ _ (c.empty p hp)⟩⟩
theorem obsY_eq {n : Nat} {fa : List Fa} {fn : List DefD} {tf : List Defn} {ex : PySem.W.Frag → Bool} {g : Addr → Option Obj} {s : Shared} (h : ∀ a, g a = s.heap.get? a) : obsY n fa fn tf ex g = (hookY n fa fn tf ex).obs s := by
  have e : g = s.heap.get? := funext h
  rw [e] <;> rfl
end He
namespace BK
open PySem PySem.Spec L2
set_option autoImplicit false
def caOf (l : List Addr) (c : Nat) : Addr := l.getD c 0
def xsub (c t : Nat) : Bool := c == t || (t == 6 || (t == 9 && (decide (10 ≤ c) && decide (c ≤ 15))))
def oexcB (K : PySem.W.Frag) (C : Addr) : Bool := match K.lookup C with
  | some ⟨.type "type", _, .cls cd, sl⟩ => (match cd.mro, sl.toList with
    | .ref C' :: bm, [_, _, _, _, some (.builtin n), _] => C' == C && n == "ValueError.__new__" && !cd.hasDel && cd.hasDict && PySem.HandSPX.refsVE bm
    | _, _ => false)
  | _ => false
def oexB (K : PySem.W.Frag) (C : Addr) : Bool := oexcB K C && (He.eqO (PySem.W.findIn K (.ref C) "__setattr__") (some (some (.builtin "object.__setattr__"))) && (decide (PySem.W.subIn K (.ref C) (.type "BaseException") = some true) && (decide (PySem.W.typeIn K (.ref C) = some (.type "type")) && PySem.W.keepIn K (.ref C))))
def exccB (K : PySem.W.Frag) (D : Addr) : Bool := He.eqO (PySem.W.findIn K (.ref D) "__getattribute__") (some (some (.builtin "BaseException.__getattribute__"))) && (He.eqO (PySem.W.findIn K (.ref D) "__getattr__") (some none) && (decide (PySem.W.subIn K (.ref D) (.type "BaseException") = some true) && (PySem.W.hasDictIn K D && (He.eqO (PySem.W.findIn K (.ref D) "__class__") (some (some (.builtin "object.__class__"))) &&
  (He.eqO (PySem.W.specialIn K (.builtin "object.__class__") "__get__") (some (some (.builtin "getset_descriptor.__get__"))) && (decide (PySem.W.takesIn K (.builtin "object.__class__") = some true) && decide (PySem.W.mroIn K D (.type "object") = some true)))))))
def allC (cs : List Nat) (p : Nat → Bool) : Bool := cs.all p
def raB (K : PySem.W.Frag) (C fI : Addr) : Bool := oexB K C && (He.eqO (PySem.W.findIn K (.ref C) "__init__") (some (some (.ref fI))) && decide (PySem.W.typeIn K (.ref fI) = some (.type "function")))
def fcvB (o : Option PySem.W.CFound) : Bool := match o with
  | some (.val (.builtin s)) => decide (s = "ValueError.__init__")
  | _ => false
end BK
namespace G
open PySem PySem.Spec L2 BK
set_option autoImplicit false
def topS (i : Nat) : Stmt := PySem.Challenge.pw_ballastway_k19_fewest_carts.main.body.getD i (.Pass ⟨0, 0, 0, 0⟩)
abbrev sI_Piece : Stmt := inClass (topS 12) 0
abbrev sI_Bridge : Stmt := inClass (topS 14) 0
abbrev sI_Road : Stmt := inClass (topS 15) 0
abbrev sI_Cart : Stmt := inClass (topS 6) 0
abbrev sM_Piece_is_bridge : Stmt := inClass (topS 12) 1
abbrev sM_Bridge_is_bridge : Stmt := inClass (topS 14) 1
abbrev sI_Blocked : Stmt := inClass (topS 2) 0
abbrev s_offsets_of : Stmt := topS 7
abbrev s_greatest_close : Stmt := topS 8
abbrev s_heaviest : Stmt := topS 9
abbrev s_fits : Stmt := topS 10
abbrev s_bridges_of : Stmt := topS 16
abbrev s_round_of : Stmt := topS 17
abbrev s_ways_of : Stmt := topS 19
abbrev s_step_along : Stmt := topS 20
abbrev s_walked : Stmt := topS 21
abbrev s_legs_of : Stmt := topS 22
abbrev s_first_unfit : Stmt := topS 24
abbrev s_parted : Stmt := topS 25
abbrev s__law_cell : Stmt := topS 27
abbrev s__law_mix : Stmt := topS 28
abbrev s__law_wheels : Stmt := topS 29
abbrev s__law_places : Stmt := topS 30
abbrev s__law_close : Stmt := topS 31
abbrev s__law_pieces : Stmt := topS 32
abbrev s__law_alike : Stmt := topS 33
abbrev s__law_same : Stmt := topS 34
abbrev s__law_run : Stmt := topS 35
abbrev s__law_narrow : Stmt := topS 36
abbrev s__law_fits : Stmt := topS 37
abbrev s__law_cuts : Stmt := topS 38
abbrev s__law_blocked : Stmt := topS 39
abbrev s__law_asked : Stmt := topS 40
abbrev s_law : Stmt := topS 41
def faL : List He.Fa := [.glo "offsets_of", .glo "greatest_close", .glo "heaviest", .glo "fits", .glo "bridges_of", .glo "round_of", .glo "ways_of", .glo "step_along", .glo "walked", .glo "legs_of", .glo "first_unfit", .glo "parted", .glo "_law_cell", .glo "_law_mix", .glo "_law_wheels", .glo "_law_places", .glo "_law_close", .glo "_law_pieces", .glo "_law_alike", .glo "_law_same", .glo "_law_run", .glo "_law_narrow", .glo "_law_fits", .glo "_law_cuts", .glo "_law_blocked", .glo "_law_asked", .glo "law", .free "ValueError", .free "all", .free "bool", .free "enumerate", .free "int", .free "isinstance", .free "len", .free "list", .free "max", .free "min", .free "range", .free "sorted", .free "str", .free "sum", .free "tuple", .free "zip", .cls "Open", .noat "Open" "length", .cls "Bridge", .noat "Bridge" "length", .noat "Bridge" "name", .noat "Bridge" "bears", .noat "Bridge" "wide", .noat "Bridge" "most", .cls "Road", .noat "Road" "pieces", .noat "Road" "rounds", .noat "Road" "shuts", .cls "Cart", .noat "Cart" "name", .noat "Cart" "speed", .noat "Cart" "wheels", .glo "Open", .mkr "Open", .glo "Bridge", .mkr "Bridge", .glo "Road", .mkr "Road", .glo "Cart", .mkr "Cart", .glo "Piece", .meth "Open" "is_bridge", .meth "Bridge" "is_bridge", .glo "Blocked", .glo "NoWay", .glo "TextError", .glo "WayError"]
def fnL : List He.DefD := [⟨("offsets_of", none), "offsets_of", "offsets_of", defArgs s_offsets_of, defBody s_offsets_of, defScope s_offsets_of, [], []⟩,
  ⟨("greatest_close", none), "greatest_close", "greatest_close", defArgs s_greatest_close, defBody s_greatest_close, defScope s_greatest_close, [], []⟩,
  ⟨("heaviest", none), "heaviest", "heaviest", defArgs s_heaviest, defBody s_heaviest, defScope s_heaviest, [], []⟩,
  ⟨("fits", none), "fits", "fits", defArgs s_fits, defBody s_fits, defScope s_fits, [], []⟩,
  ⟨("bridges_of", none), "bridges_of", "bridges_of", defArgs s_bridges_of, defBody s_bridges_of, defScope s_bridges_of, [], []⟩,
  ⟨("round_of", none), "round_of", "round_of", defArgs s_round_of, defBody s_round_of, defScope s_round_of, [], []⟩,
  ⟨("ways_of", none), "ways_of", "ways_of", defArgs s_ways_of, defBody s_ways_of, defScope s_ways_of, [], []⟩,
  ⟨("step_along", none), "step_along", "step_along", defArgs s_step_along, defBody s_step_along, defScope s_step_along, [], []⟩,
  ⟨("walked", none), "walked", "walked", defArgs s_walked, defBody s_walked, defScope s_walked, [], []⟩,
  ⟨("legs_of", none), "legs_of", "legs_of", defArgs s_legs_of, defBody s_legs_of, defScope s_legs_of, [], []⟩,
  ⟨("first_unfit", none), "first_unfit", "first_unfit", defArgs s_first_unfit, defBody s_first_unfit, defScope s_first_unfit, [], []⟩,
  ⟨("parted", none), "parted", "parted", defArgs s_parted, defBody s_parted, defScope s_parted, [], []⟩,
  ⟨("_law_cell", none), "_law_cell", "_law_cell", defArgs s__law_cell, defBody s__law_cell, defScope s__law_cell, [], []⟩,
  ⟨("_law_mix", none), "_law_mix", "_law_mix", defArgs s__law_mix, defBody s__law_mix, defScope s__law_mix, [], []⟩,
  ⟨("_law_wheels", none), "_law_wheels", "_law_wheels", defArgs s__law_wheels, defBody s__law_wheels, defScope s__law_wheels, [], []⟩,
  ⟨("_law_places", none), "_law_places", "_law_places", defArgs s__law_places, defBody s__law_places, defScope s__law_places, [], []⟩,
  ⟨("_law_close", none), "_law_close", "_law_close", defArgs s__law_close, defBody s__law_close, defScope s__law_close, [], []⟩,
  ⟨("_law_pieces", none), "_law_pieces", "_law_pieces", defArgs s__law_pieces, defBody s__law_pieces, defScope s__law_pieces, [], []⟩,
  ⟨("_law_alike", none), "_law_alike", "_law_alike", defArgs s__law_alike, defBody s__law_alike, defScope s__law_alike, [], []⟩,
  ⟨("_law_same", none), "_law_same", "_law_same", defArgs s__law_same, defBody s__law_same, defScope s__law_same, [], []⟩,
  ⟨("_law_run", none), "_law_run", "_law_run", defArgs s__law_run, defBody s__law_run, defScope s__law_run, [], []⟩,
  ⟨("_law_narrow", none), "_law_narrow", "_law_narrow", defArgs s__law_narrow, defBody s__law_narrow, defScope s__law_narrow, [], []⟩,
  ⟨("_law_fits", none), "_law_fits", "_law_fits", defArgs s__law_fits, defBody s__law_fits, defScope s__law_fits, [], []⟩,
  ⟨("_law_cuts", none), "_law_cuts", "_law_cuts", defArgs s__law_cuts, defBody s__law_cuts, defScope s__law_cuts, [], []⟩,
  ⟨("_law_blocked", none), "_law_blocked", "_law_blocked", defArgs s__law_blocked, defBody s__law_blocked, defScope s__law_blocked, [], []⟩,
  ⟨("_law_asked", none), "_law_asked", "_law_asked", defArgs s__law_asked, defBody s__law_asked, defScope s__law_asked, [], []⟩,
  ⟨("law", none), "law", "law", defArgs s_law, defBody s_law, defScope s_law, [], []⟩,
  ⟨("Piece", some "__init__"), "__init__", "Piece.__init__", defArgs sI_Piece, defBody sI_Piece, defScope sI_Piece, [], []⟩,
  ⟨("Bridge", some "__init__"), "__init__", "Bridge.__init__", defArgs sI_Bridge, defBody sI_Bridge, defScope sI_Bridge, [], []⟩,
  ⟨("Road", some "__init__"), "__init__", "Road.__init__", defArgs sI_Road, defBody sI_Road, defScope sI_Road, [], []⟩,
  ⟨("Cart", some "__init__"), "__init__", "Cart.__init__", defArgs sI_Cart, defBody sI_Cart, defScope sI_Cart, [], []⟩,
  ⟨("Blocked", some "__init__"), "__init__", "Blocked.__init__", defArgs sI_Blocked, defBody sI_Blocked, defScope sI_Blocked, [], []⟩,
  ⟨("Piece", some "is_bridge"), "is_bridge", "Piece.is_bridge", defArgs sM_Piece_is_bridge, defBody sM_Piece_is_bridge, defScope sM_Piece_is_bridge, [], []⟩,
  ⟨("Bridge", some "is_bridge"), "is_bridge", "Bridge.is_bridge", defArgs sM_Bridge_is_bridge, defBody sM_Bridge_is_bridge, defScope sM_Bridge_is_bridge, [], []⟩]
def caL (K : PySem.W.Frag) : Nat → Addr := caOf [He.ga K "Open", He.ga K "Bridge", He.ga K "Road", He.ga K "Cart", 0, 0, He.ga K "WayError", He.ga K "Blocked", He.ga K "NoWay", He.ga K "TextError", 0, 0, 0, 0, 0, 0, 0, 0, 0, 0, 0, 0, 0, 0]
def exB (K : PySem.W.Frag) : Bool := decide (He.ma K (He.ga K "Open") "__init__" = (He.fAd K ("Piece", some "__init__"))) && (decide (He.ma K (He.ga K "Open") "is_bridge" = (He.fAd K ("Piece", some "is_bridge"))) && (PySem.W.readsIn K (He.ga K "Piece") (.type "type") && (He.eqO (PySem.W.specialIn K (.ref (He.ga K "Piece")) "__getattribute__") (some (some (.builtin "type.__getattribute__"))) && (fcB (PySem.W.findCls K (.ref (He.ga K "Piece")) (.type "type") "__init__") (He.fAd K ("Piece", some "__init__")) && (He.eqO (PySem.W.specialIn K (.builtin "object.__class__") "__get__") (some (some (.builtin "getset_descriptor.__get__"))) && (decide (PySem.W.takesIn K (.builtin "object.__class__") = some true) && (He.eqO (PySem.W.findIn K (.ref (He.ga K "Open")) "__class__") (some (some (.builtin "object.__class__"))) && (decide (PySem.W.mroIn K (He.ga K "Open") (.type "object") = some true) && (He.eqO (PySem.W.findIn K (.ref (He.ga K "Bridge")) "__class__") (some (some (.builtin "object.__class__"))) && (decide (PySem.W.mroIn K (He.ga K "Bridge") (.type "object") = some true) && (He.eqO (PySem.W.findIn K (.ref (He.ga K "Road")) "__class__") (some (some (.builtin "object.__class__"))) && (decide (PySem.W.mroIn K (He.ga K "Road") (.type "object") = some true) && (He.eqO (PySem.W.findIn K (.ref (He.ga K "Cart")) "__class__") (some (some (.builtin "object.__class__"))) && (decide (PySem.W.mroIn K (He.ga K "Cart") (.type "object") = some true) && (PySem.W.isClsIn K (He.ga K "Cart") && (decide (PySem.W.typeIn K (.ref (He.ga K "Cart")) = some (.type "type")) && (decide (PySem.W.subIn K (.ref (He.ga K "Open")) (.ref (He.ga K "Cart")) = some false) && (decide (PySem.W.subIn K (.ref (He.ga K "Bridge")) (.ref (He.ga K "Cart")) = some false) && (decide (PySem.W.subIn K (.ref (He.ga K "Road")) (.ref (He.ga K "Cart")) = some false) && (decide (PySem.W.subIn K (.ref (He.ga K "Cart")) (.ref (He.ga K "Cart")) = some true) && ((allC [7] fun c => exccB K (caL K c)) && ((allC [7] fun c => xfB K (caL K c) && He.eqO (PySem.W.findIn K (.ref (caL K c)) "bridge") (some none)) && ((allC [7] fun c => xfB K (caL K c) && He.eqO (PySem.W.findIn K (.ref (caL K c)) "wheel") (some none)) && ((allC [7] fun c => decide (PySem.W.kitOne K (.ref (caL K c)) (.ref (caL K 7)) = some (xsub c 7))) && ((allC [7] fun c => decide (PySem.W.kitOne K (.ref (caL K c)) (.ref (caL K 8)) = some (xsub c 8))) && ((allC [7] fun c => decide (PySem.W.kitOne K (.ref (caL K c)) (.ref (caL K 9)) = some (xsub c 9))) && ((allC [7] fun c => decide (PySem.W.kitOne K (.ref (caL K c)) (.type "ValueError") = some true)) && ((allC [7] fun c => decide (PySem.W.exmOne K (.ref (caL K c)) (.ref (caL K 6)) = some true)) && (raB K (caL K 7) (He.fAd K ("Blocked", some "__init__")) && (He.eqO (PySem.W.findIn K (.ref (caL K 7)) "bridge") (some none) && (He.eqO (PySem.W.findIn K (.ref (caL K 7)) "wheel") (some none) && (PySem.W.readsIn K (He.ga K "WayError") (.type "type") && (He.eqO (PySem.W.specialIn K (.ref (He.ga K "WayError")) "__getattribute__") (some (some (.builtin "type.__getattribute__"))) && (fcvB (PySem.W.findCls K (.ref (He.ga K "WayError")) (.type "type") "__init__")))))))))))))))))))))))))))))))))))
abbrev RwT : PySem.W.OpenRow := PySem.W.OpenLaw.row PySem.Challenge.rw_ballastway_k19_fewest_carts
abbrev hkT : PySem.W.Hook := He.hookY 6 faL fnL [] exB
def obT (s : PySem.W.SharedT) : He.AlX := He.obsY 6 faL fnL [] exB (HandSHeadRun.getT s)
theorem ob_eqT (s : PySem.W.SharedT) : obT s = hkT.obs s.abs := He.obsY_eq (HandSHeadRun.getT_eq s)
def loose0 : List Str := ["WayError", "Blocked", "NoWay", "TextError", "Cart", "offsets_of", "greatest_close", "heaviest", "fits", "Piece", "Open", "Bridge", "Road", "bridges_of", "round_of", "ways_of", "step_along", "walked", "legs_of", "first_unfit", "parted", "_law_cell", "_law_mix", "_law_wheels", "_law_places", "_law_close", "_law_pieces", "_law_alike", "_law_same", "_law_run"]
def loose1 : List Str := ["_law_narrow", "_law_fits", "_law_cuts", "_law_blocked", "_law_asked"]
abbrev looseL : List Str := loose0 ++ loose1
set_option maxHeartbeats 0 in
theorem runT (w : World) : HandSHeadRun.RunEq RwT (PySem.W.view RwT.prog [41]) hkT obT 6000 looseL w := by
  intro os
  kernel_rfl
end G
namespace BK
open PySem PySem.Spec L2
set_option autoImplicit false
/-! ### data, slots, results -/
inductive D where
  | non | bl (b : Bool) | int (i : Int) | str (x : Str)
  /-- rol: a list that is read alone (the script) -/
  | lst (xs : List D) | tup (xs : List D) | ins (c : Nat) (fs : List D) | rol (xs : List D)
  /-- dic: a dict with texts as keys that is read alone -/
  | dic (ks : List Str) (vs : List D)
  /-- exc: an exception of the c-th class that is held, its fields -/
  | exc (c : Nat) (fs : List D)
  /-- opq: an object of which nothing is asked -/
  | opq (a : Addr)
  /-- ptp: a tuple that has no dict of its own -/
  | ptp (xs : List D)
inductive R where
  | va (d : D) | tm (ds : List D) | bw (j : Nat) (ds : List D)
/-- own trees: fz: frozen data; lists and instances of the body's own -/
inductive T where
  | fz (d : D) | lst (ts : List T) | ins (c : Nat) (ts : List T) | tup (ts : List T)
mutual
def T.d : T → D
  | .fz d => d
  | .lst ts => .lst (T.ds ts)
  | .ins c ts => .ins c (T.ds ts)
  | .tup ts => .tup (T.ds ts)
def T.ds : List T → List D
  | [] => []
  | t :: ts => t.d :: T.ds ts
end
/-- ot: an own tree -/
inductive Slot where
  | un | va (d : D) | ow (ds : List D) | ot (t : T)
abbrev Gm := List Slot
/-- an exception: its class, its fields -/
structure Exc where
  c : Nat
  fs : List (Int ⊕ Str)
def aD : Int ⊕ Str → D
  | .inl i => .int i
  | .inr s => .str s
inductive Out where
  | nx (g : Gm) | rt (r : R) | bk (g : Gm) | ct (g : Gm) | ex (x : Exc)
def R.d : R → D
  | .va d => d
  | .tm ds => .lst ds
  | .bw _ ds => .lst ds
def R.isBw : R → Bool
  | .bw _ _ => true
  | _ => false
/-- the fields of an instance of the c-th class, in the order in which they are stored -/
def fldsOf : Nat → List Str
  | 0 => ["length"]
  | 1 => ["length", "name", "bears", "wide", "most"]
  | 2 => ["pieces", "rounds", "shuts"]
  | 3 => ["name", "speed", "wheels"]
  | 4 => ["cart", "way", "start", "crossings", "ended"]
  | 5 => ["road", "loads", "sends"]
  | _ => []
/-- what is known of the class at C: its instances store the fields -/
structure Kls (K : PySem.W.Frag) (C : Addr) (c : Nat) : Prop where
  cl : Cls K C
  na : ∀ f ∈ fldsOf c, NoAttr K C f
/-- the fields of an exception of the c-th class, the last stored one first -/
def xflds (c : Nat) : List Str := if c = 7 then ["wheel", "bridge"] else if 9 ≤ c ∧ c ≤ 15 then ["row"] else []
/-- at a: an exception of the class at C, its dict at d -/
def exh (a C : Addr) (d : Option Addr) : HO := .ext fun h => ∃ (o : Obj) (vs : Array Value), h.get? a = some o ∧ Zc (.ref C) d o ∧ o.data = .fields vs
/-! ### data in a heap -/
mutual
inductive Den (K : PySem.W.Frag) (ca : Nat → Addr) (F : Hp) : V → D → Prop
  | non : Den K ca F .non .non
  | bl (b : Bool) : Den K ca F (.bl b) (.bl b)
  | int (i : Int) : Den K ca F (.int i) (.int i)
  | str (x : Str) : Den K ca F (.str x) (.str x)
  | lst {a : Addr} {xs : List V} {ds : List D} : F a = some (.lst xs) → Dens K ca F xs ds → Den K ca F (.ref a) (.lst ds)
  | tup {a : Addr} {xs : List V} {ds : List D} : SqT K F a xs → Dens K ca F xs ds → Den K ca F (.ref a) (.tup ds)
  | ins {a dx : Addr} {fs : List (Str × V)} {c : Nat} {ds : List D} : Kls K (ca c) c → F a = some (.ins (ca c) dx fs) → fs.map (·.1) = fldsOf c → Dens K ca F (fs.map (·.2)) ds → Den K ca F (.ref a) (.ins c ds)
  | rol {a : Addr} {xs : List V} {ds : List D} : SqL K F a xs → Dens K ca F xs ds → Den K ca F (.ref a) (.rol ds)
  | dic {a : Addr} {kvs : List (Key × V)} {ks : List Str} {ds : List D} : F a = some (.dK kvs) → kvs.map (·.1) = ks.map Sum.inr → Dens K ca F (kvs.map (·.2)) ds → Den K ca F (.ref a) (.dic ks ds)
  | exc {a : Addr} {d : Option Addr} {fs : List (Str × V)} {c : Nat} {ds : List D} : F a = some (exh a (ca c) d) → (d = none ∧ fs = [] ∨ ∃ dd, d = some dd ∧ F dd = some (.xd fs)) → fs.map (·.1) = xflds c → Dens K ca F (fs.map (·.2)) ds → Den K ca F (.ref a) (.exc c ds)
  | opq (a : Addr) : Den K ca F (.ref a) (.opq a)
  | ptp {a : Addr} {o : Obj} {xs : List V} {ds : List D} : F a = some (.frz o (.tup xs)) → o.dict = none → Dens K ca F xs ds → Den K ca F (.ref a) (.ptp ds)
inductive Dens (K : PySem.W.Frag) (ca : Nat → Addr) (F : Hp) : List V → List D → Prop
  | nil : Dens K ca F [] []
  | cons {v : V} {vs : List V} {d : D} {ds : List D} : Den K ca F v d → Dens K ca F vs ds → Dens K ca F (v :: vs) (d :: ds)
end
theorem Same.rd {H H' : Hp} {a : Addr} {o : HO} (e : Same H H') (h : Rd H a o) : Rd H' a o := by
  rcases h with h | ⟨u, h⟩
  · exact .inl (e _ _ h)
  · exact .inr ⟨u, e _ _ h⟩
theorem Same.seqT {K : PySem.W.Frag} {H H' : Hp} {a : Addr} {xs : List V} (e : Same H H') (h : SqT K H a xs) : SqT K H' a xs := by
  rcases h with (h | ⟨o, h⟩) | h
  · exact .inl (.inl (e _ _ h))
  · exact .inl (.inr ⟨o, e _ _ h⟩)
  · exact .inr h
section
variable {K : PySem.W.Frag} {ca : Nat → Addr} {F F' : Hp}
mutual
theorem Den.mono (s : Same F F') : ∀ {v : V} {d : D}, Den K ca F v d → Den K ca F' v d
  | _, _, .non => .non
  | _, _, .bl b => .bl b
  | _, _, .int i => .int i
  | _, _, .str x => .str x
  | _, _, .lst h hs => .lst (s _ _ h) (Dens.mono s hs)
  | _, _, .tup h hs => .tup (Same.seqT s h) (Dens.mono s hs)
  | _, _, .ins k h e hs => .ins k (s _ _ h) e (Dens.mono s hs)
  | _, _, .rol h hs => .rol (s.seq h) (Dens.mono s hs)
  | _, _, .dic h e hs => .dic (s _ _ h) e (Dens.mono s hs)
  | _, _, .exc h g e hs => .exc (s _ _ h) (g.imp (fun z => z) fun ⟨dd, e1, e2⟩ => ⟨dd, e1, s _ _ e2⟩) e (Dens.mono s hs)
  | _, _, .opq a => .opq a
  | _, _, .ptp h e hs => .ptp (s _ _ h) e (Dens.mono s hs)
theorem Dens.mono (s : Same F F') : ∀ {vs : List V} {ds : List D}, Dens K ca F vs ds → Dens K ca F' vs ds
  | _, _, .nil => .nil
  | _, _, .cons h hs => .cons (Den.mono s h) (Dens.mono s hs)
end
theorem Dens.length : ∀ {vs : List V} {ds : List D}, Dens K ca F vs ds → vs.length = ds.length
  | _, _, .nil => rfl
  | _, _, .cons _ hs => congrArg (· + 1) (Dens.length hs)
theorem Dens.get : ∀ {vs : List V} {ds : List D}, Dens K ca F vs ds → ∀ {i : Nat} {v : V} {d : D}, vs[i]? = some v → ds[i]? = some d → Den K ca F v d
  | _, _, .cons h _, 0, v, d, e1, e2 => by
    have e1 := Option.some.inj e1
    have e2 := Option.some.inj e2
    subst e1; subst e2
    exact h
  | _, _, .cons _ hs, i + 1, v, d, e1, e2 => Dens.get hs (i := i) (by simpa using e1) (by simpa using e2)
theorem Dens.getV {vs : List V} {ds : List D} (h : Dens K ca F vs ds) {i : Nat} {d : D} (e : ds[i]? = some d) : ∃ v, vs[i]? = some v ∧ Den K ca F v d := by
  have hl : i < vs.length := by rw [h.length]; exact (List.getElem?_eq_some_iff.mp e).1
  exact ⟨vs[i], List.getElem?_eq_getElem hl, h.get (List.getElem?_eq_getElem hl) e⟩
theorem Dens.getD {vs : List V} {ds : List D} (h : Dens K ca F vs ds) {i : Nat} {v : V} (e : vs[i]? = some v) : ∃ d, ds[i]? = some d ∧ Den K ca F v d := by
  have hl : i < ds.length := by rw [← h.length]; exact (List.getElem?_eq_some_iff.mp e).1
  exact ⟨ds[i], List.getElem?_eq_getElem hl, h.get e (List.getElem?_eq_getElem hl)⟩
theorem Dens.append : ∀ {vs ws : List V} {ds es : List D}, Dens K ca F vs ds → Dens K ca F ws es → Dens K ca F (vs ++ ws) (ds ++ es)
  | _, _, _, _, .nil, s => s
  | _, _, _, _, .cons r t, s => .cons r (Dens.append t s)
theorem Dens.one {v : V} {d : D} (h : Den K ca F v d) : Dens K ca F [v] [d] := .cons h .nil
theorem Dens.take : ∀ {vs : List V} {ds : List D} (n : Nat), Dens K ca F vs ds → Dens K ca F (vs.take n) (ds.take n)
  | _, _, 0, _ => .nil
  | _, _, _ + 1, .nil => .nil
  | _, _, n + 1, .cons r t => .cons r (Dens.take n t)
theorem Dens.drop : ∀ {vs : List V} {ds : List D} (n : Nat), Dens K ca F vs ds → Dens K ca F (vs.drop n) (ds.drop n)
  | _, _, 0, r => r
  | _, _, _ + 1, .nil => .nil
  | _, _, n + 1, .cons _ t => Dens.drop n t
theorem Dens.dropLast {vs : List V} {ds : List D} (h : Dens K ca F vs ds) : Dens K ca F vs.dropLast ds.dropLast := by
  rw [List.dropLast_eq_take, List.dropLast_eq_take, h.length]
  exact h.take _
theorem Dens.eraseIdx : ∀ {vs : List V} {ds : List D} (i : Nat), Dens K ca F vs ds → Dens K ca F (vs.eraseIdx i) (ds.eraseIdx i)
  | _, _, _, .nil => .nil
  | _, _, 0, .cons _ t => t
  | _, _, n + 1, .cons r t => .cons r (Dens.eraseIdx n t)
theorem Dens.set : ∀ {vs : List V} {ds : List D} {v : V} {d : D} (i : Nat), Den K ca F v d → Dens K ca F vs ds → Dens K ca F (vs.set i v) (ds.set i d)
  | _, _, _, _, _, _, .nil => .nil
  | _, _, _, _, 0, h, .cons _ t => .cons h t
  | _, _, _, _, n + 1, h, .cons r t => .cons r (Dens.set n h t)
theorem Dens.reverse {vs : List V} {ds : List D} (h : Dens K ca F vs ds) : Dens K ca F vs.reverse ds.reverse := by
  induction vs generalizing ds with
  | nil => cases h; exact .nil
  | cons v vs ih =>
    cases h with
    | cons h hs =>
      rw [List.reverse_cons, List.reverse_cons]
      exact (ih hs).append (.one h)
theorem Dens.ints : ∀ {ns : List Int}, Dens K ca F (ns.map V.int) (ns.map D.int)
  | [] => .nil
  | n :: ns => .cons (.int n) Dens.ints
theorem Dens.ints_of : ∀ {vs : List V} {ns : List Int}, Dens K ca F vs (ns.map D.int) → vs = ns.map V.int
  | _, [], h => by cases h; rfl
  | _, n :: ns, h => by
    cases h with
    | cons h hs =>
      cases h
      rw [Dens.ints_of hs]
      rfl
theorem Dens.bls_of : ∀ {vs : List V} {ns : List Bool}, Dens K ca F vs (ns.map D.bl) → vs = ns.map V.bl
  | _, [], h => by cases h; rfl
  | _, n :: ns, h => by
    cases h with
    | cons h hs =>
      cases h
      rw [Dens.bls_of hs]
      rfl
end
/-! ### heaps that grow -/
/-- no table is frozen -/
def NT (F : Hp) : Prop := ∀ b ps, F b ≠ some (.tbl ps)
/-- tables that the law's defs need: flags and addresses in ca -/
structure TabsC (ca : Nat → Addr) (H : Hp) : Prop where
  a : ca 20 = 1 → LamX.TabS H (ca 21) "in_order.<locals>.<lambda>"
  b : ca 22 = 1 → LamX.TabS H (ca 23) "log_of.<locals>.<lambda>"
/-- a heap but for its tables -/
def noT (H : Hp) : Hp := fun b => match H b with
  | some (.tbl _) => none
  | o => o
theorem noT_same (H : Hp) : Same (noT H) H := fun b o e => by
  unfold noT at e
  split at e
  · cases e
  · exact e
theorem noT_nt (H : Hp) : NT (noT H) := fun b ps e => by
  unfold noT at e
  split at e
  · cases e
  · rename_i h; exact h ps e
theorem noT_get {H : Hp} {b : Addr} {o : HO} (h : H b = some o) (n : ∀ ps, o ≠ .tbl ps) : noT H b = some o := by
  unfold noT
  rw [h]
  split
  · rename_i z; exact absurd (Option.some.inj z) (n _)
  · rfl
theorem noT_none {H : Hp} {b : Addr} (h : H b = none) : noT H b = none := by
  unfold noT
  rw [h]
theorem ne_noT {H : Hp} {a b : Addr} {o : HO} (e : H b = some o) (n : ∀ ps, o ≠ .tbl ps) (h : noT H a = none) : b ≠ a := fun z => by
  subst z
  rw [noT_get e n] at h; cases h
/-- all that was tracked stays but for tables of code objects; these keep their names -/
structure SameN (ca : Nat → Addr) (H H' : Hp) : Prop where
  st : ∀ b o, H b = some o → (∀ ps, o ≠ .tbl ps) → H' b = some o
  tb : TabsC ca H → TabsC ca H'
theorem SameN.of {ca : Nat → Addr} {H H' : Hp} (s : Same H H') : SameN ca H H' := ⟨fun b o h _ => s b o h, fun t => ⟨fun h => (t.a h).ext s, fun h => (t.b h).ext s⟩⟩
theorem SameN.refl {ca : Nat → Addr} (H : Hp) : SameN ca H H := .of (Same.refl H)
theorem SameN.trans {ca : Nat → Addr} {H H1 H2 : Hp} (a : SameN ca H H1) (b : SameN ca H1 H2) : SameN ca H H2 :=
  ⟨fun c o h n => b.st c o (a.st c o h n) n, fun t => b.tb (a.tb t)⟩
theorem SameN.free {ca : Nat → Addr} {H H' : Hp} (s : SameN ca H H') {p : Addr} (h : noT H' p = none) : noT H p = none := by
  cases q : noT H p with
  | none => rfl
  | some o =>
    have h1 := noT_same H _ _ q
    have h2 : ∀ ps, o ≠ .tbl ps := fun ps z => noT_nt H p ps (by rw [q, z])
    rw [noT_get (s.st p o h1 h2) h2] at h
    cases h
theorem TabsC.mono {ca : Nat → Addr} {H H' : Hp} (t : TabsC ca H) (s : SameN ca H H') : TabsC ca H' := s.tb t
theorem SameN.l {ca : Nat → Addr} {H H' : Hp} (s : SameN ca H H') {a : Addr} {xs : List V} (h : H a = some (.lst xs)) : H' a = some (.lst xs) := s.st a _ h fun ps z => by cases z
theorem SameN.i {ca : Nat → Addr} {H H' : Hp} (s : SameN ca H H') {a C dx : Addr} {fs : List (Str × V)} (h : H a = some (.ins C dx fs)) : H' a = some (.ins C dx fs) := s.st a _ h fun ps z => by cases z
/-- an object that is neither a table nor a code object is written -/
structure Pl (H : Hp) (a : Addr) : Prop where
  t : ∀ ps, H a ≠ some (.tbl ps)
  c : ∀ q, H a ≠ some (LamX.CodeO a q)
theorem Pl.none {H : Hp} {a : Addr} (h : H a = none) : Pl H a := ⟨fun ps z => by (rw [h] at z; cases z), fun q z => by (rw [h] at z; cases z)⟩
theorem codeO_lst {a : Addr} {q : Str} {xs : List V} : LamX.CodeO a q ≠ .lst xs := fun z => by unfold LamX.CodeO at z; cases z
theorem codeO_ins {a C dx : Addr} {q : Str} {xs : List (Str × V)} : LamX.CodeO a q ≠ .ins C dx xs := fun z => by unfold LamX.CodeO at z; cases z
theorem Pl.lst {H : Hp} {a : Addr} {xs : List V} (h : H a = some (.lst xs)) : Pl H a := ⟨fun ps z => by (rw [h] at z; cases z), fun q z => codeO_lst (Option.some.inj (h.symm.trans z)).symm⟩
theorem Pl.ins {H : Hp} {a C dx : Addr} {xs : List (Str × V)} (h : H a = some (.ins C dx xs)) : Pl H a := ⟨fun ps z => by (rw [h] at z; cases z), fun q z => codeO_ins (Option.some.inj (h.symm.trans z)).symm⟩
theorem tabS_upd {H : Hp} {a : Addr} {o : HO} (h : Pl H a) {P : Addr} {q : Str} (t : LamX.TabS H P q) : LamX.TabS (upd H a o) P q := by
  obtain ⟨ps, h1, h2, h3⟩ := t
  refine ⟨ps, by rw [upd_ne (fun z => h.t ps (by rw [← z]; exact h1))]; exact h1, h2, fun pos cv hc => ?_⟩
  obtain ⟨c, e1, e2⟩ := h3 pos cv hc
  refine ⟨c, e1, ?_⟩
  by_cases z : c = a
  · subst z; exact absurd e2 (h.c q)
  · rw [upd_ne z]; exact e2
theorem SameN.updO {ca : Nat → Addr} {H0 H : Hp} (s : SameN ca H0 H) {a : Addr} {o : HO} (h0 : noT H0 a = .none) (h : Pl H a) : SameN ca H0 (upd H a o) :=
  ⟨fun b u e n => by rw [upd_ne (ne_noT e n h0)]; exact s.st b u e n, fun t => ⟨fun k => tabS_upd h ((s.tb t).a k), fun k => tabS_upd h ((s.tb t).b k)⟩⟩
/-- all that was tracked stays; what is frozen grows by what is new alone -/
structure Ext (ca : Nat → Addr) (H F H' F' : Hp) : Prop where
  hh : SameN ca H H'
  ff : Same F F'
  fh : Same F' H'
  nw : ∀ a, F' a ≠ none → F a ≠ none ∨ noT H a = none
  nt : NT F → NT F'
theorem Ext.refl {ca : Nat → Addr} {H F : Hp} (s : Same F H) : Ext ca H F H F := ⟨SameN.refl _, Same.refl _, s, fun _ h => .inl h, fun n => n⟩
theorem Ext.trans {ca : Nat → Addr} {H F H1 F1 H2 F2 : Hp} (a : Ext ca H F H1 F1) (b : Ext ca H1 F1 H2 F2) : Ext ca H F H2 F2 :=
  ⟨a.hh.trans b.hh, a.ff.trans b.ff, b.fh, fun x h => by
    rcases b.nw x h with h | h
    · exact a.nw x h
    · exact .inr (a.hh.free h), fun n => b.nt (a.nt n)⟩
theorem Ext.keepN {ca : Nat → Addr} {H F H' F' : Hp} (x : Ext ca H F H' F') {a : Addr} {o : HO} (h : H a = some o) (f : F a = none) (hn : ∀ ps, o ≠ .tbl ps := by exact fun _ z => nomatch z) : F' a = none := by
  cases q : F' a with
  | none => rfl
  | some u =>
    rcases x.nw a (by rw [q]; exact fun z => nomatch z) with z | z
    · exact absurd f z
    · rw [noT_get h hn] at z; cases z
theorem same_upd {H : Hp} {p : Addr} {o : HO} (h : H p = none) : Same H (upd H p o) := fun b x e => by
  rw [upd_ne (ne_of_none e h)]
  exact e
theorem Same.updB {F H : Hp} {p : Addr} {o : HO} (s : Same F H) : Same (upd F p o) (upd H p o) := fun b x e => by
  by_cases hb : b = p
  · subst hb
    rw [upd_same] at e ⊢
    exact e
  · rw [upd_ne hb] at e ⊢
    exact s b x e
theorem NT.upd {F : Hp} (n : NT F) {p : Addr} {o : HO} (h : ∀ ps, o ≠ .tbl ps) : NT (upd F p o) := fun b ps z => by
  by_cases e : b = p
  · subst e; rw [upd_same] at z; exact h ps (Option.some.inj z)
  · rw [upd_ne e] at z; exact n b ps z
/-- a new object, frozen -/
theorem Ext.new {ca : Nat → Addr} {H F : Hp} (s : Same F H) {p : Addr} (o : HO) (h : H p = none) (hn : ∀ ps, o ≠ .tbl ps := by exact fun _ z => nomatch z) : Ext ca H F (upd H p o) (upd F p o) :=
  ⟨.of (same_upd h), same_upd (s.free h), Same.updB s, fun a q => by
    by_cases e : a = p
    · subst e; exact .inr (noT_none h)
    · rw [upd_ne e] at q; exact .inl q, fun n => n.upd hn⟩
/-- a new object, not frozen -/
theorem Ext.newO {ca : Nat → Addr} {H F : Hp} (s : Same F H) {p : Addr} (o : HO) (h : H p = none) : Ext ca H F (upd H p o) F :=
  ⟨.of (same_upd h), Same.refl _, s.trans (same_upd h), fun a q => .inl q, fun n => n⟩
/-- something new is frozen -/
theorem Ext.frz {ca : Nat → Addr} {H F H1 F1 : Hp} (x : Ext ca H F H1 F1) {p : Addr} {o : HO} (h : noT H p = none) (h1 : H1 p = some o) (f : F1 p = none) (hn : ∀ ps, o ≠ .tbl ps := by exact fun _ z => nomatch z) : Ext ca H F H1 (upd F1 p o) :=
  ⟨x.hh, x.ff.trans (same_upd f), fun b u e => by
    by_cases q : b = p
    · subst q; rw [upd_same] at e; rw [h1, e]
    · rw [upd_ne q] at e; exact x.fh b u e, fun a q => by
    by_cases e : a = p
    · subst e; exact .inr h
    · rw [upd_ne e] at q; exact x.nw a q, fun n => (x.nt n).upd hn⟩
/-! ### a result and its value -/
/-- B: which own list of the body's (its slot, its address); H: the heap at the expression's beginning -/
abbrev BT := Nat → Addr → List D → Prop
def RV (K : PySem.W.Frag) (ca : Nat → Addr) (B : BT) (H F' H' : Hp) (v : V) : R → Prop
  | .va d => Den K ca F' v d
  | .tm ds => ∃ a vs, v = .ref a ∧ noT H a = none ∧ F' a = none ∧ H' a = some (.lst vs) ∧ Dens K ca F' vs ds
  | .bw j ds => ∃ a vs, v = .ref a ∧ B j a ds ∧ F' a = none ∧ H' a = some (.lst vs) ∧ Dens K ca F' vs ds
theorem RV.mono {K : PySem.W.Frag} {ca : Nat → Addr} {B : BT} {H F1 H1 F2 H2 : Hp} {v : V} {r : R} (x : Ext ca H1 F1 H2 F2) (h : RV K ca B H F1 H1 v r) : RV K ca B H F2 H2 v r := by
  cases r with
  | va d => exact Den.mono x.ff h
  | tm ds =>
    obtain ⟨a, vs, rfl, h1, h2, h3, h4⟩ := h
    exact ⟨a, vs, rfl, h1, x.keepN h3 h2, x.hh.l h3, h4.mono x.ff⟩
  | bw j ds =>
    obtain ⟨a, vs, rfl, h1, h2, h3, h4⟩ := h
    exact ⟨a, vs, rfl, h1, x.keepN h3 h2, x.hh.l h3, h4.mono x.ff⟩
/-- the expression began sooner -/
theorem RV.back {K : PySem.W.Frag} {ca : Nat → Addr} {B : BT} {Ha H F1 H1 : Hp} {v : V} {r : R} (s : SameN ca Ha H) (h : RV K ca B H F1 H1 v r) : RV K ca B Ha F1 H1 v r := by
  cases r with
  | va d => exact h
  | tm ds =>
    obtain ⟨a, vs, rfl, h1, h2⟩ := h
    exact ⟨a, vs, rfl, s.free h1, h2⟩
  | bw j ds => exact h
/-- a list is read -/
theorem RV.lst {K : PySem.W.Frag} {ca : Nat → Addr} {B : BT} {H F' H' : Hp} {v : V} {r : R} {ds : List D} (s : Same F' H') (h : RV K ca B H F' H' v r) (e : r.d = .lst ds) : ∃ a vs, v = .ref a ∧ Rd H' a (.lst vs) ∧ Dens K ca F' vs ds := by
  cases r with
  | va d =>
    obtain rfl : d = .lst ds := e
    cases h with
    | lst h hs => exact ⟨_, _, rfl, .inl (s _ _ h), hs⟩
  | tm es =>
    obtain rfl : es = ds := by injection e
    obtain ⟨a, vs, rfl, _, _, h3, h4⟩ := h
    exact ⟨a, vs, rfl, .inl h3, h4⟩
  | bw j es =>
    obtain rfl : es = ds := by injection e
    obtain ⟨a, vs, rfl, _, _, h3, h4⟩ := h
    exact ⟨a, vs, rfl, .inl h3, h4⟩
/-- .. as it is tracked -/
theorem RV.lstH {K : PySem.W.Frag} {ca : Nat → Addr} {B : BT} {H F' H' : Hp} {v : V} {r : R} {ds : List D} (s : Same F' H') (h : RV K ca B H F' H' v r) (e : r.d = .lst ds) : ∃ a vs, v = .ref a ∧ H' a = some (.lst vs) ∧ Dens K ca F' vs ds := by
  cases r with
  | va d =>
    obtain rfl : d = .lst ds := e
    cases h with
    | lst h hs => exact ⟨_, _, rfl, s _ _ h, hs⟩
  | tm es =>
    obtain rfl : es = ds := by injection e
    obtain ⟨a, vs, rfl, _, _, h3, h4⟩ := h
    exact ⟨a, vs, rfl, h3, h4⟩
  | bw j es =>
    obtain rfl : es = ds := by injection e
    obtain ⟨a, vs, rfl, _, _, h3, h4⟩ := h
    exact ⟨a, vs, rfl, h3, h4⟩
/-- what is no list is a value -/
def D.isLst : D → Bool
  | .lst _ => true
  | _ => false
theorem RV.den {K : PySem.W.Frag} {ca : Nat → Addr} {B : BT} {H F' H' : Hp} {v : V} {r : R} {d : D} (h : RV K ca B H F' H' v r) (e : r.d = d) (n : d.isLst = false) : Den K ca F' v d := by
  cases r with
  | va d' => exact e ▸ h
  | tm es => subst e; cases n
  | bw j es => subst e; cases n
/-- a result that is no borrowed list becomes a value -/
theorem RV.froze {K : PySem.W.Frag} {ca : Nat → Addr} {B : BT} {H F H1 F1 : Hp} {v : V} {r : R} (x : Ext ca H F H1 F1) (h : RV K ca B H F1 H1 v r) (n : r.isBw = false) : ∃ F2, Ext ca H F H1 F2 ∧ Same F1 F2 ∧ Den K ca F2 v r.d := by
  cases r with
  | va d => exact ⟨F1, x, Same.refl _, h⟩
  | tm ds =>
    obtain ⟨a, vs, rfl, h1, h2, h3, h4⟩ := h
    exact ⟨_, x.frz h1 h3 h2, same_upd h2, .lst upd_same (h4.mono (same_upd h2))⟩
  | bw j ds => cases n
/-! ### own trees -/
mutual
/-- v reads as t: the frozen leaves in F, the own objects at the addresses told in H -/
inductive OT (K : PySem.W.Frag) (ca : Nat → Addr) (F H : Hp) : V → T → List Addr → Prop
  | fz {v : V} {d : D} : Den K ca F v d → OT K ca F H v (.fz d) []
  | lst {a : Addr} {xs : List V} {ts : List T} {as : List Addr} : H a = some (.lst xs) → OTs K ca F H xs ts as → OT K ca F H (.ref a) (.lst ts) (a :: as)
  | ins {a dx : Addr} {fs : List (Str × V)} {c : Nat} {ts : List T} {as : List Addr} : Kls K (ca c) c → H a = some (.ins (ca c) dx fs) → fs.map (·.1) = fldsOf c → OTs K ca F H (fs.map (·.2)) ts as → OT K ca F H (.ref a) (.ins c ts) (a :: as)
  | tup {a : Addr} {xs : List V} {ts : List T} {as : List Addr} : SqT K F a xs → OTs K ca F H xs ts as → OT K ca F H (.ref a) (.tup ts) as
inductive OTs (K : PySem.W.Frag) (ca : Nat → Addr) (F H : Hp) : List V → List T → List Addr → Prop
  | nil : OTs K ca F H [] [] []
  | cons {v : V} {vs : List V} {t : T} {ts : List T} {as bs : List Addr} : OT K ca F H v t as → OTs K ca F H vs ts bs → OTs K ca F H (v :: vs) (t :: ts) (as ++ bs)
end
section
variable {K : PySem.W.Frag} {ca : Nat → Addr} {F F' H H' : Hp}
mutual
theorem OT.mono (sf : Same F F') : ∀ {v : V} {t : T} {as : List Addr}, OT K ca F H v t as → (∀ b ∈ as, H' b = H b) → OT K ca F' H' v t as
  | _, _, _, .fz h, _ => .fz (Den.mono sf h)
  | _, _, _, .lst h hs, e => .lst ((e _ List.mem_cons_self).trans h) (OTs.mono sf hs fun b m => e b (List.mem_cons_of_mem _ m))
  | _, _, _, .ins k h n hs, e => .ins k ((e _ List.mem_cons_self).trans h) n (OTs.mono sf hs fun b m => e b (List.mem_cons_of_mem _ m))
  | _, _, _, .tup h hs, e => .tup (Same.seqT sf h) (OTs.mono sf hs e)
theorem OTs.mono (sf : Same F F') : ∀ {vs : List V} {ts : List T} {as : List Addr}, OTs K ca F H vs ts as → (∀ b ∈ as, H' b = H b) → OTs K ca F' H' vs ts as
  | _, _, _, .nil, _ => .nil
  | _, _, _, .cons h hs, e => .cons (OT.mono sf h fun b m => e b (List.mem_append_left _ m)) (OTs.mono sf hs fun b m => e b (List.mem_append_right _ m))
end
mutual
theorem OT.at : ∀ {v : V} {t : T} {as : List Addr}, OT K ca F H v t as → ∀ b ∈ as, ∃ o, H b = some o ∧ ∀ ps, o ≠ .tbl ps
  | _, _, _, .fz _, b, m => by cases m
  | _, _, _, .lst h hs, b, m => by
    rcases List.mem_cons.mp m with e | m
    · subst e; exact ⟨_, h, fun _ z => nomatch z⟩
    · exact OTs.at hs b m
  | _, _, _, .ins k h n hs, b, m => by
    rcases List.mem_cons.mp m with e | m
    · subst e; exact ⟨_, h, fun _ z => nomatch z⟩
    · exact OTs.at hs b m
  | _, _, _, .tup _ hs, b, m => OTs.at hs b m
theorem OTs.at : ∀ {vs : List V} {ts : List T} {as : List Addr}, OTs K ca F H vs ts as → ∀ b ∈ as, ∃ o, H b = some o ∧ ∀ ps, o ≠ .tbl ps
  | _, _, _, .nil, b, m => by cases m
  | _, _, _, .cons h hs, b, m => by
    rcases List.mem_append.mp m with m | m
    · exact OT.at h b m
    · exact OTs.at hs b m
end
mutual
/-- a tree as data, where its objects are frozen -/
theorem OT.den (sf : Same F F') : ∀ {v : V} {t : T} {as : List Addr}, OT K ca F H v t as → (∀ b ∈ as, F' b = H b) → Den K ca F' v t.d
  | _, _, _, .fz h, _ => Den.mono sf h
  | _, _, _, .lst h hs, e => .lst ((e _ List.mem_cons_self).trans h) (OTs.den sf hs fun b m => e b (List.mem_cons_of_mem _ m))
  | _, _, _, .ins k h n hs, e => .ins k ((e _ List.mem_cons_self).trans h) n (OTs.den sf hs fun b m => e b (List.mem_cons_of_mem _ m))
  | _, _, _, .tup h hs, e => .tup (Same.seqT sf h) (OTs.den sf hs e)
theorem OTs.den (sf : Same F F') : ∀ {vs : List V} {ts : List T} {as : List Addr}, OTs K ca F H vs ts as → (∀ b ∈ as, F' b = H b) → Dens K ca F' vs (T.ds ts)
  | _, _, _, .nil, _ => .nil
  | _, _, _, .cons h hs, e => .cons (OT.den sf h fun b m => e b (List.mem_append_left _ m)) (OTs.den sf hs fun b m => e b (List.mem_append_right _ m))
end
theorem OTs.length : ∀ {vs : List V} {ts : List T} {as : List Addr}, OTs K ca F H vs ts as → vs.length = ts.length
  | _, _, _, .nil => rfl
  | _, _, _, .cons _ hs => by rw [List.length_cons, List.length_cons, hs.length]
theorem OTs.fzs : ∀ {vs : List V} {ds : List D}, Dens K ca F vs ds → OTs K ca F H vs (ds.map .fz) []
  | _, _, .nil => .nil
  | _, _, .cons h hs => .cons (as := []) (.fz h) (OTs.fzs hs)
theorem OTs.append : ∀ {vs ws : List V} {ts us : List T} {as bs : List Addr}, OTs K ca F H vs ts as → OTs K ca F H ws us bs → OTs K ca F H (vs ++ ws) (ts ++ us) (as ++ bs)
  | _, _, _, _, _, _, .nil, h => h
  | _, _, _, _, _, _, .cons h hs, h2 => by
    rw [List.append_assoc]
    exact .cons h (OTs.append hs h2)
theorem T.ds_fz : ∀ ds : List D, T.ds (ds.map .fz) = ds
  | [] => rfl
  | d :: ds => by
    show T.d (.fz d) :: T.ds (ds.map .fz) = _
    rw [T.ds_fz ds]; rfl
theorem T.ds_map : ∀ ts : List T, T.ds ts = ts.map T.d
  | [] => rfl
  | t :: ts => by
    show t.d :: T.ds ts = _
    rw [T.ds_map ts]; rfl
end
end BK
namespace BK
open PySem PySem.Spec L2
set_option autoImplicit false
/-! ### the state of a body -/
/-- the own trees of a body, apart from one another and from its own lists -/
structure OwnA (K : PySem.W.Frag) (ca : Nat → Addr) (H0 F : Hp) (σ : L2.St) (H : Hp) (Γ : Gm) (A : Nat → List Addr) : Prop where
  a : ∀ (i : Nat) (t : T), Γ[i]? = some (Slot.ot t) → (∃ v : V, σ[i]? = some (some v) ∧ OT K ca F H v t (A i)) ∧ (A i).Nodup ∧ ∀ b ∈ A i, noT H0 b = none ∧ F b = none
  b : ∀ (i j : Nat) (t u : T), i ≠ j → Γ[i]? = some (Slot.ot t) → Γ[j]? = some (Slot.ot u) → ∀ b ∈ A i, b ∉ A j
  c : ∀ (i j : Nat) (t : T) (ds : List D) (a : Addr), Γ[i]? = some (Slot.ot t) → Γ[j]? = some (Slot.ow ds) → σ[j]? = some (some (V.ref a)) → a ∉ A i
def Own (K : PySem.W.Frag) (ca : Nat → Addr) (H0 F : Hp) (σ : L2.St) (H : Hp) (Γ : Gm) : Prop := ∃ A : Nat → List Addr, OwnA K ca H0 F σ H Γ A
theorem Own.nil {K : PySem.W.Frag} {ca : Nat → Addr} {H0 F : Hp} {σ : L2.St} {H : Hp} {Γ : Gm} (h : ∀ (i : Nat) (t : T), Γ[i]? ≠ some (Slot.ot t)) : Own K ca H0 F σ H Γ :=
  ⟨fun _ => [], fun i t e => absurd e (h i t), fun i j t u _ e => absurd e (h i t), fun i j t ds a e => absurd e (h i t)⟩
theorem OwnA.keep {K : PySem.W.Frag} {ca : Nat → Addr} {H0 F F' : Hp} {σ σ' : L2.St} {H H' : Hp} {Γ Γ' : Gm} {A : Nat → List Addr} (o : OwnA K ca H0 F σ H Γ A) (h1 : ∀ (i : Nat) (t : T), Γ'[i]? = some (Slot.ot t) → Γ[i]? = some (Slot.ot t) ∧ σ'[i]? = σ[i]?)
    (h2 : ∀ (j : Nat) (ds : List D) (a : Addr), Γ'[j]? = some (Slot.ow ds) → σ'[j]? = some (some (V.ref a)) → (∃ (k : Nat) (es : List D), Γ[k]? = some (Slot.ow es) ∧ σ[k]? = some (some (V.ref a))) ∨ noT H a = none) (sf : Same F F')
    (hk : ∀ (b : Addr) (u : HO), H b = some u → (∀ ps, u ≠ .tbl ps) → F b = none → (∀ (j : Nat) (ds : List D), Γ[j]? = some (Slot.ow ds) → σ[j]? ≠ some (some (V.ref b))) → H' b = some u ∧ F' b = none) : OwnA K ca H0 F' σ' H' Γ' A := by
  obtain ⟨o1, o2, o3⟩ := o
  have key : ∀ (i : Nat) (t : T), Γ'[i]? = some (Slot.ot t) → ∀ b ∈ A i, ∃ u, H b = some u ∧ H' b = some u ∧ F' b = none ∧ ∀ ps, u ≠ .tbl ps := by
    intro i t e b hb
    obtain ⟨e1, _⟩ := h1 i t e
    obtain ⟨⟨v, _, ht⟩, _, hf⟩ := o1 i t e1
    obtain ⟨u, hu, hn⟩ := ht.at b hb
    obtain ⟨k1, k2⟩ := hk b u hu hn (hf b hb).2 fun j ds g s => o3 i j t ds b e1 g s hb
    exact ⟨u, hu, k1, k2, hn⟩
  refine ⟨fun i t e => ?_, fun i j t u n e e' => o2 i j t u n (h1 i t e).1 (h1 j u e').1, fun i j t ds a e g s => ?_⟩
  · obtain ⟨e1, e2⟩ := h1 i t e
    obtain ⟨⟨v, hv, ht⟩, hd, hf⟩ := o1 i t e1
    refine ⟨⟨v, by rw [e2]; exact hv, ht.mono sf fun b hb => ?_⟩, hd, fun b hb => ⟨(hf b hb).1, ?_⟩⟩
    · obtain ⟨u, k1, k2, _⟩ := key i t e b hb
      rw [k1, k2]
    · obtain ⟨u, k1, k2, k3, _⟩ := key i t e b hb
      exact k3
  · obtain ⟨e1, _⟩ := h1 i t e
    rcases h2 j ds a g s with ⟨k, es, g', s'⟩ | z
    · exact o3 i k t es a e1 g' s'
    · intro hb
      obtain ⟨u, k1, _, _, hn⟩ := key i t e a hb
      rw [noT_get k1 hn] at z
      cases z
theorem OwnA.mono {K : PySem.W.Frag} {ca : Nat → Addr} {H0 F F' : Hp} {σ : L2.St} {H H' : Hp} {Γ : Gm} {A : Nat → List Addr} (o : OwnA K ca H0 F σ H Γ A) (x : Ext ca H F H' F') : OwnA K ca H0 F' σ H' Γ A :=
  o.keep (fun i t e => ⟨e, rfl⟩) (fun j ds a g s => .inl ⟨j, ds, g, s⟩) x.ff fun b u e n f _ => ⟨x.hh.st b u e n, x.keepN e f n⟩
theorem Own.keep {K : PySem.W.Frag} {ca : Nat → Addr} {H0 F F' : Hp} {σ σ' : L2.St} {H H' : Hp} {Γ Γ' : Gm} (o : Own K ca H0 F σ H Γ) (h1 : ∀ (i : Nat) (t : T), Γ'[i]? = some (Slot.ot t) → Γ[i]? = some (Slot.ot t) ∧ σ'[i]? = σ[i]?)
    (h2 : ∀ (j : Nat) (ds : List D) (a : Addr), Γ'[j]? = some (Slot.ow ds) → σ'[j]? = some (some (V.ref a)) → (∃ (k : Nat) (es : List D), Γ[k]? = some (Slot.ow es) ∧ σ[k]? = some (some (V.ref a))) ∨ noT H a = none) (sf : Same F F')
    (hk : ∀ (b : Addr) (u : HO), H b = some u → (∀ ps, u ≠ .tbl ps) → F b = none → (∀ (j : Nat) (ds : List D), Γ[j]? = some (Slot.ow ds) → σ[j]? ≠ some (some (V.ref b))) → H' b = some u ∧ F' b = none) : Own K ca H0 F' σ' H' Γ' := by
  obtain ⟨A, o⟩ := o
  exact ⟨A, o.keep h1 h2 sf hk⟩
structure SR (K : PySem.W.Frag) (ca : Nat → Addr) (H0 F0 : Hp) (σ : L2.St) (H F : Hp) (Γ : Gm) : Prop where
  ext : Ext ca H0 F0 H F
  nt0 : NT F0
  tc0 : TabsC ca H0
  len : σ.length = Γ.length
  va : ∀ (i : Nat) (d : D), Γ[i]? = some (.va d) → ∃ v, σ[i]? = some (some v) ∧ Den K ca F v d
  ow : ∀ (i : Nat) (ds : List D), Γ[i]? = some (.ow ds) → ∃ a vs, σ[i]? = some (some (.ref a)) ∧ noT H0 a = none ∧ F a = none ∧ H a = some (.lst vs) ∧ Dens K ca F vs ds
  ap : ∀ (i j : Nat) (ds es : List D) (a : Addr), i ≠ j → Γ[i]? = some (.ow ds) → Γ[j]? = some (.ow es) → σ[i]? = some (some (.ref a)) → σ[j]? = some (some (.ref a)) → False
  own : Own K ca H0 F σ H Γ
section
variable {K : PySem.W.Frag} {ca : Nat → Addr} {H0 F0 H F H' F' : Hp} {σ : L2.St} {Γ : Gm}
theorem SR.mono (S : SR K ca H0 F0 σ H F Γ) (x : Ext ca H F H' F') : SR K ca H0 F0 σ H' F' Γ :=
  ⟨S.ext.trans x, S.nt0, S.tc0, S.len, fun i d h => let ⟨v, h1, h2⟩ := S.va i d h; ⟨v, h1, h2.mono x.ff⟩,
    fun i ds h => let ⟨a, vs, h1, h2, h3, h4, h5⟩ := S.ow i ds h; ⟨a, vs, h1, h2, x.keepN h4 h3, x.hh.l h4, h5.mono x.ff⟩, S.ap,
    S.own.keep (fun i t e => ⟨e, rfl⟩) (fun j ds a g s => .inl ⟨j, ds, g, s⟩) x.ff fun b u e n f _ => ⟨x.hh.st b u e n, x.keepN e f n⟩⟩
theorem get_set {α : Type} {l : List α} {i j : Nat} {x y : α} (h : (l.set i x)[j]? = some y) : (i = j ∧ y = x ∧ i < l.length) ∨ (i ≠ j ∧ l[j]? = some y) := by
  by_cases e : i = j
  · subst e
    rw [List.getElem?_set] at h
    simp only [if_true] at h
    split at h
    · exact .inl ⟨rfl, (Option.some.inj h).symm, by assumption⟩
    · cases h
  · rw [List.getElem?_set_ne e] at h
    exact .inr ⟨e, h⟩
theorem Own.set_ (o : Own K ca H0 F σ H Γ) {i : Nat} {s : Slot} {v : Option V} (h1 : ∀ t, s ≠ .ot t) (h2 : ∀ ds, s ≠ .ow ds) : Own K ca H0 F (σ.set i v) H (Γ.set i s) :=
  o.keep (fun j t e => by
    rcases get_set e with ⟨_, e1, _⟩ | ⟨n, e⟩
    · exact absurd e1.symm (h1 t)
    · exact ⟨e, List.getElem?_set_ne n⟩) (fun j ds a g s' => by
    rcases get_set g with ⟨_, e1, _⟩ | ⟨n, g⟩
    · exact absurd e1.symm (h2 ds)
    · rw [List.getElem?_set_ne n] at s'
      exact .inl ⟨j, ds, g, s'⟩) (Same.refl _) fun b u e n f _ => ⟨e, f⟩
theorem SR.lt (S : SR K ca H0 F0 σ H F Γ) {i : Nat} (h : i < Γ.length) : i < σ.length := by rw [S.len]; exact h
/-- a value is stored -/
theorem SR.setVa (S : SR K ca H0 F0 σ H F Γ) {i : Nat} {v : V} {d : D} (h : Den K ca F v d) : SR K ca H0 F0 (σ.set i (some v)) H F (Γ.set i (.va d)) := by
  refine ⟨S.ext, S.nt0, S.tc0, by rw [List.length_set, List.length_set]; exact S.len, fun j e hj => ?_, fun j ds hj => ?_, fun j k ds es a n hj hk sj sk => ?_, S.own.set_ (fun t z => nomatch z) (fun ds z => nomatch z)⟩
  · rcases get_set hj with ⟨rfl, e1, hl⟩ | ⟨n, hj⟩
    · injection e1 with e1; subst e1
      exact ⟨v, List.getElem?_set_self (S.lt hl), h⟩
    · rw [List.getElem?_set_ne n]; exact S.va j e hj
  · rcases get_set hj with ⟨rfl, e1, hl⟩ | ⟨n, hj⟩
    · cases e1
    · rw [List.getElem?_set_ne n]; exact S.ow j ds hj
  · rcases get_set hj with ⟨rfl, e1, hl⟩ | ⟨n1, hj⟩
    · cases e1
    · rcases get_set hk with ⟨rfl, e1, hl⟩ | ⟨n2, hk⟩
      · cases e1
      · rw [List.getElem?_set_ne n1] at sj
        rw [List.getElem?_set_ne n2] at sk
        exact S.ap j k ds es a n hj hk sj sk
/-- a slot is forgotten -/
theorem SR.setUn (S : SR K ca H0 F0 σ H F Γ) {i : Nat} (v : Option V) : SR K ca H0 F0 (σ.set i v) H F (Γ.set i .un) := by
  refine ⟨S.ext, S.nt0, S.tc0, by rw [List.length_set, List.length_set]; exact S.len, fun j e hj => ?_, fun j ds hj => ?_, fun j k ds es a n hj hk sj sk => ?_, S.own.set_ (fun t z => nomatch z) (fun ds z => nomatch z)⟩
  · rcases get_set hj with ⟨rfl, e1, hl⟩ | ⟨n, hj⟩
    · cases e1
    · rw [List.getElem?_set_ne n]; exact S.va j e hj
  · rcases get_set hj with ⟨rfl, e1, hl⟩ | ⟨n, hj⟩
    · cases e1
    · rw [List.getElem?_set_ne n]; exact S.ow j ds hj
  · rcases get_set hj with ⟨rfl, e1, hl⟩ | ⟨n1, hj⟩
    · cases e1
    · rcases get_set hk with ⟨rfl, e1, hl⟩ | ⟨n2, hk⟩
      · cases e1
      · rw [List.getElem?_set_ne n1] at sj
        rw [List.getElem?_set_ne n2] at sk
        exact S.ap j k ds es a n hj hk sj sk
/-- a new list is stored -/
theorem SR.setTm (S : SR K ca H0 F0 σ H F Γ) (x : Ext ca H F H' F') {i : Nat} {v : V} {ds : List D} {B : BT} (h : RV K ca B H F' H' v (.tm ds)) : SR K ca H0 F0 (σ.set i (some v)) H' F' (Γ.set i (.ow ds)) := by
  have S' := S.mono x
  obtain ⟨a, vs, rfl, h1, h2, h3, h4⟩ := h
  refine ⟨S'.ext, S.nt0, S.tc0, by rw [List.length_set, List.length_set]; exact S.len, fun j e hj => ?_, fun j es hj => ?_, fun j k es fs b n hj hk sj sk => ?_, S.own.keep (fun j t e => by
    rcases get_set e with ⟨_, e1, _⟩ | ⟨n, e⟩
    · cases e1
    · exact ⟨e, List.getElem?_set_ne n⟩) (fun j es b g s' => by
    rcases get_set g with ⟨e0, e1, hl⟩ | ⟨n, g⟩
    · subst e0
      rw [List.getElem?_set_self (S.lt hl)] at s'
      cases s'
      exact .inr h1
    · rw [List.getElem?_set_ne n] at s'
      exact .inl ⟨j, es, g, s'⟩) x.ff fun b u e n f _ => ⟨x.hh.st b u e n, x.keepN e f n⟩⟩
  · rcases get_set hj with ⟨rfl, e1, hl⟩ | ⟨n, hj⟩
    · cases e1
    · rw [List.getElem?_set_ne n]; exact S'.va j e hj
  · rcases get_set hj with ⟨rfl, e1, hl⟩ | ⟨n, hj⟩
    · injection e1 with e1; subst e1
      exact ⟨a, vs, List.getElem?_set_self (S.lt hl), S.ext.hh.free h1, h2, h3, h4⟩
    · rw [List.getElem?_set_ne n]; exact S'.ow j es hj
  · have key : ∀ {j : Nat} {es : List D}, Γ[j]? = some (.ow es) → σ[j]? = some (some (.ref a)) → False := fun {j es} g s => by
      obtain ⟨c, ws, s', _, _, g4, _⟩ := S.ow j es g
      rw [s] at s'
      cases s'
      exact ne_noT g4 (fun _ z => nomatch z) h1 rfl
    rcases get_set hj with ⟨rfl, e1, hl⟩ | ⟨n1, hj⟩
    · rw [List.getElem?_set_self (S.lt hl)] at sj
      cases sj
      rcases get_set hk with ⟨rfl, e1, hl⟩ | ⟨n2, hk⟩
      · exact n rfl
      · rw [List.getElem?_set_ne n2] at sk
        exact key hk sk
    · rcases get_set hk with ⟨rfl, e1, hl⟩ | ⟨n2, hk⟩
      · rw [List.getElem?_set_self (S.lt hl)] at sk
        cases sk
        rw [List.getElem?_set_ne n1] at sj
        exact key hj sj
      · rw [List.getElem?_set_ne n1] at sj
        rw [List.getElem?_set_ne n2] at sk
        exact S.ap j k es fs b n hj hk sj sk
/-- an own list is frozen -/
theorem SR.frzE (S : SR K ca H0 F0 σ H F Γ) {i : Nat} {ds : List D} (h : Γ[i]? = some (.ow ds)) {a : Addr} {vs : List V} (s : σ[i]? = some (some (.ref a))) (h1 : noT H0 a = none) (h2 : F a = none) (h3 : H a = some (.lst vs)) (h4 : Dens K ca F vs ds) : SR K ca H0 F0 σ H (upd F a (.lst vs)) (Γ.set i (.va (.lst ds))) := by
  have sm : Same F (upd F a (.lst vs)) := same_upd h2
  refine ⟨S.ext.frz h1 h3 h2, S.nt0, S.tc0, by rw [List.length_set]; exact S.len, fun j e hj => ?_, fun j es hj => ?_, fun j k es fs b n hj hk sj sk => ?_, S.own.keep (fun j t e => by
    rcases get_set e with ⟨_, e1, _⟩ | ⟨n, e⟩
    · cases e1
    · exact ⟨e, rfl⟩) (fun j es b g s' => by
    rcases get_set g with ⟨_, e1, _⟩ | ⟨n, g⟩
    · cases e1
    · exact .inl ⟨j, es, g, s'⟩) sm fun b u e n f k => ⟨e, by rw [upd_ne fun z => k i ds h (by rw [s, z])]; exact f⟩⟩
  · rcases get_set hj with ⟨rfl, e1, hl⟩ | ⟨n, hj⟩
    · injection e1 with e1; subst e1
      exact ⟨_, s, .lst upd_same (h4.mono sm)⟩
    · obtain ⟨v, g1, g2⟩ := S.va j e hj
      exact ⟨v, g1, g2.mono sm⟩
  · rcases get_set hj with ⟨rfl, e1, hl⟩ | ⟨n, hj⟩
    · cases e1
    · obtain ⟨b, ws, g1, g2, g3, g4, g5⟩ := S.ow j es hj
      have hb : b ≠ a := fun e => by subst e; exact S.ap i j ds es b n h hj s g1
      exact ⟨b, ws, g1, g2, by rw [upd_ne hb]; exact g3, g4, g5.mono sm⟩
  · rcases get_set hj with ⟨rfl, e1, hl⟩ | ⟨n1, hj⟩
    · cases e1
    · rcases get_set hk with ⟨rfl, e1, hl⟩ | ⟨n2, hk⟩
      · cases e1
      · exact S.ap j k es fs b n hj hk sj sk
theorem SR.frz (S : SR K ca H0 F0 σ H F Γ) {i : Nat} {ds : List D} (h : Γ[i]? = some (.ow ds)) : ∃ F', Same F F' ∧ SR K ca H0 F0 σ H F' (Γ.set i (.va (.lst ds))) := by
  obtain ⟨a, vs, s, h1, h2, h3, h4⟩ := S.ow i ds h
  exact ⟨_, same_upd h2, S.frzE h s h1 h2 h3 h4⟩
/-- an own list is changed -/
theorem SR.upd (S : SR K ca H0 F0 σ H F Γ) {i : Nat} {ds es : List D} {a : Addr} {ws : List V} (h : Γ[i]? = some (.ow ds)) (s : σ[i]? = some (some (.ref a))) (hw : Dens K ca F ws es) :
    SR K ca H0 F0 σ (upd H a (.lst ws)) F (Γ.set i (.ow es)) := by
  obtain ⟨a', vs, s', h1, h2, h3, h4⟩ := S.ow i ds h
  rw [s] at s'
  cases s'
  refine ⟨⟨S.ext.hh.updO h1 (Pl.lst h3), S.ext.ff, fun b o e => ?_, S.ext.nw, S.ext.nt⟩, S.nt0, S.tc0, by rw [List.length_set]; exact S.len, fun j e hj => ?_, fun j fs hj => ?_, fun j k fs gs b n hj hk sj sk => ?_, S.own.keep (fun j t e => by
    rcases get_set e with ⟨_, e1, _⟩ | ⟨n, e⟩
    · cases e1
    · exact ⟨e, rfl⟩) (fun j fs b g s' => by
    rcases get_set g with ⟨e0, e1, _⟩ | ⟨n, g⟩
    · subst e0; exact .inl ⟨i, ds, h, s'⟩
    · exact .inl ⟨j, fs, g, s'⟩) (Same.refl _) fun b u e n f k => ⟨by rw [upd_ne fun z => k i ds h (by rw [s, z])]; exact e, f⟩⟩
  · rw [upd_ne (ne_of_none e h2)]; exact S.ext.fh b o e
  · rcases get_set hj with ⟨rfl, e1, hl⟩ | ⟨n, hj⟩
    · cases e1
    · exact S.va j e hj
  · rcases get_set hj with ⟨rfl, e1, hl⟩ | ⟨n, hj⟩
    · injection e1 with e1; subst e1
      exact ⟨a, ws, s, h1, h2, upd_same, hw⟩
    · obtain ⟨b, us, g1, g2, g3, g4, g5⟩ := S.ow j fs hj
      have hb : b ≠ a := fun e => by subst e; exact S.ap i j ds fs b n h hj s g1
      exact ⟨b, us, g1, g2, g3, by rw [upd_ne hb]; exact g4, g5⟩
  · rcases get_set hj with ⟨rfl, e1, hl⟩ | ⟨n1, hj⟩
    · rcases get_set hk with ⟨rfl, e2, hl2⟩ | ⟨n2, hk⟩
      · exact n rfl
      · exact S.ap i k ds gs b n h hk sj sk
    · rcases get_set hk with ⟨rfl, e1, hl⟩ | ⟨n2, hk⟩
      · exact S.ap j i fs ds b n hj h sj sk
      · exact S.ap j k fs gs b n hj hk sj sk
end
/-! ### the judgements over data -/
/-- the own lists of a body at the slots -/
def BB (σ : L2.St) (Γ : Gm) : BT := fun j a ds => σ[j]? = some (some (.ref a)) ∧ Γ[j]? = some (.ow ds)
abbrev RVs (K : PySem.W.Frag) (ca : Nat → Addr) (B : BT) (H F' H' : Hp) : List V → List R → Prop := Paired (RV K ca B H F' H')
theorem RVs.mono {K : PySem.W.Frag} {ca : Nat → Addr} {B : BT} {H F1 H1 F2 H2 : Hp} (x : Ext ca H1 F1 H2 F2) : ∀ {vs : List V} {rs : List R}, RVs K ca B H F1 H1 vs rs → RVs K ca B H F2 H2 vs rs
  | _, _, .nil => .nil
  | _, _, .cons h hs => .cons (h.mono x) (RVs.mono x hs)
theorem RVs.back {K : PySem.W.Frag} {ca : Nat → Addr} {B : BT} {Ha H F1 H1 : Hp} (s : SameN ca Ha H) : ∀ {vs : List V} {rs : List R}, RVs K ca B H F1 H1 vs rs → RVs K ca B Ha F1 H1 vs rs
  | _, _, .nil => .nil
  | _, _, .cons h hs => .cons (h.back s) (RVs.back s hs)
def tEV (K : PySem.W.Frag) (ca : Nat → Addr) (m : Gm → Option R) : TE := fun σ H Q => ∃ H0 F0 F Γ r, SR K ca H0 F0 σ H F Γ ∧ m Γ = some r ∧ ∀ v H' F', Ext ca H F H' F' → RV K ca (BB σ Γ) H F' H' v r → Q v H'
def tTV (K : PySem.W.Frag) (ca : Nat → Addr) (m : Gm → Option Bool) : TT := fun σ H Q => ∃ H0 F0 F Γ b, SR K ca H0 F0 σ H F Γ ∧ m Γ = some b ∧ ∀ H' F', Ext ca H F H' F' → Q b H'
def tAV (K : PySem.W.Frag) (ca : Nat → Addr) (m : Gm → Option (List R)) : TA := fun σ H Q => ∃ H0 F0 F Γ rs, SR K ca H0 F0 σ H F Γ ∧ m Γ = some rs ∧ ∀ vs H' F', Ext ca H F H' F' → RVs K ca (BB σ Γ) H F' H' vs rs → Q vs H'
/-- slots outside T stay -/
def Kp (T : List Nat) (σ σ' : L2.St) : Prop := ∀ j, j ∉ T → σ'[j]? = σ[j]?
def KpG (T : List Nat) (g : Gm) : Out → Prop
  | .nx g' => ∀ j, j ∉ T → g'[j]? = g[j]?
  | .rt _ => True
  | .bk g' => ∀ j, j ∉ T → g'[j]? = g[j]?
  | .ct g' => ∀ j, j ∉ T → g'[j]? = g[j]?
  | .ex _ => True
def PostO (K : PySem.W.Frag) (ca : Nat → Addr) (D : Ends) (H0 F0 Fs : Hp) (σ : L2.St) (T : List Nat) : Out → Prop
  | .nx g => ∀ σ' H' F', SR K ca H0 F0 σ' H' F' g → Same Fs F' → Kp T σ σ' → D.nx σ' H'
  | .rt r => ∀ v H' F', Ext ca H0 F0 H' F' → RV K ca (fun _ _ _ => False) H0 F' H' v r → D.rt v H'
  | .bk g => ∀ σ' H' F', SR K ca H0 F0 σ' H' F' g → Same Fs F' → Kp T σ σ' → D.bk σ' H'
  | .ct g => ∀ σ' H' F', SR K ca H0 F0 σ' H' F' g → Same Fs F' → Kp T σ σ' → D.ct σ' H'
  | .ex _ => False
def tSV (K : PySem.W.Frag) (ca : Nat → Addr) (m : Gm → Option Out) (T : List Nat) : TS := fun D σ H => ∃ H0 F0 F Γ o, SR K ca H0 F0 σ H F Γ ∧ m Γ = some o ∧ PostO K ca D H0 F0 F σ T o
abbrev EV (X : Cx) (ca : Nat → Addr) (e : Expr) (m : Gm → Option R) : Prop := PE X e (tEV X.K ca m)
abbrev TV (X : Cx) (ca : Nat → Addr) (e : Expr) (m : Gm → Option Bool) : Prop := PT X e (tTV X.K ca m)
abbrev WV (X : Cx) (ca : Nat → Addr) (e : Expr) (m : Gm → Option Bool) : Prop := PW X e (tTV X.K ca m)
abbrev AV (X : Cx) (ca : Nat → Addr) (es : List Expr) (m : Gm → Option (List R)) : Prop := PA X es (tAV X.K ca m)
structure SV (X : Cx) (ca : Nat → Addr) (st : Stmt) (m : Gm → Option Out) (T : List Nat) : Prop where
  ps : PS X st (tSV X.K ca m T)
  kp : ∀ g o, m g = some o → KpG T g o
structure SVs (X : Cx) (ca : Nat → Addr) (st : List Stmt) (m : Gm → Option Out) (T : List Nat) : Prop where
  ps : PSs X st (tSV X.K ca m T)
  kp : ∀ g o, m g = some o → KpG T g o
section
variable {X : Cx}
theorem pe_imp {e : Expr} {t t' : TE} (h : PE X e t) (i : ∀ σ H Q, t' σ H Q → t σ H Q) : PE X e t' := ⟨fun pins s σ H Q I q => h.run pins s σ H Q I (i σ H Q q)⟩
theorem pt_imp {e : Expr} {t t' : TT} (h : PT X e t) (i : ∀ σ H Q, t' σ H Q → t σ H Q) : PT X e t' := ⟨fun pins s σ H Q I q => h.run pins s σ H Q I (i σ H Q q)⟩
theorem pw_imp {e : Expr} {t t' : TT} (h : PW X e t) (i : ∀ σ H Q, t' σ H Q → t σ H Q) : PW X e t' := ⟨fun wh pins s σ H Q I q => h.run wh pins s σ H Q I (i σ H Q q)⟩
theorem pa_imp {es : List Expr} {t t' : TA} (h : PA X es t) (i : ∀ σ H Q, t' σ H Q → t σ H Q) : PA X es t' := ⟨fun pos pins s σ H Q I q => h.run pos pins s σ H Q I (i σ H Q q)⟩
theorem ps_imp {st : Stmt} {t t' : TS} (h : PS X st t) (i : ∀ D σ H, t' D σ H → t D σ H) : PS X st t' := ⟨fun pins s σ H D I q => h.run pins s σ H D I (i D σ H q)⟩
theorem pss_imp {st : List Stmt} {t t' : TS} (h : PSs X st t) (i : ∀ D σ H, t' D σ H → t D σ H) : PSs X st t' := ⟨fun pins s σ H D I q => h.run pins s σ H D I (i D σ H q)⟩
end
/-! ### expressions -/
def eV (i : Nat) : Gm → Option R := fun g => match g[i]? with
  | some (.va d) => some (.va d)
  | some (.ow ds) => some (.bw i ds)
  | _ => none
def eC (d : D) : Gm → Option R := fun _ => some (.va d)
def e1 (f : R → Option R) (a : Gm → Option R) : Gm → Option R := fun g => (a g).bind f
def e2 (f : R → R → Option R) (a b : Gm → Option R) : Gm → Option R := fun g => (a g).bind fun x => (b g).bind fun y => f x y
def aN : Gm → Option (List R) := fun _ => some []
def R.fz : R → R
  | .tm ds => .va (.lst ds)
  | r => r
/-- arguments: a temporary list is frozen at once -/
def aC (a : Gm → Option R) (b : Gm → Option (List R)) : Gm → Option (List R) := fun g => (a g).bind fun x => (b g).bind fun y => some (x.fz :: y)
def eA (f : List R → Option R) (a : Gm → Option (List R)) : Gm → Option R := fun g => (a g).bind f
section
variable {X : Cx} {ca : Nat → Addr}
theorem ev_var {i : Nat} {x : Str} {pos : Pos} (h : PE X (.Name x pos) (tVar i)) : EV X ca (.Name x pos) (eV i) := by
  refine pe_imp h fun σ H Q ⟨H0, F0, F, Γ, r, S, e, q⟩ => ?_
  unfold eV at e
  split at e
  · rename_i d g
    cases e
    obtain ⟨v, s, h1⟩ := S.va i d g
    exact ⟨v, s, q v H F (.refl S.ext.fh) h1⟩
  · rename_i ds g
    cases e
    obtain ⟨a, vs, s, h1, h2, h3, h4⟩ := S.ow i ds g
    exact ⟨_, s, q _ H F (.refl S.ext.fh) ⟨a, vs, rfl, ⟨s, g⟩, h2, h3, h4⟩⟩
  · cases e
theorem ev_c {e : Expr} {v : V} {d : D} (h : PE X e (tC v)) (hd : ∀ F, Den X.K ca F v d) : EV X ca e (eC d) := by
  refine pe_imp h fun σ H Q ⟨H0, F0, F, Γ, r, S, e, q⟩ => ?_
  cases e
  exact q v H F (.refl S.ext.fh) (hd F)
/-- an operator by values -/
def OpD (K : PySem.W.Frag) (ca : Nat → Addr) (r : R2) (f : R → R → Option R) : Prop :=
  ∀ {B : BT} {Hs F H : Hp} {v w : V} {x y z : R} {Q : VK}, Same F H → RV K ca B Hs F H v x → RV K ca B Hs F H w y → f x y = some z → (∀ u H' F', Ext ca H F H' F' → RV K ca B H F' H' u z → Q u H') → r v w H Q
def UnD (K : PySem.W.Frag) (ca : Nat → Addr) (r : V → Hp → VK → Prop) (f : R → Option R) : Prop :=
  ∀ {B : BT} {Hs F H : Hp} {v : V} {x z : R} {Q : VK}, Same F H → RV K ca B Hs F H v x → f x = some z → (∀ u H' F', Ext ca H F H' F' → RV K ca B H F' H' u z → Q u H') → r v H Q
def CallD (K : PySem.W.Frag) (ca : Nat → Addr) (r : List V → Hp → VK → Prop) (f : List R → Option R) : Prop :=
  ∀ {B : BT} {Hs F H : Hp} {vs : List V} {xs : List R} {z : R} {Q : VK}, Same F H → RVs K ca B Hs F H vs xs → f xs = some z → (∀ u H' F', Ext ca H F H' F' → RV K ca B H F' H' u z → Q u H') → r vs H Q
theorem t_op {r : R2} {f : R → R → Option R} {m n : Gm → Option R} (o : OpD X.K ca r f) : ∀ σ H Q, tEV X.K ca (e2 f m n) σ H Q → tOp r (tEV X.K ca m) (tEV X.K ca n) σ H Q := by
  rintro σ H Q ⟨H0, F0, F, Γ, z, S, e, q⟩
  unfold e2 at e
  obtain ⟨x, ex, e⟩ := Option.bind_eq_some_iff.mp e
  obtain ⟨y, ey, e⟩ := Option.bind_eq_some_iff.mp e
  refine ⟨H0, F0, F, Γ, x, S, ex, fun v H1 F1 x1 r1 => ⟨H0, F0, F1, Γ, y, S.mono x1, ey, fun w H2 F2 x2 r2 => ?_⟩⟩
  exact o x2.fh (r1.mono x2) (r2.back x1.hh) e fun u H3 F3 x3 r3 => q u H3 F3 ((x1.trans x2).trans x3) (r3.back (x1.hh.trans x2.hh))
theorem t_un {r : V → Hp → VK → Prop} {f : R → Option R} {m : Gm → Option R} (o : UnD X.K ca r f) : ∀ σ H Q, tEV X.K ca (e1 f m) σ H Q → tUn r (tEV X.K ca m) σ H Q := by
  rintro σ H Q ⟨H0, F0, F, Γ, z, S, e, q⟩
  unfold e1 at e
  obtain ⟨x, ex, e⟩ := Option.bind_eq_some_iff.mp e
  refine ⟨H0, F0, F, Γ, x, S, ex, fun v H1 F1 x1 r1 => ?_⟩
  exact o x1.fh r1 e fun u H3 F3 x3 r3 => q u H3 F3 (x1.trans x3) (r3.back x1.hh)
theorem t_call {r : List V → Hp → VK → Prop} {f : List R → Option R} {m : Gm → Option (List R)} (o : CallD X.K ca r f) : ∀ σ H Q, tEV X.K ca (eA f m) σ H Q → tCB r (tAV X.K ca m) σ H Q := by
  rintro σ H Q ⟨H0, F0, F, Γ, z, S, e, q⟩
  unfold eA at e
  obtain ⟨x, ex, e⟩ := Option.bind_eq_some_iff.mp e
  refine ⟨H0, F0, F, Γ, x, S, ex, fun v H1 F1 x1 r1 => ?_⟩
  exact o x1.fh r1 e fun u H3 F3 x3 r3 => q u H3 F3 (x1.trans x3) (r3.back x1.hh)
variable {a b e : Expr} {es : List Expr} {m n : Gm → Option R} {ms : Gm → Option (List R)} {pos p : Pos}
theorem ev_op {op : Operator} {r : R2} {f : R → R → Option R} (ho : OpR X (binaryOp op) r) (o : OpD X.K ca r f) (ha : EV X ca a m) (hb : EV X ca b n) : EV X ca (.BinOp a op b pos) (e2 f m n) := pe_imp (pe_op ho ha hb) (t_op o)
theorem ev_un {op : UnaryOp} {r : V → Hp → VK → Prop} {f : R → Option R} (ho : UnR X (unaryOp op) r) (o : UnD X.K ca r f) (ha : EV X ca a m) : EV X ca (.UnaryOp op a pos) (e1 f m) := pe_imp (pe_un ho ha) (t_un o)
theorem ev_cmp {op : CmpOp} {r : R2} {f : R → R → Option R} (ho : OpR X (compareOp op) r) (o : OpD X.K ca r f) (ha : EV X ca a m) (hb : EV X ca b n) (hm : behindInMarks op b = false) : EV X ca (.Compare a [op] [b] pos) (e2 f m n) := pe_imp (pe_cmpR ho ha hb hm) (t_op o)
theorem ev_ix {r : R2} {f : R → R → Option R} (hr : IxR X r) (o : OpD X.K ca r f) (ha : EV X ca a m) (hb : EV X ca b n) (hs : PlainIx b) : EV X ca (.Subscript a b pos) (e2 f m n) := pe_imp (pe_ix hr ha hb hs) (t_op o)
theorem av_nil : AV X ca [] aN := by
  refine pa_imp pa_nil ?_
  rintro σ H Q ⟨H0, F0, F, Γ, z, S, e, q⟩
  cases e
  exact q [] H F (.refl S.ext.fh) .nil
theorem RV.fz {K : PySem.W.Frag} {B : BT} {H F H1 F1 : Hp} {v : V} {r : R} (x : Ext ca H F H1 F1) (h : RV K ca B H F1 H1 v r) : ∃ F2, Ext ca H F H1 F2 ∧ RV K ca B H F2 H1 v r.fz := by
  cases r with
  | va d => exact ⟨F1, x, h⟩
  | tm ds =>
    obtain ⟨F2, x2, _, h2⟩ := RV.froze x h rfl
    exact ⟨F2, x2, h2⟩
  | bw j ds => exact ⟨F1, x, h⟩
theorem av_cons (ha : EV X ca e m) (hr : AV X ca es ms) (hs : starEach (e :: es) X.env = (false, eval e X.env) :: starEach es X.env := by rfl) : AV X ca (e :: es) (aC m ms) := by
  refine pa_imp (pa_cons ha hr hs) ?_
  rintro σ H Q ⟨H0, F0, F, Γ, z, S, e, q⟩
  unfold aC at e
  obtain ⟨x, ex, e⟩ := Option.bind_eq_some_iff.mp e
  obtain ⟨y, ey, e⟩ := Option.bind_eq_some_iff.mp e
  cases e
  refine ⟨H0, F0, F, Γ, x, S, ex, fun v H1 F1 x1 r1 => ?_⟩
  obtain ⟨F1', x1', r1'⟩ := RV.fz x1 r1
  exact ⟨H0, F0, F1', Γ, y, S.mono x1', ey, fun w H2 F2 x2 r2 => q _ _ F2 (x1'.trans x2) (.cons (r1'.mono x2) (r2.back x1'.hh))⟩
end
end BK
namespace BK
open PySem PySem.Spec L2
set_option autoImplicit false
/-! ### tests -/
def bE (a : Gm → Option R) : Gm → Option Bool := fun g => (a g).bind fun r => match r with
  | .va (.bl k) => some k
  | _ => none
def bNot (a : Gm → Option Bool) : Gm → Option Bool := fun g => (a g).map (!·)
def bAnd (a b : Gm → Option Bool) : Gm → Option Bool := fun g => (a g).bind fun k => if k = true then b g else some false
def bOr (a b : Gm → Option Bool) : Gm → Option Bool := fun g => (a g).bind fun k => if k = true then some true else b g
/-- .. as values -/
def eB (a : Gm → Option Bool) : Gm → Option R := fun g => (a g).map fun k => .va (.bl k)
def eAnd (a b : Gm → Option R) : Gm → Option R := fun g => (bE a g).bind fun k => if k = true then b g else some (.va (.bl false))
def eOr (a b : Gm → Option R) : Gm → Option R := fun g => (bE a g).bind fun k => if k = true then some (.va (.bl true)) else b g
section
variable {X : Cx} {ca : Nat → Addr} {a b e : Expr} {rest : List Expr} {m n : Gm → Option R} {k l : Gm → Option Bool} {pos : Pos}
theorem bE_some {g : Gm} {c : Bool} : bE m g = some c ↔ m g = some (.va (.bl c)) := by
  unfold bE
  cases q : m g with
  | none => simp
  | some r =>
    simp only [Option.bind_some]
    split
    · simp
    · rename_i h
      constructor
      · intro z; cases z
      · intro z; cases z; exact absurd rfl (h _)
theorem t_test {σ : L2.St} {H : Hp} {Q : Bool → Hp → Prop} (h : tTV X.K ca (bE m) σ H Q) : tEV X.K ca m σ H (fun x H1 => ∃ c, x = .bl c ∧ Q c H1) := by
  obtain ⟨H0, F0, F, Γ, c, S, e, q⟩ := h
  refine ⟨H0, F0, F, Γ, _, S, bE_some.mp e, fun v H' F' x r => ?_⟩
  cases r
  exact ⟨c, rfl, q H' F' x⟩
/-- a value that is a bool, as a test -/
theorem tv_val (h : EV X ca e m) (he : ∀ whole, isTrue e X.env whole = (do let v ← whole; standAt e.pos; holding [v] (truthy v)) := by intro _; rfl) : TV X ca e (bE m) := pt_imp (pt_val h he) fun σ H Q q => t_test q
theorem tv_cmp {op : CmpOp} {r : R2} {f : R → R → Option R} (ho : OpR X (compareOp op) r) (o : OpD X.K ca r f) (ha : EV X ca a m) (hb : EV X ca b n) (hm : behindInMarks op b = false) : TV X ca (.Compare a [op] [b] pos) (bE (e2 f m n)) :=
  pt_imp (pt_cmpR ho ha hb hm) fun σ H Q q => t_op o _ _ _ (t_test q)
theorem tv_not (h : TV X ca a k) : TV X ca (.UnaryOp .Not a pos) (bNot k) := by
  refine pt_imp (pt_not h) ?_
  rintro σ H Q ⟨H0, F0, F, Γ, c, S, e, q⟩
  unfold bNot at e
  cases z : k Γ with
  | none => rw [z] at e; cases e
  | some d =>
    rw [z] at e
    cases e
    exact ⟨H0, F0, F, Γ, d, S, z, q⟩
theorem wv_one (h : TV X ca a k) : WV X ca (.BoolOp .And [a] pos) k := pw_and1 h
theorem wv_one' (h : TV X ca a k) : WV X ca (.BoolOp .Or [a] pos) k := pw_or1 h
theorem wv_and (ha : TV X ca a k) (hb : WV X ca (.BoolOp .And (b :: rest) pos) l) : WV X ca (.BoolOp .And (a :: b :: rest) pos) (bAnd k l) := by
  refine pw_imp (pw_and ha hb) ?_
  rintro σ H Q ⟨H0, F0, F, Γ, c, S, e, q⟩
  unfold bAnd at e
  obtain ⟨d, ed, e⟩ := Option.bind_eq_some_iff.mp e
  refine ⟨H0, F0, F, Γ, d, S, ed, fun H1 F1 x1 => ?_⟩
  cases d with
  | true => exact iteT ⟨H0, F0, F1, Γ, c, S.mono x1, by simpa using e, fun H2 F2 x2 => q H2 F2 (x1.trans x2)⟩
  | false =>
    obtain rfl : false = c := by simpa using e
    exact iteF (q H1 F1 x1)
theorem wv_or (ha : TV X ca a k) (hb : WV X ca (.BoolOp .Or (b :: rest) pos) l) : WV X ca (.BoolOp .Or (a :: b :: rest) pos) (bOr k l) := by
  refine pw_imp (pw_or ha hb) ?_
  rintro σ H Q ⟨H0, F0, F, Γ, c, S, e, q⟩
  unfold bOr at e
  obtain ⟨d, ed, e⟩ := Option.bind_eq_some_iff.mp e
  refine ⟨H0, F0, F, Γ, d, S, ed, fun H1 F1 x1 => ?_⟩
  cases d with
  | false => exact iteF ⟨H0, F0, F1, Γ, c, S.mono x1, by simpa using e, fun H2 F2 x2 => q H2 F2 (x1.trans x2)⟩
  | true =>
    obtain rfl : true = c := by simpa using e
    exact iteT (q H1 F1 x1)
theorem tv_w (h : WV X ca e k) : TV X ca e k := h.pt
/-- and, or, not as values -/
theorem ev_one {op} (h : EV X ca a m) : EV X ca (.BoolOp op [a] pos) m := pe_one h
theorem ev_and (ha : EV X ca a m) (hb : EV X ca (.BoolOp .And (b :: rest) pos) n) : EV X ca (.BoolOp .And (a :: b :: rest) pos) (eAnd m n) := by
  refine pe_imp (pe_and ha hb) ?_
  rintro σ H Q ⟨H0, F0, F, Γ, z, S, e, q⟩
  unfold eAnd at e
  obtain ⟨d, ed, e⟩ := Option.bind_eq_some_iff.mp e
  refine ⟨H0, F0, F, Γ, _, S, bE_some.mp ed, fun v H1 F1 x1 r1 => ?_⟩
  cases r1
  refine ⟨d, rfl, ?_⟩
  cases d with
  | true => exact iteT ⟨H0, F0, F1, Γ, z, S.mono x1, by simpa using e, fun w H2 F2 x2 r2 => q w H2 F2 (x1.trans x2) (r2.back x1.hh)⟩
  | false =>
    obtain rfl : R.va (.bl false) = z := by simpa using e
    exact iteF (q _ H1 F1 x1 (.bl false))
/-- not x as a value -/
def eNot (a : Gm → Option R) : Gm → Option R := fun g => (bE a g).map fun k => .va (.bl (!k))
end
/-! ### statements -/
def sNil : Gm → Option Out := fun g => some (.nx g)
def sCons (m n : Gm → Option Out) : Gm → Option Out := fun g => (m g).bind fun o => match o with
  | .nx g' => n g'
  | .rt r => some (.rt r)
  | .bk g' => some (.bk g')
  | .ct g' => some (.ct g')
  | .ex x => some (.ex x)
def retR : R → R
  | .bw _ ds => .tm ds
  | r => r
def sRet (m : Gm → Option R) : Gm → Option Out := fun g => (m g).map fun r => .rt (retR r)
def sRetN : Gm → Option Out := fun _ => some (.rt (.va .non))
def setR (g : Gm) (i : Nat) : R → Option Gm
  | .va d => some (g.set i (.va d))
  | .tm ds => some (g.set i (.ow ds))
  | .bw _ _ => none
def sSet (i : Nat) (m : Gm → Option R) : Gm → Option Out := fun g => (m g).bind fun r => (setR g i r).map .nx
def sIf (c : Gm → Option Bool) (t u : Gm → Option Out) : Gm → Option Out := fun g => (c g).bind fun k => if k = true then t g else u g
def sExp (m : Gm → Option R) : Gm → Option Out := fun g => (m g).map fun _ => .nx g
def sBk : Gm → Option Out := fun g => some (.bk g)
def sCt : Gm → Option Out := fun g => some (.ct g)
def sNv : Gm → Option Out := fun _ => none
/-- a while of at most so many turns -/
def sWh (c : Gm → Option Bool) (b : Gm → Option Out) : Nat → Gm → Option Out
  | 0, _ => none
  | n + 1, g => (c g).bind fun k => if k = true then (b g).bind fun o => match o with
      | .nx g' => sWh c b n g'
      | .ct g' => sWh c b n g'
      | .bk g' => some (.nx g')
      | .rt r => some (.rt r)
      | .ex x => some (.ex x)
    else some (.nx g)
section
variable {X : Cx} {ca : Nat → Addr} {st : Stmt} {rest : List Stmt} {m n : Gm → Option Out} {me : Gm → Option R} {e : Expr} {T T' : List Nat} {pos : Pos}
theorem Kp.refl {T : List Nat} {σ : L2.St} : Kp T σ σ := fun _ _ => rfl
theorem Kp.trans {T T' U : List Nat} {σ σ' σ'' : L2.St} (a : Kp T σ σ') (b : Kp T' σ' σ'') (h1 : ∀ j ∈ T, j ∈ U) (h2 : ∀ j ∈ T', j ∈ U) : Kp U σ σ'' := fun j hj => by
  rw [b j fun z => hj (h2 j z), a j fun z => hj (h1 j z)]
theorem Kp.mono {T U : List Nat} {σ σ' : L2.St} (a : Kp T σ σ') (h1 : ∀ j ∈ T, j ∈ U) : Kp U σ σ' := fun j hj => a j fun z => hj (h1 j z)
theorem KpG.mono {T U : List Nat} {g : Gm} {o : Out} (h1 : ∀ j ∈ T, j ∈ U) (a : KpG T g o) : KpG U g o := by
  cases o with
  | nx g' => exact fun j hj => a j fun z => hj (h1 j z)
  | rt r => trivial
  | bk g' => exact fun j hj => a j fun z => hj (h1 j z)
  | ct g' => exact fun j hj => a j fun z => hj (h1 j z)
  | ex x => trivial
theorem KpG.after {T T' U : List Nat} {g g' : Gm} {o : Out} (a : KpG T g (.nx g')) (b : KpG T' g' o) (h1 : ∀ j ∈ T, j ∈ U) (h2 : ∀ j ∈ T', j ∈ U) : KpG U g o := by
  have a : ∀ j, j ∉ T → g'[j]? = g[j]? := a
  cases o with
  | nx g2 => exact fun j hj => ((b : ∀ j, j ∉ T' → g2[j]? = g'[j]?) j fun z => hj (h2 j z)).trans (a j fun z => hj (h1 j z))
  | rt r => trivial
  | bk g2 => exact fun j hj => ((b : ∀ j, j ∉ T' → g2[j]? = g'[j]?) j fun z => hj (h2 j z)).trans (a j fun z => hj (h1 j z))
  | ct g2 => exact fun j hj => ((b : ∀ j, j ∉ T' → g2[j]? = g'[j]?) j fun z => hj (h2 j z)).trans (a j fun z => hj (h1 j z))
  | ex x => trivial
theorem PostO.mono {K : PySem.W.Frag} {D : Ends} {H0 F0 Fs F1 : Hp} {σ σ1 : L2.St} {T T' U : List Nat} {o : Out} (s : Same Fs F1) (k : Kp T σ σ1) (h1 : ∀ j ∈ T, j ∈ U) (h2 : ∀ j ∈ T', j ∈ U) (p : PostO K ca D H0 F0 Fs σ U o) : PostO K ca D H0 F0 F1 σ1 T' o := by
  cases o with
  | nx g => exact fun σ2 H2 F2 S2 s2 k2 => p σ2 H2 F2 S2 (s.trans s2) (k.trans k2 h1 h2)
  | rt r => exact p
  | bk g => exact fun σ2 H2 F2 S2 s2 k2 => p σ2 H2 F2 S2 (s.trans s2) (k.trans k2 h1 h2)
  | ct g => exact fun σ2 H2 F2 S2 s2 k2 => p σ2 H2 F2 S2 (s.trans s2) (k.trans k2 h1 h2)
  | ex x => exact p
theorem svs_nil : SVs X ca [] sNil [] := by
  refine ⟨pss_imp pss_nil ?_, fun g o e => ?_⟩
  · rintro D σ H ⟨H0, F0, F, Γ, o, S, e, p⟩
    cases e
    exact p σ H F S (Same.refl _) .refl
  · cases e
    exact fun j _ => rfl
theorem svs_cons (h1 : SV X ca st m T) (h2 : SVs X ca rest n T') : SVs X ca (st :: rest) (sCons m n) (T ++ T') := by
  have i1 : ∀ j ∈ T, j ∈ T ++ T' := fun j h => List.mem_append_left _ h
  have i2 : ∀ j ∈ T', j ∈ T ++ T' := fun j h => List.mem_append_right _ h
  refine ⟨pss_imp (pss_cons h1.ps h2.ps) ?_, fun g o e => ?_⟩
  · rintro D σ H ⟨H0, F0, F, Γ, o, S, e, p⟩
    unfold sCons at e
    obtain ⟨o1, e1, e⟩ := Option.bind_eq_some_iff.mp e
    refine ⟨H0, F0, F, Γ, o1, S, e1, ?_⟩
    cases o1 with
    | nx g1 =>
      intro σ1 H1 F1 S1 s1 k1
      exact ⟨H0, F0, F1, g1, o, S1, e, PostO.mono s1 k1 i1 i2 p⟩
    | rt r => cases e; exact p
    | bk g2 => cases e; exact fun σ2 H2 F2 S2 s2 k2 => p σ2 H2 F2 S2 s2 (k2.mono i1)
    | ct g2 => cases e; exact fun σ2 H2 F2 S2 s2 k2 => p σ2 H2 F2 S2 s2 (k2.mono i1)
    | ex x => cases e; exact p
  · unfold sCons at e
    obtain ⟨o1, e1, e⟩ := Option.bind_eq_some_iff.mp e
    have k1 := h1.kp g o1 e1
    cases o1 with
    | nx g1 => exact k1.after (h2.kp g1 o e) i1 i2
    | rt r => cases e; trivial
    | bk g1 => cases e; exact k1.mono i1
    | ct g1 => cases e; exact k1.mono i1
    | ex x => cases e; trivial
theorem ret_rv {K : PySem.W.Frag} {H0 F0 F H F' H' : Hp} {σ : L2.St} {Γ : Gm} {v : V} {r : R} (S : SR K ca H0 F0 σ H F Γ) (x : Ext ca H F H' F') (h : RV K ca (BB σ Γ) H F' H' v r) : RV K ca (fun _ _ _ => False) H0 F' H' v (retR r) := by
  cases r with
  | va d => exact h
  | tm ds =>
    obtain ⟨a, vs, rfl, h1, h2⟩ := h
    exact ⟨a, vs, rfl, S.ext.hh.free h1, h2⟩
  | bw j ds =>
    obtain ⟨a, vs, rfl, ⟨s, g⟩, h2, h3, h4⟩ := h
    obtain ⟨b, ws, s', g1, _⟩ := S.ow j ds g
    rw [s] at s'
    cases s'
    exact ⟨a, vs, rfl, g1, h2, h3, h4⟩
theorem sv_ret (he : EV X ca e me) : SV X ca (.Return (some e) pos) (sRet me) [] := by
  refine ⟨ps_imp (ps_ret he) ?_, fun g o e => ?_⟩
  · rintro D σ H ⟨H0, F0, F, Γ, o, S, e, p⟩
    unfold sRet at e
    cases z : me Γ with
    | none => rw [z] at e; cases e
    | some r =>
      rw [z] at e
      cases e
      exact ⟨H0, F0, F, Γ, r, S, z, fun v H' F' x h => p v H' F' (S.ext.trans x) (ret_rv S x h)⟩
  · unfold sRet at e
    cases z : me g with
    | none => rw [z] at e; cases e
    | some r => rw [z] at e; cases e; trivial
theorem kpg_set {i : Nat} {g : Gm} {s : Slot} : KpG [i] g (.nx (g.set i s)) := fun j hj => by
  rw [List.getElem?_set_ne]
  intro z
  exact hj (by simp [z])
theorem kp_set {i : Nat} {σ : L2.St} {v : Option V} : Kp [i] σ (σ.set i v) := fun j hj => by
  rw [List.getElem?_set_ne]
  intro z
  exact hj (by simp [z])
theorem setR_kp {i : Nat} {g g' : Gm} {r : R} (h : setR g i r = some g') : KpG [i] g (.nx g') := by
  cases r with
  | va d => cases h; exact kpg_set
  | tm ds => cases h; exact kpg_set
  | bw j ds => cases h
theorem SR.setR {K : PySem.W.Frag} {H0 F0 F H F' H' : Hp} {σ : L2.St} {Γ Γ' : Gm} {v : V} {r : R} {i : Nat} {B : BT} (S : SR K ca H0 F0 σ H F Γ) (x : Ext ca H F H' F') (h : RV K ca B H F' H' v r) (e : setR Γ i r = some Γ') : SR K ca H0 F0 (σ.set i (some v)) H' F' Γ' := by
  cases r with
  | va d => cases e; exact (S.mono x).setVa h
  | tm ds => cases e; exact S.setTm x h
  | bw j ds => cases e
theorem sv_set {i : Nat} {x : Str} {pos' : Pos} (hN : X.N.Nodup) (hi : X.N[i]? = some x) (hx : Loc X.env.scope x) (he : EV X ca e me) (hs : swapsWith e (some (.Name x pos')) pos.line X.env = pure false := by rfl) (hf : X.fn x = true ∨ X.env.scope.names.lookup x = some .local := by first | exact .inl rfl | exact .inr rfl | assumption) :
    SV X ca (.Assign [.Name x pos'] e pos) (sSet i me) [i] := by
  refine ⟨ps_imp (ps_set hN hi hx he hs hf) ?_, fun g o e => ?_⟩
  · rintro D σ H ⟨H0, F0, F, Γ, o, S, e, p⟩
    unfold sSet at e
    obtain ⟨r, er, e⟩ := Option.bind_eq_some_iff.mp e
    cases z : setR Γ i r with
    | none => rw [z] at e; cases e
    | some g' =>
      rw [z] at e
      cases e
      exact ⟨H0, F0, F, Γ, r, S, er, fun v H' F' x h => p _ H' F' (S.setR x h z) x.ff kp_set⟩
  · unfold sSet at e
    obtain ⟨r, er, e⟩ := Option.bind_eq_some_iff.mp e
    cases z : setR g i r with
    | none => rw [z] at e; cases e
    | some g' => rw [z] at e; cases e; exact setR_kp z
theorem sv_if {c : Expr} {a b : List Stmt} {mc : Gm → Option Bool} (hc : TV X ca c mc) (ha : SVs X ca a m T) (hb : SVs X ca b n T') : SV X ca (.If c a b pos) (sIf mc m n) (T ++ T') := by
  have i1 : ∀ j ∈ T, j ∈ T ++ T' := fun j h => List.mem_append_left _ h
  have i2 : ∀ j ∈ T', j ∈ T ++ T' := fun j h => List.mem_append_right _ h
  refine ⟨ps_imp (ps_if hc ha.ps hb.ps) ?_, fun g o e => ?_⟩
  · rintro D σ H ⟨H0, F0, F, Γ, o, S, e, p⟩
    unfold sIf at e
    obtain ⟨k, ek, e⟩ := Option.bind_eq_some_iff.mp e
    refine ⟨H0, F0, F, Γ, k, S, ek, fun H1 F1 x1 => ?_⟩
    cases k with
    | true => exact iteT ⟨H0, F0, F1, Γ, o, S.mono x1, by simpa using e, PostO.mono (T := []) x1.ff .refl (fun _ z => nomatch z) i1 p⟩
    | false => exact iteF ⟨H0, F0, F1, Γ, o, S.mono x1, by simpa using e, PostO.mono (T := []) x1.ff .refl (fun _ z => nomatch z) i2 p⟩
  · unfold sIf at e
    obtain ⟨k, ek, e⟩ := Option.bind_eq_some_iff.mp e
    split at e
    · exact (ha.kp g o e).mono i1
    · exact (hb.kp g o e).mono i2
/-- what is never come to -/
theorem sv_never : SV X ca st sNv [] := by
  refine ⟨ps_imp ps_never ?_, fun g o e => ?_⟩
  · rintro D σ H ⟨H0, F0, F, Γ, o, S, e, p⟩
    cases e
  · cases e
end
end BK
namespace BK
open PySem PySem.Spec L2
set_option autoImplicit false
/-! ### targets, what is walked, for -/
def gN (i : Nat) : D → Gm → Option Gm := fun d g => some (g.set i (.va d))
def gE : List D → Gm → Option Gm := fun ds g => match ds with
  | [] => some g
  | _ => none
def gC (f : D → Gm → Option Gm) (r : List D → Gm → Option Gm) : List D → Gm → Option Gm := fun ds g => match ds with
  | d :: ds => (f d g).bind (r ds)
  | _ => none
def gT (f : List D → Gm → Option Gm) : D → Gm → Option Gm := fun d g => match d with
  | .tup ds => f ds g
  | _ => none
def tGV (K : PySem.W.Frag) (ca : Nat → Addr) (f : D → Gm → Option Gm) (T : List Nat) : TG := fun v σ H Q => ∃ H0 F0 F Γ d Γ', SR K ca H0 F0 σ H F Γ ∧ Den K ca F v d ∧ f d Γ = some Γ' ∧ ∀ σ', SR K ca H0 F0 σ' H F Γ' → Kp T σ σ' → Q σ' H
def tGVs (K : PySem.W.Frag) (ca : Nat → Addr) (f : List D → Gm → Option Gm) (T : List Nat) : TGs := fun vs σ H Q => ∃ H0 F0 F Γ ds Γ', SR K ca H0 F0 σ H F Γ ∧ Dens K ca F vs ds ∧ f ds Γ = some Γ' ∧ ∀ σ', SR K ca H0 F0 σ' H F Γ' → Kp T σ σ' → Q σ' H
structure GV (X : Cx) (ca : Nat → Addr) (e : Expr) (f : D → Gm → Option Gm) (T : List Nat) : Prop where
  pg : PG X e (tGV X.K ca f T)
  kp : ∀ d g g', f d g = some g' → KpG T g (.nx g')
  ln : ∀ d g g', f d g = some g' → g'.length = g.length
structure GVs (X : Cx) (ca : Nat → Addr) (es : List Expr) (f : List D → Gm → Option Gm) (T : List Nat) : Prop where
  pg : PGs X es (tGVs X.K ca f T)
  kp : ∀ d g g', f d g = some g' → KpG T g (.nx g')
  ln : ∀ d g g', f d g = some g' → g'.length = g.length
section
variable {X : Cx}
theorem pg_imp {e : Expr} {t t' : TG} (h : PG X e t) (i : ∀ v σ H Q, t' v σ H Q → t v σ H Q) : PG X e t' := ⟨fun pins s σ H v u Q I r q => h.run pins s σ H v u Q I r (i v σ H Q q)⟩
theorem pgs_imp {es : List Expr} {t t' : TGs} (h : PGs X es t) (i : ∀ v σ H Q, t' v σ H Q → t v σ H Q) : PGs X es t' := ⟨fun pins s σ H v u Q I r q => h.run pins s σ H v u Q I r (i v σ H Q q)⟩
theorem pi_imp {tg e : Expr} {t t' : TI} (h : PI X tg e t) (i : ∀ σ H R, t' σ H R → t σ H R) : PI X tg e t' := ⟨fun pins s σ H R I q => h.run pins s σ H R I (i σ H R q)⟩
variable {ca : Nat → Addr} {pos : Pos}
theorem gv_name {i : Nat} {x : Str} (hN : X.N.Nodup) (hi : X.N[i]? = some x) (hx : Loc X.env.scope x) (hf : X.fn x = true ∨ X.env.scope.names.lookup x = some .local := by first | exact .inl rfl | exact .inr rfl | assumption) : GV X ca (.Name x pos) (gN i) [i] := by
  refine ⟨pg_imp (pg_name hN hi hx hf) ?_, fun d g g' e => ?_, fun d g g' e => by cases e; exact List.length_set⟩
  · rintro v σ H Q ⟨H0, F0, F, Γ, d, Γ', S, h, e, q⟩
    cases e
    exact q _ (S.setVa h) kp_set
  · cases e
    exact kpg_set
theorem gvs_nil : GVs X ca [] gE [] := by
  refine ⟨pgs_imp pgs_nil ?_, fun d g g' e => ?_, fun d g g' e => ?_⟩
  rotate_left 2
  · cases d with
    | nil => cases e; rfl
    | cons d ds => cases e
  · rintro vs σ H Q ⟨H0, F0, F, Γ, ds, Γ', S, h, e, q⟩
    cases ds with
    | nil => cases h; cases e; exact ⟨rfl, q σ S .refl⟩
    | cons d ds => cases e
  · cases d with
    | nil => cases e; exact fun j _ => rfl
    | cons d ds => cases e
theorem gvs_cons {e : Expr} {es : List Expr} {f : D → Gm → Option Gm} {r : List D → Gm → Option Gm} {T T' : List Nat} (h1 : GV X ca e f T) (h2 : GVs X ca es r T')
    (hs : (assignEach (e :: es) X.env).map (·.2) = assign e X.env :: (assignEach es X.env).map (·.2) := by rfl) : GVs X ca (e :: es) (gC f r) (T ++ T') := by
  have i1 : ∀ j ∈ T, j ∈ T ++ T' := fun j h => List.mem_append_left _ h
  have i2 : ∀ j ∈ T', j ∈ T ++ T' := fun j h => List.mem_append_right _ h
  refine ⟨pgs_imp (pgs_cons h1.pg h2.pg hs) ?_, fun d g g' e => ?_, fun d g g' e => ?_⟩
  rotate_left 2
  · cases d with
    | nil => cases e
    | cons d ds =>
      have e : (f d g).bind (r ds) = some g' := e
      obtain ⟨g1, e1, e2⟩ := Option.bind_eq_some_iff.mp e
      rw [h2.ln _ _ _ e2, h1.ln _ _ _ e1]
  · rintro vs σ H Q ⟨H0, F0, F, Γ, ds, Γ', S, h, e, q⟩
    cases ds with
    | nil => cases e
    | cons d ds =>
      cases h with
      | cons h hs =>
        have e : (f d Γ).bind (r ds) = some Γ' := e
        obtain ⟨g1, e1, e2⟩ := Option.bind_eq_some_iff.mp e
        exact ⟨_, _, rfl, H0, F0, F, Γ, d, g1, S, h, e1, fun σ1 S1 k1 => ⟨H0, F0, F, g1, ds, Γ', S1, hs, e2, fun σ2 S2 k2 => q σ2 S2 (k1.trans k2 i1 i2)⟩⟩
  · cases d with
    | nil => cases e
    | cons d ds =>
      have e : (f d g).bind (r ds) = some g' := e
      obtain ⟨g1, e1, e2⟩ := Option.bind_eq_some_iff.mp e
      exact KpG.after (h1.kp _ _ _ e1) (h2.kp _ _ _ e2) i1 i2
theorem gv_tup {es : List Expr} {k : Nat} {f : List D → Gm → Option Gm} {T : List Nat} (hc : X.calm = true) (h : GVs X ca es f T) (hl : ∀ ds g g', f ds g = some g' → ds.length = (assignEach es X.env).length)
    (hst : (assignEach es X.env).findIdx? (·.1) = none := by rfl) : GV X ca (.Tuple es k pos) (gT f) T := by
  refine ⟨pg_imp (pg_tup (n := (assignEach es X.env).length) hc h.pg rfl hst) ?_, fun d g g' e => ?_, fun d g g' e => ?_⟩
  rotate_left 2
  · unfold gT at e
    split at e
    · exact h.ln _ _ _ e
    · cases e
  · rintro v σ H Q ⟨H0, F0, F, Γ, d, Γ', S, h, e, q⟩
    unfold gT at e
    split at e
    · cases h with
      | tup h hs =>
        refine ⟨_, _, rfl, Same.seqT S.ext.fh h, ?_, H0, F0, F, Γ, _, Γ', S, hs, e, q⟩
        rw [hs.length]
        exact hl _ _ _ e
    · cases e
  · unfold gT at e
    split at e
    · exact h.kp _ _ _ e
    · cases e
/-- target = value, the target a tuple of names -/
def sAsg (m : Gm → Option R) (f : D → Gm → Option Gm) : Gm → Option Out := fun g => (m g).bind fun r => match r with
  | .va d => (f d g).map .nx
  | _ => none
/-- a, b = x, y with plain names: both are values -/
def sPar (i j : Nat) (a b : Gm → Option R) : Gm → Option Out := fun g => (a g).bind fun x => (b g).bind fun y => match x.fz, y.fz with
  | .va d, .va e => some (.nx ((g.set i (.va d)).set j (.va e)))
  | _, _ => none
/-- name op= e (op by values) -/
def sAug (i : Nat) (f : R → R → Option R) (m : Gm → Option R) : Gm → Option Out := fun g => (eV i g).bind fun x => (m g).bind fun y => (f x y).bind fun r => (setR g i r).map .nx
theorem sv_aug {i : Nat} {x : Str} {e : Expr} {m : Gm → Option R} {op : Operator} {ti : TIp} {f : R → R → Option R} {pos' : Pos} (hN : X.N.Nodup) (hi : X.N[i]? = some x) (hx : Loc X.env.scope x) (he : EV X ca e m) (ho : PIp X op ti) (o : OpD X.K ca ti f)
    (hf : X.fn x = true ∨ X.env.scope.names.lookup x = some .local := by first | exact .inl rfl | exact .inr rfl | assumption) : SV X ca (.AugAssign (.Name x pos') op e pos) (sAug i f m) [i] := by
  refine ⟨ps_imp (ps_aug hN hi hx he ho hf) ?_, fun g o e => ?_⟩
  · rintro D σ H ⟨H0, F0, F, Γ, oo, S, e, p⟩
    unfold sAug at e
    obtain ⟨u, eu, e⟩ := Option.bind_eq_some_iff.mp e
    obtain ⟨w, ew, e⟩ := Option.bind_eq_some_iff.mp e
    obtain ⟨r, er, e⟩ := Option.bind_eq_some_iff.mp e
    cases z : setR Γ i r with
    | none => rw [z] at e; cases e
    | some g' =>
      rw [z] at e
      cases e
      unfold eV at eu
      have key : ∃ v, σ[i]? = some (some v) ∧ RV X.K ca (BB σ Γ) H F H v u := by
        split at eu
        · rename_i d g
          cases eu
          obtain ⟨v, s, h1⟩ := S.va i d g
          exact ⟨v, s, h1⟩
        · rename_i ds g
          cases eu
          obtain ⟨a, vs, s, h1, h2, h3, h4⟩ := S.ow i ds g
          exact ⟨_, s, a, vs, rfl, ⟨s, g⟩, h2, h3, h4⟩
        · cases eu
      obtain ⟨v, s, hv⟩ := key
      refine ⟨v, s, H0, F0, F, Γ, w, S, ew, fun y H' F' x h => ?_⟩
      exact o x.fh (hv.mono x) h er fun u2 H2 F2 x2 r2 => p _ H2 F2 (S.setR (x.trans x2) (r2.back x.hh) z) (x.ff.trans x2.ff) kp_set
  · unfold sAug at e
    obtain ⟨u, eu, e⟩ := Option.bind_eq_some_iff.mp e
    obtain ⟨w, ew, e⟩ := Option.bind_eq_some_iff.mp e
    obtain ⟨r, er, e⟩ := Option.bind_eq_some_iff.mp e
    cases z : setR g i r with
    | none => rw [z] at e; cases e
    | some g' => rw [z] at e; cases e; exact setR_kp z
/-! ### what a for walks -/
/-- J yields the data ds, one a turn, as long as the frozen part F1 stands and the own lists in PL stand as they are -/
structure JOk (K : PySem.W.Frag) (ca : Nat → Addr) (F1 : Hp) (J : It) (PL : List (Nat × Addr × List D)) (ds : List D) : Prop where
  go : ∀ (i : Nat) (d : D) (H F : Hp), ds[i]? = some d → Same F1 F → Same F H → (∀ p ∈ PL, ∃ vs, H p.2.1 = some (.lst vs) ∧ Dens K ca F vs p.2.2) → J.go i H ∧ ∀ x H', J.yld i H x H' → ∃ F', Ext ca H F H' F' ∧ Den K ca F' x d
  stop : ∀ (H F : Hp), Same F1 F → Same F H → (∀ p ∈ PL, ∃ vs, H p.2.1 = some (.lst vs) ∧ Dens K ca F vs p.2.2) → J.stop ds.length H
def tIV (K : PySem.W.Frag) (ca : Nat → Addr) (mi : Gm → Option (List Nat × List D)) : TI := fun σ H R => ∃ H0 F0 F Γ p, SR K ca H0 F0 σ H F Γ ∧ mi Γ = some p ∧
  ∀ J H' F' PL, Ext ca H F H' F' → JOk K ca F' J PL p.2 → (∀ q ∈ PL, q.1 ∈ p.1 ∧ BB σ Γ q.1 q.2.1 q.2.2) → R J H'
abbrev IV (X : Cx) (ca : Nat → Addr) (tg e : Expr) (mi : Gm → Option (List Nat × List D)) : Prop := PI X tg e (tIV X.K ca mi)
def forL (f : D → Gm → Option Gm) (b : Gm → Option Out) : List D → Gm → Option Out
  | [], g => some (.nx g)
  | d :: ds, g => (f d g).bind fun g1 => (b g1).bind fun o => match o with
    | .nx g2 => forL f b ds g2
    | .ct g2 => forL f b ds g2
    | .bk g2 => some (.nx g2)
    | .rt r => some (.rt r)
    | .ex x => some (.ex x)
def sFor (mi : Gm → Option (List Nat × List D)) (f : D → Gm → Option Gm) (b : Gm → Option Out) (T : List Nat) : Gm → Option Out := fun g => (mi g).bind fun p => if p.1.all (fun j => !T.contains j) = true then forL f b p.2 g else none
theorem forL_kp {f : D → Gm → Option Gm} {b : Gm → Option Out} {T T' : List Nat} (hf : ∀ d g g', f d g = some g' → KpG T g (.nx g')) (hb : ∀ g o, b g = some o → KpG T' g o) : ∀ (ds : List D) (g : Gm) (o : Out), forL f b ds g = some o → KpG (T ++ T') g o
  | [], g, o, e => by
    cases e
    exact fun j _ => rfl
  | d :: ds, g, o, e => by
    have i1 : ∀ j ∈ T, j ∈ T ++ T' := fun j h => List.mem_append_left _ h
    have i2 : ∀ j ∈ T', j ∈ T ++ T' := fun j h => List.mem_append_right _ h
    unfold forL at e
    obtain ⟨g1, e1, e⟩ := Option.bind_eq_some_iff.mp e
    obtain ⟨o1, e2, e⟩ := Option.bind_eq_some_iff.mp e
    have k := KpG.after (hf _ _ _ e1) (hb _ _ e2) i1 i2
    cases o1 with
    | nx g2 => exact KpG.after k (forL_kp hf hb ds g2 o e) (fun _ z => z) fun _ z => z
    | ct g2 => exact KpG.after (show KpG (T ++ T') g (.nx g2) from k) (forL_kp hf hb ds g2 o e) (fun _ z => z) fun _ z => z
    | bk g2 => cases e; exact k
    | rt r => cases e; trivial
    | ex x => cases e; trivial
theorem sv_for {tg iter : Expr} {body : List Stmt} {mi : Gm → Option (List Nat × List D)} {f : D → Gm → Option Gm} {b : Gm → Option Out} {T T' U : List Nat} (hp : PassesOwn (model X.prog X.w) X.A X.env X.xe) (hc : X.calm = true) (hi : IV X ca tg iter mi) (hg : GV X ca tg f T) (hb : SVs X ca body b T')
    (hU : U = T ++ T') (hs : ∀ x, foldedSetIterable iter X.env x = pure x := by intro _; rfl) : SV X ca (.For tg iter body [] pos) (sFor mi f b U) U := by
  subst hU
  have i1 : ∀ j ∈ T, j ∈ T ++ T' := fun j h => List.mem_append_left _ h
  have i2 : ∀ j ∈ T', j ∈ T ++ T' := fun j h => List.mem_append_right _ h
  refine ⟨ps_imp (ps_for hp hc hi hg.pg hb.ps hs) ?_, fun g o e => ?_⟩
  · rintro D σ H ⟨H0, F0, F, Γ, o, S, e, p⟩
    unfold sFor at e
    obtain ⟨⟨ps, ds⟩, em, e⟩ := Option.bind_eq_some_iff.mp e
    by_cases hall : (ps.all fun j => !(T ++ T').contains j) = true
    · rw [if_pos hall] at e
      refine ⟨H0, F0, F, Γ, (ps, ds), S, em, fun J H1 F1 PL x1 jo hPL => ?_⟩
      have hj : ∀ q ∈ PL, q.1 ∉ T ++ T' := fun q hq hm => by
        have := List.all_eq_true.mp hall q.1 (hPL q hq).1
        simp at this
        rcases List.mem_append.mp hm with z | z
        · exact this.1 z
        · exact this.2 z
      refine ⟨fun i m σ' H' => ∃ F' g, m = ds.length - i ∧ SR X.K ca H0 F0 σ' H' F' g ∧ Same F1 F' ∧ forL f b (ds.drop i) g = some o ∧ PostO X.K ca D H0 F0 F' σ' (T ++ T') o ∧ i ≤ ds.length ∧ (∀ q ∈ PL, BB σ' g q.1 q.2.1 q.2.2),
        ⟨_, F1, Γ, rfl, S.mono x1, Same.refl _, e, PostO.mono (T := []) x1.ff .refl (fun _ z => nomatch z) (fun _ z => z) p, Nat.zero_le _, fun q hq => (hPL q hq).2⟩, ?_⟩
      rintro i m σ2 H2 ⟨F2, g, rfl, S2, s2, e2, p2, hi2, hb2⟩
      have hpin : ∀ q ∈ PL, ∃ vs, H2 q.2.1 = some (.lst vs) ∧ Dens X.K ca F2 vs q.2.2 := fun q hq => by
        obtain ⟨z1, z2⟩ := hb2 q hq
        obtain ⟨a, vs, y1, _, _, y4, y5⟩ := S2.ow _ _ z2
        rw [z1] at y1
        cases y1
        exact ⟨vs, y4, y5⟩
      by_cases hlt : i < ds.length
      · have hd : ds[i]? = some ds[i] := List.getElem?_eq_getElem hlt
        have ed : ds.drop i = ds[i] :: ds.drop (i + 1) := List.drop_eq_getElem_cons hlt
        rw [ed] at e2
        unfold forL at e2
        obtain ⟨g1, eg, e2⟩ := Option.bind_eq_some_iff.mp e2
        obtain ⟨o1, eo, e2⟩ := Option.bind_eq_some_iff.mp e2
        obtain ⟨jgo, jy⟩ := jo.go i _ H2 F2 hd s2 S2.ext.fh hpin
        refine .inr ⟨jgo, fun σ' H' => ∃ F' g, SR X.K ca H0 F0 σ' H' F' g ∧ Same F1 F' ∧ forL f b (ds.drop (i + 1)) g = some o ∧ PostO X.K ca D H0 F0 F' σ' (T ++ T') o ∧ (∀ q ∈ PL, BB σ' g q.1 q.2.1 q.2.2), fun σ' H' ⟨F', g', w1, w2, w3, w4, w5⟩ => ⟨ds.length - (i + 1), by omega, F', g', rfl, w1, w2, w3, w4, hlt, w5⟩, fun x H3 y => ?_⟩
        obtain ⟨F3, x3, d3⟩ := jy x H3 y
        refine ⟨H0, F0, F3, g, _, g1, S2.mono x3, d3, eg, fun σ4 S4 k4 => ⟨H0, F0, F3, g1, o1, S4, eo, ?_⟩⟩
        have kg1 : KpG (T ++ T') g (.nx g1) := (hg.kp _ _ _ eg).mono i1
        have kg := hb.kp _ _ eo
        have step : ∀ (g5 : Gm) (σ5 : L2.St) (H5 F5 : Hp), KpG T' g1 (.nx g5) → SR X.K ca H0 F0 σ5 H5 F5 g5 → Same F3 F5 → Kp T' σ4 σ5 → forL f b (ds.drop (i + 1)) g5 = some o →
            ∃ F' g, SR X.K ca H0 F0 σ5 H5 F' g ∧ Same F1 F' ∧ forL f b (ds.drop (i + 1)) g = some o ∧ PostO X.K ca D H0 F0 F' σ5 (T ++ T') o ∧ (∀ q ∈ PL, BB σ5 g q.1 q.2.1 q.2.2) := fun g5 σ5 H5 F5 kg S5 s5 k5 e5 => by
          have kk : Kp (T ++ T') σ2 σ5 := k4.trans k5 i1 i2
          have kkg : KpG (T ++ T') g (.nx g5) := KpG.after kg1 kg (fun _ z => z) i2
          have sf : Same F2 F5 := x3.ff.trans s5
          refine ⟨F5, g5, S5, s2.trans sf, e5, PostO.mono sf kk (fun _ z => z) (fun _ z => z) p2, fun q hq => ⟨?_, ?_⟩⟩
          · rw [kk _ (hj q hq)]; exact (hb2 q hq).1
          · rw [(kkg : ∀ j, j ∉ T ++ T' → g5[j]? = g[j]?) _ (hj q hq)]; exact (hb2 q hq).2
        cases o1 with
        | nx g5 => exact fun σ5 H5 F5 S5 s5 k5 => step g5 σ5 H5 F5 kg S5 s5 k5 e2
        | ct g5 => exact fun σ5 H5 F5 S5 s5 k5 => step g5 σ5 H5 F5 kg S5 s5 k5 e2
        | bk g5 => cases e2; exact fun σ5 H5 F5 S5 s5 k5 => p2 σ5 H5 F5 S5 (x3.ff.trans s5) (k4.trans k5 i1 i2)
        | rt r => cases e2; exact p2
        | ex x => cases e2; exact p2
      · have ei : i = ds.length := by omega
        subst ei
        rw [List.drop_length] at e2
        cases e2
        exact .inl ⟨jo.stop H2 F2 s2 S2.ext.fh hpin, p2 σ2 H2 F2 S2 (Same.refl _) .refl⟩
    · rw [if_neg hall] at e
      cases e
  · unfold sFor at e
    obtain ⟨⟨ps, ds⟩, em, e⟩ := Option.bind_eq_some_iff.mp e
    split at e
    · exact forL_kp hg.kp hb.kp ds g o e
    · cases e
end
end BK
namespace BK
open PySem PySem.Spec L2
set_option autoImplicit false
/-! ### operators on data -/
def LIM : Nat := 16777216
theorem lim_eq : sizeLine = LIM := sizeLine_eq
/-- equal data, to a depth -/
def eqL (f : D → D → Bool) : List D → List D → Bool
  | [], [] => true
  | x :: xs, y :: ys => f x y && eqL f xs ys
  | _, _ => false
def eqn : Nat → D → D → Bool
  | _, .non, .non => true
  | _, .bl a, .bl b => a == b
  | _, .bl a, .int j => (if a then 1 else 0) == j
  | _, .int i, .bl b => i == (if b then 1 else 0)
  | _, .int i, .int j => i == j
  | _, .str x, .str y => x == y
  | n + 1, .lst xs, .lst ys => eqL (eqn n) xs ys
  | n + 1, .tup xs, .tup ys => eqL (eqn n) xs ys
  | _, _, _ => false
/-- data that == reads, to a depth -/
def okn : Nat → D → Bool
  | _, .non => true
  | _, .bl _ => true
  | _, .int _ => true
  | _, .str x => PyData.strOk x
  | n + 1, .lst xs => xs.all (okn n)
  | n + 1, .tup xs => xs.all (okn n)
  | _, _ => false
mutual
def toPy : D → PyData
  | .non => .none
  | .bl b => .bool b
  | .int i => .int i
  | .str x => .str x
  | .lst xs => .list (toPys xs)
  | .tup xs => .tuple (toPys xs)
  | .ins _ _ => .dict []
  | .rol _ => .dict []
  | .dic _ _ => .dict []
  | .exc _ _ => .dict []
  | .opq _ => .dict []
  | .ptp _ => .dict []
def toPys : List D → List PyData
  | [] => []
  | x :: xs => toPy x :: toPys xs
end
theorem okn_lay : ∀ (n : Nat) (d : D), okn n d = true → (toPy d).canLay0 = true ∧ (toPy d).depth ≤ n := by
  intro n
  induction n with
  | zero =>
    intro d h
    cases d <;> simp_all [okn, toPy, PyData.canLay0, PyData.depth]
  | succ n ih =>
    have all : ∀ xs : List D, xs.all (okn n) = true → PyData.canLayAll0 (toPys xs) = true ∧ PyData.depthAll (toPys xs) ≤ n := by
      intro xs
      induction xs with
      | nil => intro _; simp [toPys, PyData.canLayAll0, PyData.depthAll]
      | cons x xs ihx =>
        intro h
        rw [List.all_cons, Bool.and_eq_true] at h
        obtain ⟨h1, h2⟩ := ih x h.1
        obtain ⟨h3, h4⟩ := ihx h.2
        simp only [toPys, PyData.canLayAll0, PyData.depthAll]
        refine ⟨by rw [h1, h3]; rfl, by omega⟩
    intro d h
    cases d with
    | lst xs =>
      obtain ⟨h1, h2⟩ := all xs h
      simp only [toPy, PyData.canLay0, PyData.depth]
      exact ⟨h1, by omega⟩
    | tup xs =>
      obtain ⟨h1, h2⟩ := all xs h
      simp only [toPy, PyData.canLay0, PyData.depth]
      exact ⟨h1, by omega⟩
    | _ => simp_all [okn, toPy, PyData.canLay0, PyData.depth]
theorem okn_shaped {n : Nat} {d : D} (h : okn n d = true) (hn : n ≤ 64) : SeqAt.shaped (toPy d) = true := by
  obtain ⟨h1, h2⟩ := okn_lay n d h
  unfold SeqAt.shaped
  rw [h1, decide_eq_true (by omega)]
  rfl
theorem eqn_py : ∀ (n : Nat) (d e : D), okn n d = true → okn n e = true → PyData.eqv (toPy d) (toPy e) = eqn n d e := by
  intro n
  induction n with
  | zero =>
    intro d e h1 h2
    cases d <;> cases e <;> simp_all [okn, eqn, toPy, PyData.eqv]
  | succ n ih =>
    have all : ∀ xs ys : List D, xs.all (okn n) = true → ys.all (okn n) = true → PyData.eqvAll (toPys xs) (toPys ys) = eqL (eqn n) xs ys := by
      intro xs
      induction xs with
      | nil =>
        intro ys _ _
        cases ys <;> simp [toPys, eqL, PyData.eqvAll]
      | cons x xs ihx =>
        intro ys h1 h2
        cases ys with
        | nil => simp [toPys, eqL, PyData.eqvAll]
        | cons y ys =>
          rw [List.all_cons, Bool.and_eq_true] at h1 h2
          simp only [toPys, eqL, PyData.eqvAll]
          rw [ih x y h1.1 h2.1, ihx ys h1.2 h2.2]
    intro d e h1 h2
    cases d <;> cases e <;> first
      | (simp only [toPy, PyData.eqv, eqn]; exact all _ _ h1 h2)
      | simp_all [okn, eqn, toPy, PyData.eqv]
section
variable {K : PySem.W.Frag} {ca : Nat → Addr} {F H : Hp}
theorem rd_l {a : Addr} {xs : List V} (h : Rd H a (.lst xs)) : SqL K H a xs := .inl h
mutual
theorem Den.dp (s : Same F H) : ∀ (d : D) {v : V}, (toPy d).canLay0 = true → Den K ca F v d → Dp K H v (toPy d)
  | .non, _, _, h => by cases h; exact .non
  | .bl b, _, _, h => by cases h; exact .bl b
  | .int i, _, _, h => by cases h; exact .int i
  | .str x, _, _, h => by cases h; exact .str x
  | .lst xs, _, e, h => by
    cases h with
    | lst h hs => exact .lst (rd_l (.inl (s _ _ h))) (Dens.dp s xs (by simpa [toPy, PyData.canLay0] using e) hs)
  | .tup xs, _, e, h => by
    cases h with
    | tup h hs => exact .tup (Same.seqT s h) (Dens.dp s xs (by simpa [toPy, PyData.canLay0] using e) hs)
  | .ins c fs, _, e, h => by simp [toPy, PyData.canLay0] at e
  | .rol fs, _, e, h => by simp [toPy, PyData.canLay0] at e
  | .dic ks fs, _, e, h => by simp [toPy, PyData.canLay0] at e
  | .exc c fs, _, e, h => by simp [toPy, PyData.canLay0] at e
  | .opq v, _, e, h => by simp [toPy, PyData.canLay0] at e
  | .ptp v, _, e, h => by simp [toPy, PyData.canLay0] at e
theorem Dens.dp (s : Same F H) : ∀ (ds : List D) {vs : List V}, PyData.canLayAll0 (toPys ds) = true → Dens K ca F vs ds → DpAll K H vs (toPys ds)
  | [], _, _, h => by cases h; exact .nil
  | d :: ds, _, e, h => by
    cases h with
    | cons h hs =>
      have e' : (toPy d).canLay0 = true ∧ PyData.canLayAll0 (toPys ds) = true := by simpa [toPys, PyData.canLayAll0] using e
      exact .cons (Den.dp s d e'.1 h) (Dens.dp s ds e'.2 hs)
end
theorem RV.dp {B : BT} {Hs : Hp} {v : V} {r : R} (s : Same F H) (h : RV K ca B Hs F H v r) {n : Nat} (o : okn n r.d = true) : Dp K H v (toPy r.d) := by
  have e := (okn_lay n _ o).1
  cases q : r.d with
  | lst ds =>
    rw [q] at e
    obtain ⟨a, vs, rfl, h1, h2⟩ := RV.lst s h q
    exact .lst (rd_l h1) (Dens.dp s ds (by simpa [toPy, PyData.canLay0] using e) h2)
  | _ => rw [q] at e; exact Den.dp s _ e (RV.den h q rfl)
end
/-! ### numbers -/
def CMulB (i j : Int) : Prop := i.natAbs.log2 + j.natAbs.log2 < 134000000
instance (i j : Int) : Decidable (CMulB i j) := by unfold CMulB; infer_instance
theorem CMulB.ok {i j : Int} (h : CMulB i j) : IntMulOk i j := by
  have b : ∀ x : Int, Builtin.Int.intBits x ≤ x.natAbs.log2 + 1 := fun x => by
    unfold Builtin.Int.intBits
    split <;> omega
  have h1 := b i
  have h2 := b j
  have h3 : i.natAbs.log2 + j.natAbs.log2 < 134000000 := h
  have e : bitsLine = 134217728 := by decide
  unfold IntMulOk
  intro z
  rw [Bool.and_eq_true] at z
  have z2 := z.2
  unfold Builtin.Int.intTooBig at z2
  have z3 := of_decide_eq_true z2
  rw [e] at z3
  omega
def CDivB (i j : Int) : Prop := j ≠ 0 ∧ j.natAbs.log2 < 9000
instance (i j : Int) : Decidable (CDivB i j) := by unfold CDivB; infer_instance
instance (i j : Int) : Decidable (CPow i j) := by unfold CPow; infer_instance
section
variable {X : Cx}
theorem op_mulB : OpR X (binaryOp .Mult) (rI CMulB fun i j => .int (i * j)) := opI fun _ _ _ _ _ _ _ hc q => PyProof.Rows.mul_int q hc.ok
theorem op_fdivB : OpR X (binaryOp .FloorDiv) (rI CDivB fun i j => .int (i.fdiv j)) := opI fun _ _ _ _ _ _ _ hc q => PyProof.Rows.floordiv_int hc.1 q (.inl (PyProof.noPylong_of_log2 hc.2))
/-- list + list, what is read -/
def rCatR : R2 := fun x y H Q => ∃ l b xs zs, x = .ref l ∧ y = .ref b ∧ Rd H l (.lst xs) ∧ Rd H b (.lst zs) ∧ xs.length + zs.length ≤ sizeLine ∧ ∀ p, H p = none → Q (.ref p) (upd H p (.lst (xs ++ zs)))
theorem op_catR : OpR X (binaryOp .Add) rCatR := by
  intro pins s σ H x y v u Q I rx ry h
  obtain ⟨l, b, xs, zs, rfl, rfl, hH, hB, hz, q⟩ := h
  cases rx
  cases ry
  obtain ⟨z, its, n, r, e⟩ := hH.ok I.hok
  obtain ⟨z2, its2, n2, r2, e2⟩ := hB.ok I.hok
  have hl := r.length
  have hl2 := r2.length
  refine PySem.P.add_list e e2 ?_ (by rw [List.size_toArray, List.size_toArray]; omega)
  have ea : its.toArray ++ its2.toArray = (its ++ its2).toArray := by simp
  rw [ea]
  exact ⟨.ref _, _, I.lnew (t' := s.toks) (r.append r2) (by rw [List.length_append]; omega), rfl, q _ I.fresh⟩
end
/-- a result of an operation on numbers -/
def oI (C : Int → Int → Prop) [∀ i j, Decidable (C i j)] (h : Int → Int → D) : R → R → Option R
  | .va (.int i), .va (.int j) => if C i j then some (.va (h i j)) else none
  | _, _ => none
section
variable {K : PySem.W.Frag} {ca : Nat → Addr}
theorem od_I {C : Int → Int → Prop} [∀ i j, Decidable (C i j)] {h : Int → Int → D} {g : Int → Int → V} (hg : ∀ F i j, Den K ca F (g i j) (h i j)) : OpD K ca (rI C g) (oI C h) := by
  intro B H0 F H v w x y z Q s rx ry e q
  unfold oI at e
  split at e
  · split at e
    · rename_i i j hc
      cases e
      cases rx
      cases ry
      exact ⟨i, j, rfl, rfl, hc, q _ H F (.refl s) (hg F i j)⟩
    · cases e
  · cases e
theorem od_I0 {h : Int → Int → D} {g : Int → Int → V} (hg : ∀ F i j, Den K ca F (g i j) (h i j)) : OpD K ca (rI0 g) (oI (fun _ _ => True) h) := by
  intro B H0 F H v w x y z Q s rx ry e q
  unfold oI at e
  split at e
  · rename_i i j
    rw [if_pos trivial] at e
    cases e
    cases rx
    cases ry
    exact ⟨i, j, rfl, rfl, q _ H F (.refl s) (hg F i j)⟩
  · cases e
def uI (h : Int → D) : R → Option R
  | .va (.int i) => some (.va (h i))
  | _ => none
theorem ud_I {h : Int → D} {g : Int → V} (hg : ∀ F i, Den K ca F (g i) (h i)) : UnD K ca (rU g) (uI h) := by
  intro B H0 F H v x z Q s rx e q
  unfold uI at e
  split at e
  · rename_i i
    cases e
    cases rx
    exact ⟨i, rfl, q _ H F (.refl s) (hg F i)⟩
  · cases e
end
/-- + -/
def oAdd : R → R → Option R := fun a b => match a.d, b.d with
  | .int i, .int j => some (.va (.int (i + j)))
  | .str x, .str y => if x.length + y.length ≤ LIM then some (.va (.str (x ++ y))) else none
  | .lst xs, .lst ys => if xs.length + ys.length ≤ LIM then some (.tm (xs ++ ys)) else none
  | .tup xs, .tup ys => if xs.length + ys.length ≤ LIM then some (.va (.tup (xs ++ ys))) else none
  | _, _ => none
def rAddA (K : PySem.W.Frag) : R2 := fun x y H Q => rI0 (fun i j => .int (i + j)) x y H Q ∨ (∃ i j, x = .str i ∧ y = .str j ∧ i.length + j.length ≤ sizeLine ∧ Q (.str (i ++ j)) H) ∨ rCatR x y H Q ∨ rCatA K x y H Q
theorem op_addA {X : Cx} : OpR X (binaryOp .Add) (rAddA X.K) := op_add.or (op_add_str.or (op_catR.or op_catA))
theorem od_add {K : PySem.W.Frag} {ca : Nat → Addr} : OpD K ca (rAddA K) oAdd := by
  intro B H0 F H v w x y z Q s rx ry e q
  unfold oAdd at e
  split at e
  · rename_i i j h1 h2
    cases e
    cases RV.den rx h1 rfl
    cases RV.den ry h2 rfl
    exact .inl ⟨i, j, rfl, rfl, q _ H F (.refl s) (.int _)⟩
  · rename_i i j h1 h2
    split at e
    · rename_i hl
      cases e
      cases RV.den rx h1 rfl
      cases RV.den ry h2 rfl
      exact .inr (.inl ⟨i, j, rfl, rfl, by rw [lim_eq]; exact hl, q _ H F (.refl s) (.str _)⟩)
    · cases e
  · rename_i xs ys h1 h2
    split at e
    · rename_i hl
      cases e
      obtain ⟨a, vs, rfl, r1, d1⟩ := RV.lst s rx h1
      obtain ⟨b, ws, rfl, r2, d2⟩ := RV.lst s ry h2
      refine .inr (.inr (.inl ⟨a, b, vs, ws, rfl, rfl, r1, r2, by rw [lim_eq, d1.length, d2.length]; exact hl, fun p hp => ?_⟩))
      exact q _ _ F (.newO s _ hp) ⟨p, _, rfl, noT_none hp, s.free hp, upd_same, d1.append d2⟩
    · cases e
  · rename_i xs ys h1 h2
    split at e
    · rename_i hl
      cases e
      cases RV.den rx h1 rfl with
      | tup t1 d1 =>
        cases RV.den ry h2 rfl with
        | tup t2 d2 =>
          refine .inr (.inr (.inr ⟨_, _, _, _, rfl, rfl, Same.seqT s t1, Same.seqT s t2, by rw [lim_eq, d1.length, d2.length]; exact hl, fun z => ?_, fun z1 z2 => ?_, fun _ _ p hp => ?_⟩))
          · subst z
            cases d1
            exact q _ H F (.refl s) (.tup t2 d2)
          · subst z2
            cases d2
            exact q _ H F (.refl s) (by rw [List.append_nil]; exact .tup t1 d1)
          · exact q _ _ _ (.new s (.tup _) hp) (.tup (SqT.of upd_same) ((d1.append d2).mono (same_upd (s.free hp))))
    · cases e
  · cases e
/-- * -/
def strRep (x : Str) (n : Int) : Str := ⟨((List.replicate n.toNat x.cps.toList).flatten).toArray⟩
theorem foldl_repA (x : Array Nat) : ∀ (k : Nat) (acc : List Nat), (List.replicate k x).foldl (· ++ ·) acc.toArray = (acc ++ (List.replicate k x.toList).flatten).toArray
  | 0, acc => by simp
  | k + 1, acc => by
    rw [List.replicate_succ, List.foldl_cons]
    have e : acc.toArray ++ x = (acc ++ x.toList).toArray := by simp
    rw [e, foldl_repA x k]
    simp [List.replicate_succ]
theorem strRep_len (x : Str) (n : Int) : (strRep x n).length = x.length * n.toNat := by
  show ((List.replicate n.toNat x.cps.toList).flatten).toArray.size = x.cps.size * n.toNat
  rw [List.size_toArray, PyProof.Rows.lm_len_rep_flat, Array.length_toList, Nat.mul_comm]
def rMulS : R2 := fun x y H Q => ∃ z n, x = .str z ∧ y = .int n ∧ -(2 ^ 63) ≤ n ∧ n < 2 ^ 63 ∧ z.length * n.toNat ≤ sizeLine ∧ Q (.str (strRep z n)) H
theorem op_mulS {X : Cx} : OpR X (binaryOp .Mult) rMulS := by
  intro pins s σ H x y v u Q I rx ry h
  obtain ⟨z, n, rfl, rfl, h1, h2, hz, q⟩ := h
  obtain ⟨t, rfl⟩ := rx
  obtain ⟨t', rfl⟩ := ry
  have hs : sizeLine = 16777216 := sizeLine_eq
  refine PySem.P.mul_str (by rw [decide_eq_false (by omega), decide_eq_false (by omega)]; rfl) (fun a b => ?_) (fun a b => ?_) ?_
  · rw [Bool.or_eq_false_iff] at b
    have n1 : 1 ≤ n := by omega
    intro c
    have hz' : (z.length : Int) * n ≤ 16777216 := by
      have : ((z.length * n.toNat : Nat) : Int) ≤ 16777216 := by omega
      rw [Int.natCast_mul, Int.toNat_of_nonneg (by omega)] at this
      exact this
    have c2 : (z.length : Int) * n > 2 ^ 63 - 1 := Int.lt_of_lt_of_le (Int.lt_mul_of_ediv_lt (by omega) c) (Int.le_refl _)
    omega
  · show decide (z.length * n.toNat > sizeLine) = false
    exact decide_eq_false (by omega)
  · by_cases a : n < 1
    · rw [if_pos a]
      have e : strRep z n = Str.empty := by
        unfold strRep
        rw [show n.toNat = 0 by omega]
        rfl
      refine ⟨by decide, ?_⟩
      exact ⟨.str _, H, I.tok _, ⟨_, rfl⟩, by rw [← e]; exact q⟩
    · rw [if_neg a]
      by_cases b : (n == 1 || z.length == 0) = true
      · rw [if_pos b]
        have e : strRep z n = z := by
          rw [Bool.or_eq_true, beq_iff_eq, beq_iff_eq] at b
          unfold strRep
          rcases b with b | b
          · subst b
            simp
          · have : z.cps = #[] := Array.eq_empty_of_size_eq_zero b
            obtain ⟨c⟩ := z
            simp only at this
            subst this
            simp
        exact ⟨.str _, H, I, ⟨_, rfl⟩, by rw [← e]; exact q⟩
      · rw [if_neg b]
        have e : (⟨(List.replicate n.toNat z.cps).foldl (· ++ ·) #[]⟩ : Str) = strRep z n := by
          have := foldl_repA z.cps n.toNat []
          unfold strRep
          rw [show (#[] : Array Nat) = ([] : List Nat).toArray from rfl, this, List.nil_append]
        rw [e]
        refine ⟨?_, ?_⟩
        · rw [strRep_len]; exact hz
        · exact ⟨.str _, H, I.tok _, ⟨_, rfl⟩, q⟩
def oMul : R → R → Option R := fun a b => match a.d, b.d with
  | .int i, .int j => if CMulB i j then some (.va (.int (i * j))) else none
  | .str x, .int n => if -(2 ^ 63) ≤ n ∧ n < 2 ^ 63 ∧ x.length * n.toNat ≤ LIM then some (.va (.str (strRep x n))) else none
  | .lst xs, .int n => if -(2 ^ 63) ≤ n ∧ n < 2 ^ 63 ∧ xs.length * n.toNat ≤ LIM then some (.tm (List.replicate n.toNat xs).flatten) else none
  | _, _ => none
def rMulA : R2 := fun x y H Q => rI CMulB (fun i j => .int (i * j)) x y H Q ∨ rMulS x y H Q ∨ rRep x y H Q
theorem op_mulA {X : Cx} : OpR X (binaryOp .Mult) rMulA := op_mulB.or (op_mulS.or op_rep)
theorem Dens.rep {K : PySem.W.Frag} {ca : Nat → Addr} {F : Hp} {vs : List V} {ds : List D} (h : Dens K ca F vs ds) : ∀ k : Nat, Dens K ca F (List.replicate k vs).flatten (List.replicate k ds).flatten
  | 0 => .nil
  | k + 1 => by
    rw [List.replicate_succ, List.replicate_succ, List.flatten_cons, List.flatten_cons]
    exact h.append (h.rep k)
/-- a list that a temporary or an own one is: it can be written -/
def R.wr : R → Bool
  | .va _ => false
  | _ => true
theorem RV.wrt {K : PySem.W.Frag} {ca : Nat → Addr} {B : BT} {H F' H' : Hp} {v : V} {r : R} {ds : List D} (h : RV K ca B H F' H' v r) (e : r.d = .lst ds) (w : r.wr = true) : ∃ a vs, v = .ref a ∧ H' a = some (.lst vs) ∧ Dens K ca F' vs ds := by
  cases r with
  | va d => cases w
  | tm es =>
    obtain rfl : es = ds := by injection e
    obtain ⟨a, vs, rfl, _, _, h3, h4⟩ := h
    exact ⟨a, vs, rfl, h3, h4⟩
  | bw j es =>
    obtain rfl : es = ds := by injection e
    obtain ⟨a, vs, rfl, _, _, h3, h4⟩ := h
    exact ⟨a, vs, rfl, h3, h4⟩
/-- * of a written list -/
def oMulA : R → R → Option R := fun a b => match a.d with
  | .lst _ => if a.wr = true then oMul a b else none
  | _ => oMul a b
theorem od_mul {K : PySem.W.Frag} {ca : Nat → Addr} : OpD K ca rMulA oMulA := by
  intro B H0 F H v w x y z Q s rx ry e q
  have e' : oMul x y = some z ∧ (∀ xs, x.d = .lst xs → x.wr = true) := by
    unfold oMulA at e
    split at e
    · split at e
      · exact ⟨e, fun _ _ => by assumption⟩
      · cases e
    · rename_i h
      exact ⟨e, fun xs z => absurd z (h xs)⟩
  obtain ⟨e, hw⟩ := e'
  unfold oMul at e
  split at e
  · rename_i i j h1 h2
    split at e
    · rename_i hc
      cases e
      cases RV.den rx h1 rfl
      cases RV.den ry h2 rfl
      exact .inl ⟨i, j, rfl, rfl, hc, q _ H F (.refl s) (.int _)⟩
    · cases e
  · rename_i i j h1 h2
    split at e
    · rename_i hc
      cases e
      cases RV.den rx h1 rfl
      cases RV.den ry h2 rfl
      exact .inr (.inl ⟨i, j, rfl, rfl, hc.1, hc.2.1, by rw [lim_eq]; exact hc.2.2, q _ H F (.refl s) (.str _)⟩)
    · cases e
  · rename_i xs j h1 h2
    split at e
    · rename_i hc
      cases e
      obtain ⟨a, vs, rfl, r1, d1⟩ := RV.wrt rx h1 (hw _ h1)
      cases RV.den ry h2 rfl
      refine .inr (.inr ⟨a, j, vs, rfl, rfl, r1, hc.1, hc.2.1, by rw [lim_eq, d1.length]; exact hc.2.2, fun p hp => ?_⟩)
      exact q _ _ F (.newO s _ hp) ⟨p, _, rfl, noT_none hp, s.free hp, upd_same, d1.rep _⟩
    · cases e
  · cases e
/-! ### comparisons -/
def oCmp (p : Int → Int → Bool) : R → R → Option R := oI (fun _ _ => True) fun i j => .bl (p i j)
section
variable {K : PySem.W.Frag} {ca : Nat → Addr}
theorem od_cmp {p : Int → Int → Bool} : OpD K ca (rI0 fun i j => .bl (p i j)) (oCmp p) := od_I0 fun _ _ _ => .bl _
def oLt := oCmp fun i j => decide (i < j)
def oLe := oCmp fun i j => decide (i ≤ j)
def oGt := oCmp fun i j => decide (j < i)
def eqR (a b : R) : Option Bool := match a.d, b.d with
  | .str x, .str y => some (decide (x = y))
  | d, e => if (okn 8 d && okn 8 e) = true then some (eqn 8 d e) else none
def oEq : R → R → Option R := fun a b => (eqR a b).map fun k => .va (.bl k)
def oNe : R → R → Option R := fun a b => (eqR a b).map fun k => .va (.bl (!k))
def rEqA (K : PySem.W.Frag) : R2 := fun x y H Q => rEq x y H Q ∨ rEqD K x y H Q
def rNeA (K : PySem.W.Frag) : R2 := fun x y H Q => rNe x y H Q ∨ rNeD K x y H Q
theorem op_eqA {X : Cx} (hu : X.A.units + 64 < cLine) : OpR X (compareOp .Eq) (rEqA X.K) := op_eq.or (op_eqD hu)
theorem op_neA {X : Cx} (hu : X.A.units + 64 < cLine) : OpR X (compareOp .NotEq) (rNeA X.K) := op_ne.or (op_neD hu)
theorem eqR_cases {B : BT} {Hs F H : Hp} {v w : V} {x y : R} {k : Bool} (s : Same F H) (rx : RV K ca B Hs F H v x) (ry : RV K ca B Hs F H w y) (e : eqR x y = some k) :
    (scal v w = true ∧ k = decide (v = w)) ∨ ∃ d f, Dp K H v d ∧ Dp K H w f ∧ SeqAt.shaped d = true ∧ SeqAt.shaped f = true ∧ k = PyData.eqv d f := by
  unfold eqR at e
  split at e
  · rename_i a b h1 h2
    cases e
    cases RV.den rx h1 rfl
    cases RV.den ry h2 rfl
    refine .inl ⟨rfl, ?_⟩
    by_cases h : a = b
    · subst h; simp
    · rw [decide_eq_false h, decide_eq_false (fun z => h (V.str.inj z))]
  · split at e
    · rename_i h
      cases e
      rw [Bool.and_eq_true] at h
      exact .inr ⟨_, _, RV.dp s rx h.1, RV.dp s ry h.2, okn_shaped h.1 (by decide), okn_shaped h.2 (by decide), (eqn_py 8 _ _ h.1 h.2).symm⟩
    · cases e
theorem od_eq : OpD K ca (rEqA K) oEq := by
  intro B H0 F H v w x y z Q s rx ry e q
  unfold oEq at e
  obtain ⟨k, ek, rfl⟩ := Option.map_eq_some_iff.mp e
  rcases eqR_cases s rx ry ek with ⟨h1, h2⟩ | ⟨d, f, h1, h2, h3, h4, h5⟩
  · exact .inl ⟨h1, by rw [← h2]; exact q _ H F (.refl s) (.bl _)⟩
  · exact .inr ⟨d, f, h1, h2, h3, h4, by rw [← h5]; exact q _ H F (.refl s) (.bl _)⟩
theorem od_ne : OpD K ca (rNeA K) oNe := by
  intro B H0 F H v w x y z Q s rx ry e q
  unfold oNe at e
  obtain ⟨k, ek, rfl⟩ := Option.map_eq_some_iff.mp e
  rcases eqR_cases s rx ry ek with ⟨h1, h2⟩ | ⟨d, f, h1, h2, h3, h4, h5⟩
  · exact .inl ⟨h1, by rw [← h2]; exact q _ H F (.refl s) (.bl _)⟩
  · exact .inr ⟨d, f, h1, h2, h3, h4, by rw [← h5]; exact q _ H F (.refl s) (.bl _)⟩
/-- is None -/
def D.isNon : D → Bool
  | .non => true
  | _ => false
theorem RV.non_iff {B : BT} {Hs F H : Hp} {v : V} {x : R} (rx : RV K ca B Hs F H v x) : decide (v = .non) = x.d.isNon := by
  cases x with
  | va d => cases rx <;> rfl
  | tm ds => obtain ⟨a, vs, rfl, _⟩ := rx; rfl
  | bw j ds => obtain ⟨a, vs, rfl, _⟩ := rx; rfl
def D.isBl (k : Bool) : D → Bool
  | .bl b => b == k
  | _ => false
theorem RV.bl_iff {B : BT} {Hs F H : Hp} {v : V} {x : R} {k : Bool} (rx : RV K ca B Hs F H v x) : decide (v = .bl k) = x.d.isBl k := by
  cases x with
  | va d => cases rx <;> first
    | rfl
    | (rename_i b; cases b <;> cases k <;> rfl)
  | tm ds => obtain ⟨a, vs, rfl, _⟩ := rx; rfl
  | bw j ds => obtain ⟨a, vs, rfl, _⟩ := rx; rfl
/-- is None, is True, is False -/
def rIsP : R2 := fun x y H Q => (y = .non ∨ ∃ b, y = .bl b) ∧ Q (.bl (decide (x = y))) H
theorem op_isP {X : Cx} : OpR X (compareOp .Is) rIsP := by
  rintro pins s σ H x y v u Q I rx ry ⟨hy, q⟩
  rcases hy with rfl | ⟨b, rfl⟩
  · exact op_isN pins s σ H x _ v u Q I rx ry ⟨rfl, q⟩
  · have eu : u = Value.bool b := ry
    subst eu
    cases x with
    | non =>
      have ev : v = Value.none := rx
      subst ev
      exact wpAny_is_plain rfl (fin_bl I q rfl)
    | bl c =>
      have ev : v = Value.bool c := rx
      subst ev
      exact wpAny_is_plain rfl (fin_bl I q (by cases c <;> cases b <;> rfl))
    | int i =>
      obtain ⟨t, rfl⟩ := rx
      exact wpAny_is_plain rfl (fin_bl I q rfl)
    | str z =>
      obtain ⟨t, rfl⟩ := rx
      exact wpAny_is_plain rfl (fin_bl I q rfl)
    | byt z =>
      obtain ⟨t, rfl⟩ := rx
      exact wpAny_is_plain rfl (fin_bl I q rfl)
    | flt z =>
      obtain ⟨t, rfl⟩ := rx
      exact wpAny_is_plain rfl (fin_bl I q rfl)
    | ref a =>
      have ev : v = Value.ref a := rx
      subst ev
      exact wpAny_is_plain rfl (fin_bl I q rfl)
    | ty n =>
      have ev : v = Value.type n := rx
      subst ev
      exact wpAny_is_plain rfl (fin_bl I q rfl)
def oIs : R → R → Option R := fun a b => match b with
  | .va .non => some (.va (.bl a.d.isNon))
  | .va (.bl k) => some (.va (.bl (a.d.isBl k)))
  | _ => none
def oIsN : R → R → Option R := fun a b => match b with
  | .va .non => some (.va (.bl (!a.d.isNon)))
  | _ => none
theorem od_is : OpD K ca rIsP oIs := by
  intro B H0 F H v w x y z Q s rx ry e q
  unfold oIs at e
  split at e
  · cases e
    cases ry
    exact ⟨.inl rfl, by rw [RV.non_iff rx]; exact q _ H F (.refl s) (.bl _)⟩
  · cases e
    cases ry
    exact ⟨.inr ⟨_, rfl⟩, by rw [RV.bl_iff rx]; exact q _ H F (.refl s) (.bl _)⟩
  · cases e
theorem od_isn : OpD K ca (fun x y H Q => y = .non ∧ Q (.bl (!decide (x = .non))) H) oIsN := by
  intro B H0 F H v w x y z Q s rx ry e q
  unfold oIsN at e
  split at e
  · cases e
    cases ry
    exact ⟨rfl, by rw [RV.non_iff rx]; exact q _ H F (.refl s) (.bl _)⟩
  · cases e
end
end BK
namespace BK
open PySem PySem.Spec L2
set_option autoImplicit false
/-! ### items, slices, displays -/
def oIx : R → R → Option R := fun a b => match a.d, b.d with
  | .lst xs, .int i => (atI xs i).map .va
  | .tup xs, .int i => (atI xs i).map .va
  | .rol xs, .int i => (atI xs i).map .va
  | .str z, .int i => if z.length ≤ LIM then (atI z.cps.toList i).map fun c => .va (.str ⟨#[c]⟩) else none
  | _, _ => none
section
variable {K : PySem.W.Frag} {ca : Nat → Addr}
theorem atI_den {F : Hp} {vs : List V} {ds : List D} (h : Dens K ca F vs ds) {i : Int} {d : D} (e : atI ds i = some d) : ∃ v, atI vs i = some v ∧ Den K ca F v d := by
  unfold atI at e ⊢
  rw [h.length]
  obtain ⟨j, e1, e2⟩ := Option.bind_eq_some_iff.mp e
  obtain ⟨v, e3, e4⟩ := h.getV e2
  exact ⟨v, by rw [e1]; exact e3, e4⟩
theorem od_ix : OpD K ca (rIx K) oIx := by
  intro B H0 F H v w x y z Q s rx ry e q
  unfold oIx at e
  split at e
  · rename_i xs i h1 h2
    obtain ⟨d, ed, rfl⟩ := Option.map_eq_some_iff.mp e
    obtain ⟨a, vs, rfl, r1, d1⟩ := RV.lst s rx h1
    cases RV.den ry h2 rfl
    obtain ⟨u, e1, e2⟩ := atI_den d1 ed
    exact .inl ⟨a, vs, i, u, rfl, rfl, rd_l r1, e1, q _ H F (.refl s) e2⟩
  · rename_i xs i h1 h2
    obtain ⟨d, ed, rfl⟩ := Option.map_eq_some_iff.mp e
    cases RV.den rx h1 rfl with
    | tup t1 d1 =>
      cases RV.den ry h2 rfl
      obtain ⟨u, e1, e2⟩ := atI_den d1 ed
      exact .inr (.inl ⟨_, _, i, u, rfl, rfl, Same.seqT s t1, e1, q _ H F (.refl s) e2⟩)
  · rename_i xs i h1 h2
    obtain ⟨d, ed, rfl⟩ := Option.map_eq_some_iff.mp e
    cases RV.den rx h1 rfl with
    | rol t1 d1 =>
      cases RV.den ry h2 rfl
      obtain ⟨u, e1, e2⟩ := atI_den d1 ed
      exact .inl ⟨_, _, i, u, rfl, rfl, s.seq t1, e1, q _ H F (.refl s) e2⟩
  · rename_i zz i h1 h2
    split at e
    · rename_i hl
      obtain ⟨c, ed, rfl⟩ := Option.map_eq_some_iff.mp e
      cases RV.den rx h1 rfl
      cases RV.den ry h2 rfl
      exact .inr (.inr ⟨zz, i, c, rfl, rfl, by rw [lim_eq]; exact hl, ed, q _ H F (.refl s) (.str _)⟩)
    · cases e
  · cases e
/-- the items of xs[lo:hi] -/
def cutL {α : Type} (xs : List α) (lo hi : Option Int) : List α := (xs.drop (HT.sIx xs.length 0 lo)).take (HT.sIx xs.length xs.length hi - HT.sIx xs.length 0 lo)
theorem Dens.cut {F : Hp} {vs : List V} {ds : List D} (h : Dens K ca F vs ds) (lo hi : Option Int) : Dens K ca F (cutV vs lo hi) (cutL ds lo hi) := by
  unfold cutV cutL
  rw [h.length]
  exact (h.drop _).take _
def tOV (K : PySem.W.Frag) (ca : Nat → Addr) (m : Gm → Option (Option Int)) : TO := fun σ H Q => ∃ H0 F0 F Γ o, SR K ca H0 F0 σ H F Γ ∧ m Γ = some o ∧ ∀ H' F', Ext ca H F H' F' → Q o H'
def pN : Gm → Option (Option Int) := fun _ => some none
def pS (m : Gm → Option R) : Gm → Option (Option Int) := fun g => (m g).bind fun r => match r with
  | .va (.int i) => some (some i)
  | _ => none
def oSl (a : R) (lo hi : Option Int) : Option R := match a.d with
  | .lst xs => some (.tm (cutL xs lo hi))
  | .tup xs => some (.va (.tup (cutL xs lo hi)))
  | .rol xs => some (.tm (cutL xs lo hi))
  | .str z => if z.length ≤ LIM then some (.va (.str (cutS z lo hi))) else none
  | _ => none
def eSl (m : Gm → Option R) (l h : Gm → Option (Option Int)) : Gm → Option R := fun g => (m g).bind fun a => (l g).bind fun lo => (h g).bind fun hi => oSl a lo hi
def rSlAll (K : PySem.W.Frag) : V → Option Int → Option Int → Hp → VK → Prop := fun x lo hi H Q => rSlL K x lo hi H Q ∨ rSlA K x lo hi H Q ∨ rSlS x lo hi H Q
end
section
variable {X : Cx} {ca : Nat → Addr} {a b e : Expr} {es : List Expr} {m n : Gm → Option R} {ms : Gm → Option (List R)} {pos p : Pos}
abbrev OV (X : Cx) (ca : Nat → Addr) (e : Option Expr) (m : Gm → Option (Option Int)) : Prop := PO X e (tOV X.K ca m)
theorem po_imp {e : Option Expr} {t t' : TO} (h : PO X e t) (i : ∀ σ H Q, t' σ H Q → t σ H Q) : PO X e t' := ⟨fun pins s σ H Q I q => h.run pins s σ H Q I (i σ H Q q)⟩
theorem ov_some (h : EV X ca e m) : OV X ca (some e) (pS m) := by
  refine po_imp (po_some h) ?_
  rintro σ H Q ⟨H0, F0, F, Γ, o, S, e, q⟩
  unfold pS at e
  obtain ⟨r, er, e⟩ := Option.bind_eq_some_iff.mp e
  split at e
  · cases e
    refine ⟨H0, F0, F, Γ, _, S, er, fun v H' F' x h => ?_⟩
    cases h
    exact ⟨_, rfl, q H' F' x⟩
  · cases e
theorem sl_all : SlR X (rSlAll X.K) := sl_list.or (sl_tupA.or sl_str)
theorem ev_slice {l h : Option Expr} {ml mh : Gm → Option (Option Int)} {p2 : Pos} (he : EV X ca e m) (hl : OV X ca l ml) (hh : OV X ca h mh) : EV X ca (.Subscript e (.Slice l h none p2) pos) (eSl m ml mh) := by
  refine pe_imp (pe_slice sl_all he hl hh) ?_
  rintro σ H Q ⟨H0, F0, F, Γ, z, S, e, q⟩
  unfold eSl at e
  obtain ⟨r, er, e⟩ := Option.bind_eq_some_iff.mp e
  obtain ⟨lo, el, e⟩ := Option.bind_eq_some_iff.mp e
  obtain ⟨hi, eh, e⟩ := Option.bind_eq_some_iff.mp e
  refine ⟨H0, F0, F, Γ, r, S, er, fun v H1 F1 x1 r1 => ⟨H0, F0, F1, Γ, lo, S.mono x1, el, fun H2 F2 x2 => ⟨H0, F0, F2, Γ, hi, (S.mono x1).mono x2, eh, fun H3 F3 x3 => ?_⟩⟩⟩
  have x13 := x2.trans x3
  have x03 := x1.trans x13
  have s3 := x3.fh
  have r3 := r1.mono x13
  unfold oSl at e
  split at e
  · rename_i xs h1
    cases e
    obtain ⟨a, vs, rfl, g1, d1⟩ := RV.lst s3 r3 h1
    refine .inl ⟨a, vs, rfl, rd_l g1, fun p hp => ?_⟩
    exact q _ _ F3 (x03.trans (.newO s3 _ hp)) ⟨p, _, rfl, x03.hh.free (noT_none hp), s3.free hp, upd_same, d1.cut lo hi⟩
  · rename_i xs h1
    cases e
    cases RV.den r3 h1 rfl with
    | tup t1 d1 =>
      refine .inr (.inl ⟨_, _, rfl, Same.seqT s3 t1, fun w => ?_, fun _ p hp => ?_⟩)
      · refine q _ H3 F3 x03 ?_
        have : cutL xs lo hi = xs := by
          unfold cutL
          rw [d1.length] at w
          rw [w.1, w.2]
          simp
        rw [this]
        exact .tup t1 d1
      · exact q _ _ _ (x03.trans (.new s3 (.tup _) hp)) (.tup (SqT.of upd_same) ((d1.cut lo hi).mono (same_upd (s3.free hp))))
  · rename_i xs h1
    cases e
    cases RV.den r3 h1 rfl with
    | rol t1 d1 =>
      refine .inl ⟨_, _, rfl, s3.seq t1, fun p hp => ?_⟩
      exact q _ _ F3 (x03.trans (.newO s3 _ hp)) ⟨p, _, rfl, x03.hh.free (noT_none hp), s3.free hp, upd_same, d1.cut lo hi⟩
  · rename_i zz h1
    split at e
    · rename_i hl
      cases e
      cases RV.den r3 h1 rfl
      exact .inr (.inr ⟨zz, rfl, by rw [lim_eq]; exact hl, q _ H3 F3 x03 (.str _)⟩)
    · cases e
  · cases e
theorem RVs.den {K : PySem.W.Frag} {B : BT} {Hs F H : Hp} : ∀ {vs : List V} {rs : List R}, RVs K ca B Hs F H vs rs → (rs.all fun r => !r.wr) = true → Dens K ca F vs (rs.map R.d)
  | _, _, .nil, _ => .nil
  | _, _, .cons (b := r) h hs, o => by
    rw [List.all_cons, Bool.and_eq_true] at o
    cases r with
    | va d => exact .cons h (RVs.den hs o.2)
    | tm ds => exact absurd o.1 (by simp [R.wr])
    | bw j ds => exact absurd o.1 (by simp [R.wr])
theorem RVs.length {K : PySem.W.Frag} {B : BT} {Hs F H : Hp} {vs : List V} {rs : List R} (h : RVs K ca B Hs F H vs rs) : vs.length = rs.length := Paired.length h
/-- displays -/
def oTup (rs : List R) : Option R := if (rs.all (fun r => !r.wr) && decide (rs.length ≤ LIM)) = true then some (.va (.tup (rs.map R.d))) else none
def oLst (rs : List R) : Option R := if (rs.all (fun r => !r.wr) && decide (rs.length ≤ LIM)) = true then some (.tm (rs.map R.d)) else none
theorem ev_tup {x1 : Nat} (h : AV X ca es ms) : EV X ca (.Tuple es x1 pos) (eA oTup ms) := by
  refine pe_imp (pe_tup h) ?_
  rintro σ H Q ⟨H0, F0, F, Γ, z, S, e, q⟩
  unfold eA at e
  obtain ⟨rs, er, e⟩ := Option.bind_eq_some_iff.mp e
  refine ⟨H0, F0, F, Γ, rs, S, er, fun vs H1 F1 x1 r1 => ?_⟩
  unfold oTup at e
  split at e
  · rename_i h
    cases e
    rw [Bool.and_eq_true, decide_eq_true_eq] at h
    refine ⟨by rw [lim_eq, RVs.length r1]; exact h.2, fun p hp => ?_⟩
    exact q _ _ _ (x1.trans (.new x1.fh (.tup _) hp)) (.tup (SqT.of upd_same) ((RVs.den r1 h.1).mono (same_upd (x1.fh.free hp))))
  · cases e
theorem ev_lst (h : AV X ca es ms) : EV X ca (.List es pos) (eA oLst ms) := by
  refine pe_imp (pe_lst h) ?_
  rintro σ H Q ⟨H0, F0, F, Γ, z, S, e, q⟩
  unfold eA at e
  obtain ⟨rs, er, e⟩ := Option.bind_eq_some_iff.mp e
  refine ⟨H0, F0, F, Γ, rs, S, er, fun vs H1 F1 x1 r1 => ?_⟩
  unfold oLst at e
  split at e
  · rename_i h
    cases e
    rw [Bool.and_eq_true, decide_eq_true_eq] at h
    refine ⟨by rw [lim_eq, RVs.length r1]; exact h.2, fun p hp => ?_⟩
    exact q _ _ F1 (x1.trans (.newO x1.fh _ hp)) ⟨p, _, rfl, x1.hh.free (noT_none hp), x1.fh.free hp, upd_same, RVs.den r1 h.1⟩
  · cases e
/-- own lists grow: x.append(e) -/
def sApp (i : Nat) (m : Gm → Option R) : Gm → Option Out := fun g => match g[i]? with
  | some (.ow ds) => (m g).bind fun r => if (!r.isBw && decide (ds.length < LIM)) = true then some (.nx (g.set i (.ow (ds ++ [r.d])))) else none
  | _ => none
theorem sv_app {i : Nat} {x : Str} {pos p1 p2 p3 : Pos} (hx : PE X (.Name x p1) (tVar i)) (he : EV X ca e m) (hs1 : starEach [e] X.env = (false, eval e X.env) :: starEach [] X.env := by rfl)
    (h : PE X (.Call (.Attribute (.Name x p1) "append" p2) [e] [] p3) (tBM X.K "list" rAppend (tVar i) (tCons (tEV X.K ca m) tNil)))
    (hs : swapsWith (.Call (.Attribute (.Name x p1) "append" p2) [e] [] p3) none pos.line X.env = pure false := by rfl) : SV X ca (.Expr (.Call (.Attribute (.Name x p1) "append" p2) [e] [] p3) pos) (sApp i m) [i] := by
  refine ⟨ps_imp (ps_expr h hs) ?_, fun g o e => ?_⟩
  · rintro D σ H ⟨H0, F0, F, Γ, o, S, e, p⟩
    unfold sApp at e
    split at e
    · rename_i ds hg
      obtain ⟨r, er, e⟩ := Option.bind_eq_some_iff.mp e
      split at e
      · rename_i hc
        cases e
        rw [Bool.and_eq_true, decide_eq_true_eq] at hc
        obtain ⟨a, vs, s, h1, h2, h3, h4⟩ := S.ow i ds hg
        refine ⟨_, s, .inl ⟨rfl, vs, SqL.of h3⟩, H0, F0, F, Γ, r, S, er, fun v H1 F1 x1 r1 => ?_⟩
        obtain ⟨F2, x2, s2, d2⟩ := RV.froze x1 r1 (by simpa using hc.1)
        refine ⟨a, vs, v, rfl, rfl, x2.hh.l h3, by rw [lim_eq, h4.length]; exact hc.2, ?_⟩
        have S2 := S.mono x2
        exact p σ _ F2 (S2.upd hg s ((h4.mono x2.ff).append (.one d2))) x2.ff .refl
      · cases e
    · cases e
  · unfold sApp at e
    split at e
    · obtain ⟨r, er, e⟩ := Option.bind_eq_some_iff.mp e
      split at e
      · cases e
        exact kpg_set
      · cases e
    · cases e
/-- an own list is frozen, at no cost: ahead of a statement -/
def sFz (i : Nat) (m : Gm → Option Out) : Gm → Option Out := fun g => match g[i]? with
  | some (.ow ds) => m (g.set i (.va (.lst ds)))
  | _ => m g
theorem sv_fz {i : Nat} {st : Stmt} {m : Gm → Option Out} {T : List Nat} (h : SV X ca st m T) : SV X ca st (sFz i m) (i :: T) := by
  have i2 : ∀ j ∈ T, j ∈ i :: T := fun j h => List.mem_cons_of_mem _ h
  refine ⟨ps_imp h.ps ?_, fun g o e => ?_⟩
  · rintro D σ H ⟨H0, F0, F, Γ, o, S, e, p⟩
    unfold sFz at e
    split at e
    · rename_i ds hg
      obtain ⟨F', sf, S'⟩ := S.frz hg
      exact ⟨H0, F0, F', _, o, S', e, PostO.mono (T := []) sf .refl (fun _ z => nomatch z) i2 p⟩
    · exact ⟨H0, F0, F, Γ, o, S, e, PostO.mono (T := []) (Same.refl _) .refl (fun _ z => nomatch z) i2 p⟩
  · unfold sFz at e
    split at e
    · exact KpG.after (g' := g.set i _) (T := [i]) kpg_set (h.kp _ _ e) (by simp) i2
    · exact (h.kp _ _ e).mono i2
end
end BK
namespace BK
open PySem PySem.Spec L2
open PyProof.Rows (envOfC)
set_option autoImplicit false
/-! ### calls of the text's own defs -/
abbrev NB : BT := fun _ _ _ => False
abbrev Phi := List D → Option R
def spOf (K : PySem.W.Frag) (ca : Nat → Addr) (φ : Phi) : Sp := fun vs H Q _ => ∃ ds F r, Same F H ∧ NT F ∧ TabsC ca H ∧ Dens K ca F vs ds ∧ φ ds = some r ∧ ∀ v H' F', Ext ca H F H' F' → RV K ca NB H F' H' v r → Q v H'
/-- a def as its callers see it: its value is φ's; dds: the defaults that fill up -/
structure Callee (P : Program) (w : World) (K : PySem.W.Frag) (mg : Str → Option Value) (base : Heap) (ca : Nat → Addr) (k : Nat) (x : Str) (φ : Phi) (dds : List D) : Prop where
  ex : ∃ (f : Addr) (fd : FuncData) (ps : List Str) (dvs : List V) (ds : List Value), FnOk P w K mg base CX0 k f fd ps (spOf K ca φ) ∧ mg x = some (.ref f) ∧ PySem.W.keepIn K (.ref f) = true ∧ Binds K fd ps ds ∧ Vals dvs ds ∧ ∀ F, Dens K ca F dvs dds
theorem Callee.mono {P : Program} {w : World} {K : PySem.W.Frag} {mg : Str → Option Value} {base : Heap} {ca : Nat → Addr} {j k : Nat} {x : Str} {φ : Phi} {dds : List D} (C : Callee P w K mg base ca j x φ dds) (h : j ≤ k) : Callee P w K mg base ca k x φ dds := by
  obtain ⟨f, fd, ps, dvs, ds, F, r⟩ := C.ex
  exact ⟨f, fd, ps, dvs, ds, F.mono h, r⟩
/-- no list within -/
def lfn : Nat → D → Bool
  | _, .non => true
  | _, .bl _ => true
  | _, .int _ => true
  | _, .str _ => true
  | n + 1, .tup xs => xs.all (lfn n)
  | n + 1, .ins _ xs => xs.all (lfn n)
  | _, _ => false
def R.lf : R → Bool
  | .va d => lfn 8 d
  | .tm ds => ds.all (lfn 8)
  | .bw _ _ => false
theorem lf_den {K : PySem.W.Frag} {ca : Nat → Addr} {F F' : Hp} (h : ∀ b o, F b = some o → (∀ xs, o ≠ .lst xs) → F' b = some o) : ∀ (n : Nat) {d : D} {v : V}, lfn n d = true → Den K ca F v d → Den K ca F' v d := by
  have all : ∀ (g : D → Bool), (∀ {d : D} {v : V}, g d = true → Den K ca F v d → Den K ca F' v d) → ∀ {ds : List D} {vs : List V}, ds.all g = true → Dens K ca F vs ds → Dens K ca F' vs ds := by
    intro g hg ds vs e hd
    induction ds generalizing vs with
    | nil => cases hd; exact .nil
    | cons d ds ih =>
      cases hd with
      | cons h1 h2 =>
        rw [List.all_cons, Bool.and_eq_true] at e
        exact .cons (hg e.1 h1) (ih e.2 h2)
  have tup : ∀ {a : Addr} {xs : List V}, SqT K F a xs → SqT K F' a xs := by
    rintro a xs ((z | ⟨o, z⟩) | z)
    · exact .inl (.inl (h _ _ z (by intro ys; intro q; cases q)))
    · exact .inl (.inr ⟨o, h _ _ z (by intro ys; intro q; cases q)⟩)
    · exact .inr z
  intro n
  induction n with
  | zero =>
    intro d v e hd
    cases hd <;> first
      | (simp [lfn] at e; done)
      | constructor
  | succ n ih =>
    intro d v e hd
    cases hd with
    | lst _ _ => simp [lfn] at e
    | rol _ _ => simp [lfn] at e
    | dic _ _ _ => simp [lfn] at e
    | exc _ _ _ _ => simp [lfn] at e
    | tup t hs => exact .tup (tup t) (all (lfn n) ih e hs)
    | ins k t e2 hs => exact .ins k (h _ _ t (by intro ys; intro q; cases q)) e2 (all (lfn n) ih e hs)
    | non => exact .non
    | bl b => exact .bl b
    | int i => exact .int i
    | str x => exact .str x
    | opq a => exact .opq a
    | ptp _ _ _ => first | (simp [lfn] at e; done) | (simp [lfk] at e; done)
theorem lf_dens {K : PySem.W.Frag} {ca : Nat → Addr} {F F' : Hp} (h : ∀ b o, F b = some o → (∀ xs, o ≠ .lst xs) → F' b = some o) : ∀ {ds : List D} {vs : List V}, ds.all (lfn 8) = true → Dens K ca F vs ds → Dens K ca F' vs ds
  | [], _, _, hd => by cases hd; exact .nil
  | d :: ds, _, e, hd => by
    cases hd with
    | cons h1 h2 =>
      rw [List.all_cons, Bool.and_eq_true] at e
      exact .cons (lf_den h 8 e.1 h1) (lf_dens h e.2 h2)
/-- of what kind the first item of a list is -/
def hk : List D → Nat
  | [] => 0
  | .str _ :: _ => 1
  | _ => 2
theorem hk_uniq {K : PySem.W.Frag} {ca : Nat → Addr} {F F' : Hp} {vs : List V} {ds es : List D} (h : Dens K ca F vs ds) (h' : Dens K ca F' vs es) : hk ds = hk es := by
  cases h with
  | nil => cases h'; rfl
  | cons a _ =>
    cases h' with
    | cons b _ => cases a <;> cases b <;> rfl
/-- no list of such a kind within -/
def lfk : Nat → List Nat → D → Bool
  | _, _, .non => true
  | _, _, .bl _ => true
  | _, _, .int _ => true
  | _, _, .str _ => true
  | n + 1, ks, .tup xs => xs.all (lfk n ks)
  | n + 1, ks, .ins _ xs => xs.all (lfk n ks)
  | n + 1, ks, .lst xs => !ks.contains (hk xs) && xs.all (lfk n ks)
  | _, _, _ => false
def R.lfk (ks : List Nat) : R → Bool
  | .va d => BK.lfk 8 ks d
  | .tm ds => ds.all (BK.lfk 8 ks)
  | .bw _ _ => false
def lentK : List R → List Nat
  | [] => []
  | .bw _ ds :: rs => hk ds :: lentK rs
  | _ :: rs => lentK rs
theorem lentK_mem {j : Nat} {ds : List D} : ∀ {rs : List R}, R.bw j ds ∈ rs → hk ds ∈ lentK rs
  | r :: rs, h => by
    rcases List.mem_cons.mp h with e | h
    · subst e; exact List.mem_cons_self
    · have := lentK_mem h
      cases r <;> first | exact this | exact List.mem_cons_of_mem _ this
theorem lfk_den {K : PySem.W.Frag} {ca : Nat → Addr} {F F' : Hp} {ks : List Nat} (h : ∀ b o, F b = some o → (∀ xs, o ≠ .lst xs) → F' b = some o) (hl : ∀ b xs ds, F b = some (.lst xs) → Dens K ca F xs ds → ks.contains (hk ds) = false → F' b = some (.lst xs)) : ∀ (n : Nat) {d : D} {v : V}, lfk n ks d = true → Den K ca F v d → Den K ca F' v d := by
  have all : ∀ (g : D → Bool), (∀ {d : D} {v : V}, g d = true → Den K ca F v d → Den K ca F' v d) → ∀ {ds : List D} {vs : List V}, ds.all g = true → Dens K ca F vs ds → Dens K ca F' vs ds := by
    intro g hg ds vs e hd
    induction ds generalizing vs with
    | nil => cases hd; exact .nil
    | cons d ds ih =>
      cases hd with
      | cons h1 h2 =>
        rw [List.all_cons, Bool.and_eq_true] at e
        exact .cons (hg e.1 h1) (ih e.2 h2)
  have tup : ∀ {a : Addr} {xs : List V}, SqT K F a xs → SqT K F' a xs := by
    rintro a xs ((z | ⟨o, z⟩) | z)
    · exact .inl (.inl (h _ _ z (by intro ys; intro q; cases q)))
    · exact .inl (.inr ⟨o, h _ _ z (by intro ys; intro q; cases q)⟩)
    · exact .inr z
  intro n
  induction n with
  | zero =>
    intro d v e hd
    cases hd <;> first
      | (simp [lfk] at e; done)
      | constructor
  | succ n ih =>
    intro d v e hd
    cases hd with
    | lst t hs =>
      unfold lfk at e
      rw [Bool.and_eq_true, Bool.not_eq_true'] at e
      exact .lst (hl _ _ _ t hs e.1) (all (lfk n ks) ih e.2 hs)
    | rol _ _ => simp [lfk] at e
    | dic _ _ _ => simp [lfk] at e
    | exc _ _ _ _ => simp [lfk] at e
    | tup t hs => exact .tup (tup t) (all (lfk n ks) ih e hs)
    | ins k t e2 hs => exact .ins k (h _ _ t (by intro ys; intro q; cases q)) e2 (all (lfk n ks) ih e hs)
    | non => exact .non
    | bl b => exact .bl b
    | int i => exact .int i
    | str x => exact .str x
    | opq a => exact .opq a
    | ptp _ _ _ => first | (simp [lfn] at e; done) | (simp [lfk] at e; done)
theorem dens_by {K : PySem.W.Frag} {ca : Nat → Addr} {F F' : Hp} {g : D → Bool} (hg : ∀ {d : D} {v : V}, g d = true → Den K ca F v d → Den K ca F' v d) : ∀ {ds : List D} {vs : List V}, ds.all g = true → Dens K ca F vs ds → Dens K ca F' vs ds
  | [], _, _, hd => by cases hd; exact .nil
  | d :: ds, _, e, hd => by
    cases hd with
    | cons h1 h2 =>
      rw [List.all_cons, Bool.and_eq_true] at e
      exact .cons (hg e.1 h1) (dens_by hg e.2 h2)
def R.isTm : R → Bool
  | .tm _ => true
  | _ => false
/-- the call by values: where an own list is lent the answer has no list within, or none of the kind of a lent one -/
def callR (φ : Phi) (dds : List D) (rs : List R) : Option R := if (rs.any R.isTm) = true then none else (φ (rs.map R.d ++ dds)).bind fun r => if (!rs.any R.isBw || r.lf || r.lfk (lentK rs)) = true then some r else none
section
variable {X : Cx} {ca : Nat → Addr}
theorem call_core {H0 F0 H F : Hp} {σ : L2.St} {Γ : Gm} {vs dvs : List V} {rs : List R} {dds : List D} {φ : Phi} {z : R} {Hs : Hp} {Q : VK} {E : XK} (S : SR X.K ca H0 F0 σ H F Γ) (hr : RVs X.K ca (BB σ Γ) Hs F H vs rs) (hd : Dens X.K ca F dvs dds) (e : callR φ dds rs = some z)
    (q : ∀ v H' F', Ext ca H F H' F' → RV X.K ca (BB σ Γ) H F' H' v z → Q v H') : spOf X.K ca φ (vs ++ dvs) H Q E := by
  classical
  unfold callR at e
  split at e
  · cases e
  rename_i htm
  obtain ⟨r, er, e⟩ := Option.bind_eq_some_iff.mp e
  by_cases hlf : (!rs.any R.isBw || r.lf || r.lfk (lentK rs)) = true
  rotate_left
  · rw [if_neg hlf] at e
    cases e
  rw [if_pos hlf] at e
  cases e
  have s := S.ext.fh
  -- what is lent
  let Bp : Addr → Prop := fun b => ∃ j ds vs, BB σ Γ j b ds ∧ F b = none ∧ H b = some (.lst vs) ∧ Dens X.K ca F vs ds ∧ R.bw j ds ∈ rs
  let F3 : Hp := fun b => if Bp b then H b else F b
  have s13 : Same F F3 := fun b o h => by
    show (if Bp b then H b else F b) = some o
    by_cases hb : Bp b
    · obtain ⟨_, _, _, _, h2, _⟩ := hb
      rw [h2] at h; cases h
    · rw [if_neg hb]; exact h
  have s3 : Same F3 H := fun b o h => by
    have h : (if Bp b then H b else F b) = some o := h
    by_cases hb : Bp b
    · rw [if_pos hb] at h; exact h
    · rw [if_neg hb] at h; exact s b o h
  have dens : ∀ {us : List V} {ts : List R}, RVs X.K ca (BB σ Γ) Hs F H us ts → (∀ t ∈ ts, t.isTm = false) → (∀ t ∈ ts, t.isBw = true → t ∈ rs) → Dens X.K ca F3 us (ts.map R.d) := by
    intro us ts h
    induction h with
    | nil => intro _ _; exact .nil
    | cons h hs ih =>
      rename_i v t us ts
      intro g1 g2
      refine .cons ?_ (ih (fun t ht => g1 t (List.mem_cons_of_mem _ ht)) fun t ht => g2 t (List.mem_cons_of_mem _ ht))
      cases t with
      | va d => exact Den.mono s13 h
      | tm ds => exact absurd (g1 _ List.mem_cons_self) (by simp [R.isTm])
      | bw j ds =>
        obtain ⟨a, ws, rfl, hb, h2, h3, h4⟩ := h
        have hB : Bp a := ⟨j, ds, ws, hb, h2, h3, h4, g2 _ List.mem_cons_self rfl⟩
        refine .lst ?_ (h4.mono s13)
        show (if Bp a then H a else F a) = some (.lst ws)
        rw [if_pos hB]; exact h3
  have htm' : ∀ t ∈ rs, t.isTm = false := fun t ht => by
    cases q : t.isTm with
    | false => rfl
    | true => exact absurd (List.any_eq_true.mpr ⟨t, ht, q⟩) htm
  have nF : NT F := S.ext.nt S.nt0
  have n3 : NT F3 := fun b ps h => by
    have h : (if Bp b then H b else F b) = some (.tbl ps) := h
    by_cases hb : Bp b
    · rw [if_pos hb] at h
      obtain ⟨_, _, _, _, _, h3, _⟩ := hb
      rw [h3] at h; cases h
    · rw [if_neg hb] at h; exact nF b ps h
  refine ⟨rs.map R.d ++ dds, F3, z, s3, n3, S.tc0.mono S.ext.hh, (dens hr htm' fun t ht hb => ht).append (hd.mono s13), er, fun v H' F4 x4 r4 => ?_⟩
  let F5 : Hp := fun b => if Bp b then none else F4 b
  have s15 : Same F F5 := fun b o h => by
    show (if Bp b then none else F4 b) = some o
    by_cases hb : Bp b
    · obtain ⟨_, _, _, _, h2, _⟩ := hb
      rw [h2] at h; cases h
    · rw [if_neg hb]; exact x4.ff _ _ (s13 b o h)
  have s54 : Same F5 F4 := fun b o h => by
    have h : (if Bp b then none else F4 b) = some o := h
    by_cases hb : Bp b
    · rw [if_pos hb] at h; cases h
    · rw [if_neg hb] at h; exact h
  have x5 : Ext ca H F H' F5 := ⟨x4.hh, s15, s54.trans x4.fh, fun b h => by
    have h : (if Bp b then none else F4 b) ≠ none := h
    by_cases hb : Bp b
    · rw [if_pos hb] at h; exact absurd rfl h
    · rw [if_neg hb] at h
      rcases x4.nw b h with z | z
      · have z : (if Bp b then H b else F b) ≠ none := z
        rw [if_neg hb] at z
        exact .inl z
      · exact .inr z, fun _ b ps h => by
    have h : (if Bp b then none else F4 b) = some (.tbl ps) := h
    by_cases hb : Bp b
    · rw [if_pos hb] at h; cases h
    · rw [if_neg hb] at h; exact x4.nt n3 b ps h⟩
  by_cases hbw : rs.any R.isBw = true
  · have lf : z.lf = true ∨ z.lfk (lentK rs) = true := by
      rw [hbw] at hlf
      simpa using hlf
    have res : ∀ b o, F4 b = some o → (∀ xs, o ≠ .lst xs) → F5 b = some o := fun b o h hn => by
      show (if Bp b then none else F4 b) = some o
      by_cases hb : Bp b
      · exfalso
        obtain ⟨_, _, ws, _, h2, h3, _⟩ := id hb
        have h4 : F3 b = some (.lst ws) := by
          show (if Bp b then H b else F b) = _
          rw [if_pos hb]; exact h3
        have h5 := x4.ff _ _ h4
        rw [h] at h5
        cases h5
        exact hn ws rfl
      · rw [if_neg hb]; exact h
    have resl : ∀ b xs ds, F4 b = some (.lst xs) → Dens X.K ca F4 xs ds → (lentK rs).contains (hk ds) = false → F5 b = some (.lst xs) := fun b xs ds h hd hn => by
      show (if Bp b then none else F4 b) = some (.lst xs)
      by_cases hb : Bp b
      · exfalso
        obtain ⟨j, es, ws, _, h2, h3, h4, h5⟩ := id hb
        have h6 : F3 b = some (.lst ws) := by
          show (if Bp b then H b else F b) = _
          rw [if_pos hb]; exact h3
        have h7 := x4.ff _ _ h6
        rw [h] at h7
        cases h7
        have h8 := lentK_mem h5
        rw [← hk_uniq hd h4, ← List.contains_iff_mem, hn] at h8
        cases h8
      · rw [if_neg hb]; exact h
    have den : ∀ {d : D} {v : V}, (lfn 8 d = true ∨ BK.lfk 8 (lentK rs) d = true) → Den X.K ca F4 v d → Den X.K ca F5 v d := fun h hd => by
      rcases h with h | h
      · exact lf_den res 8 h hd
      · exact lfk_den res resl 8 h hd
    refine q v H' F5 x5 ?_
    cases z with
    | va d => exact den lf r4
    | tm ds =>
      obtain ⟨a, ws, rfl, h1, h2, h3, h4⟩ := r4
      refine ⟨a, ws, rfl, h1, ?_, h3, ?_⟩
      · show (if Bp a then none else F4 a) = none
        split
        · rfl
        · exact h2
      · rcases lf with lf | lf
        · exact dens_by (fun e => den (.inl e)) lf h4
        · exact dens_by (fun e => den (.inr e)) lf h4
    | bw j ds => rcases lf with lf | lf <;> cases lf
  · have e5 : F5 = F4 := funext fun b => by
      show (if Bp b then none else F4 b) = F4 b
      rw [if_neg fun ⟨_, _, _, _, _, _, _, z⟩ => hbw (List.any_eq_true.mpr ⟨_, z, rfl⟩)]
    rw [e5] at x5
    refine q v H' F4 x5 ?_
    cases z with
    | va d => exact r4
    | tm ds => exact r4
    | bw j ds =>
      obtain ⟨_, _, _, h, _⟩ := r4
      exact h.elim
variable {k j : Nat} {x : Str} {φ : Phi} {dds : List D} {p pos : Pos} {e : Expr} {es : List Expr} {ms : Gm → Option (List R)}
theorem t_fn {dvs : List V} {E : XK} (hd : ∀ F, Dens X.K ca F dvs dds) {σ : L2.St} {H : Hp} {Q : VK} (h : tEV X.K ca (eA (callR φ dds) ms) σ H Q) : tCall (spOf X.K ca φ) dvs E (tAV X.K ca ms) σ H Q := by
  obtain ⟨H0, F0, F, Γ, z, S, e, q⟩ := h
  unfold eA at e
  obtain ⟨rs, er, e⟩ := Option.bind_eq_some_iff.mp e
  refine ⟨H0, F0, F, Γ, rs, S, er, fun vs H1 F1 x1 r1 => ?_⟩
  exact call_core (S.mono x1) r1 (hd F1) e fun v H2 F2 x2 r2 => q v H2 F2 (x1.trans x2) (r2.back x1.hh)
theorem ev_fn (C : Callee X.prog X.w X.K X.mg X.base ca j x φ dds) (hr : Room j X.A) (hg : Gl X x) (ha : AV X ca (e :: es) ms) (hdb : (x == ("__debug__" : Str)) = false := by decide)
    (he : starEach (e :: es) X.env = (false, eval e X.env) :: starEach es X.env := by rfl) (hpl : (backTo pos (starEach es X.env)).any (·.1) = false := by rfl) : EV X ca (.Call (.Name x p) (e :: es) [] pos) (eA (callR φ dds) ms) := by
  obtain ⟨f, fd, ps, dvs, ds, G, hm, hk, hb, hv, hd⟩ := C.ex
  exact pe_imp (pe_call G hr hg hm hk hb hv pass0 ha hdb he hpl) fun σ H Q h => t_fn hd h
end
/-! ### a def by its body -/
/-- the def as a function of data -/
def phi (m : Gm → Option Out) (N n : Nat) : Phi := fun ds => if ds.length = n then match m (ds.map Slot.va ++ List.replicate (N - n) Slot.un) with
  | some (.rt r) => some (retR r)
  | some (.nx _) => some (.va .non)
  | _ => none
  else none
theorem start_get {N : List Str} {vs : List V} {i : Nat} {v : V} (h : vs[i]? = some v) : (L2.start N vs)[i]? = some (some v) := by
  unfold L2.start
  have hi : i < vs.length := (List.getElem?_eq_some_iff.mp h).1
  rw [List.getElem?_append_left (by simpa using hi), List.getElem?_map, h]
  rfl
theorem sr_start {K : PySem.W.Frag} {ca : Nat → Addr} {H F : Hp} {N : List Str} {vs : List V} {ds : List D} (s : Same F H) (nt : NT F) (tc : TabsC ca H) (h : Dens K ca F vs ds) : SR K ca H F (L2.start N vs) H F (ds.map Slot.va ++ List.replicate (N.length - ds.length) Slot.un) := by
  have key : ∀ (i : Nat) (x : Slot), (ds.map Slot.va ++ List.replicate (N.length - ds.length) Slot.un)[i]? = some x → x = .un ∨ ∃ d, x = .va d ∧ ds[i]? = some d := by
    intro i x e
    by_cases hi : i < ds.length
    · rw [List.getElem?_append_left (by simpa using hi), List.getElem?_map] at e
      cases q : ds[i]? with
      | none => rw [q] at e; cases e
      | some d => rw [q] at e; cases e; exact .inr ⟨d, rfl, rfl⟩
    · rw [List.getElem?_append_right (by simpa using hi), List.getElem?_replicate] at e
      split at e
      · cases e; exact .inl rfl
      · cases e
  refine ⟨.refl s, nt, tc, ?_, fun i d e => ?_, fun i es e => ?_, fun i j es fs a n e1 e2 => ?_, Own.nil fun i u e => ?_⟩
  · unfold L2.start
    rw [List.length_append, List.length_append, List.length_map, List.length_map, List.length_replicate, List.length_replicate, h.length]
  · rcases key i _ e with z | ⟨d', z, g⟩
    · cases z
    · cases z
      obtain ⟨v, h1, h2⟩ := h.getV g
      exact ⟨v, start_get h1, h2⟩
  · rcases key i _ e with z | ⟨d', z, g⟩ <;> cases z
  · rcases key i _ e1 with z | ⟨d', z, g⟩ <;> cases z
  · rcases key i _ e with z | ⟨d', z, g⟩ <;> cases z
section
variable {P : Program} {w : World} {K : PySem.W.Frag} {mg : Str → Option Value} {base : Heap} {ca : Nat → Addr}
/-- a def as it stands, its defaults of any kind -/
structure FunA (K : PySem.W.Frag) (x qual : Str) (st : Stmt) (f : Addr) (fd : FuncData) : Prop where
  ex : ∃ (oc : Value) (od : Option Addr) (dV kV doc pm : Value) (an : Option Addr) (cdv ct : Value) (osl : Array (Option Value)),
    fd = PySem.W.fnOf x qual (defArgs st) (defBody st) (defScope st) dV kV doc pm an cdv ct ∧ K.lookup f = some ⟨oc, od, .func fd, osl⟩ ∧ PySem.W.codeIn K cdv qual = true
  kp : PySem.W.keepIn K (.ref f) = true
theorem _root_.L2.Fun.toA {x qual : Str} {st : Stmt} {f : Addr} {fd : FuncData} (F : Fun K x qual st f fd) : FunA K x qual st f fd := by
  obtain ⟨oc, od, kV, doc, pm, an, cdv, ct, osl, e, lk, hcd⟩ := F.ex
  exact ⟨⟨oc, od, _, kV, doc, pm, an, cdv, ct, osl, e, lk, hcd⟩, F.kp⟩
theorem FunA.ok {x qual : Str} {st : Stmt} {f : Addr} {fd : FuncData} {N ps : List Str} {k : Nat} {sp : Sp} (F : FunA K x qual st f fd) (S : FnScope N ps (defScope st)) (len : ∀ vs H Q E, sp vs H Q E → vs.length = ps.length)
    (hbody : ∀ (cdv : Value), fd.code = cdv → ∀ (A : Around) (outer : List Env) (s : Shared) (H : Hp) (vs : List V) (Q : VK) (E : XK), Room k (A.deeper (envOfC qual (defScope st) s.heap.objs.size f cdv)) → sp vs H Q E →
      ∃ t, PSs (cxOf CX0 P w K mg base N qual (defScope st) f cdv A outer s H E).nox (defBody st) t ∧ t { nx := fun _ H' => Q .non H', rt := Q } (L2.start N vs) H) : FnOk P w K mg base CX0 (k + 1) f fd ps sp := by
  obtain ⟨oc, od, dV, kV, doc, pm, an, cdv, ct, osl, rfl, lk, hcd⟩ := F.ex
  refine fn_of lk hcd S len fun A outer s H vs Q E hr hsp => ?_
  obtain ⟨t, h, q⟩ := hbody cdv rfl A outer s H vs Q E hr hsp
  exact ⟨t, h.nox, q⟩
theorem fn_okC {x qual : Str} {st : Stmt} {f : Addr} {fd : FuncData} {N ps : List Str} {k n nN : Nat} {m : Gm → Option Out} {T : List Nat} {φ : Phi} (F : FunA K x qual st f fd) (S : FnScope N ps (defScope st)) (hn : ps.length = n) (hN : N.length = nN) (hφ : φ = phi m nN n)
    (hbody : ∀ (cdv : Value), fd.code = cdv → ∀ (A : Around) (outer : List Env) (s : Shared) (H : Hp) (E : XK), Room k (A.deeper (envOfC qual (defScope st) s.heap.objs.size f cdv)) →
      SVs (cxOf CX0 P w K mg base N qual (defScope st) f cdv A outer s H E).nox ca (defBody st) m T) : FnOk P w K mg base CX0 (k + 1) f fd ps (spOf K ca φ) := by
  subst hφ
  subst hn
  subst hN
  refine F.ok S (fun vs H Q E ⟨ds, F0, r, s, _, _, h, e, _⟩ => ?_) (fun cdv hcd A outer s H vs Q E hr ⟨ds, F0, r, sm, nt, tc, h, e, q⟩ => ?_)
  · unfold phi at e
    split at e
    · rw [h.length]; assumption
    · cases e
  · have hb := hbody cdv hcd A outer s H E hr
    refine ⟨_, hb.ps, ?_⟩
    unfold phi at e
    split at e
    · rename_i hl
      have S0 : SR K ca H F0 (L2.start N vs) H F0 (ds.map Slot.va ++ List.replicate (N.length - ps.length) Slot.un) := by
        rw [← hl]
        exact sr_start sm nt tc h
      split at e
      · rename_i r' em
        cases e
        refine ⟨H, F0, F0, _, _, S0, em, fun v H' F' x rv => q v H' F' x ?_⟩
        cases r' with
        | va d => exact rv
        | tm ds => exact rv
        | bw j ds =>
          obtain ⟨_, _, _, z, _⟩ := rv
          exact z.elim
      · rename_i g em
        cases e
        exact ⟨H, F0, F0, _, _, S0, em, fun σ' H' F' S' _ _ => q _ H' F' S'.ext .non⟩
      · cases e
    · cases e
theorem fn_ok {x qual : Str} {st : Stmt} {f : Addr} {fd : FuncData} {N ps : List Str} {k n nN : Nat} {m : Gm → Option Out} {T : List Nat} {φ : Phi} (F : FunA K x qual st f fd) (S : FnScope N ps (defScope st)) (hn : ps.length = n) (hN : N.length = nN) (hφ : φ = phi m nN n)
    (hbody : ∀ (cdv : Value) (A : Around) (outer : List Env) (s : Shared) (H : Hp) (E : XK), Room k (A.deeper (envOfC qual (defScope st) s.heap.objs.size f cdv)) →
      SVs (cxOf CX0 P w K mg base N qual (defScope st) f cdv A outer s H E).nox ca (defBody st) m T) : FnOk P w K mg base CX0 (k + 1) f fd ps (spOf K ca φ) :=
  fn_okC F S hn hN hφ fun cdv _ => hbody cdv
theorem fn_callee {x qual : Str} {st : Stmt} {f : Addr} {fd : FuncData} {ps : List Str} {k : Nat} {φ : Phi} {ds : List Value} {dvs : List V} {dds : List D} (F : FunA K x qual st f fd) (G : FnOk P w K mg base CX0 k f fd ps (spOf K ca φ)) (hm : mg x = some (.ref f)) (hb : Binds K fd ps ds) (hv : Vals dvs ds) (hd : ∀ F, Dens K ca F dvs dds) :
    Callee P w K mg base ca k x φ dds := ⟨f, fd, ps, dvs, ds, G, hm, F.kp, hb, hv, hd⟩
end
end BK
namespace BK
open PySem PySem.Spec L2
open PyProof.Rows (envOfC)
set_option autoImplicit false
/-! ### what is walked -/
def listR : R → Option (List Nat × List D)
  | .bw j ds => some ([j], ds)
  | .tm ds => some ([], ds)
  | .va (.lst ds) => some ([], ds)
  | .va (.rol ds) => some ([], ds)
  | _ => none
def signs (z : Str) : List D := z.cps.toList.map fun c => .str ⟨#[c]⟩
def seqR : R → Option (List Nat × List D)
  | .va (.tup ds) => some ([], ds)
  | .va (.str z) => some ([], signs z)
  | r => listR r
def iSeq (m : Gm → Option R) : Gm → Option (List Nat × List D) := fun g => (m g).bind seqR
section
variable {X : Cx} {ca : Nat → Addr}
theorem pi_or {tg e : Expr} {t t' : TI} (h : PI X tg e t) (h' : PI X tg e t') : PI X tg e (fun σ H R => t σ H R ∨ t' σ H R) := ⟨fun pins s σ H R I q => by
  rcases q with q | q
  · exact h.run pins s σ H R I q
  · exact h'.run pins s σ H R I q⟩
/-- a list walked: what J needs -/
structure LOk (K : PySem.W.Frag) (ca : Nat → Addr) (F1 : Hp) (a : Addr) (PL : List (Nat × Addr × List D)) (ds : List D) : Prop where
  rd : ∀ (H F : Hp), Same F1 F → Same F H → (∀ p ∈ PL, ∃ vs, H p.2.1 = some (.lst vs) ∧ Dens K ca F vs p.2.2) → ∃ vs, SqL K H a vs ∧ Dens K ca F vs ds
theorem LOk.mono {K : PySem.W.Frag} {F1 F2 : Hp} {a : Addr} {PL PL' : List (Nat × Addr × List D)} {ds : List D} (h : LOk K ca F1 a PL ds) (s : Same F1 F2) (i : ∀ p ∈ PL, p ∈ PL') : LOk K ca F2 a PL' ds :=
  ⟨fun H F s1 s2 q => h.rd H F (s.trans s1) s2 fun p hp => q p (i p hp)⟩
/-- a list result is ready to be walked -/
theorem RV.walk {K : PySem.W.Frag} {σ : L2.St} {Γ : Gm} {H F H1 F1 : Hp} {v : V} {r : R} {ps : List Nat} {ds : List D} (x : Ext ca H F H1 F1) (h : RV K ca (BB σ Γ) H F1 H1 v r) (e : listR r = some (ps, ds)) :
    ∃ a F2 PL, v = .ref a ∧ Ext ca H F H1 F2 ∧ Same F1 F2 ∧ LOk K ca F2 a PL ds ∧ ∀ q ∈ PL, q.1 ∈ ps ∧ BB σ Γ q.1 q.2.1 q.2.2 := by
  cases r with
  | bw j es =>
    cases e
    obtain ⟨a, vs, rfl, hb, h2, h3, h4⟩ := h
    refine ⟨a, F1, [(j, a, ds)], rfl, x, Same.refl _, ⟨fun H' F' s1 s2 q => ?_⟩, fun q hq => ?_⟩
    · obtain ⟨ws, g1, g2⟩ := q _ (List.mem_singleton.mpr rfl)
      exact ⟨ws, SqL.of g1, g2⟩
    · rw [List.mem_singleton] at hq
      subst hq
      exact ⟨by simp, hb⟩
  | tm es =>
    cases e
    obtain ⟨a, vs, rfl, h1, h2, h3, h4⟩ := h
    exact ⟨a, upd F1 a (.lst vs), [], rfl, x.frz h1 h3 h2, same_upd h2, ⟨fun H' F' s1 s2 _ => ⟨vs, SqL.of (s2 _ _ (s1 _ _ upd_same)), h4.mono ((same_upd h2).trans s1)⟩⟩, fun q hq => by cases hq⟩
  | va d =>
    cases d <;> first
      | (cases e; done)
      | (cases e
         cases h with
         | lst h hs => exact ⟨_, F1, [], rfl, x, Same.refl _, ⟨fun H' F' s1 s2 _ => ⟨_, rd_l (.inl ((s1.trans s2) _ _ h)), hs.mono s1⟩⟩, fun q hq => by cases hq⟩)
      | (cases e
         cases h with
         | rol h hs => exact ⟨_, F1, [], rfl, x, Same.refl _, ⟨fun H' F' s1 s2 _ => ⟨_, (s1.trans s2).seq h, hs.mono s1⟩⟩, fun q hq => by cases hq⟩)
/-- .. of an argument (no temporary) -/
def listA : R → Option (List Nat × List D)
  | .bw j ds => some ([j], ds)
  | .va (.lst ds) => some ([], ds)
  | .va (.rol ds) => some ([], ds)
  | _ => none
theorem RV.walkA {K : PySem.W.Frag} {σ : L2.St} {Γ : Gm} {Hs H1 F1 : Hp} {v : V} {r : R} {ps : List Nat} {ds : List D} (h : RV K ca (BB σ Γ) Hs F1 H1 v r) (e : listA r = some (ps, ds)) :
    ∃ a PL, v = .ref a ∧ LOk K ca F1 a PL ds ∧ ∀ q ∈ PL, q.1 ∈ ps ∧ BB σ Γ q.1 q.2.1 q.2.2 := by
  cases r with
  | bw j es =>
    cases e
    obtain ⟨a, vs, rfl, hb, h2, h3, h4⟩ := h
    refine ⟨a, [(j, a, ds)], rfl, ⟨fun H' F' s1 s2 q => ?_⟩, fun q hq => ?_⟩
    · obtain ⟨ws, g1, g2⟩ := q _ (List.mem_singleton.mpr rfl)
      exact ⟨ws, SqL.of g1, g2⟩
    · rw [List.mem_singleton] at hq
      subst hq
      exact ⟨by simp, hb⟩
  | tm es => cases e
  | va d =>
    cases d <;> first
      | (cases e; done)
      | (cases e
         cases h with
         | lst h hs => exact ⟨_, [], rfl, ⟨fun H' F' s1 s2 _ => ⟨_, rd_l (.inl ((s1.trans s2) _ _ h)), hs.mono s1⟩⟩, fun q hq => by cases hq⟩)
      | (cases e
         cases h with
         | rol h hs => exact ⟨_, [], rfl, ⟨fun H' F' s1 s2 _ => ⟨_, (s1.trans s2).seq h, hs.mono s1⟩⟩, fun q hq => by cases hq⟩)
theorem jok_list {K : PySem.W.Frag} {F1 : Hp} {a : Addr} {PL : List (Nat × Addr × List D)} {ds : List D} (h : LOk K ca F1 a PL ds) : JOk K ca F1 (Itl K a) PL ds := by
  refine ⟨fun i d H F e s1 s2 q => ?_, fun H F s1 s2 q => ?_⟩
  · obtain ⟨vs, g1, g2⟩ := h.rd H F s1 s2 q
    obtain ⟨v, e1, e2⟩ := g2.getV e
    refine ⟨⟨vs, v, g1, e1⟩, ?_⟩
    rintro x H' ⟨rfl, y⟩
    have := y vs g1
    rw [e1] at this
    cases this
    exact ⟨F, .refl s2, e2⟩
  · obtain ⟨vs, g1, g2⟩ := h.rd H F s1 s2 q
    exact ⟨vs, g1, by rw [g2.length]; exact Nat.le_refl _⟩
variable {tg e : Expr} {es : List Expr} {m : Gm → Option R} {ms : Gm → Option (List R)} {p pos : Pos}
theorem iv_seq (he : EV X ca e m) : IV X ca tg e (iSeq m) := by
  refine pi_imp (pi_or (pi_list he) (pi_or (pi_tup he) (pi_str he))) ?_
  rintro σ H R' ⟨H0, F0, F, Γ, ⟨ps, ds⟩, S, e, q⟩
  unfold iSeq at e
  obtain ⟨r, er, e⟩ := Option.bind_eq_some_iff.mp e
  have lst : listR r = some (ps, ds) → iList X.K (tEV X.K ca m) σ H R' := fun e => by
    refine ⟨H0, F0, F, Γ, r, S, er, fun v H1 F1 x1 r1 => ?_⟩
    obtain ⟨a, F2, PL, rfl, x2, s2, lo, hb⟩ := RV.walk x1 r1 e
    refine ⟨a, rfl, ?_, q _ H1 F2 PL x2 (jok_list lo) hb⟩
    have hpin : ∀ p ∈ PL, ∃ vs, H1 p.2.1 = some (.lst vs) ∧ Dens X.K ca F2 vs p.2.2 := fun p hp => by
      obtain ⟨z1, z2⟩ := (hb p hp).2
      obtain ⟨a, vs, y1, _, _, y4, y5⟩ := (S.mono x2).ow _ _ z2
      rw [z1] at y1
      cases y1
      exact ⟨vs, y4, y5⟩
    obtain ⟨vs, g1, _⟩ := lo.rd H1 F2 (Same.refl _) x2.fh hpin
    exact ⟨vs, g1⟩
  unfold seqR at e
  split at e
  · rename_i es
    cases e
    refine .inr (.inl ⟨H0, F0, F, Γ, _, S, er, fun v H1 F1 x1 r1 => ?_⟩)
    cases r1 with
    | @tup a xs _ t hs =>
      refine ⟨_, rfl, ⟨_, Same.seqT x1.fh t⟩, q _ H1 F1 [] x1 ⟨fun i d H2 F2 e s1 s2 _ => ?_, fun H2 F2 s1 s2 _ => ?_⟩ fun q hq => by cases hq⟩
      · obtain ⟨v, e1, e2⟩ := hs.getV e
        have t2 := Same.seqT (s1.trans s2) t
        refine ⟨⟨_, v, t2, e1⟩, ?_⟩
        rintro x H' ⟨rfl, y⟩
        have := y _ t2
        rw [e1] at this
        cases this
        exact ⟨F2, .refl s2, e2.mono s1⟩
      · exact ⟨_, Same.seqT (s1.trans s2) t, by rw [hs.length]; exact Nat.le_refl _⟩
  · rename_i z
    cases e
    refine .inr (.inr ⟨H0, F0, F, Γ, _, S, er, fun v H1 F1 x1 r1 => ?_⟩)
    cases r1
    refine ⟨z, rfl, q _ H1 F1 [] x1 ⟨fun i d H2 F2 e s1 s2 _ => ?_, fun H2 F2 s1 s2 _ => ?_⟩ fun q hq => by cases hq⟩
    · have hi : i < (signs z).length := (List.getElem?_eq_some_iff.mp e).1
      have hz : (signs z).length = z.cps.size := by simp [signs]
      refine ⟨by show i < z.cps.size; omega, ?_⟩
      rintro x H' ⟨rfl, c, hc, rfl⟩
      refine ⟨F2, .refl s2, ?_⟩
      have hs : (signs z)[i]? = some (.str ⟨#[c]⟩) := by
        unfold signs
        rw [List.getElem?_map, Array.getElem?_toList, hc]
        rfl
      have e : (signs z)[i]? = some d := e
      rw [hs] at e
      cases e
      exact .str _
    · show z.cps.size ≤ (signs z).length
      simp [signs]
  · exact .inl (lst e)
/-! ranges -/
def rangeL (lo : Int) : Nat → List D
  | 0 => []
  | n + 1 => .int lo :: rangeL (lo + 1) n
theorem rangeL_length (n : Nat) : ∀ lo, (rangeL lo n).length = n := by
  induction n with
  | zero => intro _; rfl
  | succ n ih => intro lo; show (rangeL (lo + 1) n).length + 1 = n + 1; rw [ih]
theorem rangeL_get (n : Nat) : ∀ (lo : Int) (i : Nat), i < n → (rangeL lo n)[i]? = some (.int (lo + i)) := by
  induction n with
  | zero => intro _ i h; omega
  | succ n ih =>
    intro lo i h
    cases i with
    | zero => show some (D.int lo) = _; simp
    | succ i =>
      show (rangeL (lo + 1) n)[i]? = _
      rw [ih (lo + 1) i (by omega)]
      congr 2
      omega
def rg1R (rs : List R) : Option (List Nat × List D) := match rs with
  | [.va (.int j)] => if -(2 ^ 62) ≤ j ∧ j < 2 ^ 62 then some ([], rangeL 0 j.toNat) else none
  | _ => none
def rg2R (rs : List R) : Option (List Nat × List D) := match rs with
  | [.va (.int i), .va (.int j)] => if -(2 ^ 62) ≤ i ∧ i < 2 ^ 62 ∧ -(2 ^ 62) ≤ j ∧ j < 2 ^ 62 then some ([], rangeL i (j - i).toNat) else none
  | _ => none
def iA (f : List R → Option (List Nat × List D)) (ms : Gm → Option (List R)) : Gm → Option (List Nat × List D) := fun g => (ms g).bind f
theorem jok_rng {K : PySem.W.Frag} {F1 : Hp} {PL : List (Nat × Addr × List D)} (lo : Int) (n : Nat) : JOk K ca F1 (Itr lo n) PL (rangeL lo n) := by
  refine ⟨fun i d H F e s1 s2 q => ?_, fun H F s1 s2 q => ?_⟩
  · have hi : i < n := by
      have := (List.getElem?_eq_some_iff.mp e).1
      rw [rangeL_length] at this
      exact this
    rw [rangeL_get n lo i hi] at e
    cases e
    refine ⟨hi, ?_⟩
    rintro x H' ⟨rfl, rfl⟩
    exact ⟨F, .refl s2, .int _⟩
  · show n ≤ (rangeL lo n).length
    rw [rangeL_length]
    exact Nat.le_refl _
theorem iv_rg1 {a : Expr} (hg : Gl X "range") (hm : X.mg "range" = none) (ha : AV X ca [a] ms) (hs : starEach [a] X.env = [(false, eval a X.env)] := by rfl) : IV X ca tg (.Call (.Name "range" p) [a] [] pos) (iA rg1R ms) := by
  refine pi_imp (pi_range1 hg hm ha hs) ?_
  rintro σ H R' ⟨H0, F0, F, Γ, ⟨ps, ds⟩, S, e, q⟩
  unfold iA at e
  obtain ⟨rs, er, e⟩ := Option.bind_eq_some_iff.mp e
  refine ⟨H0, F0, F, Γ, rs, S, er, fun vs H1 F1 x1 r1 => ?_⟩
  unfold rg1R at e
  split at e
  · split at e
    · rename_i h
      cases e
      cases r1 with
      | cons h1 hs =>
        cases hs
        cases h1
        exact ⟨_, rfl, h.1, h.2, q _ H1 F1 [] x1 (jok_rng 0 _) fun q hq => by cases hq⟩
    · cases e
  · cases e
theorem iv_rg2 {a b : Expr} (hg : Gl X "range") (hm : X.mg "range" = none) (ha : AV X ca [a, b] ms) (hs : starEach [a, b] X.env = [(false, eval a X.env), (false, eval b X.env)] := by rfl) (hs2 : starEach [b] X.env = [(false, eval b X.env)] := by rfl) : IV X ca tg (.Call (.Name "range" p) [a, b] [] pos) (iA rg2R ms) := by
  refine pi_imp (pi_range2 hg hm ha hs hs2) ?_
  rintro σ H R' ⟨H0, F0, F, Γ, ⟨ps, ds⟩, S, e, q⟩
  unfold iA at e
  obtain ⟨rs, er, e⟩ := Option.bind_eq_some_iff.mp e
  refine ⟨H0, F0, F, Γ, rs, S, er, fun vs H1 F1 x1 r1 => ?_⟩
  unfold rg2R at e
  split at e
  · split at e
    · rename_i h
      cases e
      cases r1 with
      | cons h1 hs =>
        cases hs with
        | cons h2 hs =>
          cases hs
          cases h1
          cases h2
          exact ⟨_, _, rfl, h, q _ H1 F1 [] x1 (jok_rng _ _) fun q hq => by cases hq⟩
    · cases e
  · cases e
/-! enumerate, zip, reversed -/
def enumL : Nat → List D → List D
  | _, [] => []
  | n, d :: ds => .tup [.int (n : Int), d] :: enumL (n + 1) ds
theorem enumL_get : ∀ (ds : List D) (n i : Nat), (enumL n ds)[i]? = (ds[i]?).map fun d => .tup [.int ((n + i : Nat) : Int), d]
  | [], n, i => by simp [enumL]
  | d :: ds, n, 0 => by simp [enumL]
  | d :: ds, n, i + 1 => by
    show (enumL (n + 1) ds)[i]? = (ds[i]?).map _
    rw [enumL_get ds (n + 1) i, show n + 1 + i = n + (i + 1) by omega]
theorem enumL_length : ∀ (ds : List D) (n : Nat), (enumL n ds).length = ds.length
  | [], _ => rfl
  | d :: ds, n => congrArg (· + 1) (enumL_length ds (n + 1))
def zipL : List D → List D → List D
  | a :: as, b :: bs => .tup [a, b] :: zipL as bs
  | _, _ => []
theorem zipL_get : ∀ (as bs : List D) (i : Nat) (d : D), (zipL as bs)[i]? = some d → ∃ a b, as[i]? = some a ∧ bs[i]? = some b ∧ d = .tup [a, b]
  | [], _, i, d, h => by simp [zipL] at h
  | a :: as, [], i, d, h => by simp [zipL] at h
  | a :: as, b :: bs, 0, d, h => by
    cases h
    exact ⟨a, b, rfl, rfl, rfl⟩
  | a :: as, b :: bs, i + 1, d, h => zipL_get as bs i d h
theorem zipL_length : ∀ (as bs : List D), (zipL as bs).length = min as.length bs.length
  | [], _ => by simp [zipL]
  | a :: as, [] => by simp [zipL]
  | a :: as, b :: bs => by
    show (zipL as bs).length + 1 = _
    rw [zipL_length as bs, List.length_cons, List.length_cons]
    omega
def enR (rs : List R) : Option (List Nat × List D) := match rs with
  | [r] => (listA r).map fun p => (p.1, enumL 0 p.2)
  | _ => none
def zpR (rs : List R) : Option (List Nat × List D) := match rs with
  | [.va (.tup xs), .va (.tup ys)] => some ([], zipL xs ys)
  | [r, s] => (listA r).bind fun p => (listA s).map fun q => (p.1 ++ q.1, zipL p.2 q.2)
  | _ => none
def rvR (rs : List R) : Option (List Nat × List D) := match rs with
  | [r] => (listA r).map fun p => (p.1, p.2.reverse)
  | _ => none
theorem pair_den {K : PySem.W.Frag} {H F : Hp} {a : Addr} {v w : V} {d e : D} (s : Same F H) (n : H a = none) (h1 : Den K ca F v d) (h2 : Den K ca F w e) : ∃ F', Ext ca H F (upd H a (.tup [v, w])) F' ∧ Den K ca F' (.ref a) (.tup [d, e]) :=
  ⟨_, .new s _ n, .tup (SqT.of upd_same) (.cons (h1.mono (same_upd (s.free n))) (.cons (h2.mono (same_upd (s.free n))) .nil))⟩
theorem pins_ok {K : PySem.W.Frag} {H0 F0 H F : Hp} {σ : L2.St} {Γ : Gm} {PL : List (Nat × Addr × List D)} {ps : List Nat} (S : SR K ca H0 F0 σ H F Γ) (hb : ∀ q ∈ PL, q.1 ∈ ps ∧ BB σ Γ q.1 q.2.1 q.2.2) : ∀ p ∈ PL, ∃ vs, H p.2.1 = some (.lst vs) ∧ Dens K ca F vs p.2.2 := fun p hp => by
  obtain ⟨z1, z2⟩ := (hb p hp).2
  obtain ⟨a, vs, y1, _, _, y4, y5⟩ := S.ow _ _ z2
  rw [z1] at y1
  cases y1
  exact ⟨vs, y4, y5⟩
theorem iv_enum {elts : List Expr} {kk : Nat} {tpos : Pos} (hg : Gl X "enumerate") (hm : X.mg "enumerate" = none) (ha : AV X ca [e] ms) (hs : starEach [e] X.env = [(false, eval e X.env)] := by rfl) : IV X ca (.Tuple elts kk tpos) (.Call (.Name "enumerate" p) [e] [] pos) (iA enR ms) := by
  refine pi_imp (pi_enum hg hm ha hs) ?_
  rintro σ H R' ⟨H0, F0, F, Γ, ⟨ps, ds⟩, S, e, q⟩
  unfold iA at e
  obtain ⟨rs, er, e⟩ := Option.bind_eq_some_iff.mp e
  refine ⟨H0, F0, F, Γ, rs, S, er, fun vs H1 F1 x1 r1 => ?_⟩
  unfold enR at e
  split at e
  · rename_i r
    obtain ⟨⟨ps1, ds1⟩, el, e⟩ := Option.map_eq_some_iff.mp e
    cases e
    cases r1 with
    | cons h1 hs =>
      cases hs
      obtain ⟨a, PL, rfl, lo, hb⟩ := RV.walkA h1 el
      obtain ⟨ws, g1, _⟩ := lo.rd H1 F1 (Same.refl _) x1.fh (pins_ok (S.mono x1) hb)
      refine ⟨a, ws, rfl, g1, q _ H1 F1 PL x1 ⟨fun i d H3 F3 e s1 s3 qp => ?_, fun H3 F3 s1 s3 qp => ?_⟩ hb⟩
      · obtain ⟨us, k1, k2⟩ := lo.rd H3 F3 s1 s3 qp
        have e : (enumL 0 ds1)[i]? = some d := e
        rw [enumL_get] at e
        obtain ⟨d', ed, rfl⟩ := Option.map_eq_some_iff.mp e
        obtain ⟨v, e1, e2⟩ := k2.getV ed
        refine ⟨⟨us, v, k1, e1⟩, ?_⟩
        rintro x H' ⟨T, y, rfl, hT, rfl, hy⟩
        have := hy us k1
        rw [e1] at this
        cases this
        rw [Nat.zero_add]
        exact pair_den s3 hT (.int _) e2
      · obtain ⟨us, k1, k2⟩ := lo.rd H3 F3 s1 s3 qp
        refine ⟨us, k1, ?_⟩
        rw [k2.length]
        show ds1.length ≤ (enumL 0 ds1).length
        rw [enumL_length]
        exact Nat.le_refl _
  · cases e
theorem iv_zip {e2 : Expr} {elts : List Expr} {kk : Nat} {tpos : Pos} (hg : Gl X "zip") (hm : X.mg "zip" = none) (ha : AV X ca [e, e2] ms)
    (hs : starEach [e, e2] X.env = (false, eval e X.env) :: starEach [e2] X.env := by rfl) (hpl : (backTo pos (starEach [e2] X.env)).any (·.1) = false := by rfl) : IV X ca (.Tuple elts kk tpos) (.Call (.Name "zip" p) [e, e2] [] pos) (iA zpR ms) := by
  refine pi_imp (RZ.pi_zipA hg hm ha hs hpl) ?_
  rintro σ H R' ⟨H0, F0, F, Γ, ⟨ps, ds⟩, S, e, q⟩
  unfold iA at e
  obtain ⟨rs, er, e⟩ := Option.bind_eq_some_iff.mp e
  refine ⟨H0, F0, F, Γ, rs, S, er, fun vs H1 F1 x1 r1 => ?_⟩
  unfold zpR at e
  split at e
  · rename_i ds1 ds2
    cases e
    cases r1 with
    | cons h1 hs =>
      cases hs with
      | cons h2 hs =>
        cases hs
        cases h1 with
        | tup t1 d1 =>
          cases h2 with
          | tup t2 d2 =>
            refine ⟨_, _, _, _, rfl, .inr ⟨Same.seqT x1.fh t1, Same.seqT x1.fh t2, q _ H1 F1 [] x1 ⟨fun i d H3 F3 e s1 s3 qp => ?_, fun H3 F3 s1 s3 qp => ?_⟩ (fun q hq => by cases hq)⟩⟩
            · have k1 := Same.seqT s3 (Same.seqT s1 t1)
              have k1' := Same.seqT s3 (Same.seqT s1 t2)
              obtain ⟨da, db, ea, eb, rfl⟩ := zipL_get ds1 ds2 i d e
              obtain ⟨v, e1, e2⟩ := (d1.mono s1).getV ea
              obtain ⟨v', e1', e2'⟩ := (d2.mono s1).getV eb
              refine ⟨⟨_, _, v, v', k1, k1', e1, e1'⟩, ?_⟩
              rintro x H' ⟨T, y, y', rfl, hT, rfl, hy, hy'⟩
              have q1 := hy _ k1
              have q2 := hy' _ k1'
              rw [e1] at q1
              rw [e1'] at q2
              cases q1
              cases q2
              exact pair_den s3 hT e2 e2'
            · refine ⟨_, _, Same.seqT s3 (Same.seqT s1 t1), Same.seqT s3 (Same.seqT s1 t2), ?_⟩
              rw [d1.length, d2.length]
              show ds1.length ≤ (zipL ds1 ds2).length ∨ ds2.length ≤ (zipL ds1 ds2).length
              rw [zipL_length]
              omega
  · rename_i r s
    obtain ⟨⟨ps1, ds1⟩, el, e⟩ := Option.bind_eq_some_iff.mp e
    obtain ⟨⟨ps2, ds2⟩, el2, e⟩ := Option.map_eq_some_iff.mp e
    cases e
    cases r1 with
    | cons h1 hs =>
      cases hs with
      | cons h2 hs =>
        cases hs
        obtain ⟨a, PL, rfl, lo, hb⟩ := RV.walkA h1 el
        obtain ⟨b, PL', rfl, lo', hb'⟩ := RV.walkA h2 el2
        have hbb : ∀ q ∈ PL ++ PL', q.1 ∈ ps1 ++ ps2 ∧ BB σ Γ q.1 q.2.1 q.2.2 := fun q hq => by
          rcases List.mem_append.mp hq with z | z
          · exact ⟨List.mem_append_left _ (hb q z).1, (hb q z).2⟩
          · exact ⟨List.mem_append_right _ (hb' q z).1, (hb' q z).2⟩
        have lo := lo.mono (PL' := PL ++ PL') (Same.refl _) fun p hp => List.mem_append_left _ hp
        have lo' := lo'.mono (PL' := PL ++ PL') (Same.refl _) fun p hp => List.mem_append_right _ hp
        have pk := pins_ok (S.mono x1) hbb
        obtain ⟨ws, g1, _⟩ := lo.rd H1 F1 (Same.refl _) x1.fh pk
        obtain ⟨ws', g1', _⟩ := lo'.rd H1 F1 (Same.refl _) x1.fh pk
        refine ⟨a, b, ws, ws', rfl, .inl ⟨g1, g1', q _ H1 F1 _ x1 ⟨fun i d H3 F3 e s1 s3 qp => ?_, fun H3 F3 s1 s3 qp => ?_⟩ hbb⟩⟩
        · obtain ⟨us, k1, k2⟩ := lo.rd H3 F3 s1 s3 qp
          obtain ⟨us', k1', k2'⟩ := lo'.rd H3 F3 s1 s3 qp
          obtain ⟨da, db, ea, eb, rfl⟩ := zipL_get ds1 ds2 i d e
          obtain ⟨v, e1, e2⟩ := k2.getV ea
          obtain ⟨v', e1', e2'⟩ := k2'.getV eb
          refine ⟨⟨us, us', v, v', k1, k1', e1, e1'⟩, ?_⟩
          rintro x H' ⟨T, y, y', rfl, hT, rfl, hy, hy'⟩
          have q1 := hy us k1
          have q2 := hy' us' k1'
          rw [e1] at q1
          rw [e1'] at q2
          cases q1
          cases q2
          exact pair_den s3 hT e2 e2'
        · obtain ⟨us, k1, k2⟩ := lo.rd H3 F3 s1 s3 qp
          obtain ⟨us', k1', k2'⟩ := lo'.rd H3 F3 s1 s3 qp
          refine ⟨us, us', k1, k1', ?_⟩
          rw [k2.length, k2'.length]
          show ds1.length ≤ (zipL ds1 ds2).length ∨ ds2.length ≤ (zipL ds1 ds2).length
          rw [zipL_length]
          omega
  · cases e
end
/-! ### comprehensions -/
def wipeG (g : Gm) : List Nat → Gm
  | [] => g
  | v :: vs => (wipeG g vs).set v .un
def compL (f : D → Gm → Option Gm) (c : Gm → Option Bool) (el : Gm → Option R) (g : Gm) : List D → Option (List D)
  | [] => some []
  | d :: ds => (f d g).bind fun g1 => (c g1).bind fun k => if k = true then (el g1).bind fun r => if r.isBw = true then none else (compL f c el g ds).map (r.d :: ·) else compL f c el g ds
def bY : Gm → Option Bool := fun _ => some true
def eLc (mi : Gm → Option (List Nat × List D)) (f : D → Gm → Option Gm) (c : Gm → Option Bool) (el : Gm → Option R) (own : List Nat) : Gm → Option R := fun g => (mi g).bind fun p => if p.2.length ≤ LIM then (compL f c el (wipeG g own) p.2).map .tm else none
theorem SR.wipe {K : PySem.W.Frag} {ca : Nat → Addr} {H0 F0 H F : Hp} {σ : L2.St} {Γ : Gm} (S : SR K ca H0 F0 σ H F Γ) : ∀ vs : List Nat, SR K ca H0 F0 (L2.wipe σ vs) H F (wipeG Γ vs)
  | [] => S
  | v :: vs => (SR.wipe S vs).setUn none
theorem wipe_kp {σ σ' : L2.St} : ∀ {vs : List Nat}, σ.length = σ'.length → (∀ j, j ∉ vs → σ'[j]? = σ[j]?) → L2.wipe σ' vs = L2.wipe σ vs := by
  intro vs hl h
  have key : ∀ (vs : List Nat) (τ : L2.St) (j : Nat), (L2.wipe τ vs)[j]? = if j ∈ vs then (if j < τ.length then some none else none) else τ[j]? := by
    intro vs
    induction vs with
    | nil => intro τ j; simp [L2.wipe]
    | cons v vs ih =>
      intro τ j
      unfold L2.wipe
      rw [List.getElem?_set, ih τ j, wipe_length]
      by_cases e : v = j
      · subst e
        simp
      · simp [e, List.mem_cons, Ne.symm e]
  apply List.ext_getElem?
  intro j
  rw [key, key]
  by_cases hj : j ∈ vs
  · rw [if_pos hj, if_pos hj, hl]
  · rw [if_neg hj, if_neg hj]
    exact h j hj
section
variable {X : Cx} {ca : Nat → Addr}
theorem pts_imp {ifs : List Expr} {t t' : TT} (h : PTs X ifs t) (i : ∀ σ H Q, t' σ H Q → t σ H Q) : PTs X ifs t' := ⟨fun pins s σ H Q I q => h.run pins s σ H Q I (i σ H Q q)⟩
abbrev CV (X : Cx) (ca : Nat → Addr) (ifs : List Expr) (c : Gm → Option Bool) : Prop := PTs X ifs (tTV X.K ca c)
theorem cv_nil : CV X ca [] bY := by
  refine pts_imp pts_nil ?_
  rintro σ H Q ⟨H0, F0, F, Γ, b, S, e, q⟩
  cases e
  exact q H F (.refl S.ext.fh)
theorem cv_one {c : Expr} {k : Gm → Option Bool} (h : TV X ca c k) : CV X ca [c] k := pts_one h
theorem wipe_get {σ : L2.St} : ∀ {vs : List Nat} {j : Nat}, j ∉ vs → (L2.wipe σ vs)[j]? = σ[j]?
  | [], j, h => rfl
  | v :: vs, j, h => by
    unfold L2.wipe
    rw [List.getElem?_set_ne fun e => h (by simp [e]), wipe_get fun e => h (List.mem_cons_of_mem _ e)]
theorem wipeG_length (g : Gm) : ∀ vs : List Nat, (wipeG g vs).length = g.length
  | [] => rfl
  | v :: vs => by unfold wipeG; rw [List.length_set, wipeG_length g vs]
theorem t_lc {K : PySem.W.Frag} {mi : Gm → Option (List Nat × List D)} {f : D → Gm → Option Gm} {c : Gm → Option Bool} {el : Gm → Option R} {own T : List Nat} (hT : ∀ j ∈ T, j ∈ own) (hln : ∀ d g g', f d g = some g' → g'.length = g.length) : ∀ σ H Q, tEV K ca (eLc mi f c el own) σ H Q → tLc (tIV K ca mi) (tGV K ca f T) (tTV K ca c) (tEV K ca el) own σ H Q := by
  rintro σ H Q ⟨H0, F0, F, Γ, z, S, e, q⟩
  unfold eLc at e
  obtain ⟨⟨ps, ds⟩, em, e⟩ := Option.bind_eq_some_iff.mp e
  by_cases hlen : ds.length ≤ LIM
  rotate_left
  · rw [if_neg hlen] at e; cases e
  rw [if_pos hlen] at e
  obtain ⟨es, ee, rfl⟩ := Option.map_eq_some_iff.mp e
  refine ⟨H0, F0, F, Γ, (ps, ds), S, em, fun J H1 F1 PL x1 jo hPL A hA => ?_⟩
  have S1 := S.mono x1
  -- the comprehension's list stands at A, not frozen
  refine ⟨fun i m H' => ∃ F' acc out, m = ds.length - i ∧ i ≤ ds.length ∧ Ext ca H1 F1 H' F' ∧ F' A = none ∧ H' A = some (.lst acc) ∧ Dens K ca F' acc out ∧ out.length ≤ i ∧ (compL f c el (wipeG Γ own) (ds.drop i)).map (out ++ ·) = some es,
    ⟨_, F1, [], [], rfl, Nat.zero_le _, .newO x1.fh _ hA, x1.fh.free hA, upd_same, .nil, Nat.zero_le _, by
      show (compL f c el (wipeG Γ own) ds).map _ = _
      rw [show compL f c el (wipeG Γ own) ds = some es from ee]; rfl⟩, ?_⟩
  rintro i m H2 ⟨F2, acc, out, rfl, hi, x2, fA, hA2, hd, ho, he⟩
  have S2 := S1.mono x2
  have pk := pins_ok S2 hPL
  by_cases hlt : i < ds.length
  · have hd' : ds[i]? = some ds[i] := List.getElem?_eq_getElem hlt
    have ed : ds.drop i = ds[i] :: ds.drop (i + 1) := List.drop_eq_getElem_cons hlt
    obtain ⟨fs, e1, rfl⟩ := Option.map_eq_some_iff.mp he
    rw [ed] at e1
    unfold compL at e1
    obtain ⟨g1, eg, e1⟩ := Option.bind_eq_some_iff.mp e1
    obtain ⟨k, ek, e1⟩ := Option.bind_eq_some_iff.mp e1
    obtain ⟨jgo, jy⟩ := jo.go i _ H2 F2 hd' x2.ff x2.fh pk
    refine .inr ⟨jgo, fun H' => ∃ F' acc out', Ext ca H1 F1 H' F' ∧ F' A = none ∧ H' A = some (.lst acc) ∧ Dens K ca F' acc out' ∧ out'.length ≤ i + 1 ∧ (compL f c el (wipeG Γ own) (ds.drop (i + 1))).map (out' ++ ·) = some (out ++ fs), fun H' ⟨F', acc', out', w1, w2, w3, w4, w5, w6⟩ => ⟨ds.length - (i + 1), by omega, F', acc', out', rfl, hlt, w1, w2, w3, w4, w5, w6⟩, fun x H3 y => ?_⟩
    obtain ⟨F3, x3, d3⟩ := jy x H3 y
    have S3 := (S2.mono x3).wipe own
    refine ⟨H0, F0, F3, _, _, g1, S3, d3, eg, fun σ4 S4 k4 => ⟨?_, ?_⟩⟩
    · refine wipe_kp ?_ fun j hj => ?_
      · rw [S4.len, hln _ _ _ eg, wipeG_length, S.len]
      · rw [k4 j fun z => hj (hT j z), wipe_get hj]
    · have x23 := x2.trans x3
      have fA3 : F3 A = none := x3.keepN hA2 fA
      refine ⟨H0, F0, F3, g1, k, S4, ek, fun H5 F5 x5 => ?_⟩
      have x25 := x23.trans x5
      have x35 := x3.trans x5
      have hA5 : H5 A = some (.lst acc) := x35.hh.l hA2
      have fA5 : F5 A = none := x35.keepN hA2 fA
      have hd5 := hd.mono x35.ff
      cases k with
      | true =>
        refine iteT ?_
        rw [if_pos rfl] at e1
        obtain ⟨r, er, e1⟩ := Option.bind_eq_some_iff.mp e1
        by_cases hb : r.isBw = true
        · rw [if_pos hb] at e1; cases e1
        rw [if_neg hb] at e1
        obtain ⟨rest, erest, rfl⟩ := Option.map_eq_some_iff.mp e1
        refine ⟨H0, F0, F5, g1, r, S4.mono x5, er, fun v H6 F6 x6 r6 => ?_⟩
        have hA6 : H6 A = some (.lst acc) := x6.hh.l hA5
        obtain ⟨F7, x7, s7, d7⟩ := RV.froze x6 r6 (by simpa using hb)
        have fA7 : F7 A = none := x7.keepN hA5 fA5
        have x27 := x25.trans x7
        refine ⟨acc, hA6, ?_, F7, acc ++ [v], out ++ [r.d], ?_, fA7, upd_same, (hd5.mono x7.ff).append (.one d7), ?_, ?_⟩
        · rw [lim_eq, hd.length]
          omega
        · refine ⟨x27.hh.updO (noT_none hA) (Pl.lst hA6), x27.ff, fun b o h => ?_, x27.nw, x27.nt⟩
          · rw [upd_ne (ne_of_none h fA7)]; exact x27.fh b o h
        · rw [List.length_append]
          simp only [List.length_cons, List.length_nil]
          omega
        · rw [erest]
          simp
      | false =>
        refine iteF ?_
        rw [if_neg Bool.false_ne_true] at e1
        refine ⟨F5, acc, out, x25, fA5, hA5, hd5, by omega, ?_⟩
        rw [e1]
        rfl
  · have ei : i = ds.length := by omega
    subst ei
    rw [List.drop_length] at he
    have he : some (out ++ []) = some es := he
    rw [List.append_nil] at he
    cases he
    refine .inl ⟨jo.stop H2 F2 x2.ff x2.fh pk, ?_⟩
    exact q _ H2 F2 (x1.trans x2) ⟨A, acc, rfl, x1.hh.free (noT_none hA), fA, hA2, hd⟩
theorem gN_ln {i : Nat} : ∀ d g g', gN i d g = some g' → g'.length = g.length := fun d g g' e => by cases e; exact List.length_set
theorem gE_ln : ∀ d g g', gE d g = some g' → g'.length = g.length := fun d g g' e => by
  cases d with
  | nil => cases e; rfl
  | cons d ds => cases e
theorem gC_ln {f : D → Gm → Option Gm} {r : List D → Gm → Option Gm} (h1 : ∀ d g g', f d g = some g' → g'.length = g.length) (h2 : ∀ d g g', r d g = some g' → g'.length = g.length) : ∀ d g g', gC f r d g = some g' → g'.length = g.length := fun d g g' e => by
  cases d with
  | nil => cases e
  | cons d ds =>
    have e : (f d g).bind (r ds) = some g' := e
    obtain ⟨g1, e1, e2⟩ := Option.bind_eq_some_iff.mp e
    rw [h2 _ _ _ e2, h1 _ _ _ e1]
theorem gT_ln {r : List D → Gm → Option Gm} (h : ∀ d g g', r d g = some g' → g'.length = g.length) : ∀ d g g', gT r d g = some g' → g'.length = g.length := fun d g g' e => by
  unfold gT at e
  split at e
  · exact h _ _ _ e
  · cases e
theorem ev_lc {elt tg iter : Expr} {ifs : List Expr} {scope : Scope} {own : List (Str × Nat)} {pos : Pos} {mi : Gm → Option (List Nat × List D)} {f : D → Gm → Option Gm} {c : Gm → Option Bool} {el : Gm → Option R} {T ow : List Nat} (hc : X.calm = true) (hN : X.N.Nodup) (hi : IV X ca tg iter mi) (ok : BlkOk X.N X.env.scope scope own) (how : ow = own.map (·.2))
    (hg : ∀ (s : Shared) (H : Hp) (C : Addr) (cl : List (Str × Addr)) (fp : List Addr), GV (X.blk s H scope (compEnvC scope cl C X.env) fp) ca tg f T) (ht : ∀ (s : Shared) (H : Hp) (C : Addr) (cl : List (Str × Addr)) (fp : List Addr), CV (X.blk s H scope (compEnvC scope cl C X.env) fp) ca ifs c)
    (he : ∀ (s : Shared) (H : Hp) (C : Addr) (cl : List (Str × Addr)) (fp : List Addr), EV (X.blk s H scope (compEnvC scope cl C X.env) fp) ca elt el) (hT : ∀ j ∈ T, j ∈ ow) (ln : ∀ d g g', f d g = some g' → g'.length = g.length) (hs : ∀ x, foldedSetIterable iter X.env x = pure x := by intro _; rfl) :
    EV X ca (.ListComp elt [⟨tg, iter, ifs, 0⟩] scope pos) (eLc mi f c el ow) := by
  subst how
  exact pe_imp (pe_lc (wi := tIV X.K ca mi) (g := tGV X.K ca f T) (tt := tTV X.K ca c) (te := tEV X.K ca el) hc hN hi ok (fun s H C cl fp => (hg s H C cl fp).pg) ht he hs) (t_lc hT ln)
/-- name = [..] on one line -/
theorem sv_setLc {i : Nat} {y : Str} {py : Pos} {elt tg iter : Expr} {ifs : List Expr} {scope : Scope} {own : List (Str × Nat)} {pos spos : Pos} {mi : Gm → Option (List Nat × List D)} {f : D → Gm → Option Gm} {c : Gm → Option Bool} {el : Gm → Option R} {T ow : List Nat} (hc : X.calm = true) (hN : X.N.Nodup) (hy : X.N[i]? = some y) (hyl : X.env.scope.names.lookup y = some .local)
    (hsw : swapsWith (.ListComp elt [⟨tg, iter, ifs, 0⟩] scope pos) (some (.Name y py)) spos.line X.env = pure true) (hi : IV X ca tg iter mi) (ok : BlkOk X.N X.env.scope scope own) (how : ow = own.map (·.2))
    (hg : ∀ (s : Shared) (H : Hp) (C : Addr) (cl : List (Str × Addr)) (fp : List Addr), GV (X.blk s H scope (compEnvC scope cl C X.env) fp) ca tg f T) (ht : ∀ (s : Shared) (H : Hp) (C : Addr) (cl : List (Str × Addr)) (fp : List Addr), CV (X.blk s H scope (compEnvC scope cl C X.env) fp) ca ifs c)
    (he : ∀ (s : Shared) (H : Hp) (C : Addr) (cl : List (Str × Addr)) (fp : List Addr), EV (X.blk s H scope (compEnvC scope cl C X.env) fp) ca elt el) (hT : ∀ j ∈ T, j ∈ ow) (ln : ∀ d g g', f d g = some g' → g'.length = g.length) (hs : ∀ x, foldedSetIterable iter X.env x = pure x := by intro _; rfl) :
    SV X ca (.Assign [.Name y py] (.ListComp elt [⟨tg, iter, ifs, 0⟩] scope pos) spos) (sSet i (eLc mi f c el ow)) [i] := by
  subst how
  refine ⟨ps_imp (ps_setLc (wi := tIV X.K ca mi) (g := tGV X.K ca f T) (tt := tTV X.K ca c) (te := tEV X.K ca el) hc hN hy hyl hsw hi ok (fun s H C cl fp => (hg s H C cl fp).pg) ht he hs) ?_, fun g o e => ?_⟩
  · rintro D σ H ⟨H0, F0, F, Γ, o, S, e, p⟩
    unfold sSet at e
    obtain ⟨r, er, e⟩ := Option.bind_eq_some_iff.mp e
    cases z : setR Γ i r with
    | none => rw [z] at e; cases e
    | some g' =>
      rw [z] at e
      cases e
      exact t_lc hT ln σ H _ ⟨H0, F0, F, Γ, r, S, er, fun v H' F' x h => p _ H' F' (S.setR x h z) x.ff kp_set⟩
  · unfold sSet at e
    obtain ⟨r, er, e⟩ := Option.bind_eq_some_iff.mp e
    cases z : setR g i r with
    | none => rw [z] at e; cases e
    | some g' => rw [z] at e; cases e; exact setR_kp z
end
end BK
namespace BK
open PySem PySem.Spec L2
open PyProof.Rows (envOfC)
set_option autoImplicit false
/-! ### built-ins -/
section
variable {X : Cx} {ca : Nat → Addr} {e : Expr} {es : List Expr} {m n : Gm → Option R} {ms : Gm → Option (List R)} {pos p : Pos} {x : Str}
theorem ev_callB {id : String} {r : List V → Hp → VK → Prop} {f : List R → Option R} (hc : CallR X (.builtin id) r) (o : CallD X.K ca r f) (hg : Gl X x) (hm : X.mg x = none) (hv : bootBuiltins x = some (.builtin id)) (ha : AV X ca (e :: es) ms) (hn : x ≠ "__name__" := by decide) (hdb : (x == ("__debug__" : Str)) = false := by decide)
    (he : starEach (e :: es) X.env = (false, eval e X.env) :: starEach es X.env := by rfl) (hpl : (backTo pos (starEach es X.env)).any (·.1) = false := by rfl) : EV X ca (.Call (.Name x p) (e :: es) [] pos) (eA f ms) := pe_imp (pe_callB hc hg hm hv ha hn hdb he hpl) (t_call o)
theorem ev_callT {T : String} {r : List V → Hp → VK → Prop} {f : List R → Option R} (hc : CallR X (.type T) r) (o : CallD X.K ca r f) (hg : Gl X x) (hm : X.mg x = none) (hv : bootBuiltins x = some (.type T)) (ha : AV X ca (e :: es) ms) (hn : x ≠ "__name__" := by decide) (hdb : (x == ("__debug__" : Str)) = false := by decide)
    (he : starEach (e :: es) X.env = (false, eval e X.env) :: starEach es X.env := by rfl) (hpl : (backTo pos (starEach es X.env)).any (·.1) = false := by rfl) : EV X ca (.Call (.Name x p) (e :: es) [] pos) (eA f ms) := pe_imp (pe_callTy hc hg hm hv ha hn hdb he hpl) (t_call o)
end
section
variable {K : PySem.W.Frag} {ca : Nat → Addr}
def cLen (rs : List R) : Option R := match rs with
  | [r] => match r.d with
    | .lst ds => some (.va (.int ds.length))
    | .tup ds => some (.va (.int ds.length))
    | .rol ds => some (.va (.int ds.length))
    | .str z => if z.length ≤ LIM then some (.va (.int z.length)) else none
    | _ => none
  | _ => none
def rLenA (K : PySem.W.Frag) : List V → Hp → VK → Prop := fun xs H Q => (∃ p ys, xs = [.ref p] ∧ (SqL K H p ys ∨ SqT K H p ys) ∧ Q (.int ys.length) H) ∨ ∃ z, xs = [.str z] ∧ z.length ≤ sizeLine ∧ Q (.int z.length) H
theorem call_lenA {X : Cx} : CallR X (.builtin "len") (rLenA X.K) := call_len_seq.or call_len_str
theorem cd_len : CallD K ca (rLenA K) cLen := by
  intro B Hs F H vs xs z Q s hr e q
  unfold cLen at e
  split at e
  · cases hr with
    | cons h hs =>
      cases hs
      split at e
      · rename_i ds hd
        cases e
        obtain ⟨a, us, rfl, r1, d1⟩ := RV.lst s h hd
        exact .inl ⟨a, us, rfl, .inl (rd_l r1), by rw [d1.length]; exact q _ H F (.refl s) (.int _)⟩
      · rename_i ds hd
        cases e
        cases RV.den h hd rfl with
        | tup t d1 => exact .inl ⟨_, _, rfl, .inr (Same.seqT s t), by rw [d1.length]; exact q _ H F (.refl s) (.int _)⟩
      · rename_i ds hd
        cases e
        cases RV.den h hd rfl with
        | rol t d1 => exact .inl ⟨_, _, rfl, .inl (s.seq t), by rw [d1.length]; exact q _ H F (.refl s) (.int _)⟩
      · rename_i zz hd
        split at e
        · rename_i hl
          cases e
          cases RV.den h hd rfl
          exact .inr ⟨zz, rfl, by rw [lim_eq]; exact hl, q _ H F (.refl s) (.int _)⟩
        · cases e
      · cases e
  · cases e
/-- int of an int, a bool, a text -/
def cInt (rs : List R) : Option R := match rs with
  | [.va (.int i)] => some (.va (.int i))
  | [.va (.bl k)] => some (.va (.int (if k then 1 else 0)))
  | [.va (.str a)] => if a.length ≤ 640 then (PySem.intText? a).map fun n => .va (.int n) else none
  | _ => none
/-- max, min of two ints -/
def cI2 (h : Int → Int → D) (rs : List R) : Option R := match rs with
  | [.va (.int i), .va (.int j)] => some (.va (h i j))
  | _ => none
theorem cd_I2 {h : Int → Int → D} {g : Int → Int → V} (hg : ∀ F i j, Den K ca F (g i j) (h i j)) : CallD K ca (fun xs H Q => ∃ i j, xs = [.int i, .int j] ∧ Q (g i j) H) (cI2 h) := by
  intro B Hs F H vs xs z Q s hr e q
  unfold cI2 at e
  split at e
  · rename_i i j
    cases e
    cases hr with
    | cons h hs =>
      cases hs with
      | cons h2 hs =>
        cases hs
        cases h
        cases h2
        exact ⟨i, j, rfl, q _ H F (.refl s) (hg F i j)⟩
  · cases e
def cMax2 := cI2 fun i j => .int (if j > i then j else i)
def cMin2 := cI2 fun i j => .int (if j < i then j else i)
theorem cd_max2 : CallD K ca (fun xs H Q => ∃ i j, xs = [.int i, .int j] ∧ Q (.int (if j > i then j else i)) H) cMax2 := cd_I2 fun _ _ _ => .int _
theorem cd_min2 : CallD K ca (fun xs H Q => ∃ i j, xs = [.int i, .int j] ∧ Q (.int (if j < i then j else i)) H) cMin2 := cd_I2 fun _ _ _ => .int _
/-- lists of ints, of bools, of texts read off -/
def intsOf : List D → Option (List Int)
  | [] => some []
  | .int i :: ds => (intsOf ds).map (i :: ·)
  | _ => none
def blsOf : List D → Option (List Bool)
  | [] => some []
  | .bl i :: ds => (blsOf ds).map (i :: ·)
  | _ => none
theorem intsOf_eq : ∀ {ds : List D} {ns : List Int}, intsOf ds = some ns → ds = ns.map D.int
  | [], ns, h => by cases h; rfl
  | d :: ds, ns, h => by
    cases d <;> first
      | (obtain ⟨ms, e, rfl⟩ := Option.map_eq_some_iff.mp (show (intsOf ds).map _ = some ns from h)
         rw [intsOf_eq e]
         rfl)
      | cases h
theorem blsOf_eq : ∀ {ds : List D} {ns : List Bool}, blsOf ds = some ns → ds = ns.map D.bl
  | [], ns, h => by cases h; rfl
  | d :: ds, ns, h => by
    cases d <;> first
      | (obtain ⟨ms, e, rfl⟩ := Option.map_eq_some_iff.mp (show (blsOf ds).map _ = some ns from h)
         rw [blsOf_eq e]
         rfl)
      | cases h
theorem intsOf_map : ∀ ns : List Int, intsOf (ns.map D.int) = some ns
  | [] => rfl
  | n :: ns => by show (intsOf (ns.map D.int)).map _ = _; rw [intsOf_map ns]; rfl
theorem blsOf_map : ∀ ns : List Bool, blsOf (ns.map D.bl) = some ns
  | [] => rfl
  | n :: ns => by show (blsOf (ns.map D.bl)).map _ = _; rw [blsOf_map ns]; rfl
def lstD : D → Option (List D)
  | .lst ds => some ds
  | _ => none
theorem lstD_eq {d : D} {ds : List D} (h : lstD d = some ds) : d = .lst ds := by
  cases d <;> first | (cases h; rfl) | cases h
def c1 (f : R → Option R) (rs : List R) : Option R := match rs with
  | [r] => f r
  | _ => none
def cSum : List R → Option R := c1 fun r => ((lstD r.d).bind intsOf).map fun ns => .va (.int ns.sum)
def cAll : List R → Option R := c1 fun r => ((lstD r.d).bind blsOf).map fun ns => .va (.bl (ns.all id))
theorem one_of {f : R → Option R} {rs : List R} {z : R} (h : c1 f rs = some z) : ∃ r, rs = [r] ∧ f r = some z := by
  unfold c1 at h
  split at h
  · exact ⟨_, rfl, h⟩
  · cases h
theorem cd_sum : CallD K ca (rSum K) cSum := by
  intro B Hs F H vs xs z Q s hr e q
  obtain ⟨r, rfl, e⟩ := one_of e
  obtain ⟨ns, en, rfl⟩ := Option.map_eq_some_iff.mp e
  obtain ⟨ds, ed, en⟩ := Option.bind_eq_some_iff.mp en
  cases hr with
  | cons h hs =>
    cases hs
    obtain ⟨a, us, rfl, r1, d1⟩ := RV.lst s h (lstD_eq ed)
    rw [intsOf_eq en] at d1
    have := d1.ints_of
    subst this
    exact ⟨a, ns, rfl, rd_l r1, q _ H F (.refl s) (.int _)⟩
theorem cd_all : CallD K ca (rAll K) cAll := by
  intro B Hs F H vs xs z Q s hr e q
  obtain ⟨r, rfl, e⟩ := one_of e
  obtain ⟨ns, en, rfl⟩ := Option.map_eq_some_iff.mp e
  obtain ⟨ds, ed, en⟩ := Option.bind_eq_some_iff.mp en
  cases hr with
  | cons h hs =>
    cases hs
    obtain ⟨a, us, rfl, r1, d1⟩ := RV.lst s h (lstD_eq ed)
    rw [blsOf_eq en] at d1
    have := d1.bls_of
    subst this
    exact ⟨a, ns, rfl, rd_l r1, q _ H F (.refl s) (.bl _)⟩
/-- max, min of a list of ints -/
def maxL : List Int → Option Int
  | [] => none
  | n :: ns => some (ns.foldl max n)
theorem foldl_max_mem : ∀ (ns : List Int) (n : Int), ns.foldl max n ∈ n :: ns ∧ ∀ y ∈ n :: ns, y ≤ ns.foldl max n
  | [], n => by simp
  | a :: ns, n => by
    obtain ⟨h1, h2⟩ := foldl_max_mem ns (max n a)
    refine ⟨?_, fun y hy => ?_⟩
    · show ns.foldl max (max n a) ∈ _
      rcases List.mem_cons.mp h1 with e | e
      · rw [e]
        rcases Int.le_total n a with z | z
        · rw [Int.max_eq_right z]; simp
        · rw [Int.max_eq_left z]; simp
      · exact List.mem_cons_of_mem _ (List.mem_cons_of_mem _ e)
    · show y ≤ ns.foldl max (max n a)
      have h3 := h2 (max n a) List.mem_cons_self
      rcases List.mem_cons.mp hy with e | hy
      · subst e; omega
      · rcases List.mem_cons.mp hy with e | hy
        · subst e; omega
        · exact h2 y (List.mem_cons_of_mem _ hy)
def cMax1 : List R → Option R := c1 fun r => (((lstD r.d).bind intsOf).bind maxL).map fun n => .va (.int n)
theorem cd_max1 : CallD K ca (rMax K) cMax1 := by
  intro B Hs F H vs xs z Q s hr e q
  obtain ⟨r, rfl, e⟩ := one_of e
  obtain ⟨n, en, rfl⟩ := Option.map_eq_some_iff.mp e
  obtain ⟨ns, en, em⟩ := Option.bind_eq_some_iff.mp en
  obtain ⟨ds, ed, en⟩ := Option.bind_eq_some_iff.mp en
  cases hr with
  | cons h hs =>
    cases hs
    obtain ⟨a, us, rfl, r1, d1⟩ := RV.lst s h (lstD_eq ed)
    rw [intsOf_eq en] at d1
    have := d1.ints_of
    subst this
    cases ns with
    | nil => cases em
    | cons b ns =>
      cases em
      obtain ⟨h1, h2⟩ := foldl_max_mem ns b
      refine ⟨a, _, rfl, rd_l r1, Nat.succ_pos _, fun k hk hl => ?_⟩
      have : k = ns.foldl max b := Int.le_antisymm (h2 k hk) (hl _ h1)
      subst this
      exact q _ H F (.refl s) (.int _)
/-- list(x), tuple(x) -/
def cList : List R → Option R := c1 fun r => match r.d with
  | .lst ds => some (.tm ds)
  | .tup ds => some (.tm ds)
  | _ => none
theorem cd_list : CallD K ca (fun xs H Q => ∃ p ys, xs = [.ref p] ∧ (SqL K H p ys ∨ SqT K H p ys) ∧ ∀ l, H l = none → Q (.ref l) (upd H l (.lst ys))) cList := by
  intro B Hs F H vs xs z Q s hr e q
  obtain ⟨r, rfl, e2⟩ := one_of e
  clear e
  cases hr with
  | cons h hs =>
    cases hs
    split at e2
    · rename_i ds hd
      cases e2
      obtain ⟨a, us, rfl, r1, d1⟩ := RV.lst s h hd
      exact ⟨a, us, rfl, .inl (rd_l r1), fun l hl => q _ _ F (.newO s _ hl) ⟨l, us, rfl, noT_none hl, s.free hl, upd_same, d1⟩⟩
    · rename_i ds hd
      cases e2
      cases RV.den h hd rfl with
      | tup t d1 => exact ⟨_, _, rfl, .inr (Same.seqT s t), fun l hl => q _ _ F (.newO s _ hl) ⟨l, _, rfl, noT_none hl, s.free hl, upd_same, d1⟩⟩
    · cases e2
def cTuple : List R → Option R := c1 fun r => match r.d with
  | .lst ds => some (.va (.tup ds))
  | .tup ds => some (.va (.tup ds))
  | _ => none
end
/-! ### isinstance of built-in types -/
inductive BTy where
  | int | bool | str | list | tuple
def BTy.nm : BTy → String
  | .int => "int"
  | .bool => "bool"
  | .str => "str"
  | .list => "list"
  | .tuple => "tuple"
def isB : BTy → D → Option Bool
  | _, .ins _ _ => none
  | _, .rol _ => none
  | _, .dic _ _ => none
  | _, .exc _ _ => none
  | _, .opq _ => none
  | .int, .int _ => some true
  | .int, .bl _ => some true
  | .bool, .bl _ => some true
  | .str, .str _ => some true
  | .list, .lst _ => some true
  | .tuple, .tup _ => some true
  | .tuple, .ptp _ => some true
  | _, _ => some false
def tyN : D → String
  | .non => "NoneType"
  | .bl _ => "bool"
  | .int _ => "int"
  | .str _ => "str"
  | .lst _ => "list"
  | .tup _ => "tuple"
  | .ins _ _ => ""
  | .rol _ => ""
  | .dic _ _ => ""
  | .exc _ _ => ""
  | .opq _ => ""
  | .ptp _ => "tuple"
theorem isB_kit : ∀ (T : BTy) (d : D) (b : Bool), isB T d = some b → kitB (tyN d) T.nm = some b := by
  intro T d b h
  cases d <;> cases T <;> cases b <;> first
    | (exfalso; simp [isB] at h; done)
    | (clear h; show kitB _ _ = _; simp only [tyN, BTy.nm]; decide +kernel)
theorem RV.ty {K : PySem.W.Frag} {ca : Nat → Addr} {B : BT} {Hs F H : Hp} {v : V} {r : R} (s : Same F H) (h : RV K ca B Hs F H v r) (n : ∀ c fs, r.d ≠ .ins c fs) (n2 : ∀ fs, r.d ≠ .rol fs) (n3 : ∀ ks fs, r.d ≠ .dic ks fs) (n4 : (∀ c fs, r.d ≠ .exc c fs) ∧ ∀ a, r.d ≠ .opq a) : TyX K H v (.type (tyN r.d)) := by
  have lst : ∀ ds, r.d = .lst ds → TyX K H v (.type "list") := fun ds e => by
    obtain ⟨a, us, rfl, r1, _⟩ := RV.lst s h e
    rcases r1 with z | ⟨o, z⟩
    · exact .base (.lst z)
    · exact .base (.frz z)
  cases e : r.d with
  | non => cases RV.den h e rfl; exact .base .non
  | bl b => cases RV.den h e rfl; exact .base (.bl _)
  | int i => cases RV.den h e rfl; exact .base (.int _)
  | str x => cases RV.den h e rfl; exact .base (.str _)
  | lst ds => exact lst ds e
  | tup ds =>
    cases RV.den h e rfl with
    | tup t d1 =>
      rcases Same.seqT s t with (z | ⟨o, z⟩) | ⟨o, its, n, z1, z2, _⟩
      · exact .base (.tup z)
      · exact .fTuple z
      · exact .kTuple z1 z2
  | ins c fs => exact absurd e (n c fs)
  | rol fs => exact absurd e (n2 fs)
  | dic ks fs => exact absurd e (n3 ks fs)
  | exc c fs => exact absurd e (n4.1 c fs)
  | opq a => exact absurd e (n4.2 a)
  | ptp ds =>
    cases RV.den h e rfl with
    | ptp t z d1 => exact .fTuple (s _ _ t)
def eIs (T : BTy) (m : Gm → Option R) : Gm → Option R := fun g => (m g).bind fun r => if r.isTm = true then none else (isB T r.d).map fun b => .va (.bl b)
/-- isinstance(x, (A, B)) -/
def eIs2 (T U : BTy) (m : Gm → Option R) : Gm → Option R := fun g => (m g).bind fun r => if r.isTm = true then none else (isB T r.d).bind fun a => (isB U r.d).map fun b => .va (.bl (a || b))
section
variable {X : Cx} {ca : Nat → Addr} {e : Expr} {m : Gm → Option R} {pos p p1 p2 p3 : Pos}
theorem isB_ins {T : BTy} {r : R} {b : Bool} (h : isB T r.d = some b) : ∀ c fs, r.d ≠ .ins c fs := fun c fs e => by
  rw [e] at h
  cases T <;> cases h
theorem isB_exc {T : BTy} {r : R} {b : Bool} (h : isB T r.d = some b) : (∀ c fs, r.d ≠ .exc c fs) ∧ ∀ a, r.d ≠ .opq a := by
  refine ⟨fun c fs e => ?_, fun a e => ?_⟩ <;> (rw [e] at h; cases T <;> cases h)
theorem isB_dic {T : BTy} {r : R} {b : Bool} (h : isB T r.d = some b) : ∀ ks fs, r.d ≠ .dic ks fs := fun ks fs e => by
  rw [e] at h
  cases T <;> cases h
theorem isB_rol {T : BTy} {r : R} {b : Bool} (h : isB T r.d = some b) : ∀ fs, r.d ≠ .rol fs := fun fs e => by
  rw [e] at h
  cases T <;> cases h
theorem ev_isi {T : BTy} {x : Str} (hg : Gl X "isinstance") (hm : X.mg "isinstance" = none) (hv : bootBuiltins "isinstance" = some (.builtin "isinstance")) (he : EV X ca e m) (hT : PE X (.Name x p1) (tC (.ty T.nm)))
    (hs1 : starEach [e, .Name x p1] X.env = (false, eval e X.env) :: starEach [.Name x p1] X.env := by rfl) (hs2 : starEach [.Name x p1] X.env = (false, eval (.Name x p1) X.env) :: starEach [] X.env := by rfl)
    (hpl : (backTo pos (starEach [.Name x p1] X.env)).any (·.1) = false := by rfl) : EV X ca (.Call (.Name "isinstance" p) [e, .Name x p1] [] pos) (eIs T m) := by
  refine pe_imp (pe_callB call_isi hg hm hv (pa_cons he (pa_cons hT pa_nil hs2) hs1) (by decide) (by decide) hs1 hpl) ?_
  rintro σ H Q ⟨H0, F0, F, Γ, z, S, e, q⟩
  unfold eIs at e
  obtain ⟨r, er, e⟩ := Option.bind_eq_some_iff.mp e
  by_cases ht : r.isTm = true
  · rw [if_pos ht] at e; cases e
  rw [if_neg ht] at e
  obtain ⟨b, eb, rfl⟩ := Option.map_eq_some_iff.mp e
  refine ⟨H0, F0, F, Γ, r, S, er, fun v H1 F1 x1 r1 => ?_⟩
  exact ⟨v, _, _, _, b, rfl, .ty _, RV.ty x1.fh r1 (isB_ins eb) (isB_rol eb) (isB_dic eb) (isB_exc eb), kit_ty (isB_kit T _ b eb), q _ H1 F1 x1 (.bl b)⟩
theorem ev_isi2 {T U : BTy} {x y : Str} {kt : Nat} (hg : Gl X "isinstance") (hm : X.mg "isinstance" = none) (hv : bootBuiltins "isinstance" = some (.builtin "isinstance")) (he : EV X ca e m) (hT : PE X (.Name x p1) (tC (.ty T.nm))) (hU : PE X (.Name y p2) (tC (.ty U.nm)))
    (hs1 : starEach [e, .Tuple [.Name x p1, .Name y p2] kt p3] X.env = (false, eval e X.env) :: starEach [.Tuple [.Name x p1, .Name y p2] kt p3] X.env := by rfl)
    (hs2 : starEach [.Tuple [.Name x p1, .Name y p2] kt p3] X.env = (false, eval (.Tuple [.Name x p1, .Name y p2] kt p3) X.env) :: starEach [] X.env := by rfl)
    (hs3 : starEach [.Name x p1, .Name y p2] X.env = (false, eval (.Name x p1) X.env) :: starEach [.Name y p2] X.env := by rfl) (hs4 : starEach [.Name y p2] X.env = (false, eval (.Name y p2) X.env) :: starEach [] X.env := by rfl)
    (hpl : (backTo pos (starEach [.Tuple [.Name x p1, .Name y p2] kt p3] X.env)).any (·.1) = false := by rfl) : EV X ca (.Call (.Name "isinstance" p) [e, .Tuple [.Name x p1, .Name y p2] kt p3] [] pos) (eIs2 T U m) := by
  refine pe_imp (pe_callB call_isiT hg hm hv (pa_cons he (pa_cons (pe_tup (pa_cons hT (pa_cons hU pa_nil hs4) hs3)) pa_nil hs2) hs1) (by decide) (by decide) hs1 hpl) ?_
  rintro σ H Q ⟨H0, F0, F, Γ, z, S, e, q⟩
  unfold eIs2 at e
  obtain ⟨r, er, e⟩ := Option.bind_eq_some_iff.mp e
  by_cases ht : r.isTm = true
  · rw [if_pos ht] at e; cases e
  rw [if_neg ht] at e
  obtain ⟨a, ea, e⟩ := Option.bind_eq_some_iff.mp e
  obtain ⟨b, eb, rfl⟩ := Option.map_eq_some_iff.mp e
  refine ⟨H0, F0, F, Γ, r, S, er, fun v H1 F1 x1 r1 => ⟨by show 2 ≤ sizeLine; decide, fun t ht2 => ?_⟩⟩
  have x2 := x1.trans (Ext.newO x1.fh (.tup [.ty T.nm, .ty U.nm]) ht2)
  have r2 := r1.mono (Ext.newO x1.fh (.tup [.ty T.nm, .ty U.nm]) ht2)
  refine ⟨v, t, _, _, [.type T.nm, .type U.nm], a || b, rfl, upd_same, .cons (.ty _) (.cons (.ty _) .nil), RV.ty x2.fh r2 (isB_ins ea) (isB_rol ea) (isB_dic ea) (isB_exc ea), ?_, q _ _ F1 x2 (.bl _)⟩
  refine kitAny_cons (kit_ty (isB_kit T _ a ea)) (fun h => ?_) (fun h => by subst h; rfl)
  subst h
  refine kitAny_cons (kit_ty (isB_kit U _ b eb)) (fun h => ?_) (fun h => by subst h; rfl)
  subst h
  exact kitAny_nil
end
end BK
namespace BK
open PySem PySem.Spec L2
open PyProof.Rows (envOfC)
set_option autoImplicit false
/-! ### the other operators on ints -/
section
variable {K : PySem.W.Frag} {ca : Nat → Addr}
def oSub := oI (fun _ _ => True) fun i j => .int (i - j)
def oDiv := oI CDivB fun i j => .int (i.fdiv j)
def oMod := oI (fun _ j => j ≠ 0) fun i j => .int (i.fmod j)
def oPow := oI CPow fun i j => .int (i ^ j.toNat)
def oShl := oI CPow fun i j => .int (i * 2 ^ j.toNat)
def oShr := oI (fun _ j => 0 ≤ j) fun i j => .int (i / 2 ^ j.toNat)
def oAndB := oI (fun _ _ => True) fun i j => .int (Builtin.bitAnd i j)
def uNeg := uI fun i => .int (-i)
theorem od_sub : OpD K ca (rI0 fun i j => .int (i - j)) oSub := od_I0 fun _ _ _ => .int _
theorem od_div : OpD K ca (rI CDivB fun i j => .int (i.fdiv j)) oDiv := od_I fun _ _ _ => .int _
theorem od_mod : OpD K ca (rI (fun _ j => j ≠ 0) fun i j => .int (i.fmod j)) oMod := od_I fun _ _ _ => .int _
theorem od_pow : OpD K ca (rI CPow fun i j => .int (i ^ j.toNat)) oPow := od_I fun _ _ _ => .int _
theorem od_shl : OpD K ca (rI CPow fun i j => .int (i * 2 ^ j.toNat)) oShl := od_I fun _ _ _ => .int _
theorem od_shr : OpD K ca (rI (fun _ j => 0 ≤ j) fun i j => .int (i / 2 ^ j.toNat)) oShr := od_I fun _ _ _ => .int _
theorem od_and : OpD K ca (rI0 fun i j => .int (Builtin.bitAnd i j)) oAndB := od_I0 fun _ _ _ => .int _
theorem ud_neg : UnD K ca (rU fun i => .int (-i)) uNeg := ud_I fun _ _ => .int _
end
theorem b_isinstance : bootBuiltins "isinstance" = some (.builtin "isinstance") := by decide +kernel
theorem b_len : bootBuiltins "len" = some (.builtin "len") := by decide +kernel
theorem b_max : bootBuiltins "max" = some (.builtin "max") := by decide +kernel
theorem b_min : bootBuiltins "min" = some (.builtin "min") := by decide +kernel
theorem b_sum : bootBuiltins "sum" = some (.builtin "sum") := by decide +kernel
theorem b_all : bootBuiltins "all" = some (.builtin "all") := by decide +kernel
theorem b_sorted : bootBuiltins "sorted" = some (.builtin "sorted") := by decide +kernel
theorem b_int : bootBuiltins "int" = some (.type "int") := by decide +kernel
theorem b_bool : bootBuiltins "bool" = some (.type "bool") := by decide +kernel
theorem b_str : bootBuiltins "str" = some (.type "str") := by decide +kernel
theorem b_list : bootBuiltins "list" = some (.type "list") := by decide +kernel
theorem b_tuple : bootBuiltins "tuple" = some (.type "tuple") := by decide +kernel
/-- a built-in type's name as a value -/
theorem pe_ty {X : Cx} {x : Str} {n : String} {pos : Pos} (hg : Gl X x) (hm : X.mg x = none) (hv : bootBuiltins x = some (.type n)) (hn : x ≠ "__name__" := by decide) (hd : (x == ("__debug__" : Str)) = false := by decide) : PE X (.Name x pos) (tC (.ty n)) := pe_bltn hg hm hv rfl hn hd
end BK
namespace BK
open PySem PySem.Spec L2
open PyProof.Rows (envOfC)
set_option autoImplicit false
theorem gE_le : ∀ ds g g', gE ds g = some g' → ds.length = 0 := fun ds g g' e => by
  cases ds with
  | nil => rfl
  | cons d ds => cases e
theorem gC_le {f : D → Gm → Option Gm} {r : List D → Gm → Option Gm} {n : Nat} (h : ∀ ds g g', r ds g = some g' → ds.length = n) : ∀ ds g g', gC f r ds g = some g' → ds.length = n + 1 := fun ds g g' e => by
  cases ds with
  | nil => cases e
  | cons d ds =>
    have e : (f d g).bind (r ds) = some g' := e
    obtain ⟨g1, e1, e2⟩ := Option.bind_eq_some_iff.mp e
    rw [List.length_cons, h _ _ _ e2]
/-! += -/
def rIAdd : TIp := fun x y H Q => ipI (fun i j => i + j) x y H Q ∨ ∃ i j, x = .str i ∧ y = .str j ∧ i.length + j.length ≤ sizeLine ∧ Q (.str (i ++ j)) H
theorem ip_addA {X : Cx} : PIp X .Add rIAdd := by
  intro pins s σ H x y v u Q I r1 r2 h
  rcases h with h | h
  · exact ip_add pins s σ H x y v u Q I r1 r2 h
  · exact iop_add_str pins s σ H x y v u Q I r1 r2 h
def oIAdd : R → R → Option R := fun a b => match a.d, b.d with
  | .int i, .int j => some (.va (.int (i + j)))
  | .str x, .str y => if x.length + y.length ≤ LIM then some (.va (.str (x ++ y))) else none
  | _, _ => none
theorem od_iadd {K : PySem.W.Frag} {ca : Nat → Addr} : OpD K ca rIAdd oIAdd := by
  intro B H0 F H v w x y z Q s rx ry e q
  unfold oIAdd at e
  split at e
  · rename_i i j h1 h2
    cases e
    cases RV.den rx h1 rfl
    cases RV.den ry h2 rfl
    exact .inl ⟨i, j, rfl, rfl, q _ H F (.refl s) (.int _)⟩
  · rename_i i j h1 h2
    split at e
    · rename_i hl
      cases e
      cases RV.den rx h1 rfl
      cases RV.den ry h2 rfl
      exact .inr ⟨i, j, rfl, rfl, by rw [lim_eq]; exact hl, q _ H F (.refl s) (.str _)⟩
    · cases e
  · cases e
end BK
namespace BK
open PySem PySem.Spec L2
set_option autoImplicit false
/-! ### how a def's function is reckoned out: rules for simp -/
def rdS (i : Nat) : Option Slot → Option R
  | some (.va d) => some (.va d)
  | some (.ow ds) => some (.bw i ds)
  | _ => none
@[simp] theorem eV_def (i : Nat) (g : Gm) : eV i g = rdS i (g[i]?) := by
  unfold eV
  cases h : g[i]? with
  | none => rfl
  | some s => cases s <;> rfl
@[simp] theorem rdS_va (i : Nat) (d : D) : rdS i (some (.va d)) = some (.va d) := rfl
@[simp] theorem rdS_ow (i : Nat) (ds : List D) : rdS i (some (.ow ds)) = some (.bw i ds) := rfl
@[simp] theorem eC_def (d : D) (g : Gm) : eC d g = some (.va d) := rfl
def b1 {α β : Type} (x : Option α) (f : α → Option β) : Option β := x.bind f
@[simp] theorem b1_some {α β : Type} (x : α) (f : α → Option β) : b1 (some x) f = f x := (rfl)
def b2 {α β γ : Type} (x : Option α) (y : Option β) (f : α → β → Option γ) : Option γ := x.bind fun x => y.bind fun y => f x y
@[simp] theorem b2_some {α β γ : Type} (x : α) (y : β) (f : α → β → Option γ) : b2 (some x) (some y) f = f x y := (rfl)
@[simp] theorem e1_def (f : R → Option R) (a : Gm → Option R) (g : Gm) : e1 f a g = b1 (a g) f := rfl
@[simp] theorem e2_def (f : R → R → Option R) (a b : Gm → Option R) (g : Gm) : e2 f a b g = b2 (a g) (b g) f := rfl
@[simp] theorem aN_def (g : Gm) : aN g = some [] := rfl
def cF (x : R) (y : List R) : Option (List R) := some (x.fz :: y)
@[simp] theorem aC_def (a : Gm → Option R) (b : Gm → Option (List R)) (g : Gm) : aC a b g = b2 (a g) (b g) cF := rfl
@[simp] theorem cF_def (x : R) (y : List R) : cF x y = some (x.fz :: y) := rfl
@[simp] theorem fz_va (d : D) : (R.va d).fz = .va d := rfl
@[simp] theorem fz_tm (ds : List D) : (R.tm ds).fz = .va (.lst ds) := rfl
@[simp] theorem fz_bw (j : Nat) (ds : List D) : (R.bw j ds).fz = .bw j ds := rfl
@[simp] theorem d_va (d : D) : (R.va d).d = d := rfl
@[simp] theorem d_tm (ds : List D) : (R.tm ds).d = .lst ds := rfl
@[simp] theorem d_bw (j : Nat) (ds : List D) : (R.bw j ds).d = .lst ds := rfl
@[simp] theorem bw_va (d : D) : (R.va d).isBw = false := rfl
@[simp] theorem bw_tm (ds : List D) : (R.tm ds).isBw = false := rfl
@[simp] theorem bw_bw (j : Nat) (ds : List D) : (R.bw j ds).isBw = true := rfl
@[simp] theorem tm_va (d : D) : (R.va d).isTm = false := rfl
@[simp] theorem tm_tm (ds : List D) : (R.tm ds).isTm = true := rfl
@[simp] theorem tm_bw (j : Nat) (ds : List D) : (R.bw j ds).isTm = false := rfl
@[simp] theorem wr_va (d : D) : (R.va d).wr = false := rfl
@[simp] theorem wr_tm (ds : List D) : (R.tm ds).wr = true := rfl
@[simp] theorem wr_bw (j : Nat) (ds : List D) : (R.bw j ds).wr = true := rfl
@[simp] theorem lf_va (d : D) : (R.va d).lf = lfn 8 d := rfl
@[simp] theorem lf_tm (ds : List D) : (R.tm ds).lf = ds.all (lfn 8) := rfl
@[simp] theorem lfn_non (n : Nat) : lfn n .non = true := by cases n <;> rfl
@[simp] theorem lfn_bl (n : Nat) (b : Bool) : lfn n (.bl b) = true := by cases n <;> rfl
@[simp] theorem lfn_int (n : Nat) (b : Int) : lfn n (.int b) = true := by cases n <;> rfl
@[simp] theorem lfn_str (n : Nat) (b : Str) : lfn n (.str b) = true := by cases n <;> rfl
@[simp] theorem lfn_tup (n : Nat) (xs : List D) : lfn (n + 1) (.tup xs) = xs.all (lfn n) := rfl
@[simp] theorem lfn_ins (n c : Nat) (xs : List D) : lfn (n + 1) (.ins c xs) = xs.all (lfn n) := rfl
@[simp] theorem eA_def (f : List R → Option R) (a : Gm → Option (List R)) (g : Gm) : eA f a g = b1 (a g) f := rfl
/-- a value of a call -/
def kR (bw : Bool) (ks : List Nat) (r : R) : Option R := if (!bw || r.lf || r.lfk ks) = true then some r else none
@[simp] theorem kR_false (ks : List Nat) (r : R) : kR false ks r = some r := rfl
@[simp] theorem kR_true (ks : List Nat) (r : R) : kR true ks r = if (r.lf || r.lfk ks) = true then some r else none := by unfold kR; simp
@[simp] theorem callR_def (φ : Phi) (dds : List D) (rs : List R) : callR φ dds rs = if (rs.any R.isTm) = true then none else b1 (φ (rs.map R.d ++ dds)) (kR (rs.any R.isBw) (lentK rs)) := rfl
@[simp] theorem eB_def (a : Gm → Option Bool) (g : Gm) : eB a g = (a g).map fun k => .va (.bl k) := rfl
def bB : R → Option Bool
  | .va (.bl k) => some k
  | _ => none
@[simp] theorem bB_bl (k : Bool) : bB (.va (.bl k)) = some k := rfl
@[simp] theorem bE_def (a : Gm → Option R) (g : Gm) : bE a g = b1 (a g) bB := by
  unfold bE b1
  cases a g with
  | none => rfl
  | some r =>
    cases r with
    | va d => cases d <;> rfl
    | _ => rfl
@[simp] theorem bNot_def (a : Gm → Option Bool) (g : Gm) : bNot a g = (a g).map (!·) := rfl
def anB (b : Gm → Option Bool) (g : Gm) (k : Bool) : Option Bool := if k = true then b g else some false
def orB (b : Gm → Option Bool) (g : Gm) (k : Bool) : Option Bool := if k = true then some true else b g
@[simp] theorem bAnd_def (a b : Gm → Option Bool) (g : Gm) : bAnd a b g = b1 (a g) (anB b g) := rfl
@[simp] theorem bOr_def (a b : Gm → Option Bool) (g : Gm) : bOr a b g = b1 (a g) (orB b g) := rfl
@[simp] theorem anB_def (b : Gm → Option Bool) (g : Gm) (k : Bool) : anB b g k = if k = true then b g else some false := rfl
@[simp] theorem orB_def (b : Gm → Option Bool) (g : Gm) (k : Bool) : orB b g k = if k = true then some true else b g := rfl
def anR (b : Gm → Option R) (g : Gm) (k : Bool) : Option R := if k = true then b g else some (.va (.bl false))
def orR (b : Gm → Option R) (g : Gm) (k : Bool) : Option R := if k = true then some (.va (.bl true)) else b g
@[simp] theorem eAnd_def (a b : Gm → Option R) (g : Gm) : eAnd a b g = b1 (bE a g) (anR b g) := rfl
@[simp] theorem eOr_def (a b : Gm → Option R) (g : Gm) : eOr a b g = b1 (bE a g) (orR b g) := rfl
@[simp] theorem anR_def (b : Gm → Option R) (g : Gm) (k : Bool) : anR b g k = if k = true then b g else some (.va (.bl false)) := rfl
@[simp] theorem orR_def (b : Gm → Option R) (g : Gm) (k : Bool) : orR b g k = if k = true then some (.va (.bl true)) else b g := rfl
@[simp] theorem eNot_def (a : Gm → Option R) (g : Gm) : eNot a g = (bE a g).map fun k => .va (.bl (!k)) := rfl
/-! statements -/
def bO (o : Option Out) (n : Gm → Option Out) : Option Out := o.bind fun o => match o with
  | .nx g' => n g'
  | .rt r => some (.rt r)
  | .bk g' => some (.bk g')
  | .ct g' => some (.ct g')
  | .ex x => some (.ex x)
@[simp] theorem sNil_def (g : Gm) : sNil g = some (.nx g) := rfl
@[simp] theorem sCons_def (m n : Gm → Option Out) (g : Gm) : sCons m n g = bO (m g) n := rfl
@[simp] theorem bO_nx (g : Gm) (n : Gm → Option Out) : bO (some (.nx g)) n = n g := rfl
@[simp] theorem bO_rt (r : R) (n : Gm → Option Out) : bO (some (.rt r)) n = some (.rt r) := rfl
@[simp] theorem bO_bk (g : Gm) (n : Gm → Option Out) : bO (some (.bk g)) n = some (.bk g) := rfl
@[simp] theorem bO_ct (g : Gm) (n : Gm → Option Out) : bO (some (.ct g)) n = some (.ct g) := rfl
@[simp] theorem bO_ex (x : Exc) (n : Gm → Option Out) : bO (some (.ex x)) n = some (.ex x) := rfl
@[simp] theorem bO_ite (c : Prop) [Decidable c] (a b : Option Out) (n : Gm → Option Out) : bO (if c then a else b) n = if c then bO a n else bO b n := by split <;> rfl
def rtO (r : R) : Option Out := some (.rt (retR r))
@[simp] theorem rtO_def (r : R) : rtO r = some (.rt (retR r)) := rfl
@[simp] theorem retR_va (d : D) : retR (.va d) = .va d := rfl
@[simp] theorem retR_tm (ds : List D) : retR (.tm ds) = .tm ds := rfl
@[simp] theorem retR_bw (j : Nat) (ds : List D) : retR (.bw j ds) = .tm ds := rfl
@[simp] theorem sRet_def (m : Gm → Option R) (g : Gm) : sRet m g = b1 (m g) rtO := by
  unfold sRet b1 rtO
  cases m g <;> rfl
@[simp] theorem sRetN_def (g : Gm) : sRetN g = some (.rt (.va .non)) := rfl
def stO (i : Nat) (g : Gm) (r : R) : Option Out := (setR g i r).map .nx
@[simp] theorem sSet_def (i : Nat) (m : Gm → Option R) (g : Gm) : sSet i m g = b1 (m g) (stO i g) := rfl
@[simp] theorem stO_va (i : Nat) (g : Gm) (d : D) : stO i g (.va d) = some (.nx (g.set i (.va d))) := rfl
@[simp] theorem stO_tm (i : Nat) (g : Gm) (ds : List D) : stO i g (.tm ds) = some (.nx (g.set i (.ow ds))) := rfl
def ifO (t u : Gm → Option Out) (g : Gm) (k : Bool) : Option Out := if k = true then t g else u g
@[simp] theorem sIf_def (c : Gm → Option Bool) (t u : Gm → Option Out) (g : Gm) : sIf c t u g = b1 (c g) (ifO t u g) := rfl
@[simp] theorem ifO_def (t u : Gm → Option Out) (g : Gm) (k : Bool) : ifO t u g k = if k = true then t g else u g := rfl
def exO (g : Gm) (r : R) : Option Out := some (.nx g)
@[simp] theorem exO_def (g : Gm) (r : R) : exO g r = some (.nx g) := rfl
@[simp] theorem sExp_def (m : Gm → Option R) (g : Gm) : sExp m g = b1 (m g) (exO g) := by
  unfold sExp b1 exO
  cases m g <;> rfl
@[simp] theorem sBk_def (g : Gm) : sBk g = some (.bk g) := rfl
@[simp] theorem sCt_def (g : Gm) : sCt g = some (.ct g) := rfl
def prO (i j : Nat) (g : Gm) (x y : R) : Option Out := match x.fz, y.fz with
  | .va d, .va e => some (.nx ((g.set i (.va d)).set j (.va e)))
  | _, _ => none
@[simp] theorem sPar_def (i j : Nat) (a b : Gm → Option R) (g : Gm) : sPar i j a b g = b2 (a g) (b g) (prO i j g) := rfl
@[simp] theorem prO_va (i j : Nat) (g : Gm) (d e : D) : prO i j g (.va d) (.va e) = some (.nx ((g.set i (.va d)).set j (.va e))) := rfl
def agO (i : Nat) (f : R → R → Option R) (g : Gm) (x y : R) : Option Out := b1 (f x y) (stO i g)
@[simp] theorem sAug_def (i : Nat) (f : R → R → Option R) (m : Gm → Option R) (g : Gm) : sAug i f m g = b2 (eV i g) (m g) (agO i f g) := rfl
@[simp] theorem agO_def (i : Nat) (f : R → R → Option R) (g : Gm) (x y : R) : agO i f g x y = b1 (f x y) (stO i g) := rfl
def asO (f : D → Gm → Option Gm) (g : Gm) (r : R) : Option Out := match r with
  | .va d => (f d g).map .nx
  | _ => none
@[simp] theorem sAsg_def (m : Gm → Option R) (f : D → Gm → Option Gm) (g : Gm) : sAsg m f g = b1 (m g) (asO f g) := rfl
@[simp] theorem asO_va (f : D → Gm → Option Gm) (g : Gm) (d : D) : asO f g (.va d) = (f d g).map .nx := rfl
@[simp] theorem gN_def (i : Nat) (d : D) (g : Gm) : gN i d g = some (g.set i (.va d)) := rfl
@[simp] theorem gE_def (g : Gm) : gE [] g = some g := rfl
@[simp] theorem gC_def (f : D → Gm → Option Gm) (r : List D → Gm → Option Gm) (d : D) (ds : List D) (g : Gm) : gC f r (d :: ds) g = b1 (f d g) (r ds) := rfl
@[simp] theorem gT_def (f : List D → Gm → Option Gm) (ds : List D) (g : Gm) : gT f (.tup ds) g = f ds g := rfl
def apO (i : Nat) (g : Gm) (ds : List D) (r : R) : Option Out := if (!r.isBw && decide (ds.length < LIM)) = true then some (.nx (g.set i (.ow (ds ++ [r.d])))) else none
def apS (i : Nat) (g : Gm) (x : Option R) : Option Slot → Option Out
  | some (.ow ds) => b1 x (apO i g ds)
  | _ => none
@[simp] theorem sApp_def (i : Nat) (m : Gm → Option R) (g : Gm) : sApp i m g = apS i g (m g) (g[i]?) := by
  unfold sApp
  cases h : g[i]? with
  | none => rfl
  | some s => cases s <;> rfl
@[simp] theorem apS_ow (i : Nat) (g : Gm) (x : Option R) (ds : List D) : apS i g x (some (.ow ds)) = b1 x (apO i g ds) := rfl
theorem apO_ok {i : Nat} {g : Gm} {ds : List D} {r : R} (h : r.isBw = false) (hl : ds.length < LIM) : apO i g ds r = some (.nx (g.set i (.ow (ds ++ [r.d])))) := by
  unfold apO
  rw [h, decide_eq_true hl]
  rfl
@[simp] theorem apO_va (i : Nat) (g : Gm) (ds : List D) (d : D) : apO i g ds (.va d) = if ds.length < LIM then some (.nx (g.set i (.ow (ds ++ [d])))) else none := by
  unfold apO
  by_cases h : ds.length < LIM <;> simp [h]
@[simp] theorem apO_tm (i : Nat) (g : Gm) (ds es : List D) : apO i g ds (.tm es) = if ds.length < LIM then some (.nx (g.set i (.ow (ds ++ [.lst es])))) else none := by
  unfold apO
  by_cases h : ds.length < LIM <;> simp [h]
def fzS (i : Nat) (m : Gm → Option Out) (g : Gm) : Option Slot → Option Out
  | some (.ow ds) => m (g.set i (.va (.lst ds)))
  | _ => m g
@[simp] theorem sFz_def (i : Nat) (m : Gm → Option Out) (g : Gm) : sFz i m g = fzS i m g (g[i]?) := by
  unfold sFz
  cases h : g[i]? with
  | none => rfl
  | some s => cases s <;> rfl
@[simp] theorem fzS_ow (i : Nat) (m : Gm → Option Out) (g : Gm) (ds : List D) : fzS i m g (some (.ow ds)) = m (g.set i (.va (.lst ds))) := rfl
@[simp] theorem fzS_va (i : Nat) (m : Gm → Option Out) (g : Gm) (d : D) : fzS i m g (some (.va d)) = m g := rfl
@[simp] theorem fzS_un (i : Nat) (m : Gm → Option Out) (g : Gm) : fzS i m g (some .un) = m g := rfl
/-! loops -/
def foO (f : D → Gm → Option Gm) (b : Gm → Option Out) (T : List Nat) (g : Gm) (p : List Nat × List D) : Option Out := if p.1.all (fun j => !T.contains j) = true then forL f b p.2 g else none
@[simp] theorem sFor_def (mi : Gm → Option (List Nat × List D)) (f : D → Gm → Option Gm) (b : Gm → Option Out) (T : List Nat) (g : Gm) : sFor mi f b T g = b1 (mi g) (foO f b T g) := rfl
@[simp] theorem foO_def (f : D → Gm → Option Gm) (b : Gm → Option Out) (T : List Nat) (g : Gm) (ps : List Nat) (ds : List D) : foO f b T g (ps, ds) = if ps.all (fun j => !T.contains j) = true then forL f b ds g else none := rfl
@[simp] theorem iA_def (f : List R → Option (List Nat × List D)) (ms : Gm → Option (List R)) (g : Gm) : iA f ms g = b1 (ms g) f := (rfl)
@[simp] theorem iSeq_def (m : Gm → Option R) (g : Gm) : iSeq m g = b1 (m g) seqR := (rfl)
/-- one turn of a for -/
def fL (f : D → Gm → Option Gm) (b : Gm → Option Out) (ds : List D) (o : Option Out) : Option Out := o.bind fun o => match o with
  | .nx g2 => forL f b ds g2
  | .ct g2 => forL f b ds g2
  | .bk g2 => some (.nx g2)
  | .rt r => some (.rt r)
  | .ex x => some (.ex x)
@[simp] theorem forL_nil (f : D → Gm → Option Gm) (b : Gm → Option Out) (g : Gm) : forL f b [] g = some (.nx g) := rfl
theorem forL_cons (f : D → Gm → Option Gm) (b : Gm → Option Out) (d : D) (ds : List D) (g : Gm) : forL f b (d :: ds) g = fL f b ds (b1 (f d g) b) := by
  unfold fL b1
  show (f d g).bind _ = _
  cases f d g <;> rfl
@[simp] theorem fL_nx (f : D → Gm → Option Gm) (b : Gm → Option Out) (ds : List D) (g : Gm) : fL f b ds (some (.nx g)) = forL f b ds g := rfl
@[simp] theorem fL_ct (f : D → Gm → Option Gm) (b : Gm → Option Out) (ds : List D) (g : Gm) : fL f b ds (some (.ct g)) = forL f b ds g := rfl
@[simp] theorem fL_bk (f : D → Gm → Option Gm) (b : Gm → Option Out) (ds : List D) (g : Gm) : fL f b ds (some (.bk g)) = some (.nx g) := rfl
@[simp] theorem fL_rt (f : D → Gm → Option Gm) (b : Gm → Option Out) (ds : List D) (r : R) : fL f b ds (some (.rt r)) = some (.rt r) := rfl
@[simp] theorem fL_ex (f : D → Gm → Option Gm) (b : Gm → Option Out) (ds : List D) (x : Exc) : fL f b ds (some (.ex x)) = some (.ex x) := rfl
@[simp] theorem fL_ite (f : D → Gm → Option Gm) (b : Gm → Option Out) (ds : List D) (c : Prop) [Decidable c] (x y : Option Out) : fL f b ds (if c then x else y) = if c then fL f b ds x else fL f b ds y := by split <;> rfl
def wL (c : Gm → Option Bool) (b : Gm → Option Out) (n : Nat) (o : Option Out) : Option Out := o.bind fun o => match o with
  | .nx g' => sWh c b n g'
  | .ct g' => sWh c b n g'
  | .bk g' => some (.nx g')
  | .rt r => some (.rt r)
  | .ex x => some (.ex x)
def whK (c : Gm → Option Bool) (b : Gm → Option Out) (n : Nat) (g : Gm) (k : Bool) : Option Out := if k = true then wL c b n (b g) else some (.nx g)
@[simp] theorem whK_def (c : Gm → Option Bool) (b : Gm → Option Out) (n : Nat) (g : Gm) (k : Bool) : whK c b n g k = if k = true then wL c b n (b g) else some (.nx g) := rfl
@[simp] theorem wL_nx (c : Gm → Option Bool) (b : Gm → Option Out) (n : Nat) (g : Gm) : wL c b n (some (.nx g)) = sWh c b n g := rfl
@[simp] theorem wL_ct (c : Gm → Option Bool) (b : Gm → Option Out) (n : Nat) (g : Gm) : wL c b n (some (.ct g)) = sWh c b n g := rfl
@[simp] theorem wL_bk (c : Gm → Option Bool) (b : Gm → Option Out) (n : Nat) (g : Gm) : wL c b n (some (.bk g)) = some (.nx g) := rfl
@[simp] theorem wL_rt (c : Gm → Option Bool) (b : Gm → Option Out) (n : Nat) (r : R) : wL c b n (some (.rt r)) = some (.rt r) := rfl
@[simp] theorem wL_ex (c : Gm → Option Bool) (b : Gm → Option Out) (n : Nat) (x : Exc) : wL c b n (some (.ex x)) = some (.ex x) := rfl
@[simp] theorem wL_ite (c : Gm → Option Bool) (b : Gm → Option Out) (n : Nat) (p : Prop) [Decidable p] (x y : Option Out) : wL c b n (if p then x else y) = if p then wL c b n x else wL c b n y := by split <;> rfl
/-! comprehensions -/
def lcO (f : D → Gm → Option Gm) (c : Gm → Option Bool) (el : Gm → Option R) (g : Gm) (p : List Nat × List D) : Option R := if p.2.length ≤ LIM then (compL f c el g p.2).map .tm else none
@[simp] theorem eLc_def (mi : Gm → Option (List Nat × List D)) (f : D → Gm → Option Gm) (c : Gm → Option Bool) (el : Gm → Option R) (own : List Nat) (g : Gm) : eLc mi f c el own g = b1 (mi g) (lcO f c el (wipeG g own)) := rfl
@[simp] theorem lcO_def (f : D → Gm → Option Gm) (c : Gm → Option Bool) (el : Gm → Option R) (g : Gm) (ps : List Nat) (ds : List D) : lcO f c el g (ps, ds) = if ds.length ≤ LIM then (compL f c el g ds).map .tm else none := rfl
@[simp] theorem bY_def (g : Gm) : bY g = some true := rfl
@[simp] theorem compL_nil (f : D → Gm → Option Gm) (c : Gm → Option Bool) (el : Gm → Option R) (g : Gm) : compL f c el g [] = some [] := rfl
def cpR (rest : Option (List D)) (r : R) : Option (List D) := if r.isBw = true then none else rest.map (r.d :: ·)
def cpK (el : Gm → Option R) (rest : Option (List D)) (g1 : Gm) (k : Bool) : Option (List D) := if k = true then b1 (el g1) (cpR rest) else rest
def cpG (c : Gm → Option Bool) (el : Gm → Option R) (rest : Option (List D)) (g1 : Gm) : Option (List D) := b1 (c g1) (cpK el rest g1)
theorem compL_cons (f : D → Gm → Option Gm) (c : Gm → Option Bool) (el : Gm → Option R) (g : Gm) (d : D) (ds : List D) : compL f c el g (d :: ds) = b1 (f d g) (cpG c el (compL f c el g ds)) := rfl
@[simp] theorem cpG_def (c : Gm → Option Bool) (el : Gm → Option R) (rest : Option (List D)) (g1 : Gm) : cpG c el rest g1 = b1 (c g1) (cpK el rest g1) := rfl
@[simp] theorem cpK_def (el : Gm → Option R) (rest : Option (List D)) (g1 : Gm) (k : Bool) : cpK el rest g1 k = if k = true then b1 (el g1) (cpR rest) else rest := rfl
@[simp] theorem cpR_va (rest : Option (List D)) (d : D) : cpR rest (.va d) = rest.map (d :: ·) := rfl
@[simp] theorem cpR_tm (rest : Option (List D)) (ds : List D) : cpR rest (.tm ds) = rest.map (.lst ds :: ·) := rfl
@[simp] theorem wipeG_nil (g : Gm) : wipeG g [] = g := rfl
@[simp] theorem wipeG_cons (g : Gm) (v : Nat) (vs : List Nat) : wipeG g (v :: vs) = (wipeG g vs).set v .un := rfl
/-- a comprehension whose elements are known -/
theorem compL_map {α : Type} (f : D → Gm → Option Gm) (c : Gm → Option Bool) (el : Gm → Option R) (g : Gm) (enc : α → D) (out : α → D) : ∀ (xs : List α), (∀ x ∈ xs, ∀ rest : List D, b1 (f (enc x) g) (cpG c el (some rest)) = some (out x :: rest)) → compL f c el g (xs.map enc) = some (xs.map out)
  | [], _ => rfl
  | x :: xs, h => by
    rw [List.map_cons, compL_cons, compL_map f c el g enc out xs fun y hy => h y (List.mem_cons_of_mem _ hy), h x List.mem_cons_self]
    rfl
/-- .. with a test -/
theorem compL_filter {α : Type} (f : D → Gm → Option Gm) (c : Gm → Option Bool) (el : Gm → Option R) (g : Gm) (enc : α → D) (out : α → D) (p : α → Bool) : ∀ (xs : List α), (∀ x ∈ xs, ∀ rest : List D, b1 (f (enc x) g) (cpG c el (some rest)) = some (if p x = true then out x :: rest else rest)) → compL f c el g (xs.map enc) = some ((xs.filter p).map out)
  | [], _ => rfl
  | x :: xs, h => by
    rw [List.map_cons, compL_cons, compL_filter f c el g enc out p xs fun y hy => h y (List.mem_cons_of_mem _ hy), h x List.mem_cons_self]
    by_cases e : p x = true
    · rw [if_pos e, List.filter_cons_of_pos e]; rfl
    · rw [if_neg e, List.filter_cons_of_neg e]
/-! operators -/
@[simp] theorem oI_def (C : Int → Int → Prop) [∀ i j, Decidable (C i j)] (h : Int → Int → D) (i j : Int) : oI C h (.va (.int i)) (.va (.int j)) = if C i j then some (.va (h i j)) else none := rfl
@[simp] theorem uI_def (h : Int → D) (i : Int) : uI h (.va (.int i)) = some (.va (h i)) := rfl
@[simp] theorem uNeg_def (i : Int) : uNeg (.va (.int i)) = some (.va (.int (-i))) := rfl
@[simp] theorem oAdd_int (i j : Int) : oAdd (.va (.int i)) (.va (.int j)) = some (.va (.int (i + j))) := rfl
@[simp] theorem oIAdd_int (i j : Int) : oIAdd (.va (.int i)) (.va (.int j)) = some (.va (.int (i + j))) := rfl
@[simp] theorem oIAdd_str (i j : Str) : oIAdd (.va (.str i)) (.va (.str j)) = if i.length + j.length ≤ LIM then some (.va (.str (i ++ j))) else none := rfl
@[simp] theorem oAdd_str (i j : Str) : oAdd (.va (.str i)) (.va (.str j)) = if i.length + j.length ≤ LIM then some (.va (.str (i ++ j))) else none := rfl
@[simp] theorem oAdd_tup (i j : List D) : oAdd (.va (.tup i)) (.va (.tup j)) = if i.length + j.length ≤ LIM then some (.va (.tup (i ++ j))) else none := rfl
theorem oAdd_lst {a b : R} {i j : List D} (ha : a.d = .lst i) (hb : b.d = .lst j) : oAdd a b = if i.length + j.length ≤ LIM then some (.tm (i ++ j)) else none := by
  unfold oAdd
  rw [ha, hb]
@[simp] theorem oAdd_tmtm (i j : List D) : oAdd (.tm i) (.tm j) = if i.length + j.length ≤ LIM then some (.tm (i ++ j)) else none := rfl
@[simp] theorem oAdd_bwtm (k : Nat) (i j : List D) : oAdd (.bw k i) (.tm j) = if i.length + j.length ≤ LIM then some (.tm (i ++ j)) else none := rfl
@[simp] theorem oAdd_tmbw (k : Nat) (i j : List D) : oAdd (.tm i) (.bw k j) = if i.length + j.length ≤ LIM then some (.tm (i ++ j)) else none := rfl
@[simp] theorem oAdd_bwbw (k l : Nat) (i j : List D) : oAdd (.bw k i) (.bw l j) = if i.length + j.length ≤ LIM then some (.tm (i ++ j)) else none := rfl
@[simp] theorem oAdd_vatm (i j : List D) : oAdd (.va (.lst i)) (.tm j) = if i.length + j.length ≤ LIM then some (.tm (i ++ j)) else none := rfl
@[simp] theorem oAdd_tmva (i j : List D) : oAdd (.tm i) (.va (.lst j)) = if i.length + j.length ≤ LIM then some (.tm (i ++ j)) else none := rfl
@[simp] theorem oAdd_vava (i j : List D) : oAdd (.va (.lst i)) (.va (.lst j)) = if i.length + j.length ≤ LIM then some (.tm (i ++ j)) else none := rfl
@[simp] theorem oAdd_bwva (k : Nat) (i j : List D) : oAdd (.bw k i) (.va (.lst j)) = if i.length + j.length ≤ LIM then some (.tm (i ++ j)) else none := rfl
@[simp] theorem oAdd_vabw (k : Nat) (i j : List D) : oAdd (.va (.lst i)) (.bw k j) = if i.length + j.length ≤ LIM then some (.tm (i ++ j)) else none := rfl
@[simp] theorem oSub_def (i j : Int) : oSub (.va (.int i)) (.va (.int j)) = some (.va (.int (i - j))) := rfl
@[simp] theorem oDiv_def (i j : Int) : oDiv (.va (.int i)) (.va (.int j)) = if CDivB i j then some (.va (.int (i.fdiv j))) else none := rfl
@[simp] theorem oMod_def (i j : Int) : oMod (.va (.int i)) (.va (.int j)) = if j ≠ 0 then some (.va (.int (i.fmod j))) else none := rfl
@[simp] theorem oPow_def (i j : Int) : oPow (.va (.int i)) (.va (.int j)) = if CPow i j then some (.va (.int (i ^ j.toNat))) else none := rfl
@[simp] theorem oShl_def (i j : Int) : oShl (.va (.int i)) (.va (.int j)) = if CPow i j then some (.va (.int (i * 2 ^ j.toNat))) else none := rfl
@[simp] theorem oShr_def (i j : Int) : oShr (.va (.int i)) (.va (.int j)) = if 0 ≤ j then some (.va (.int (i / 2 ^ j.toNat))) else none := rfl
@[simp] theorem oAndB_def (i j : Int) : oAndB (.va (.int i)) (.va (.int j)) = some (.va (.int (Builtin.bitAnd i j))) := rfl
@[simp] theorem oMulA_int (i j : Int) : oMulA (.va (.int i)) (.va (.int j)) = if CMulB i j then some (.va (.int (i * j))) else none := rfl
@[simp] theorem oMulA_str (i : Str) (j : Int) : oMulA (.va (.str i)) (.va (.int j)) = if -(2 ^ 63) ≤ j ∧ j < 2 ^ 63 ∧ i.length * j.toNat ≤ LIM then some (.va (.str (strRep i j))) else none := rfl
@[simp] theorem oMulA_lst (i : List D) (j : Int) : oMulA (.tm i) (.va (.int j)) = if -(2 ^ 63) ≤ j ∧ j < 2 ^ 63 ∧ i.length * j.toNat ≤ LIM then some (.tm (List.replicate j.toNat i).flatten) else none := rfl
@[simp] theorem oLt_def (i j : Int) : oLt (.va (.int i)) (.va (.int j)) = some (.va (.bl (decide (i < j)))) := rfl
@[simp] theorem oLe_def (i j : Int) : oLe (.va (.int i)) (.va (.int j)) = some (.va (.bl (decide (i ≤ j)))) := rfl
@[simp] theorem oGt_def (i j : Int) : oGt (.va (.int i)) (.va (.int j)) = some (.va (.bl (decide (j < i)))) := rfl
@[simp] theorem oEq_int (i j : Int) : oEq (.va (.int i)) (.va (.int j)) = some (.va (.bl (decide (i = j)))) := by
  show some (R.va (.bl (i == j))) = _
  rw [Bool.beq_eq_decide_eq]
@[simp] theorem oNe_int (i j : Int) : oNe (.va (.int i)) (.va (.int j)) = some (.va (.bl (!decide (i = j)))) := by
  show some (R.va (.bl (!(i == j)))) = _
  rw [Bool.beq_eq_decide_eq]
@[simp] theorem oEq_str (i j : Str) : oEq (.va (.str i)) (.va (.str j)) = some (.va (.bl (decide (i = j)))) := rfl
@[simp] theorem oNe_str (i j : Str) : oNe (.va (.str i)) (.va (.str j)) = some (.va (.bl (!decide (i = j)))) := rfl
@[simp] theorem oEq_bl (i j : Bool) : oEq (.va (.bl i)) (.va (.bl j)) = some (.va (.bl (i == j))) := rfl
@[simp] theorem oNe_bl (i j : Bool) : oNe (.va (.bl i)) (.va (.bl j)) = some (.va (.bl (!(i == j)))) := rfl
@[simp] theorem oEq_tup (i j : List D) : oEq (.va (.tup i)) (.va (.tup j)) = if (i.all (okn 7) && j.all (okn 7)) = true then some (.va (.bl (eqL (eqn 7) i j))) else none := by
  show (if (i.all (okn 7) && j.all (okn 7)) = true then some (eqL (eqn 7) i j) else none).map _ = _
  split <;> rfl
@[simp] theorem oNe_tup (i j : List D) : oNe (.va (.tup i)) (.va (.tup j)) = if (i.all (okn 7) && j.all (okn 7)) = true then some (.va (.bl (!eqL (eqn 7) i j))) else none := by
  show (if (i.all (okn 7) && j.all (okn 7)) = true then some (eqL (eqn 7) i j) else none).map _ = _
  split <;> rfl
@[simp] theorem okn_non (n : Nat) : okn n .non = true := by cases n <;> rfl
@[simp] theorem okn_bl (n : Nat) (b : Bool) : okn n (.bl b) = true := by cases n <;> rfl
@[simp] theorem okn_int (n : Nat) (b : Int) : okn n (.int b) = true := by cases n <;> rfl
@[simp] theorem okn_str (n : Nat) (b : Str) : okn n (.str b) = PyData.strOk b := by cases n <;> rfl
@[simp] theorem okn_tup (n : Nat) (xs : List D) : okn (n + 1) (.tup xs) = xs.all (okn n) := rfl
@[simp] theorem okn_lst (n : Nat) (xs : List D) : okn (n + 1) (.lst xs) = xs.all (okn n) := rfl
@[simp] theorem eqn_int (n : Nat) (i j : Int) : eqn n (.int i) (.int j) = decide (i = j) := by cases n <;> exact Bool.beq_eq_decide_eq _ _
@[simp] theorem eqn_bl (n : Nat) (i j : Bool) : eqn n (.bl i) (.bl j) = (i == j) := by cases n <;> rfl
@[simp] theorem eqn_str (n : Nat) (i j : Str) : eqn n (.str i) (.str j) = decide (i = j) := by cases n <;> exact Bool.beq_eq_decide_eq _ _
@[simp] theorem eqn_non (n : Nat) : eqn n .non .non = true := by cases n <;> rfl
@[simp] theorem eqn_tup (n : Nat) (i j : List D) : eqn (n + 1) (.tup i) (.tup j) = eqL (eqn n) i j := rfl
@[simp] theorem eqn_lst (n : Nat) (i j : List D) : eqn (n + 1) (.lst i) (.lst j) = eqL (eqn n) i j := rfl
@[simp] theorem eqL_nil (f : D → D → Bool) : eqL f [] [] = true := rfl
@[simp] theorem eqL_cons (f : D → D → Bool) (x y : D) (xs ys : List D) : eqL f (x :: xs) (y :: ys) = (f x y && eqL f xs ys) := rfl
@[simp] theorem eqL_nc (f : D → D → Bool) (y : D) (ys : List D) : eqL f [] (y :: ys) = false := rfl
@[simp] theorem eqL_cn (f : D → D → Bool) (y : D) (ys : List D) : eqL f (y :: ys) [] = false := rfl
theorem eqL_map {α : Type} [DecidableEq α] {f : D → D → Bool} {enc : α → D} (h : ∀ x y, f (enc x) (enc y) = decide (x = y)) : ∀ xs ys : List α, eqL f (xs.map enc) (ys.map enc) = decide (xs = ys)
  | [], [] => rfl
  | [], _ :: _ => by simp
  | _ :: _, [] => by simp
  | x :: xs, y :: ys => by
    rw [List.map_cons, List.map_cons, eqL_cons, h, eqL_map h xs ys]
    by_cases e : x = y <;> by_cases e2 : xs = ys <;> simp [e, e2]
theorem all_map {α β : Type} (f : β → Bool) (g : α → β) (xs : List α) (h : ∀ x ∈ xs, f (g x) = true) : (xs.map g).all f = true := by
  rw [List.all_eq_true]
  intro y hy
  obtain ⟨x, hx, rfl⟩ := List.mem_map.mp hy
  exact h x hx
@[simp] theorem oIs_bl (r : R) (k : Bool) : oIs r (.va (.bl k)) = some (.va (.bl (r.d.isBl k))) := rfl
@[simp] theorem isBl_bl (k b : Bool) : D.isBl k (.bl b) = (b == k) := rfl
@[simp] theorem isBl_non (k : Bool) : D.isBl k .non = false := rfl
@[simp] theorem isBl_int (k : Bool) (i : Int) : D.isBl k (.int i) = false := rfl
@[simp] theorem isBl_str (k : Bool) (i : Str) : D.isBl k (.str i) = false := rfl
@[simp] theorem isBl_lst (k : Bool) (i : List D) : D.isBl k (.lst i) = false := rfl
@[simp] theorem isBl_tup (k : Bool) (i : List D) : D.isBl k (.tup i) = false := rfl
@[simp] theorem isBl_ins (k : Bool) (c : Nat) (i : List D) : D.isBl k (.ins c i) = false := rfl
@[simp] theorem oIs_def (r : R) : oIs r (.va .non) = some (.va (.bl r.d.isNon)) := rfl
@[simp] theorem oIsN_def (r : R) : oIsN r (.va .non) = some (.va (.bl (!r.d.isNon))) := rfl
@[simp] theorem isNon_non : D.isNon .non = true := rfl
@[simp] theorem isNon_int (i : Int) : D.isNon (.int i) = false := rfl
@[simp] theorem isNon_bl (i : Bool) : D.isNon (.bl i) = false := rfl
@[simp] theorem isNon_str (i : Str) : D.isNon (.str i) = false := rfl
@[simp] theorem isNon_tup (i : List D) : D.isNon (.tup i) = false := rfl
@[simp] theorem isNon_lst (i : List D) : D.isNon (.lst i) = false := rfl
@[simp] theorem isNon_ins (c : Nat) (i : List D) : D.isNon (.ins c i) = false := rfl
theorem oIx_lst {a : R} {xs : List D} {i : Int} (h : a.d = .lst xs) : oIx a (.va (.int i)) = (atI xs i).map .va := by
  unfold oIx
  rw [h]
  rfl
@[simp] theorem oIx_vlst (xs : List D) (i : Int) : oIx (.va (.lst xs)) (.va (.int i)) = (atI xs i).map .va := rfl
@[simp] theorem oIx_tm (xs : List D) (i : Int) : oIx (.tm xs) (.va (.int i)) = (atI xs i).map .va := rfl
@[simp] theorem oIx_bw (j : Nat) (xs : List D) (i : Int) : oIx (.bw j xs) (.va (.int i)) = (atI xs i).map .va := rfl
@[simp] theorem oIx_tup (xs : List D) (i : Int) : oIx (.va (.tup xs)) (.va (.int i)) = (atI xs i).map .va := rfl
@[simp] theorem oIx_rol (xs : List D) (i : Int) : oIx (.va (.rol xs)) (.va (.int i)) = (atI xs i).map .va := rfl
@[simp] theorem oIx_str (z : Str) (i : Int) : oIx (.va (.str z)) (.va (.int i)) = if z.length ≤ LIM then (atI z.cps.toList i).map fun c => .va (.str ⟨#[c]⟩) else none := rfl
theorem atI_ofNat {α : Type} (xs : List α) (k : Nat) : atI xs (k : Int) = xs[k]? := by
  unfold atI ixN
  rw [if_pos (by omega)]
  by_cases h : (k : Int) < (xs.length : Int)
  · rw [if_pos h]
    simp
  · rw [if_neg h]
    have : xs.length ≤ k := by omega
    rw [List.getElem?_eq_none this]
    rfl
@[simp] theorem atI_zero {α : Type} (x : α) (xs : List α) : atI (x :: xs) 0 = some x := by
  have := atI_ofNat (x :: xs) 0
  simpa using this
@[simp] theorem atI_one {α : Type} (x y : α) (xs : List α) : atI (x :: y :: xs) 1 = some y := by
  have := atI_ofNat (x :: y :: xs) 1
  simpa using this
@[simp] theorem atI_two {α : Type} (x y z : α) (xs : List α) : atI (x :: y :: z :: xs) 2 = some z := by
  have := atI_ofNat (x :: y :: z :: xs) 2
  simpa using this
@[simp] theorem atI_three {α : Type} (x y z u : α) (xs : List α) : atI (x :: y :: z :: u :: xs) 3 = some u := by
  have := atI_ofNat (x :: y :: z :: u :: xs) 3
  simpa using this
@[simp] theorem atI_four {α : Type} (x y z u v : α) (xs : List α) : atI (x :: y :: z :: u :: v :: xs) 4 = some v := by
  have := atI_ofNat (x :: y :: z :: u :: v :: xs) 4
  simpa using this
theorem atI_map {α β : Type} (f : α → β) (xs : List α) (i : Int) : atI (xs.map f) i = (atI xs i).map f := by
  unfold atI
  rw [List.length_map]
  cases ixN xs.length i with
  | none => rfl
  | some j => simp
/-- an item of a written list at a remainder -/
theorem atI_lt {α : Type} (xs : List α) (i : Int) (h0 : 0 ≤ i) (h1 : i < xs.length) : ∃ x ∈ xs, atI xs i = some x := by
  obtain ⟨k, rfl⟩ := Int.eq_ofNat_of_zero_le h0
  have hk : k < xs.length := by omega
  exact ⟨xs[k], List.getElem_mem hk, by rw [atI_ofNat, List.getElem?_eq_getElem hk]⟩
@[simp] theorem oTup_def (rs : List R) : oTup rs = if (rs.all (fun r => !r.wr) && decide (rs.length ≤ LIM)) = true then some (.va (.tup (rs.map R.d))) else none := rfl
@[simp] theorem oLst_def (rs : List R) : oLst rs = if (rs.all (fun r => !r.wr) && decide (rs.length ≤ LIM)) = true then some (.tm (rs.map R.d)) else none := rfl
@[simp] theorem cLen_vlst (ds : List D) : cLen [.va (.lst ds)] = some (.va (.int ds.length)) := rfl
@[simp] theorem cLen_tm (ds : List D) : cLen [.tm ds] = some (.va (.int ds.length)) := rfl
@[simp] theorem cLen_bw (j : Nat) (ds : List D) : cLen [.bw j ds] = some (.va (.int ds.length)) := rfl
@[simp] theorem cLen_tup (ds : List D) : cLen [.va (.tup ds)] = some (.va (.int ds.length)) := rfl
@[simp] theorem cLen_rol (ds : List D) : cLen [.va (.rol ds)] = some (.va (.int ds.length)) := rfl
@[simp] theorem cLen_str (z : Str) : cLen [.va (.str z)] = if z.length ≤ LIM then some (.va (.int z.length)) else none := rfl
@[simp] theorem cInt_int (i : Int) : cInt [.va (.int i)] = some (.va (.int i)) := rfl
@[simp] theorem cInt_bl (i : Bool) : cInt [.va (.bl i)] = some (.va (.int (if i then 1 else 0))) := rfl
@[simp] theorem cInt_str (a : Str) : cInt [.va (.str a)] = if a.length ≤ 640 then (PySem.intText? a).map fun n => .va (.int n) else none := rfl
@[simp] theorem cMax2_def (i j : Int) : cMax2 [.va (.int i), .va (.int j)] = some (.va (.int (max i j))) := by
  show some (R.va (.int (if j > i then j else i))) = _
  congr 3
  split <;> omega
@[simp] theorem cMin2_def (i j : Int) : cMin2 [.va (.int i), .va (.int j)] = some (.va (.int (min i j))) := by
  show some (R.va (.int (if j < i then j else i))) = _
  congr 3
  split <;> omega
@[simp] theorem c1_def (f : R → Option R) (r : R) : c1 f [r] = f r := rfl
theorem cSum_def {r : R} {ns : List Int} (h : r.d = .lst (ns.map D.int)) : cSum [r] = some (.va (.int ns.sum)) := by
  show ((lstD r.d).bind intsOf).map _ = _
  rw [h]
  show (intsOf (ns.map D.int)).map _ = _
  rw [intsOf_map]
  rfl
theorem cAll_def {r : R} {ns : List Bool} (h : r.d = .lst (ns.map D.bl)) : cAll [r] = some (.va (.bl (ns.all id))) := by
  show ((lstD r.d).bind blsOf).map _ = _
  rw [h]
  show (blsOf (ns.map D.bl)).map _ = _
  rw [blsOf_map]
  rfl
@[simp] theorem cList_vlst (ds : List D) : cList [.va (.lst ds)] = some (.tm ds) := rfl
@[simp] theorem cList_tup (ds : List D) : cList [.va (.tup ds)] = some (.tm ds) := rfl
@[simp] theorem cList_bw (j : Nat) (ds : List D) : cList [.bw j ds] = some (.tm ds) := rfl
@[simp] theorem cTuple_vlst (ds : List D) : cTuple [.va (.lst ds)] = some (.va (.tup ds)) := rfl
@[simp] theorem cTuple_tup (ds : List D) : cTuple [.va (.tup ds)] = some (.va (.tup ds)) := rfl
@[simp] theorem cTuple_bw (j : Nat) (ds : List D) : cTuple [.bw j ds] = some (.va (.tup ds)) := rfl
def isO (T : BTy) (r : R) : Option R := if r.isTm = true then none else (isB T r.d).map fun b => .va (.bl b)
@[simp] theorem eIs_def (T : BTy) (m : Gm → Option R) (g : Gm) : eIs T m g = b1 (m g) (isO T) := rfl
@[simp] theorem isO_def (T : BTy) (r : R) : isO T r = if r.isTm = true then none else (isB T r.d).map fun b => .va (.bl b) := rfl
def isO2 (T U : BTy) (r : R) : Option R := if r.isTm = true then none else b2 (isB T r.d) (isB U r.d) fun a b => some (.va (.bl (a || b)))
@[simp] theorem eIs2_def (T U : BTy) (m : Gm → Option R) (g : Gm) : eIs2 T U m g = b1 (m g) (isO2 T U) := by
  unfold eIs2 b1 isO2
  cases m g with
  | none => rfl
  | some r =>
    show (if r.isTm = true then none else _) = (if r.isTm = true then none else _)
    split
    · rfl
    · unfold b2
      cases isB T r.d with
      | none => rfl
      | some a => cases isB U r.d <;> rfl
@[simp] theorem isO2_def (T U : BTy) (r : R) : isO2 T U r = if r.isTm = true then none else b2 (isB T r.d) (isB U r.d) fun a b => some (.va (.bl (a || b))) := rfl
@[simp] theorem isB_int_int (i : Int) : isB .int (.int i) = some true := rfl
@[simp] theorem isB_int_bl (i : Bool) : isB .int (.bl i) = some true := rfl
@[simp] theorem isB_int_non : isB .int .non = some false := rfl
@[simp] theorem isB_int_str (i : Str) : isB .int (.str i) = some false := rfl
@[simp] theorem isB_int_tup (i : List D) : isB .int (.tup i) = some false := rfl
@[simp] theorem isB_int_lst (i : List D) : isB .int (.lst i) = some false := rfl
@[simp] theorem isB_bool_int (i : Int) : isB .bool (.int i) = some false := rfl
@[simp] theorem isB_bool_bl (i : Bool) : isB .bool (.bl i) = some true := rfl
@[simp] theorem isB_bool_non : isB .bool .non = some false := rfl
@[simp] theorem isB_bool_str (i : Str) : isB .bool (.str i) = some false := rfl
@[simp] theorem isB_bool_tup (i : List D) : isB .bool (.tup i) = some false := rfl
@[simp] theorem isB_bool_lst (i : List D) : isB .bool (.lst i) = some false := rfl
@[simp] theorem isB_str_int (i : Int) : isB .str (.int i) = some false := rfl
@[simp] theorem isB_str_bl (i : Bool) : isB .str (.bl i) = some false := rfl
@[simp] theorem isB_str_non : isB .str .non = some false := rfl
@[simp] theorem isB_str_str (i : Str) : isB .str (.str i) = some true := rfl
@[simp] theorem isB_str_tup (i : List D) : isB .str (.tup i) = some false := rfl
@[simp] theorem isB_str_lst (i : List D) : isB .str (.lst i) = some false := rfl
@[simp] theorem isB_list_int (i : Int) : isB .list (.int i) = some false := rfl
@[simp] theorem isB_list_bl (i : Bool) : isB .list (.bl i) = some false := rfl
@[simp] theorem isB_list_non : isB .list .non = some false := rfl
@[simp] theorem isB_list_str (i : Str) : isB .list (.str i) = some false := rfl
@[simp] theorem isB_list_tup (i : List D) : isB .list (.tup i) = some false := rfl
@[simp] theorem isB_list_lst (i : List D) : isB .list (.lst i) = some true := rfl
@[simp] theorem isB_tuple_int (i : Int) : isB .tuple (.int i) = some false := rfl
@[simp] theorem isB_tuple_bl (i : Bool) : isB .tuple (.bl i) = some false := rfl
@[simp] theorem isB_tuple_non : isB .tuple .non = some false := rfl
@[simp] theorem isB_tuple_str (i : Str) : isB .tuple (.str i) = some false := rfl
@[simp] theorem isB_tuple_tup (i : List D) : isB .tuple (.tup i) = some true := rfl
@[simp] theorem isB_tuple_lst (i : List D) : isB .tuple (.lst i) = some false := rfl
@[simp] theorem listR_bw (j : Nat) (ds : List D) : listR (.bw j ds) = some ([j], ds) := rfl
@[simp] theorem listR_tm (ds : List D) : listR (.tm ds) = some ([], ds) := rfl
@[simp] theorem listR_va (ds : List D) : listR (.va (.lst ds)) = some ([], ds) := rfl
@[simp] theorem seqR_bw (j : Nat) (ds : List D) : seqR (.bw j ds) = some ([j], ds) := rfl
@[simp] theorem seqR_tm (ds : List D) : seqR (.tm ds) = some ([], ds) := rfl
@[simp] theorem seqR_va (ds : List D) : seqR (.va (.lst ds)) = some ([], ds) := rfl
@[simp] theorem seqR_rol (ds : List D) : seqR (.va (.rol ds)) = some ([], ds) := rfl
@[simp] theorem seqR_tup (ds : List D) : seqR (.va (.tup ds)) = some ([], ds) := rfl
@[simp] theorem seqR_str (z : Str) : seqR (.va (.str z)) = some ([], signs z) := rfl
@[simp] theorem listA_bw (j : Nat) (ds : List D) : listA (.bw j ds) = some ([j], ds) := rfl
@[simp] theorem listA_va (ds : List D) : listA (.va (.lst ds)) = some ([], ds) := rfl
@[simp] theorem listA_rol (ds : List D) : listA (.va (.rol ds)) = some ([], ds) := rfl
theorem rg1R_def (j : Int) : rg1R [.va (.int j)] = if -(2 ^ 62) ≤ j ∧ j < 2 ^ 62 then some ([], rangeL 0 j.toNat) else none := rfl
theorem rg2R_def (i j : Int) : rg2R [.va (.int i), .va (.int j)] = if -(2 ^ 62) ≤ i ∧ i < 2 ^ 62 ∧ -(2 ^ 62) ≤ j ∧ j < 2 ^ 62 then some ([], rangeL i (j - i).toNat) else none := rfl
@[simp] theorem enR_def (r : R) : enR [r] = (listA r).map fun p => (p.1, enumL 0 p.2) := rfl
@[simp] theorem zpR_tt (xs ys : List D) : zpR [.va (.tup xs), .va (.tup ys)] = some ([], zipL xs ys) := rfl
@[simp] theorem zpR_ll (xs ys : List D) : zpR [.va (.lst xs), .va (.lst ys)] = some ([], zipL xs ys) := rfl
@[simp] theorem zpR_bl (j : Nat) (xs ys : List D) : zpR [.bw j xs, .va (.lst ys)] = some ([j], zipL xs ys) := rfl
@[simp] theorem zpR_lb (j : Nat) (xs ys : List D) : zpR [.va (.lst xs), .bw j ys] = some ([j], zipL xs ys) := rfl
@[simp] theorem zpR_bb (i j : Nat) (xs ys : List D) : zpR [.bw i xs, .bw j ys] = some ([i, j], zipL xs ys) := rfl
@[simp] theorem rvR_def (r : R) : rvR [r] = (listA r).map fun p => (p.1, p.2.reverse) := rfl
@[simp] theorem eSl_def (m : Gm → Option R) (l h : Gm → Option (Option Int)) (g : Gm) : eSl m l h g = b1 (m g) fun a => b2 (l g) (h g) (oSl a) := rfl
@[simp] theorem pN_def (g : Gm) : pN g = some none := rfl
def pI : R → Option (Option Int)
  | .va (.int i) => some (some i)
  | _ => none
@[simp] theorem pI_def (i : Int) : pI (.va (.int i)) = some (some i) := rfl
@[simp] theorem pS_def (m : Gm → Option R) (g : Gm) : pS m g = b1 (m g) pI := by
  unfold pS b1
  cases m g with
  | none => rfl
  | some r =>
    cases r with
    | va d => cases d <;> rfl
    | _ => rfl
@[simp] theorem oSl_vlst (xs : List D) (lo hi : Option Int) : oSl (.va (.lst xs)) lo hi = some (.tm (cutL xs lo hi)) := rfl
@[simp] theorem oSl_tm (xs : List D) (lo hi : Option Int) : oSl (.tm xs) lo hi = some (.tm (cutL xs lo hi)) := rfl
@[simp] theorem oSl_bw (j : Nat) (xs : List D) (lo hi : Option Int) : oSl (.bw j xs) lo hi = some (.tm (cutL xs lo hi)) := rfl
@[simp] theorem oSl_tup (xs : List D) (lo hi : Option Int) : oSl (.va (.tup xs)) lo hi = some (.va (.tup (cutL xs lo hi))) := rfl
@[simp] theorem oSl_rol (xs : List D) (lo hi : Option Int) : oSl (.va (.rol xs)) lo hi = some (.tm (cutL xs lo hi)) := rfl
@[simp] theorem oSl_str (z : Str) (lo hi : Option Int) : oSl (.va (.str z)) lo hi = if z.length ≤ LIM then some (.va (.str (cutS z lo hi))) else none := rfl
/-- the end of a def -/
def fnR : Option Out → Option R
  | some (.rt r) => some (retR r)
  | some (.nx _) => some (.va .non)
  | _ => none
theorem phi_def (m : Gm → Option Out) (N n : Nat) (ds : List D) : phi m N n ds = if ds.length = n then fnR (m (ds.map Slot.va ++ List.replicate (N - n) Slot.un)) else none := by
  unfold phi
  by_cases h : ds.length = n
  · rw [if_pos h, if_pos h]
    cases m (ds.map Slot.va ++ List.replicate (N - n) Slot.un) with
    | none => rfl
    | some o => cases o <;> rfl
  · rw [if_neg h, if_neg h]
@[simp] theorem fnR_rt (r : R) : fnR (some (.rt r)) = some (retR r) := rfl
@[simp] theorem fnR_nx (g : Gm) : fnR (some (.nx g)) = some (.va .non) := rfl
@[simp] theorem fnR_ite (c : Prop) [Decidable c] (a b : Option Out) : fnR (if c then a else b) = if c then fnR a else fnR b := by split <;> rfl
@[simp] theorem lim_num : LIM = 16777216 := rfl
theorem cut_map {α β : Type} (f : α → β) (xs : List α) (lo hi : Option Int) : cutL (xs.map f) lo hi = (cutL xs lo hi).map f := by
  unfold cutL
  simp
theorem cdiv_small {a b : Int} (h0 : 0 < b) (h : b < 2 ^ 64) : CDivB a b := ⟨by omega, by
  have : b.natAbs < 2 ^ 64 := by omega
  have := PySem.Flt.log2_lt_of (by omega : 0 < 64) this
  omega⟩
theorem log_lt {x : Int} {n : Nat} (h0 : 0 < n) (h : x.natAbs < 2 ^ n) : x.natAbs.log2 < n := PySem.Flt.log2_lt_of h0 h
theorem cmul_of {a b : Int} {m n : Nat} (h0 : 0 < m) (h1 : 0 < n) (ha : a.natAbs < 2 ^ m) (hb : b.natAbs < 2 ^ n) (h : m + n ≤ 134000000) : CMulB a b := by
  have x := log_lt h0 ha
  have y := log_lt h1 hb
  unfold CMulB
  omega
end BK
namespace BK
open PySem PySem.Spec L2
set_option autoImplicit false
/-! ### steps -/
@[simp] theorem cdivB_small {a b : Int} (h0 : 0 < b) (h : b < 18446744073709551616) : CDivB a b := cdiv_small h0 h
@[simp] theorem fdiv_nn {a b : Int} (h : 0 ≤ b) : a.fdiv b = a / b := Int.fdiv_eq_ediv_of_nonneg a h
@[simp] theorem fmod_nn {a b : Int} (h : 0 ≤ b) : a.fmod b = a % b := Int.fmod_eq_emod_of_nonneg a h
@[simp] theorem cpow_small {a b : Int} (h0 : -18446744073709551616 < a) (h : a < 18446744073709551616) (h1 : 0 ≤ b) (h2 : b ≤ 1000000) : CPow a b := ⟨h1, h2, by omega⟩
/-- of at most so many bits -/
structure Sz (n : Nat) (z : Int) : Prop where
  lt : z.natAbs < 2 ^ n
theorem Sz.mono {m n : Nat} {z : Int} (h : Sz m z) (l : m ≤ n) : Sz n z := ⟨Nat.lt_of_lt_of_le h.lt (Nat.pow_le_pow_right (by omega) l)⟩
theorem Sz.zero (n : Nat) : Sz n 0 := ⟨Nat.two_pow_pos n⟩
theorem Sz.le {n : Nat} {a b : Int} (h0 : 0 ≤ a) (h : a ≤ b) (k : Sz n b) : Sz n a := ⟨Nat.lt_of_le_of_lt (by omega) k.lt⟩
theorem Sz.small {z : Int} (h : z.natAbs < 18446744073709551616) : Sz 64 z := ⟨h⟩
theorem Sz.cmul {m n : Nat} {a b : Int} (h : Sz m a) (k : Sz n b) (h0 : 0 < m) (h1 : 0 < n) (l : m + n ≤ 134000000) : CMulB a b := cmul_of h0 h1 h.lt k.lt l
theorem bits_sz {z : Int} (h : Builtin.Int.intBits z ≤ 1048576) : Sz 1048576 z := by
  unfold Builtin.Int.intBits at h
  by_cases e : z = 0
  · subst e
    exact Sz.zero _
  · have e' : ¬ (z == 0) = true := by simpa using e
    rw [if_neg e'] at h
    exact ⟨Nat.lt_of_lt_of_le (Nat.lt_log2_self (n := z.natAbs)) (Nat.pow_le_pow_right (by omega) (by omega))⟩
theorem mem_split {α : Type} {xs pre : List α} {x : α} (h : ∃ post, xs = pre ++ x :: post) : x ∈ xs := by
  obtain ⟨post, h⟩ := h
  rw [h]
  simp
theorem get_split {α : Type} {xs pre : List α} {x : α} (h : ∃ post, xs = pre ++ x :: post) : xs[pre.length]? = some x ∧ pre = xs.take pre.length ∧ pre.length < xs.length := by
  obtain ⟨post, rfl⟩ := h
  simp
theorem range_split {n : Nat} {pre : List Nat} {x : Nat} (h : ∃ post, List.range n = pre ++ x :: post) : x < n ∧ pre = List.range x := by
  obtain ⟨h1, h2, h3⟩ := get_split h
  rw [List.length_range] at h3
  rw [List.getElem?_range h3] at h1
  cases h1
  refine ⟨h3, h2.trans ?_⟩
  rw [List.take_range, Nat.min_eq_left (by omega)]
end BK
namespace BK
open PySem PySem.Spec L2
set_option autoImplicit false
/-! ### own classes: fields, instances made, the method is_bridge -/
def fldD (c : Nat) (ds : List D) (f : Str) : Option D := ((fldsOf c).zip ds).lookup f
def oFld (f : Str) (r : R) : Option R := match r with
  | .va (.ins c ds) => (fldD c ds f).map .va
  | _ => none
section
variable {K : PySem.W.Frag} {ca : Nat → Addr} {F : Hp}
theorem lookup_den {f : Str} : ∀ {fs : List (Str × V)} {names : List Str} {ds : List D} {d : D}, fs.map (·.1) = names → Dens K ca F (fs.map (·.2)) ds → (names.zip ds).lookup f = some d → f ∈ names ∧ ∃ v, fs.lookup f = some v ∧ Den K ca F v d
  | [], _, ds, d, e, h, q => by
    subst e
    cases q
  | (g, u) :: fs, _, ds, d, e, h, q => by
    subst e
    cases h with
    | cons h1 h2 =>
      rename_i d1 ds
      rw [List.map_cons, List.zip_cons_cons, List.lookup_cons] at q
      by_cases hg : (f == g) = true
      · rw [hg] at q
        cases q
        refine ⟨by rw [eq_of_beq hg]; exact List.mem_cons_self, u, by rw [List.lookup_cons, hg], h1⟩
      · rw [Bool.not_eq_true] at hg
        rw [hg] at q
        obtain ⟨m, v, e1, e2⟩ := lookup_den rfl h2 q
        exact ⟨List.mem_cons_of_mem _ m, v, by rw [List.lookup_cons, hg]; exact e1, e2⟩
theorem lookup_no {f : Str} : ∀ {fs : List (Str × V)}, f ∉ fs.map (·.1) → fs.lookup f = none
  | [], _ => rfl
  | (g, u) :: fs, h => by
    have h1 : ¬ (f == g) = true := fun e => h (by rw [eq_of_beq e]; exact List.mem_cons_self)
    rw [Bool.not_eq_true] at h1
    rw [List.lookup_cons, h1]
    exact lookup_no fun m => h (List.mem_cons_of_mem _ m)
end
section
variable {X : Cx} {ca : Nat → Addr} {e : Expr} {m : Gm → Option R} {pos p apos : Pos}
theorem ev_fld {f : Str} (he : EV X ca e m) (hb : attributeBase e f X.env (eval e X.env) = eval e X.env) : EV X ca (.Attribute e f pos) (e1 (oFld f) m) := by
  refine pe_imp (pe_fld he hb) ?_
  rintro σ H Q ⟨H0, F0, F, Γ, z, S, e, q⟩
  unfold e1 at e
  obtain ⟨r, er, e⟩ := Option.bind_eq_some_iff.mp e
  refine ⟨H0, F0, F, Γ, r, S, er, fun v H1 F1 x1 r1 => ?_⟩
  unfold oFld at e
  split at e
  · rename_i c ds
    obtain ⟨d, ed, rfl⟩ := Option.map_eq_some_iff.mp e
    cases r1 with
    | ins k h n hs =>
      obtain ⟨hm, v, e1, e2⟩ := lookup_den n hs ed
      exact ⟨_, _, _, _, v, rfl, x1.fh _ _ h, k.cl, k.na f hm, e1, q v H1 F1 x1 e2⟩
  · cases e
/-- is_bridge: a def of each of two classes -/
def cIsB (r : R) : Option R := match r with
  | .va (.ins 0 _) => some (.va (.bl false))
  | .va (.ins 1 _) => some (.va (.bl true))
  | _ => none
/-- what the c-th class answers by a method without arguments -/
structure MCallee (P : Program) (w : World) (K : PySem.W.Frag) (mg : Str → Option Value) (base : Heap) (ca : Nat → Addr) (k c : Nat) (m : Str) (φ : Phi) : Prop where
  ex : ∃ (f : Addr) (fd : FuncData) (ps : List Str), FnOk P w K mg base CX0 k f fd ps (spOf K ca φ) ∧ Cls K (ca c) ∧ Meth K (ca c) m f ∧ Binds K fd ps []
theorem MCallee.mono {P : Program} {w : World} {K : PySem.W.Frag} {mg : Str → Option Value} {base : Heap} {ca : Nat → Addr} {j k c : Nat} {m : Str} {φ : Phi} (C : MCallee P w K mg base ca j c m φ) (h : j ≤ k) : MCallee P w K mg base ca k c m φ := by
  obtain ⟨f, fd, ps, F, r⟩ := C.ex
  exact ⟨f, fd, ps, F.mono h, r⟩
theorem pe_or {e : Expr} {t u : TE} (h : PE X e t) (k : PE X e u) : PE X e fun σ H Q => t σ H Q ∨ u σ H Q := ⟨fun pins s σ H Q I q => by
  rcases q with q | q
  · exact h.run pins s σ H Q I q
  · exact k.run pins s σ H Q I q⟩
theorem isb_core {j c : Nat} {mt : Str} {φ : Phi} {H : Hp} {sp : Sp} {σ : L2.St} (hn : mt ∉ fldsOf c) {b : Bool} (hφ : ∀ ds, φ [.ins c ds] = some (.va (.bl b))) {H0 F0 F : Hp} {Γ : Gm} {r : R} {ds : List D} {E : XK} {Q : VK} (S : SR X.K ca H0 F0 σ H F Γ) (er : m Γ = some (.va (.ins c ds)))
    (q : ∀ v H' F', Ext ca H F H' F' → RV X.K ca (BB σ Γ) H F' H' v (.va (.bl b)) → Q v H') : tMeth (ca c) mt (spOf X.K ca φ) [] E (tEV X.K ca m) tNil σ H Q := by
  refine ⟨H0, F0, F, Γ, _, S, er, fun v H1 F1 x1 r1 => ?_⟩
  have r2 := r1
  cases r1 with
  | ins k h n hs =>
    refine ⟨_, _, _, rfl, x1.fh _ _ h, lookup_no (by rw [n]; exact hn), ?_⟩
    refine ⟨[.ins c ds], F1, _, x1.fh, (S.mono x1).ext.nt S.nt0, S.tc0.mono (S.mono x1).ext.hh, .cons r2 .nil, hφ ds, fun v H' F' x2 r3 => ?_⟩
    exact q v H' F' (x1.trans x2) r3
theorem ev_isb {j : Nat} {φ0 φ1 : Phi} (h0 : ∀ ds, φ0 [.ins 0 ds] = some (.va (.bl false))) (h1 : ∀ ds, φ1 [.ins 1 ds] = some (.va (.bl true))) (C0 : MCallee X.prog X.w X.K X.mg X.base ca j 0 "is_bridge" φ0) (C1 : MCallee X.prog X.w X.K X.mg X.base ca j 1 "is_bridge" φ1) (hr : Room j X.A) (he : EV X ca e m)
    {pl : Sem Bool} (hev : eval (.Call (.Attribute e "is_bridge" apos) [] [] pos) X.env = (do
      let ov ← eval e X.env
      standAt apos.atName
      let (f, first) ← holding [ov] (getMethod ov "is_bridge" pl)
      callWith pos f first (backTo pos (starEach [] X.env)) (backToKw pos (keywordEach [] X.env))) := by rfl) : EV X ca (.Call (.Attribute e "is_bridge" apos) [] [] pos) (e1 cIsB m) := by
  obtain ⟨f0, fd0, ps0, G0, c0, m0, b0⟩ := C0.ex
  obtain ⟨f1, fd1, ps1, G1, c1, m1, b1⟩ := C1.ex
  refine pe_imp (pe_or (pe_meth0 he c0 m0 G0 hr b0 .nil pass0 hev) (pe_meth0 he c1 m1 G1 hr b1 .nil pass0 hev)) ?_
  rintro σ H Q ⟨H0, F0, F, Γ, z, S, e, q⟩
  unfold e1 at e
  obtain ⟨r, er, e⟩ := Option.bind_eq_some_iff.mp e
  unfold cIsB at e
  split at e
  · cases e
    exact .inl (isb_core (j := j) (sp := spOf X.K ca φ0) (r := .va .non) (by decide +kernel) h0 S er q)
  · cases e
    exact .inr (isb_core (j := j) (sp := spOf X.K ca φ0) (r := .va .non) (by decide +kernel) h1 S er q)
  · cases e
end
/-! ### instances -/
/-- the fields, each by its expression over the arguments -/
def inis : List (Gm → Option R) → Gm → Option (List D)
  | [], _ => some []
  | m :: ms, g => (m g).bind fun r => if r.isBw = true then none else (inis ms g).map (r.d :: ·)
def allVa : List R → Option (List D)
  | [] => some []
  | .va d :: rs => (allVa rs).map (d :: ·)
  | _ => none
def cMk (c : Nat) (ms : List (Gm → Option R)) (rs : List R) : Option R := (allVa rs).bind fun ds => (inis ms (.un :: ds.map .va)).map fun es => .va (.ins c es)
/-- a result as a tree -/
def R.t : R → BK.T
  | .va d => .fz d
  | .tm ds => .lst (ds.map .fz)
  | .bw _ ds => .fz (.lst ds)
theorem R.t_d : ∀ r : R, r.t.d = r.d
  | .va _ => rfl
  | .tm ds => by show D.lst (T.ds (ds.map .fz)) = .lst ds; rw [T.ds_fz]
  | .bw _ _ => rfl
/-- the fields as trees -/
def tinis : List (Gm → Option R) → Gm → Option (List BK.T)
  | [], _ => some []
  | m :: ms, g => (m g).bind fun r => if r.isBw = true then none else (tinis ms g).map (r.t :: ·)
theorem tinis_ds : ∀ (ms : List (Gm → Option R)) (g : Gm), inis ms g = (tinis ms g).map T.ds
  | [], _ => rfl
  | m :: ms, g => by
    unfold inis tinis
    cases m g with
    | none => rfl
    | some r =>
      show (if r.isBw = true then none else (inis ms g).map (r.d :: ·)) = (if r.isBw = true then none else (tinis ms g).map (r.t :: ·)).map T.ds
      rw [tinis_ds ms g]
      split
      · rfl
      · cases tinis ms g with
        | none => rfl
        | some ts =>
          show some (r.d :: T.ds ts) = some (r.t.d :: T.ds ts)
          rw [R.t_d]
theorem tinis_of {ms : List (Gm → Option R)} {g : Gm} {es : List D} (h : inis ms g = some es) : ∃ ts, tinis ms g = some ts ∧ T.ds ts = es := by
  rw [tinis_ds] at h
  exact Option.map_eq_some_iff.mp h
/-- values of new trees: apart from what was, and from x -/
def TFs (K : PySem.W.Frag) (ca : Nat → Addr) (H0 F H : Hp) (x : Addr) (vs : List V) (ts : List BK.T) : Prop := ∃ as, OTs K ca F H vs ts as ∧ as.Nodup ∧ ∀ b ∈ as, noT H0 b = none ∧ F b = none ∧ b ≠ x
theorem TFs.mono {K : PySem.W.Frag} {ca : Nat → Addr} {H0 F H F' H' : Hp} {x : Addr} {vs : List V} {ts : List BK.T} (h : TFs K ca H0 F H x vs ts) (e : Ext ca H F H' F') : TFs K ca H0 F' H' x vs ts := by
  obtain ⟨as, h1, h2, h3⟩ := h
  have key : ∀ b ∈ as, H' b = H b ∧ F' b = none := fun b hb => by
    obtain ⟨u, hu, hn⟩ := h1.at b hb
    exact ⟨by rw [hu, e.hh.st b u hu hn], e.keepN hu (h3 b hb).2.1 hn⟩
  exact ⟨as, h1.mono e.ff fun b hb => (key b hb).1, h2, fun b hb => ⟨(h3 b hb).1, (key b hb).2, (h3 b hb).2.2⟩⟩
theorem TFs.root {K : PySem.W.Frag} {ca : Nat → Addr} {H0 H1 F H : Hp} {x : Addr} {vs : List V} {ts : List BK.T} (h : TFs K ca H1 F H x vs ts) (s : SameN ca H0 H1) : TFs K ca H0 F H x vs ts := by
  obtain ⟨as, h1, h2, h3⟩ := h
  exact ⟨as, h1, h2, fun b hb => ⟨s.free (h3 b hb).1, (h3 b hb).2⟩⟩
theorem TFs.upd {K : PySem.W.Frag} {ca : Nat → Addr} {H0 F H : Hp} {x : Addr} {o : HO} {vs : List V} {ts : List BK.T} (h : TFs K ca H0 F H x vs ts) : TFs K ca H0 F (L2.upd H x o) x vs ts := by
  obtain ⟨as, h1, h2, h3⟩ := h
  exact ⟨as, h1.mono (Same.refl _) fun b hb => upd_ne (h3 b hb).2.2, h2, h3⟩
/-- one value more -/
theorem TFs.snoc {K : PySem.W.Frag} {ca : Nat → Addr} {B : BT} {H0 F H F' H' : Hp} {x : Addr} {vs : List V} {ts : List BK.T} {v : V} {r : R} (h : TFs K ca H0 F H x vs ts) (e : Ext ca H F H' F') (s : SameN ca H0 H) (hx : noT H x ≠ none) (hb : r.isBw = false) (rv : RV K ca B H F' H' v r) : TFs K ca H0 F' H' x (vs ++ [v]) (ts ++ [r.t]) := by
  obtain ⟨as, h1, h2, h3⟩ := h
  have key : ∀ b ∈ as, H' b = H b ∧ F' b = none ∧ noT H b ≠ none := fun b hb => by
    obtain ⟨u, hu, hn⟩ := h1.at b hb
    exact ⟨by rw [hu, e.hh.st b u hu hn], e.keepN hu (h3 b hb).2.1 hn, by rw [noT_get hu hn]; exact fun z => nomatch z⟩
  have h1' := h1.mono e.ff fun b hb => (key b hb).1
  cases r with
  | bw j ds => cases hb
  | va d =>
    refine ⟨as ++ ([] ++ []), h1'.append (.cons (.fz rv) .nil), by simpa using h2, fun b hb => ?_⟩
    have hb : b ∈ as := by simpa using hb
    exact ⟨(h3 b hb).1, (key b hb).2.1, (h3 b hb).2.2⟩
  | tm ds =>
    obtain ⟨b, us, rfl, n1, f1, k1, d1⟩ := rv
    refine ⟨as ++ ((b :: []) ++ []), h1'.append (.cons (.lst k1 (OTs.fzs d1)) .nil), ?_, fun c hc => ?_⟩
    · simp only [List.append_nil]
      rw [List.nodup_append]
      refine ⟨h2, by simp, fun c hc d hd => ?_⟩
      rw [List.mem_singleton] at hd
      subst hd
      exact fun z => (key c hc).2.2 (z ▸ n1)
    · simp only [List.append_nil, List.mem_append, List.mem_singleton] at hc
      rcases hc with hc | rfl
      · exact ⟨(h3 c hc).1, (key c hc).2.1, (h3 c hc).2.2⟩
      · exact ⟨s.free n1, f1, fun z => hx (z ▸ n1)⟩
/-- a promise of __init__: x is a new instance of the c-th class, without fields; n arguments -/
def spIni (K : PySem.W.Frag) (ca : Nat → Addr) (c n : Nat) (names : List Str) (ms : List (Gm → Option R)) : Sp := fun vs H Q _ => ∃ H0 F x dx us ds es, vs = .ref x :: us ∧ H0 x = none ∧ H = upd H0 x (.ins (ca c) dx []) ∧ Same F H0 ∧ NT F ∧ TabsC ca H0 ∧ Dens K ca F us ds ∧ us.length = n ∧ tinis ms (.un :: ds.map .va) = some es ∧
  ∀ H' F' fs, Ext ca H0 F H' F' → F' x = none → H' x = some (.ins (ca c) dx fs) → fs.map (·.1) = names → TFs K ca H0 F' H' x (fs.map (·.2)) es → Q .non H'
theorem putF_new {f : Str} {v : V} : ∀ {fs : List (Str × V)}, f ∉ fs.map (·.1) → putF f v fs = fs ++ [(f, v)]
  | [], _ => rfl
  | (g, u) :: fs, h => by
    have h1 : ¬ g = f := fun e => h (by rw [e]; exact List.mem_cons_self)
    show (if g = f then _ else _) = _
    rw [if_neg h1, putF_new fun m => h (List.mem_cons_of_mem _ m)]
    rfl
section
variable {X : Cx} {ca : Nat → Addr}
/-- the state within __init__ -/
def JS (K : PySem.W.Frag) (ca : Nat → Addr) (c : Nat) (H0 F0 : Hp) (x dx : Addr) (σ : L2.St) (H F : Hp) (Γ : Gm) (fs : List (Str × V)) (es : List BK.T) : Prop :=
  SR K ca H0 F0 σ H F Γ ∧ σ[0]? = some (some (.ref x)) ∧ H0 x = none ∧ F x = none ∧ H x = some (.ins (ca c) dx fs) ∧ TFs K ca H0 F H x (fs.map (·.2)) es ∧ ∀ (i : Nat) (t : T), Γ[i]? ≠ some (Slot.ot t)
/-- what a part of __init__ does: it stores fields -/
def JRd (K : PySem.W.Frag) (ca : Nat → Addr) (c : Nat) (T : TS) (names : List Str) (ms : List (Gm → Option R)) : Prop := ∀ (H0 F0 : Hp) (x dx : Addr) (σ : L2.St) (H F : Hp) (Γ : Gm) (fs : List (Str × V)) (es es2 : List BK.T) (D : Ends), JS K ca c H0 F0 x dx σ H F Γ fs es → tinis ms Γ = some es2 →
  (fs.map (·.1) ++ names).Nodup → fs.length + names.length < 1000 → (∀ H' F' gs, JS K ca c H0 F0 x dx σ H' F' Γ (fs ++ gs) (es ++ es2) → gs.map (·.1) = names → D.nx σ H') → T D σ H
def JV (X : Cx) (ca : Nat → Addr) (c : Nat) (st : Stmt) (names : List Str) (ms : List (Gm → Option R)) : Prop := ∃ T, PS X st T ∧ JRd X.K ca c T names ms
def JVs (X : Cx) (ca : Nat → Addr) (c : Nat) (sts : List Stmt) (names : List Str) (ms : List (Gm → Option R)) : Prop := ∃ T, PSs X sts T ∧ JRd X.K ca c T names ms
/-- .. from its beginning -/
def JR0 (K : PySem.W.Frag) (ca : Nat → Addr) (c : Nat) (T : TS) (names : List Str) (ms : List (Gm → Option R)) : Prop := ∀ (H0 F0 : Hp) (x dx : Addr) (σ : L2.St) (H F : Hp) (Γ : Gm) (es2 : List BK.T) (D : Ends), JS K ca c H0 F0 x dx σ H F Γ [] [] → tinis ms Γ = some es2 →
  names.Nodup → names.length < 1000 → (∀ H' F' gs, JS K ca c H0 F0 x dx σ H' F' Γ gs es2 → gs.map (·.1) = names → D.nx σ H') → T D σ H
def JVs0 (X : Cx) (ca : Nat → Addr) (c : Nat) (sts : List Stmt) (names : List Str) (ms : List (Gm → Option R)) : Prop := ∃ T, PSs X sts T ∧ JR0 X.K ca c T names ms
theorem jvs0_of {c : Nat} {sts : List Stmt} {names : List Str} {ms : List (Gm → Option R)} (h : JVs X ca c sts names ms) : JVs0 X ca c sts names ms := by
  obtain ⟨T, p, r⟩ := h
  exact ⟨T, p, fun H0 F0 x dx σ H F Γ es2 D J e nd hl q => r H0 F0 x dx σ H F Γ [] [] es2 D J e nd (by simpa using hl) q⟩
theorem inis_cons {m : Gm → Option R} {ms : List (Gm → Option R)} {g : Gm} {es : List BK.T} (h : tinis (m :: ms) g = some es) : ∃ r es2, m g = some r ∧ r.isBw = false ∧ tinis ms g = some es2 ∧ es = r.t :: es2 := by
  obtain ⟨r, er, e⟩ := Option.bind_eq_some_iff.mp h
  by_cases hb : r.isBw = true
  · rw [if_pos hb] at e; cases e
  rw [if_neg hb] at e
  obtain ⟨es3, e3, rfl⟩ := Option.map_eq_some_iff.mp e
  exact ⟨r, es3, er, by simpa using hb, e3, rfl⟩
theorem sr_atX {K : PySem.W.Frag} {H0 F0 H F : Hp} {σ : L2.St} {Γ : Gm} (S : SR K ca H0 F0 σ H F Γ) {x : Addr} {o : HO} (h0 : H0 x = none) (hp : Pl H x) (hf : F x = none) (ho : ∀ (j : Nat) (a : Addr) (ds : List D), Γ[j]? = some (Slot.ow ds) → σ[j]? = some (some (V.ref a)) → a ≠ x) (hno : ∀ (i : Nat) (t : T), Γ[i]? ≠ some (Slot.ot t)) : SR K ca H0 F0 σ (upd H x o) F Γ := by
  refine ⟨⟨S.ext.hh.updO (noT_none h0) hp, S.ext.ff, fun b u e => ?_, S.ext.nw, S.ext.nt⟩, S.nt0, S.tc0, S.len, S.va, fun j ds hj => ?_, S.ap, Own.nil hno⟩
  · rw [upd_ne (ne_of_none e hf)]; exact S.ext.fh b u e
  · obtain ⟨a, vs, s, h1, h2, h3, h4⟩ := S.ow j ds hj
    exact ⟨a, vs, s, h1, h2, by rw [upd_ne (ho j a ds hj s)]; exact h3, h4⟩
theorem jv_fld {c : Nat} {f : Str} {o e : Expr} {m : Gm → Option R} {pos pos' : Pos} (k : Kls X.K (ca c) c) (hf : f ∈ fldsOf c) (ho : PE X o (tVar 0)) (he : EV X ca e m) (hs : swapsWith e (some (.Attribute o f pos')) pos.line X.env = pure false) : JV X ca c (.Assign [.Attribute o f pos'] e pos) [f] [m] := by
  refine ⟨_, ps_fld ho he hs, ?_⟩
  rintro H0 F0 x dx σ H F Γ fs es es2 D ⟨S, s0, h0, hF, hH, hd, hno⟩ e nd hl q
  obtain ⟨r, es3, er, hbw, e3, rfl⟩ := inis_cons e
  cases e3
  have hn : f ∉ fs.map (·.1) := fun m => by
    rw [List.nodup_append] at nd
    exact nd.2.2 _ m _ List.mem_cons_self rfl
  refine ⟨H0, F0, F, Γ, r, S, er, fun v H1 F1 x1 r1 => ?_⟩
  refine ⟨_, s0, x, ca c, dx, fs, rfl, x1.hh.i hH, k.cl, k.na f hf, by simp at hl; omega, ?_⟩
  have hF2 : F1 x = none := x1.keepN hH hF
  rw [putF_new hn]
  refine q _ F1 [(f, v)] ⟨sr_atX (S.mono x1) h0 (Pl.ins (x1.hh.i hH)) hF2 (fun j a ds hj hs e => ?_) hno, s0, h0, hF2, upd_same, ?_, hno⟩ rfl
  · subst e
    obtain ⟨b, vs, g1, g2, g3, g4, _⟩ := S.ow j ds hj
    rw [hs] at g1
    cases g1
    rw [hH] at g4
    cases g4
  · rw [List.map_append]
    exact (hd.snoc x1 S.ext.hh (by rw [noT_get hH fun _ z => nomatch z]; exact fun z => nomatch z) hbw r1).upd
theorem jvs_one {c : Nat} {st : Stmt} {names : List Str} {ms : List (Gm → Option R)} (h : JV X ca c st names ms) : JVs X ca c [st] names ms := by
  obtain ⟨T, p, r⟩ := h
  exact ⟨_, pss_one p, r⟩
theorem jvs_cons {c : Nat} {st : Stmt} {sts : List Stmt} {f : Str} {names : List Str} {m : Gm → Option R} {ms : List (Gm → Option R)} (h : JV X ca c st [f] [m]) (hs : JVs X ca c sts names ms) : JVs X ca c (st :: sts) (f :: names) (m :: ms) := by
  obtain ⟨T, p, r⟩ := h
  obtain ⟨U, pp, rr⟩ := hs
  refine ⟨_, pss_cons p pp, ?_⟩
  intro H0 F0 x dx σ H F Γ fs es es2 D J e nd hl q
  obtain ⟨rv, es3, er, hbw, e3, rfl⟩ := inis_cons e
  have e1 : tinis [m] Γ = some [rv.t] := by
    show ((m Γ).bind fun r => if r.isBw = true then none else (tinis [] Γ).map (r.t :: ·)) = _
    rw [er]
    show (if rv.isBw = true then none else _) = _
    rw [if_neg (by simp [hbw])]
    rfl
  have nd1 : (fs.map (·.1) ++ [f]).Nodup := by
    rw [show fs.map (·.1) ++ f :: names = (fs.map (·.1) ++ [f]) ++ names by simp] at nd
    exact (List.nodup_append.mp nd).1
  refine r H0 F0 x dx σ H F Γ fs es _ _ J e1 nd1 (by simp at hl ⊢; omega) fun H' F' gs J' eg => ?_
  refine rr H0 F0 x dx σ H' F' Γ (fs ++ gs) (es ++ [rv.t]) es3 D J' e3 (by rw [List.map_append, eg]; simpa using nd) (by
    have := congrArg List.length eg
    simp at this hl ⊢
    omega) fun H2 F2 gs2 J2 eg2 => ?_
  refine q H2 F2 (gs ++ gs2) ?_ (by rw [List.map_append, eg, eg2]; rfl)
  rw [← List.append_assoc]
  simpa using J2
/-- an own class's def called by the class's name -/
theorem pe_ucall {CX : CXT} {k : Nat} {f C : Addr} {fd : FuncData} {ps : List Str} {sp : Sp} {dvs : List V} {ds : List Value} {E : XK} {x m : Str} {mc : Value} {p apos pos : Pos} {e : Expr} {es : List Expr} {t : TA} {pl : Sem Bool} (G : FnOk X.prog X.w X.K X.mg X.base CX k f fd ps sp) (hr : Room k X.A) (hg : Gl X x) (hm : X.mg x = some (.ref C))
    (hrd : PySem.W.readsIn X.K C mc = true) (hga : PySem.W.specialIn X.K (.ref C) "__getattribute__" = some (some (.builtin "type.__getattribute__"))) (hfc : PySem.W.findCls X.K (.ref C) mc m = some (.val (.ref f))) (hk : PySem.W.keepIn X.K (.ref f) = true) (hb : Binds X.K fd ps ds) (hv : Vals dvs ds) (hx : Passes CX X E) (ha : PA X (e :: es) t)
    (he : starEach (e :: es) X.env = (false, eval e X.env) :: starEach es X.env := by rfl) (hpl : (backTo pos (starEach es X.env)).any (·.1) = false := by rfl)
    (hev : eval (.Call (.Attribute (.Name x p) m apos) (e :: es) [] pos) X.env = (do
      let ov ← eval (.Name x p) X.env
      standAt apos.atName
      let (f, first) ← holding [ov] (getMethod ov m pl)
      callWith pos f first (backTo pos (starEach (e :: es) X.env)) (backToKw pos (keywordEach [] X.env))) := by rfl) (hdb : (x == ("__debug__" : Str)) = false := by decide) : PE X (.Call (.Attribute (.Name x p) m apos) (e :: es) [] pos) (tCall sp dvs E t) := by
  refine ⟨fun pins s σ H Q I h => ?_⟩
  refine PySem.W.methodCall_KW (ld_glob I hg hm ?_ hdb) hev
  refine PySem.W.method_cls I.kIn hga (PySem.W.cls_value I.kIn hrd hfc rfl ?_)
  have I2 := I.tok (s.toks + 1)
  refine PySem.W.callWith_K (K := X.K) I2.kIn hk ?_ he hpl
  refine thn (ha.run pos pins _ σ H _ I2 h) ?_
  rintro us s' ⟨vs, H', I3, hvs, q⟩
  exact ⟨I3.kIn, run_fn G hr hb hv hx I3 hvs q⟩
/-- the first statement of __init__ is the base's __init__ of one argument -/
theorem jvs0_base {c k i : Nat} {f C : Addr} {fd : FuncData} {ps : List Str} {x m f1 : Str} {mc : Value} {names : List Str} {ms : List (Gm → Option R)} {p p1 p2 apos pos pos2 : Pos} {sts : List Stmt} {y z : Str} {pl : Sem Bool} (G : FnOk X.prog X.w X.K X.mg X.base CX0 k f fd ps (spIni X.K ca c 1 [f1] [eV 1])) (hr : Room k X.A) (hg : Gl X x) (hm : X.mg x = some (.ref C))
    (hrd : PySem.W.readsIn X.K C mc = true) (hga : PySem.W.specialIn X.K (.ref C) "__getattribute__" = some (some (.builtin "type.__getattribute__"))) (hfc : PySem.W.findCls X.K (.ref C) mc m = some (.val (.ref f))) (hk : PySem.W.keepIn X.K (.ref f) = true) (hb : Binds X.K fd ps [])
    (h0 : PE X (.Name y p1) (tVar 0)) (h1 : PE X (.Name z p2) (tVar i)) (hs : JVs X ca c sts names ms)
    (he : starEach [.Name y p1, .Name z p2] X.env = (false, eval (.Name y p1) X.env) :: starEach [.Name z p2] X.env := by rfl) (he2 : starEach [.Name z p2] X.env = (false, eval (.Name z p2) X.env) :: starEach [] X.env := by rfl) (hpl : (backTo pos (starEach [.Name z p2] X.env)).any (·.1) = false := by rfl)
    (hev : eval (.Call (.Attribute (.Name x p) m apos) [.Name y p1, .Name z p2] [] pos) X.env = (do
      let ov ← eval (.Name x p) X.env
      standAt apos.atName
      let (f, first) ← holding [ov] (getMethod ov m pl)
      callWith pos f first (backTo pos (starEach [.Name y p1, .Name z p2] X.env)) (backToKw pos (keywordEach [] X.env))) := by rfl) (hdb : (x == ("__debug__" : Str)) = false := by decide)
    (hsw : swapsWith (.Call (.Attribute (.Name x p) m apos) [.Name y p1, .Name z p2] [] pos) none pos2.line X.env = pure false := by rfl) : JVs0 X ca c (.Expr (.Call (.Attribute (.Name x p) m apos) [.Name y p1, .Name z p2] [] pos) pos2 :: sts) (f1 :: names) (eV i :: ms) := by
  obtain ⟨U, pp, rr⟩ := hs
  refine ⟨_, pss_cons (ps_expr (pe_ucall G hr hg hm hrd hga hfc hk hb .nil pass0 (pa_cons h0 (pa_cons h1 pa_nil he2) he) he hpl hev hdb) hsw) pp, ?_⟩
  rintro H0 F0 a dx σ H F Γ es2 D ⟨S, s0, h0, hF, hH, hd, hno⟩ e nd hl q
  obtain ⟨r, es3, er, hbw, e3, rfl⟩ := inis_cons e
  unfold eV at er
  split at er
  rotate_left
  · cases er; cases hbw
  · cases er
  rename_i d hi
  cases er
  obtain ⟨v, sv, dv⟩ := S.va i d hi
  let H1 : Hp := fun b => if b = a then none else H b
  have e1 : H = L2.upd H1 a (.ins (ca c) dx []) := funext fun b => by
    by_cases hb : b = a
    · subst hb; rw [upd_same]; exact hH
    · rw [upd_ne hb]
      show H b = if b = a then none else H b
      rw [if_neg hb]
  have ha1 : H1 a = none := if_pos rfl
  have hn1 : ∀ b, b ≠ a → H1 b = H b := fun b hb => if_neg hb
  have S1 : SR X.K ca H0 F0 σ H1 F Γ := by
    have key : ∀ {P : Addr} {qn : Str}, LamX.TabS H P qn → LamX.TabS H1 P qn := fun {P qn} t => by
      obtain ⟨ps, t1, t2, t3⟩ := t
      refine ⟨ps, by rw [hn1 P (fun z => by subst z; rw [hH] at t1; cases t1)]; exact t1, t2, fun pos cv hc => ?_⟩
      obtain ⟨b, e1, e2⟩ := t3 pos cv hc
      refine ⟨b, e1, ?_⟩
      by_cases z : b = a
      · subst z; exact absurd e2 ((Pl.ins hH).c qn)
      · rw [hn1 b z]; exact e2
    refine ⟨⟨⟨fun b o e n => by rw [hn1 b (ne_of_none e h0)]; exact S.ext.hh.st b o e n, fun t => ⟨fun k => key ((S.ext.hh.tb t).a k), fun k => key ((S.ext.hh.tb t).b k)⟩⟩, S.ext.ff, fun b o e => ?_, S.ext.nw, S.ext.nt⟩, S.nt0, S.tc0, S.len, S.va, fun j ds hj => ?_, S.ap, Own.nil hno⟩
    · rw [hn1 b (ne_of_none e hF)]; exact S.ext.fh b o e
    · obtain ⟨b, vs, s, g1, g2, g3, g4⟩ := S.ow j ds hj
      refine ⟨b, vs, s, g1, g2, ?_, g4⟩
      rw [hn1 b fun e => by subst e; rw [hH] at g3; cases g3]
      exact g3
  refine ⟨_, s0, _, sv, ?_⟩
  refine ⟨H1, F, a, dx, [v], [d], [.fz d], rfl, ha1, e1, S1.ext.fh, S1.ext.nt S1.nt0, S1.tc0.mono S1.ext.hh, .cons dv .nil, rfl, rfl, fun H' F' fs x' hF' hH' en hd' => ?_⟩
  refine rr H0 F0 a dx σ H' F' Γ fs [.fz d] es3 D ⟨S1.mono x', s0, h0, hF', hH', hd'.root S1.ext.hh, hno⟩ e3 (by rw [en]; simpa using nd) (by
    have := congrArg List.length en
    simp at this hl ⊢
    omega) fun H2 F2 gs2 J2 eg2 => ?_
  refine q H2 F2 (fs ++ gs2) J2 (by rw [List.map_append, en, eg2]; rfl)
end
section
variable {P : Program} {w : World} {K : PySem.W.Frag} {mg : Str → Option Value} {base : Heap} {ca : Nat → Addr}
theorem ini_ok {x qual : Str} {st : Stmt} {f : Addr} {fd : FuncData} {N ps : List Str} {k n c : Nat} {names : List Str} {ms : List (Gm → Option R)} (F : Fun K x qual st f fd) (S : FnScope N ps (defScope st)) (hn : ps.length = n + 1) (hN : N.length = n + 1) (nd : names.Nodup) (hl : names.length < 1000)
    (hbody : ∀ (cdv : Value) (A : Around) (outer : List Env) (s : Shared) (H : Hp) (E : XK), Room k (A.deeper (PyProof.Rows.envOfC qual (defScope st) s.heap.objs.size f cdv)) →
      JVs0 (cxOf CX0 P w K mg base N qual (defScope st) f cdv A outer s H E).nox ca c (defBody st) names ms) : FnOk P w K mg base CX0 (k + 1) f fd ps (spIni K ca c n names ms) := by
  refine F.ok S (fun vs H Q E ⟨H0, F0, a, dx, us, ds, es, ev, h0, eH, sm, nt, tc, hd, hl, ei, q⟩ => ?_) (fun cdv A outer s H vs Q E hr ⟨H0, F0, a, dx, us, ds, es, ev, h0, eH, sm, nt, tc, hd, hlu, ei, q⟩ => ?_)
  · rw [ev, List.length_cons, hl, hn]
  · obtain ⟨T, pb, rd⟩ := hbody cdv A outer s H E hr
    refine ⟨T, pb, ?_⟩
    subst ev
    subst eH
    have hlen : ds.length = n := by rw [← hd.length, hlu]
    have eN : N.length - (V.ref a :: us).length = 0 := by rw [List.length_cons, hlu, hN]; omega
    have eσ : L2.start N (V.ref a :: us) = (V.ref a :: us).map some := by
      unfold L2.start
      rw [eN]
      simp
    have fn : F0 a = none := by
      cases e : F0 a with
      | none => rfl
      | some o => have := sm _ _ e; rw [h0] at this; cases this
    have hno : ∀ (i : Nat) (t : BK.T), (Slot.un :: ds.map Slot.va)[i]? ≠ some (Slot.ot t) := fun i t e => by
      cases i with
      | zero => cases e
      | succ i =>
        rw [List.getElem?_cons_succ, List.getElem?_map] at e
        cases q : ds[i]? with
        | none => rw [q] at e; cases e
        | some d' => rw [q] at e; cases e
    have S0 : SR K ca H0 F0 (L2.start N (V.ref a :: us)) (L2.upd H0 a (.ins (ca c) dx [])) F0 (.un :: ds.map Slot.va) := by
      rw [eσ]
      refine ⟨Ext.newO sm _ h0, nt, tc, by simp [hd.length], fun i d e => ?_, fun i es e => ?_, fun i j es fs b n e1 e2 => ?_, Own.nil hno⟩
      · cases i with
        | zero => cases e
        | succ i =>
          rw [List.getElem?_cons_succ, List.getElem?_map] at e
          cases q : ds[i]? with
          | none => rw [q] at e; cases e
          | some d' =>
            rw [q] at e
            cases e
            obtain ⟨v, h1, h2⟩ := hd.getV q
            exact ⟨v, by rw [List.map_cons, List.getElem?_cons_succ, List.getElem?_map, h1]; rfl, h2⟩
      · cases i with
        | zero => cases e
        | succ i =>
          rw [List.getElem?_cons_succ, List.getElem?_map] at e
          cases q : ds[i]? with
          | none => rw [q] at e; cases e
          | some d' => rw [q] at e; cases e
      · cases i with
        | zero => cases e1
        | succ i =>
          rw [List.getElem?_cons_succ, List.getElem?_map] at e1
          cases q : ds[i]? with
          | none => rw [q] at e1; cases e1
          | some d' => rw [q] at e1; cases e1
    refine rd H0 F0 a dx _ _ F0 _ es _ ⟨S0, by rw [eσ]; rfl, h0, fn, upd_same, ⟨[], .nil, .nil, fun _ z => nomatch z⟩, hno⟩ ei nd hl fun H' F' gs J en => ?_
    obtain ⟨S', s0', h0', hF', hH', hd', _⟩ := J
    exact q H' F' gs S'.ext hF' hH' en hd'
/-- a class as those see it that make instances -/
structure Maker (P : Program) (w : World) (K : PySem.W.Frag) (mg : Str → Option Value) (base : Heap) (ca : Nat → Addr) (k c n : Nat) (x : Str) (ms : List (Gm → Option R)) : Prop where
  ex : ∃ (f : Addr) (fd : FuncData) (ps : List Str), Mk K (ca c) f ∧ Kls K (ca c) c ∧ FnOk P w K mg base CX0 k f fd ps (spIni K ca c n (fldsOf c) ms) ∧ mg x = some (.ref (ca c)) ∧ Binds K fd ps []
end
def cMkN (c n : Nat) (ms : List (Gm → Option R)) (rs : List R) : Option R := if rs.length = n then cMk c ms rs else none
section
variable {X : Cx} {ca : Nat → Addr} {k c n : Nat} {x : Str} {ms : List (Gm → Option R)} {p pos : Pos} {e : Expr} {es : List Expr} {as : Gm → Option (List R)}
theorem allVa_den {K : PySem.W.Frag} {B : BT} {Hs F H : Hp} : ∀ {vs : List V} {rs : List R} {ds : List D}, RVs K ca B Hs F H vs rs → allVa rs = some ds → Dens K ca F vs ds ∧ vs.length = rs.length
  | _, _, _, .nil, e => by cases e; exact ⟨.nil, rfl⟩
  | _, r :: rs, ds, .cons h hs, e => by
    cases r with
    | va d =>
      obtain ⟨ds2, e2, rfl⟩ := Option.map_eq_some_iff.mp e
      obtain ⟨h1, h2⟩ := allVa_den hs e2
      exact ⟨.cons h h1, by rw [List.length_cons, List.length_cons, h2]⟩
    | tm ds => cases e
    | bw j ds => cases e
/-- a new instance is a tree -/
def cMkT (c n : Nat) (ms : List (Gm → Option R)) (rs : List R) : Option BK.T := if rs.length = n then (allVa rs).bind fun ds => (tinis ms (.un :: ds.map .va)).map fun ts => .ins c ts else none
theorem cMkT_d {c n : Nat} {ms : List (Gm → Option R)} {rs : List R} {z : R} (h : cMkN c n ms rs = some z) : ∃ t, cMkT c n ms rs = some t ∧ z = .va t.d := by
  unfold cMkN cMk at h
  split at h
  rotate_left
  · cases h
  rename_i hl
  obtain ⟨ds, ed, h⟩ := Option.bind_eq_some_iff.mp h
  obtain ⟨es, ee, rfl⟩ := Option.map_eq_some_iff.mp h
  obtain ⟨ts, et, rfl⟩ := tinis_of ee
  exact ⟨.ins c ts, by unfold cMkT; rw [if_pos hl, ed]; show (tinis ms _).map _ = _; rw [et]; rfl, rfl⟩
def tMkT (K : PySem.W.Frag) (ca : Nat → Addr) (f : List R → Option BK.T) (as : Gm → Option (List R)) : TE := fun σ H Q => ∃ H0 F0 F Γ rs t, SR K ca H0 F0 σ H F Γ ∧ as Γ = some rs ∧ f rs = some t ∧
  ∀ v H' F' bs, Ext ca H F H' F' → OT K ca F' H' v t bs → bs.Nodup → (∀ b ∈ bs, noT H b = none ∧ F' b = none) → Q v H'
theorem pe_makeT (C : Maker X.prog X.w X.K X.mg X.base ca k c n x ms) (hr : Room (k + 1) X.A) (hg : Gl X x) (ha : AV X ca (e :: es) as) (hdb : (x == ("__debug__" : Str)) = false := by decide)
    (he : starEach (e :: es) X.env = (false, eval e X.env) :: starEach es X.env := by rfl) (hpl : (backTo pos (starEach es X.env)).any (·.1) = false := by rfl) : PE X (.Call (.Name x p) (e :: es) [] pos) (tMkT X.K ca (cMkT c n ms) as) := by
  obtain ⟨f, fd, ps, M, kl, G, hm, hb⟩ := C.ex
  refine pe_imp (pe_make M G hr hg hm hb .nil pass0 ha hdb he hpl) ?_
  rintro σ H Q ⟨H0, F0, F, Γ, rs, t, S, er, e, q⟩
  unfold cMkT at e
  split at e
  rotate_left
  · cases e
  rename_i hln
  obtain ⟨ds, ed, e⟩ := Option.bind_eq_some_iff.mp e
  obtain ⟨fsd, ef, rfl⟩ := Option.map_eq_some_iff.mp e
  refine ⟨H0, F0, F, Γ, rs, S, er, fun vs H1 F1 x1 r1 a dx ha hdx hne => ?_⟩
  obtain ⟨hd, hlv⟩ := allVa_den r1 ed
  have hH2 : (L2.upd H1 dx (.own a)) a = none := by rw [upd_ne hne.symm]; exact ha
  have x2 : Ext ca H1 F1 (L2.upd H1 dx (.own a)) F1 := Ext.newO x1.fh _ hdx
  rw [List.append_nil]
  refine ⟨_, F1, a, dx, vs, ds, fsd, rfl, hH2, rfl, x2.fh, ((S.mono x1).mono x2).ext.nt S.nt0, S.tc0.mono ((S.mono x1).mono x2).ext.hh, hd, by rw [hlv, hln], ef, fun H' F' fs x' hF' hH' en hd' => ⟨rfl, ?_⟩⟩
  have x3 : Ext ca H F H' F' := (x1.trans x2).trans x'
  have hHa : noT H a = none := x1.hh.free (noT_none ha)
  obtain ⟨bs, h1, h2, h3⟩ := hd'.root (x1.trans x2).hh
  refine q _ H' F' (a :: bs) x3 (.ins kl hH' en h1) (List.nodup_cons.mpr ⟨fun z => (h3 a z).2.2 rfl, h2⟩) fun b hb => ?_
  rcases List.mem_cons.mp hb with rfl | hb
  · exact ⟨hHa, hF'⟩
  · exact ⟨(h3 b hb).1, (h3 b hb).2.1⟩
theorem ot_freeze {K : PySem.W.Frag} {H F H' F' : Hp} {v : V} {t : BK.T} {bs : List Addr} (x : Ext ca H F H' F') (h : OT K ca F' H' v t bs) (hf : ∀ b ∈ bs, noT H b = none ∧ F' b = none) : ∃ F2, Ext ca H F H' F2 ∧ Same F' F2 ∧ Den K ca F2 v t.d := by
  classical
  let F2 : Hp := fun b => if b ∈ bs then H' b else F' b
  have sf : Same F' F2 := fun b u e => by
    show (if b ∈ bs then H' b else F' b) = some u
    by_cases hb : b ∈ bs
    · rw [(hf b hb).2] at e; cases e
    · rw [if_neg hb]; exact e
  refine ⟨F2, ⟨x.hh, x.ff.trans sf, fun b u e => ?_, fun b e => ?_, fun n b ps e => ?_⟩, sf, h.den sf fun b hb => if_pos hb⟩
  · have e : (if b ∈ bs then H' b else F' b) = some u := e
    by_cases hb : b ∈ bs
    · rw [if_pos hb] at e; exact e
    · rw [if_neg hb] at e; exact x.fh b u e
  · by_cases hb : b ∈ bs
    · exact .inr (hf b hb).1
    · have e : (if b ∈ bs then H' b else F' b) ≠ none := e
      rw [if_neg hb] at e
      exact x.nw b e
  · have e : (if b ∈ bs then H' b else F' b) = some (.tbl ps) := e
    by_cases hb : b ∈ bs
    · rw [if_pos hb] at e
      obtain ⟨u, hu, hn⟩ := h.at b hb
      rw [hu] at e
      exact hn ps (Option.some.inj e)
    · rw [if_neg hb] at e
      exact x.nt n b ps e
theorem ev_make (C : Maker X.prog X.w X.K X.mg X.base ca k c n x ms) (hr : Room (k + 1) X.A) (hg : Gl X x) (ha : AV X ca (e :: es) as) (hdb : (x == ("__debug__" : Str)) = false := by decide)
    (he : starEach (e :: es) X.env = (false, eval e X.env) :: starEach es X.env := by rfl) (hpl : (backTo pos (starEach es X.env)).any (·.1) = false := by rfl) : EV X ca (.Call (.Name x p) (e :: es) [] pos) (eA (cMkN c n ms) as) := by
  refine pe_imp (pe_makeT C hr hg ha hdb he hpl) ?_
  rintro σ H Q ⟨H0, F0, F, Γ, z, S, e, q⟩
  unfold eA at e
  obtain ⟨rs, er, e⟩ := Option.bind_eq_some_iff.mp e
  obtain ⟨t, et, rfl⟩ := cMkT_d e
  refine ⟨H0, F0, F, Γ, rs, t, S, er, et, fun v H' F' bs x1 h1 _ h3 => ?_⟩
  obtain ⟨F2, x2, _, d2⟩ := ot_freeze x1 h1 h3
  exact q v H' F2 x2 d2
end
end BK
namespace BK
open PySem PySem.Spec L2
set_option autoImplicit false
theorem noT_sq {K : PySem.W.Frag} {H : Hp} {a : Addr} {xs : List V} (h : SqL K H a xs) : SqL K (noT H) a xs := by
  rcases h with (h | ⟨o, h⟩) | h
  · exact .inl (.inl (noT_get h fun ps z => nomatch z))
  · exact .inl (.inr ⟨o, noT_get h fun ps z => nomatch z⟩)
  · exact .inr h
theorem tabsC0 {ca : Nat → Addr} {H : Hp} (h : ca 20 = 0) (k : ca 22 = 0) : TabsC ca H := ⟨fun z => (by rw [h] at z; cases z), fun z => (by rw [k] at z; cases z)⟩
end BK
namespace BK
open PySem PySem.Spec L2
set_option autoImplicit false
theorem fn_none {P : Program} {w : World} {K : PySem.W.Frag} {mg : Str → Option Value} {base : Heap} {CX : CXT} {k : Nat} {f : Addr} {fd : FuncData} {ps : List Str} {ca : Nat → Addr} : FnOk P w K mg base CX k f fd ps (spOf K ca fun _ => none) :=
  ⟨fun vs H Q E ⟨ds, F, r, _, _, _, _, e, _⟩ => (by cases e), fun A outer s H args us vs Q E hr he hb hv ⟨ds, F, r, _, _, _, _, e, _⟩ => (by cases e)⟩
end BK
namespace BK
open PySem PySem.Spec L2
set_option autoImplicit false
theorem blk_by {X : Cx} {N : List Str} {sc scope : Scope} {own : List (Str × Nat)} (hN : X.N = N) (hs : X.env.scope = sc) (h : blkC N sc scope own = true) : BlkOk X.N X.env.scope scope own := by
  rw [hN, hs]
  exact blkOk_by h
/-- a block's scope within the scope sf -/
def relS (sc sf : Scope) : Scope := relabel sc ⟨sf, 0, 0, [], Str.empty, none, .none, none, 0⟩
theorem blk_by2 {X : Cx} {N : List Str} {sc sf scope : Scope} {own : List (Str × Nat)} {s : Shared} {H : Hp} {C : Addr} {cl : List (Str × Addr)} {fp : List Addr} (hN : X.N = N) (hs : X.env.scope = sf) (h : blkC N (relS sc sf) scope own = true) : BlkOk (X.blk s H sc (compEnvC sc cl C X.env) fp).N (X.blk s H sc (compEnvC sc cl C X.env) fp).env.scope scope own := by
  subst hs
  show BlkOk X.N (relS sc X.env.scope) scope own
  rw [hN]
  exact blkOk_by h
end BK
namespace BK
open PySem PySem.Spec L2
set_option autoImplicit false
/-! ### chains, methods of texts and lists, stores -/
/-- a < b < c -/
def eCh (f f' : R → R → Option R) (a b c : Gm → Option R) : Gm → Option R := fun g => (a g).bind fun x => (b g).bind fun y => (f x y).bind fun z => match z with
  | .va (.bl true) => (c g).bind fun w => f' y.fz w
  | .va (.bl false) => some (.va (.bl false))
  | _ => none
section
variable {X : Cx} {ca : Nat → Addr} {a b c : Expr} {m n k : Gm → Option R} {pos apos p : Pos}
/-! texts -/
/-- two texts -/
def f2s (g : Str → Str → Option R) (x y : R) : Option R := match x with
  | .va (.str a) => match y with
    | .va (.str b) => g a b
    | _ => none
  | _ => none
def gPart (a b : Str) : Option R := if (b.length == 0) = false ∧ a.length ≤ LIM then some (.va (.tup [.str (Txt.partition a b).1, .str (Txt.partition a b).2.1, .str (Txt.partition a b).2.2])) else none
def gSplit (a b : Str) : Option R := if (b.length == 0) = false ∧ a.length + 2 ≤ LIM then some (.tm ((Txt.split a b).map .str)) else none
/-- sep.join(xs) -/
def strsD : List D → Option (List Str)
  | [] => some []
  | .str z :: ds => (strsD ds).map (z :: ·)
  | _ => none
def R.seq (r : R) : Option (List D) := match r.d with
  | .lst ds => some ds
  | .tup ds => some ds
  | .rol ds => some ds
  | _ => none
def fJoin (x y : R) : Option R := match x with
  | .va (.str a) => y.seq.bind fun ds => (strsD ds).bind fun zs => if (zs.map (·.length)).sum + zs.length * a.length ≤ 16777216 then some (.va (.str (Txt.join a zs))) else none
  | _ => none
end
end BK
namespace BK
open PySem PySem.Spec L2
set_option autoImplicit false
end BK
namespace BK
open PySem PySem.Spec L2
set_option autoImplicit false
/-! ### own lists changed otherwise -/
/-- the place that a pop or a store names -/
def ixD (ds : List D) (r : R) : Option Nat := match r with
  | .va (.int k) => if -(2 ^ 63) ≤ k ∧ k < 2 ^ 63 then seqIndex? k ds.length else none
  | _ => none
theorem ixD_some {ds : List D} {r : R} {t : Nat} (h : ixD ds r = some t) : ∃ k : Int, r = .va (.int k) ∧ -(2 ^ 63) ≤ k ∧ k < 2 ^ 63 ∧ seqIndex? k ds.length = some t := by
  unfold ixD at h
  split at h
  · split at h
    · rename_i hb
      exact ⟨_, rfl, hb.1, hb.2, h⟩
    · cases h
  · cases h
/-- y = xs.pop(k) -/
def sPopS (j i : Nat) (a : Gm → Option R) : Gm → Option Out := fun g => match g[i]? with
  | some (.ow ds) => (a g).bind fun r => (ixD ds r).bind fun t => ds[t]?.map fun d => .nx ((g.set i (.ow (ds.eraseIdx t))).set j (.va d))
  | _ => none
/-- xs.pop(k) -/
def sPopX (i : Nat) (a : Gm → Option R) : Gm → Option Out := fun g => match g[i]? with
  | some (.ow ds) => (a g).bind fun r => (ixD ds r).bind fun t => ds[t]?.map fun _ => .nx (g.set i (.ow (ds.eraseIdx t)))
  | _ => none
def sRev (i : Nat) : Gm → Option Out := fun g => match g[i]? with
  | some (.ow ds) => some (.nx (g.set i (.ow ds.reverse)))
  | _ => none
def sClr (i : Nat) : Gm → Option Out := fun g => match g[i]? with
  | some (.ow _) => some (.nx (g.set i (.ow [])))
  | _ => none
/-- xs[k] = v -/
def sSt (i : Nat) (a v : Gm → Option R) : Gm → Option Out := fun g => match g[i]? with
  | some (.ow ds) => (v g).bind fun r => if r.isBw = true then none else (a g).bind fun q => match q with
    | .va (.int k) => (ixN ds.length k).map fun t => .nx (g.set i (.ow (ds.set t r.d)))
    | _ => none
  | _ => none
section
variable {X : Cx} {ca : Nat → Addr} {e : Expr} {m : Gm → Option R} {pos pos' p1 p2 p3 : Pos} {i j : Nat} {x y : Str}
theorem kpg_set2 {g : Gm} {s t : Slot} : KpG [i, j] g (.nx ((g.set i s).set j t)) := fun k hk => by
  have h1 : j ≠ k := fun e => hk (by rw [e]; simp)
  have h2 : i ≠ k := fun e => hk (by rw [e]; simp)
  rw [List.getElem?_set_ne h1, List.getElem?_set_ne h2]
theorem kp_set' {σ : L2.St} {v : Option V} : Kp [i, j] σ (σ.set j v) := fun k hk => by
  have h1 : j ≠ k := fun e => hk (by rw [e]; simp)
  rw [List.getElem?_set_ne h1]
theorem sv_popS (hN : X.N.Nodup) (hi : X.N[j]? = some y) (hy : Loc X.env.scope y) (hx : PE X (.Name x p1) (tVar i)) (he : EV X ca e m) (hs1 : starEach [e] X.env = (false, eval e X.env) :: starEach [] X.env := by rfl)
    (h : PE X (.Call (.Attribute (.Name x p1) "pop" p2) [e] [] p3) (tBM X.K "list" rPopAt (tVar i) (tCons (tEV X.K ca m) tNil)))
    (hs : swapsWith (.Call (.Attribute (.Name x p1) "pop" p2) [e] [] p3) (some (.Name y pos')) pos.line X.env = pure false := by rfl)
    (hf : X.fn y = true ∨ X.env.scope.names.lookup y = some .local := by first | exact .inl rfl | exact .inr rfl | assumption) : SV X ca (.Assign [.Name y pos'] (.Call (.Attribute (.Name x p1) "pop" p2) [e] [] p3) pos) (sPopS j i m) [i, j] := by
  refine ⟨ps_imp (ps_set hN hi hy h hs hf) ?_, fun g o e => ?_⟩
  · rintro D σ H ⟨H0, F0, F, Γ, o, S, e, p⟩
    unfold sPopS at e
    split at e
    · rename_i ds hg
      obtain ⟨r, er, e⟩ := Option.bind_eq_some_iff.mp e
      obtain ⟨t, et, e⟩ := Option.bind_eq_some_iff.mp e
      obtain ⟨d, ed, rfl⟩ := Option.map_eq_some_iff.mp e
      obtain ⟨k, rfl, k1, k2, k3⟩ := ixD_some et
      obtain ⟨a, vs, s, h1, h2, h3, h4⟩ := S.ow i ds hg
      refine ⟨_, s, .inl ⟨rfl, vs, SqL.of h3⟩, H0, F0, F, Γ, _, S, er, fun v H1 F1 x1 r1 => ?_⟩
      cases r1
      have h4' := h4.mono x1.ff
      obtain ⟨w, hw, hd⟩ := h4'.getV ed
      refine ⟨a, vs, k, t, w, rfl, rfl, x1.hh.l h3, k1, k2, by rw [h4.length]; exact k3, hw, ?_⟩
      have S2 := S.mono x1
      have S3 := S2.upd hg s (h4'.eraseIdx t)
      exact p _ _ F1 (S3.setVa hd) x1.ff kp_set'
    · cases e
  · unfold sPopS at e
    split at e
    · obtain ⟨r, er, e⟩ := Option.bind_eq_some_iff.mp e
      obtain ⟨t, et, e⟩ := Option.bind_eq_some_iff.mp e
      obtain ⟨d, ed, rfl⟩ := Option.map_eq_some_iff.mp e
      exact kpg_set2
    · cases e
end
end BK
namespace BK
open PySem PySem.Spec L2
set_option autoImplicit false
/-- xs += ys -/
def sExt (i : Nat) (m : Gm → Option R) : Gm → Option Out := fun g => match g[i]? with
  | some (.ow ds) => (m g).bind fun r => match r.d with
    | .lst es => if ds.length + es.length ≤ LIM then some (.nx (g.set i (.ow (ds ++ es)))) else none
    | _ => none
  | _ => none
section
variable {X : Cx} {ca : Nat → Addr} {e : Expr} {m : Gm → Option R} {pos pos' : Pos} {i : Nat} {x : Str}
theorem set_same {α : Type} {l : List α} {i : Nat} {v : α} (h : l[i]? = some v) : l.set i v = l := by
  apply List.ext_getElem?
  intro j
  by_cases e : i = j
  · subst e
    rw [List.getElem?_set_self (List.getElem?_eq_some_iff.mp h).1, h]
  · rw [List.getElem?_set_ne e]
theorem sv_ext (hN : X.N.Nodup) (hi : X.N[i]? = some x) (hx : Loc X.env.scope x) (he : EV X ca e m)
    (hf : X.fn x = true ∨ X.env.scope.names.lookup x = some .local := by first | exact .inl rfl | exact .inr rfl | assumption) : SV X ca (.AugAssign (.Name x pos') .Add e pos) (sExt i m) [i] := by
  refine ⟨ps_imp (ps_aug hN hi hx he (op := .Add) iop_ext hf) ?_, fun g o e => ?_⟩
  · rintro D σ H ⟨H0, F0, F, Γ, o, S, e, p⟩
    unfold sExt at e
    split at e
    · rename_i ds hg
      obtain ⟨r, er, e⟩ := Option.bind_eq_some_iff.mp e
      split at e
      · rename_i es hd
        split at e
        · rename_i hl
          cases e
          obtain ⟨a, vs, s, h1, h2, h3, h4⟩ := S.ow i ds hg
          refine ⟨_, s, H0, F0, F, Γ, r, S, er, fun v H1 F1 x1 r1 => ?_⟩
          obtain ⟨b, ws, rfl, w1, w2⟩ := RV.lstH x1.fh r1 hd
          refine ⟨a, b, vs, ws, rfl, rfl, x1.hh.l h3, w1, by rw [lim_eq, h4.length, w2.length]; exact hl, ?_⟩
          have S2 := (S.mono x1).upd hg s ((h4.mono x1.ff).append w2)
          show D.nx (σ.set i (some (.ref a))) _
          rw [set_same s]
          exact p σ _ F1 S2 x1.ff .refl
        · cases e
      · cases e
    · cases e
  · unfold sExt at e
    split at e
    · obtain ⟨r, er, e⟩ := Option.bind_eq_some_iff.mp e
      split at e
      · split at e
        · cases e; exact kpg_set
        · cases e
      · cases e
    · cases e
end
end BK
namespace BK
open PySem PySem.Spec L2
set_option autoImplicit false
/-! isinstance of an own class -/
structure IsC (K : PySem.W.Frag) (C : Addr) : Prop where
  cc : PySem.W.findIn K (.ref C) "__class__" = some (some (.builtin "object.__class__"))
  cg : PySem.W.specialIn K (.builtin "object.__class__") "__get__" = some (some (.builtin "getset_descriptor.__get__"))
  ct : PySem.W.takesIn K (.builtin "object.__class__") = some true
  cm : PySem.W.mroIn K C (.type "object") = some true
def IsiK (K : PySem.W.Frag) (ca : Nat → Addr) (cs : List Nat) (c : Nat) : Prop := ∀ c2 ∈ cs, IsC K (ca c2) ∧ PySem.W.kitOne K (.ref (ca c2)) (.ref (ca c)) = some (c2 == c)
def cIsC (cs : List Nat) (c : Nat) (r : R) : Option R := match r with
  | .va (.ins c2 _) => if cs.contains c2 = true then some (.va (.bl (c2 == c))) else none
  | _ => none
section
variable {X : Cx} {ca : Nat → Addr} {e : Expr} {m : Gm → Option R} {pos p p1 : Pos}
theorem ev_isc {cs : List Nat} {c : Nat} {x : Str} (hg : Gl X "isinstance") (hm : X.mg "isinstance" = none) (hv : bootBuiltins "isinstance" = some (.builtin "isinstance")) (he : EV X ca e m) (hgc : Gl X x) (hmc : X.mg x = some (.ref (ca c))) (I : IsiK X.K ca cs c) (hdb : (x == ("__debug__" : Str)) = false := by decide)
    (hs1 : starEach [e, .Name x p1] X.env = (false, eval e X.env) :: starEach [.Name x p1] X.env := by rfl) (hs2 : starEach [.Name x p1] X.env = (false, eval (.Name x p1) X.env) :: starEach [] X.env := by rfl)
    (hpl : (backTo pos (starEach [.Name x p1] X.env)).any (·.1) = false := by rfl) : EV X ca (.Call (.Name "isinstance" p) [e, .Name x p1] [] pos) (e1 (cIsC cs c) m) := by
  refine pe_imp (pe_callB call_isi hg hm hv (pa_cons he (pa_cons (pe_glob (v := .ref (ca c)) hgc hmc rfl hdb) pa_nil hs2) hs1) (by decide) (by decide) hs1 hpl) ?_
  rintro σ H Q ⟨H0, F0, F, Γ, z, S, e, q⟩
  unfold e1 at e
  obtain ⟨r, er, e⟩ := Option.bind_eq_some_iff.mp e
  refine ⟨H0, F0, F, Γ, r, S, er, fun v H1 F1 x1 r1 => ?_⟩
  unfold cIsC at e
  split at e
  · rename_i c2 ds
    split at e
    · rename_i hc
      cases e
      obtain ⟨ic, hk⟩ := I c2 (by simpa using hc)
      have r2 := r1
      cases r1 with
      | ins k h n hs =>
        exact ⟨_, _, _, _, _, rfl, .own _, .base (.ins (x1.fh _ _ h) k.cl ic.cc ic.cg ic.ct ic.cm), hk, q _ H1 F1 x1 (.bl _)⟩
    · cases e
  · cases e
end
end BK
namespace BK
open PySem PySem.Spec L2
set_option autoImplicit false
theorem kit_own {K : PySem.W.Frag} {C2 C : Addr} {b : Bool} (h1 : PySem.W.isClsIn K C = true) (h2 : PySem.W.typeIn K (.ref C) = some (.type "type")) (h3 : PySem.W.subIn K (.ref C2) (.ref C) = some b) (h4 : PySem.W.subIn K (.ref C) (.ref C) = some true) : PySem.W.kitOne K (.ref C2) (.ref C) = some b := by
  unfold PySem.W.kitOne
  by_cases e : C2 = C
  · subst e
    rw [h3] at h4
    rw [if_pos (by simp), h4]
  · rw [if_neg (by simpa using e)]
    show (if ((PySem.W.clsIn K C).isSome && PySem.W.typeIn K (.ref C) == some (.type "type")) = true then PySem.W.subIn K (.ref C2) (.ref C) else none) = _
    have e1 : (PySem.W.clsIn K C).isSome = true := h1
    rw [e1, h2, if_pos (by simp), h3]
end BK
namespace BK
open PySem PySem.Spec L2
set_option autoImplicit false
/-- ys = xs, xs no more used -/
def sMv (i j : Nat) : Gm → Option Out := fun g => match g[j]? with
  | some (.ow ds) => if i = j then none else some (.nx ((g.set j .un).set i (.ow ds)))
  | some (.va d) => some (.nx (g.set i (.va d)))
  | _ => none
theorem SR.forget {K : PySem.W.Frag} {ca : Nat → Addr} {H0 F0 H F : Hp} {σ : L2.St} {Γ : Gm} (S : SR K ca H0 F0 σ H F Γ) (j : Nat) : SR K ca H0 F0 σ H F (Γ.set j .un) := by
  refine ⟨S.ext, S.nt0, S.tc0, by rw [List.length_set]; exact S.len, fun k e hk => ?_, fun k ds hk => ?_, fun k l ds es a n hk hl sk sl => ?_, S.own.keep (fun k t e => by
    rcases get_set e with ⟨_, e1, _⟩ | ⟨n, e⟩
    · cases e1
    · exact ⟨e, rfl⟩) (fun k ds a g s' => by
    rcases get_set g with ⟨_, e1, _⟩ | ⟨n, g⟩
    · cases e1
    · exact .inl ⟨k, ds, g, s'⟩) (Same.refl _) fun b u e n f _ => ⟨e, f⟩⟩
  · rcases get_set hk with ⟨_, e1, _⟩ | ⟨_, hk⟩
    · cases e1
    · exact S.va k e hk
  · rcases get_set hk with ⟨_, e1, _⟩ | ⟨_, hk⟩
    · cases e1
    · exact S.ow k ds hk
  · rcases get_set hk with ⟨_, e1, _⟩ | ⟨_, hk⟩
    · cases e1
    · rcases get_set hl with ⟨_, e1, _⟩ | ⟨_, hl⟩
      · cases e1
      · exact S.ap k l ds es a n hk hl sk sl
section
variable {X : Cx} {ca : Nat → Addr} {pos pos' p1 : Pos} {i j : Nat} {x y : Str}
theorem sv_mv (hN : X.N.Nodup) (hi : X.N[i]? = some y) (hy : Loc X.env.scope y) (hx : PE X (.Name x p1) (tVar j)) (hs : swapsWith (.Name x p1) (some (.Name y pos')) pos.line X.env = pure false := by rfl)
    (hf : X.fn y = true ∨ X.env.scope.names.lookup y = some .local := by first | exact .inl rfl | exact .inr rfl | assumption) : SV X ca (.Assign [.Name y pos'] (.Name x p1) pos) (sMv i j) [j, i] := by
  refine ⟨ps_imp (ps_set hN hi hy hx hs hf) ?_, fun g o e => ?_⟩
  · rintro D σ H ⟨H0, F0, F, Γ, o, S, e, p⟩
    unfold sMv at e
    split at e
    · rename_i ds hg
      split at e
      · cases e
      rename_i hij
      cases e
      obtain ⟨a, vs, s, h1, h2, h3, h4⟩ := S.ow j ds hg
      refine ⟨_, s, p _ _ F ?_ (Same.refl _) kp_set'⟩
      have S1 := S.forget j
      refine ⟨S1.ext, S1.nt0, S1.tc0, by rw [List.length_set, List.length_set]; exact S1.len, fun k e hk => ?_, fun k es hk => ?_, fun k l es fs b n hk hl sk sl => ?_, S.own.keep (fun k t e => by
        rcases get_set e with ⟨_, e1, _⟩ | ⟨n, e⟩
        · cases e1
        rcases get_set e with ⟨_, e1, _⟩ | ⟨_, e⟩
        · cases e1
        · exact ⟨e, List.getElem?_set_ne n⟩) (fun k es b g s' => by
        rcases get_set g with ⟨e0, e1, hl⟩ | ⟨n, g⟩
        · subst e0
          rw [List.getElem?_set_self (S1.lt hl)] at s'
          cases s'
          exact .inl ⟨j, ds, hg, s⟩
        · rw [List.getElem?_set_ne n] at s'
          rcases get_set g with ⟨_, e1, _⟩ | ⟨_, g⟩
          · cases e1
          · exact .inl ⟨k, es, g, s'⟩) (Same.refl _) fun b u e n f _ => ⟨e, f⟩⟩
      · rcases get_set hk with ⟨rfl, e1, hl⟩ | ⟨n, hk⟩
        · cases e1
        · rw [List.getElem?_set_ne n]; exact S1.va k e hk
      · rcases get_set hk with ⟨rfl, e1, hl⟩ | ⟨n, hk⟩
        · cases e1
          exact ⟨a, vs, List.getElem?_set_self (S1.lt hl), h1, h2, h3, h4⟩
        · rw [List.getElem?_set_ne n]; exact S1.ow k es hk
      · have key : ∀ {k : Nat} {es : List BK.D}, (Γ.set j .un)[k]? = some (.ow es) → σ[k]? = some (some (.ref a)) → False := fun {k es} hk sk => by
          rcases get_set hk with ⟨_, e1, _⟩ | ⟨n, hk⟩
          · cases e1
          · exact S.ap j k ds es a n hg hk s sk
        rcases get_set hk with ⟨rfl, e1, hl1⟩ | ⟨n1, hk⟩
        · rw [List.getElem?_set_self (S1.lt hl1)] at sk
          cases sk
          rcases get_set hl with ⟨rfl, e2, hl2⟩ | ⟨n2, hl⟩
          · exact n rfl
          · rw [List.getElem?_set_ne n2] at sl
            exact key hl sl
        · rcases get_set hl with ⟨rfl, e2, hl2⟩ | ⟨n2, hl⟩
          · rw [List.getElem?_set_self (S1.lt hl2)] at sl
            cases sl
            rw [List.getElem?_set_ne n1] at sk
            exact key hk sk
          · rw [List.getElem?_set_ne n1] at sk
            rw [List.getElem?_set_ne n2] at sl
            exact S1.ap k l es fs b n hk hl sk sl
    · rename_i d hg
      cases e
      obtain ⟨v, s, h⟩ := S.va j d hg
      exact ⟨v, s, p _ _ F (S.setVa h) (Same.refl _) kp_set'⟩
    · cases e
  · unfold sMv at e
    split at e
    · split at e
      · cases e
      cases e
      exact kpg_set2
    · cases e
      intro k hk
      have h1 : i ≠ k := fun e => hk (by rw [e]; simp)
      rw [List.getElem?_set_ne h1]
    · cases e
end
end BK
namespace BK
open PySem PySem.Spec L2
set_option autoImplicit false
/-! ### evaluation of the later combinators -/
/-- fields -/
@[simp] theorem oFld_ins (f : Str) (c : Nat) (ds : List D) : oFld f (.va (.ins c ds)) = (fldD c ds f).map .va := rfl
@[simp] theorem fld_0 (a : D) : fldD 0 [a] "length" = some a := rfl
@[simp] theorem fld_1a (a b c d e : D) : fldD 1 [a, b, c, d, e] "length" = some a := rfl
@[simp] theorem fld_1b (a b c d e : D) : fldD 1 [a, b, c, d, e] "name" = some b := rfl
@[simp] theorem fld_1c (a b c d e : D) : fldD 1 [a, b, c, d, e] "bears" = some c := rfl
@[simp] theorem fld_1d (a b c d e : D) : fldD 1 [a, b, c, d, e] "wide" = some d := rfl
@[simp] theorem fld_1e (a b c d e : D) : fldD 1 [a, b, c, d, e] "most" = some e := rfl
@[simp] theorem fld_2a (a b c : D) : fldD 2 [a, b, c] "pieces" = some a := rfl
@[simp] theorem fld_2b (a b c : D) : fldD 2 [a, b, c] "rounds" = some b := rfl
@[simp] theorem fld_2c (a b c : D) : fldD 2 [a, b, c] "shuts" = some c := rfl
@[simp] theorem fld_3a (a b c : D) : fldD 3 [a, b, c] "name" = some a := rfl
@[simp] theorem fld_3b (a b c : D) : fldD 3 [a, b, c] "speed" = some b := rfl
@[simp] theorem fld_3c (a b c : D) : fldD 3 [a, b, c] "wheels" = some c := rfl
@[simp] theorem fld_4a (a b c d e : D) : fldD 4 [a, b, c, d, e] "cart" = some a := rfl
@[simp] theorem fld_4b (a b c d e : D) : fldD 4 [a, b, c, d, e] "way" = some b := rfl
@[simp] theorem fld_4c (a b c d e : D) : fldD 4 [a, b, c, d, e] "start" = some c := rfl
@[simp] theorem fld_4d (a b c d e : D) : fldD 4 [a, b, c, d, e] "crossings" = some d := rfl
@[simp] theorem fld_4e (a b c d e : D) : fldD 4 [a, b, c, d, e] "ended" = some e := rfl
@[simp] theorem fld_5a (a b c : D) : fldD 5 [a, b, c] "road" = some a := rfl
@[simp] theorem fld_5b (a b c : D) : fldD 5 [a, b, c] "loads" = some b := rfl
@[simp] theorem fld_5c (a b c : D) : fldD 5 [a, b, c] "sends" = some c := rfl
@[simp] theorem cIsB_0 (ds : List D) : cIsB (.va (.ins 0 ds)) = some (.va (.bl false)) := rfl
@[simp] theorem cIsB_1 (ds : List D) : cIsB (.va (.ins 1 ds)) = some (.va (.bl true)) := rfl
@[simp] theorem allVa_nil : allVa [] = some [] := rfl
@[simp] theorem allVa_cons (d : D) (rs : List R) : allVa (.va d :: rs) = (allVa rs).map (d :: ·) := rfl
def iniK (o : Option (List D)) (r : R) : Option (List D) := if r.isBw = true then none else o.map (r.d :: ·)
@[simp] theorem iniK_va (d : D) (o : Option (List D)) : iniK o (.va d) = o.map (d :: ·) := rfl
@[simp] theorem iniK_tm (ds : List D) (o : Option (List D)) : iniK o (.tm ds) = o.map (D.lst ds :: ·) := rfl
@[simp] theorem inis_nil (g : Gm) : inis [] g = some [] := rfl
@[simp] theorem inis_cns (m : Gm → Option R) (ms : List (Gm → Option R)) (g : Gm) : inis (m :: ms) g = b1 (m g) (iniK (inis ms g)) := rfl
@[simp] theorem cMk_def (c : Nat) (ms : List (Gm → Option R)) (rs : List R) : cMk c ms rs = b1 (allVa rs) fun ds => (inis ms (.un :: ds.map .va)).map fun es => .va (.ins c es) := rfl
@[simp] theorem cMkN_def (c n : Nat) (ms : List (Gm → Option R)) (rs : List R) : cMkN c n ms rs = if rs.length = n then cMk c ms rs else none := rfl
/-- chains -/
def chK (f : R → R → Option R) (y : R) (w : Option R) : R → Option R
  | .va (.bl k) => if k = true then b1 w (f y) else some (.va (.bl false))
  | _ => none
@[simp] theorem chK_bl (f : R → R → Option R) (y : R) (w : Option R) (k : Bool) : chK f y w (.va (.bl k)) = if k = true then b1 w (f y) else some (.va (.bl false)) := rfl
@[simp] theorem eCh_def (f f' : R → R → Option R) (a b c : Gm → Option R) (g : Gm) : eCh f f' a b c g = b2 (a g) (b g) fun x y => b1 (f x y) (chK f' y.fz (c g)) := by
  unfold eCh b2
  cases a g with
  | none => rfl
  | some x =>
    cases b g with
    | none => rfl
    | some y =>
      show (f x y).bind _ = b1 (f x y) _
      cases f x y with
      | none => rfl
      | some z =>
        cases z with
        | va d =>
          cases d with
          | bl k => cases k <;> rfl
          | _ => rfl
        | _ => rfl
/-- texts -/
@[simp] theorem f2s_str (g : Str → Str → Option R) (a b : Str) : f2s g (.va (.str a)) (.va (.str b)) = g a b := rfl
@[simp] theorem gPart_def (a b : Str) : gPart a b = if (b.length == 0) = false ∧ a.length ≤ LIM then some (.va (.tup [.str (Txt.partition a b).1, .str (Txt.partition a b).2.1, .str (Txt.partition a b).2.2])) else none := rfl
@[simp] theorem gSplit_def (a b : Str) : gSplit a b = if (b.length == 0) = false ∧ a.length + 2 ≤ LIM then some (.tm ((Txt.split a b).map .str)) else none := rfl
@[simp] theorem strsD_nil : strsD [] = some [] := rfl
@[simp] theorem strsD_cons (z : Str) (ds : List D) : strsD (.str z :: ds) = (strsD ds).map (z :: ·) := rfl
@[simp] theorem strsD_map (zs : List Str) : strsD (zs.map .str) = some zs := by
  induction zs with
  | nil => rfl
  | cons z zs ih => rw [List.map_cons, strsD_cons, ih]; rfl
@[simp] theorem seq_lst (ds : List D) : (R.va (.lst ds)).seq = some ds := rfl
@[simp] theorem seq_tup (ds : List D) : (R.va (.tup ds)).seq = some ds := rfl
@[simp] theorem seq_rol (ds : List D) : (R.va (.rol ds)).seq = some ds := rfl
@[simp] theorem seq_tm (ds : List D) : (R.tm ds).seq = some ds := rfl
@[simp] theorem seq_bw (j : Nat) (ds : List D) : (R.bw j ds).seq = some ds := rfl
@[simp] theorem fJoin_str (a : Str) (y : R) : fJoin (.va (.str a)) y = b1 y.seq fun ds => b1 (strsD ds) fun zs => if (zs.map (·.length)).sum + zs.length * a.length ≤ 16777216 then some (.va (.str (Txt.join a zs))) else none := rfl
/-- own lists -/
def pop1 (ds : List D) (k : Int) : Option Nat := if -(2 ^ 63) ≤ k ∧ k < 2 ^ 63 then seqIndex? k ds.length else none
@[simp] theorem ixD_int (ds : List D) (k : Int) : ixD ds (.va (.int k)) = pop1 ds k := rfl
def popK (j i : Nat) (g : Gm) (ds : List D) (t : Nat) : Option Out := ds[t]?.map fun d => .nx ((g.set i (.ow (ds.eraseIdx t))).set j (.va d))
def popS (j i : Nat) (g : Gm) (r : Option R) : Option Slot → Option Out
  | some (.ow ds) => b1 r fun r => b1 (ixD ds r) (popK j i g ds)
  | _ => none
@[simp] theorem popS_ow (j i : Nat) (g : Gm) (r : Option R) (ds : List D) : popS j i g r (some (.ow ds)) = b1 r fun r => b1 (ixD ds r) (popK j i g ds) := rfl
@[simp] theorem sPopS_def (j i : Nat) (a : Gm → Option R) (g : Gm) : sPopS j i a g = popS j i g (a g) (g[i]?) := by
  unfold sPopS
  cases h : g[i]? with
  | none => rfl
  | some s => cases s <;> rfl
@[simp] theorem pop1_zero (d : D) (ds : List D) : pop1 (d :: ds) 0 = some 0 := by
  unfold pop1 seqIndex?
  rw [if_pos ⟨by decide, by decide⟩]
  simp
@[simp] theorem popK_zero (j i : Nat) (g : Gm) (d : D) (ds : List D) : popK j i g (d :: ds) 0 = some (.nx ((g.set i (.ow ds)).set j (.va d))) := rfl
def popXK (i : Nat) (g : Gm) (ds : List D) (t : Nat) : Option Out := ds[t]?.map fun _ => .nx (g.set i (.ow (ds.eraseIdx t)))
def popX (i : Nat) (g : Gm) (r : Option R) : Option Slot → Option Out
  | some (.ow ds) => b1 r fun r => b1 (ixD ds r) (popXK i g ds)
  | _ => none
@[simp] theorem popX_ow (i : Nat) (g : Gm) (r : Option R) (ds : List D) : popX i g r (some (.ow ds)) = b1 r fun r => b1 (ixD ds r) (popXK i g ds) := rfl
@[simp] theorem sPopX_def (i : Nat) (a : Gm → Option R) (g : Gm) : sPopX i a g = popX i g (a g) (g[i]?) := by
  unfold sPopX
  cases h : g[i]? with
  | none => rfl
  | some s => cases s <;> rfl
def revS (i : Nat) (g : Gm) : Option Slot → Option Out
  | some (.ow ds) => some (.nx (g.set i (.ow ds.reverse)))
  | _ => none
@[simp] theorem revS_ow (i : Nat) (g : Gm) (ds : List D) : revS i g (some (.ow ds)) = some (.nx (g.set i (.ow ds.reverse))) := rfl
@[simp] theorem sRev_def (i : Nat) (g : Gm) : sRev i g = revS i g (g[i]?) := by
  unfold sRev
  cases h : g[i]? with
  | none => rfl
  | some s => cases s <;> rfl
def clrS (i : Nat) (g : Gm) : Option Slot → Option Out
  | some (.ow _) => some (.nx (g.set i (.ow [])))
  | _ => none
@[simp] theorem clrS_ow (i : Nat) (g : Gm) (ds : List D) : clrS i g (some (.ow ds)) = some (.nx (g.set i (.ow []))) := rfl
@[simp] theorem sClr_def (i : Nat) (g : Gm) : sClr i g = clrS i g (g[i]?) := by
  unfold sClr
  cases h : g[i]? with
  | none => rfl
  | some s => cases s <;> rfl
def stK (i : Nat) (g : Gm) (ds : List D) (r q : R) : Option Out := if r.isBw = true then none else match q with
  | .va (.int k) => (ixN ds.length k).map fun t => .nx (g.set i (.ow (ds.set t r.d)))
  | _ => none
@[simp] theorem stK_va (i : Nat) (g : Gm) (ds : List D) (d : D) (k : Int) : stK i g ds (.va d) (.va (.int k)) = (ixN ds.length k).map fun t => .nx (g.set i (.ow (ds.set t d))) := rfl
@[simp] theorem stK_tm (i : Nat) (g : Gm) (ds es : List D) (k : Int) : stK i g ds (.tm es) (.va (.int k)) = (ixN ds.length k).map fun t => .nx (g.set i (.ow (ds.set t (.lst es)))) := rfl
def stS (i : Nat) (g : Gm) (v a : Option R) : Option Slot → Option Out
  | some (.ow ds) => b2 v a (stK i g ds)
  | _ => none
@[simp] theorem stS_ow (i : Nat) (g : Gm) (v a : Option R) (ds : List D) : stS i g v a (some (.ow ds)) = b2 v a (stK i g ds) := rfl
@[simp] theorem sSt_def (i : Nat) (a v : Gm → Option R) (g : Gm) : sSt i a v g = stS i g (v g) (a g) (g[i]?) := by
  unfold sSt
  cases h : g[i]? with
  | none => rfl
  | some s =>
    cases s with
    | ow ds =>
      show (v g).bind _ = b2 (v g) (a g) _
      unfold b2
      cases v g with
      | none => rfl
      | some r =>
        show (if r.isBw = true then none else _) = _
        cases hb : r.isBw with
        | true =>
          cases a g with
          | none => simp
          | some q =>
            show _ = stK i g ds r q
            unfold stK
            rw [hb]
            rfl
        | false =>
          rw [if_neg (by decide)]
          cases a g with
          | none => rfl
          | some q =>
            show _ = stK i g ds r q
            unfold stK
            rw [hb, if_neg (by decide)]
            rfl
    | _ => rfl
@[simp] theorem atI_end {α : Type} (xs : List α) (x : α) : atI (xs ++ [x]) (-1) = some x := by
  unfold atI ixN
  rw [if_neg (by omega), if_pos (by simp; omega)]
  show (xs ++ [x])[(-1 + ((xs ++ [x]).length : Int)).toNat]? = some x
  have e : (-1 + ((xs ++ [x]).length : Int)).toNat = xs.length := by
    rw [List.length_append, List.length_singleton]
    omega
  rw [e]
  simp
end BK
namespace BK
open PySem PySem.Spec L2
set_option autoImplicit false
end BK
namespace BK
open PySem PySem.Spec L2
set_option autoImplicit false
def extO (i : Nat) (g : Gm) (ds : List D) (r : R) : Option Out := match r.d with
  | .lst es => if ds.length + es.length ≤ LIM then some (.nx (g.set i (.ow (ds ++ es)))) else none
  | _ => none
@[simp] theorem extO_tm (i : Nat) (g : Gm) (ds es : List D) : extO i g ds (.tm es) = if ds.length + es.length ≤ LIM then some (.nx (g.set i (.ow (ds ++ es)))) else none := rfl
@[simp] theorem extO_bw (i j : Nat) (g : Gm) (ds es : List D) : extO i g ds (.bw j es) = if ds.length + es.length ≤ LIM then some (.nx (g.set i (.ow (ds ++ es)))) else none := rfl
@[simp] theorem extO_va (i : Nat) (g : Gm) (ds es : List D) : extO i g ds (.va (.lst es)) = if ds.length + es.length ≤ LIM then some (.nx (g.set i (.ow (ds ++ es)))) else none := rfl
def extS (i : Nat) (g : Gm) (v : Option R) : Option Slot → Option Out
  | some (.ow ds) => b1 v (extO i g ds)
  | _ => none
@[simp] theorem extS_ow (i : Nat) (g : Gm) (v : Option R) (ds : List D) : extS i g v (some (.ow ds)) = b1 v (extO i g ds) := rfl
@[simp] theorem sExt_def (i : Nat) (m : Gm → Option R) (g : Gm) : sExt i m g = extS i g (m g) (g[i]?) := by
  unfold sExt
  cases h : g[i]? with
  | none => rfl
  | some s => cases s <;> rfl
end BK
namespace BK
open PySem PySem.Spec L2
set_option autoImplicit false
@[simp] theorem cIsC_ins (cs : List Nat) (c c2 : Nat) (ds : List D) : cIsC cs c (.va (.ins c2 ds)) = if cs.contains c2 = true then some (.va (.bl (c2 == c))) else none := rfl
end BK
namespace BK
open PySem PySem.Spec L2
set_option autoImplicit false
def mvS (i j : Nat) (g : Gm) : Option Slot → Option Out
  | some (.ow ds) => if i = j then none else some (.nx ((g.set j .un).set i (.ow ds)))
  | some (.va d) => some (.nx (g.set i (.va d)))
  | _ => none
@[simp] theorem mvS_ow (i j : Nat) (g : Gm) (ds : List D) : mvS i j g (some (.ow ds)) = if i = j then none else some (.nx ((g.set j .un).set i (.ow ds))) := rfl
@[simp] theorem mvS_va (i j : Nat) (g : Gm) (d : D) : mvS i j g (some (.va d)) = some (.nx (g.set i (.va d))) := rfl
@[simp] theorem sMv_def (i j : Nat) (g : Gm) : sMv i j g = mvS i j g (g[j]?) := by
  unfold sMv
  cases h : g[j]? with
  | none => rfl
  | some s => cases s <;> rfl
end BK
namespace BK
open PySem PySem.Spec L2
set_option autoImplicit false
@[simp] theorem atI_five {α : Type} (a b c d e f : α) (xs : List α) : atI (a :: b :: c :: d :: e :: f :: xs) 5 = some f := by
  have := atI_ofNat (a :: b :: c :: d :: e :: f :: xs) 5
  simpa using this
end BK
namespace BK
open PySem PySem.Spec L2
set_option autoImplicit false
end BK
namespace BK
open PySem PySem.Spec L2
set_option autoImplicit false
/-! a block that ends in a state of which something holds -/
end BK
namespace BK
open PySem PySem.Spec L2
set_option autoImplicit false
theorem cut_mid {α : Type} (xs : List α) (a b : Nat) : cutL xs (some (a : Int)) (some (b : Int)) = (xs.take b).drop a := by
  unfold cutL
  rw [HT.sIx_nat, HT.sIx_nat, List.drop_take]
  by_cases h : a ≤ xs.length
  · rw [Nat.min_eq_left h]
    by_cases h2 : b ≤ xs.length
    · rw [Nat.min_eq_left h2]
    · rw [Nat.min_eq_right (by omega), List.take_of_length_le (by rw [List.length_drop]; omega), List.take_of_length_le (by rw [List.length_drop]; omega)]
  · rw [List.drop_eq_nil_of_le (show xs.length ≤ min a xs.length by omega), List.drop_eq_nil_of_le (show xs.length ≤ a by omega)]
    simp
end BK
namespace BK
open PySem PySem.Spec L2
set_option autoImplicit false
theorem enumL_map {α : Type} (enc : α → D) : ∀ (xs : List α) (k : Nat), enumL k (xs.map enc) = (xs.zipIdx k).map fun p => .tup [.int (p.2 : Nat), enc p.1]
  | [], _ => rfl
  | x :: xs, k => by
    rw [List.map_cons, List.zipIdx_cons, List.map_cons, ← enumL_map enc xs (k + 1)]
    rfl
end BK
namespace BK
open PySem PySem.Spec L2
set_option autoImplicit false
/-! ### reckonings in plain types, and that a def's function follows them -/
def Sm {α β : Type} (o : Option β) (s : Option α) (P : α → β → Prop) : Prop := ∀ x, s = some x → ∃ y, o = some y ∧ P x y
def grd {α : Type} (p : Prop) [Decidable p] (t : Option α) : Option α := if p then t else none
def lt {α β : Type} (v : α) (t : α → Option β) : Option β := t v
theorem grd_pos {α : Type} {p : Prop} [Decidable p] {t : Option α} (h : p) : grd p t = t := if_pos h
theorem lt_def {α β : Type} (v : α) (t : α → Option β) : lt v t = t v := rfl
inductive Ctl (σ ρ : Type) where
  | nx (s : σ) | bk (s : σ) | rt (r : ρ)
def ctl {σ ρ α : Type} (c : Ctl σ ρ) (t : σ → Option α) (u : ρ → Option α) : Option α := match c with
  | .nx s => t s
  | .bk s => t s
  | .rt r => u r
def forO {α σ : Type} (body : α → σ → Option σ) : List α → σ → Option σ
  | [], s => some s
  | x :: xs, s => b1 (body x s) (forO body xs)
def forC {α σ ρ : Type} (body : α → σ → Option (Ctl σ ρ)) : List α → σ → Option (Ctl σ ρ)
  | [], s => some (.nx s)
  | x :: xs, s => b1 (body x s) fun c => match c with
    | .nx s => forC body xs s
    | .bk s => some (.nx s)
    | .rt r => some (.rt r)
/-- comprehensions whose elements are reckoned partly -/
def mapO {α β : Type} (f : α → Option β) : List α → Option (List β)
  | [] => some []
  | x :: xs => b1 (f x) fun y => b1 (mapO f xs) fun ys => some (y :: ys)
def fmapO {α β : Type} (c : α → Option Bool) (f : α → Option β) : List α → Option (List β)
  | [] => some []
  | x :: xs => b1 (c x) fun k => if k = true then b1 (f x) fun y => b1 (fmapO c f xs) fun ys => some (y :: ys) else fmapO c f xs
section
variable {α β γ : Type} {o : Option β} {P : α → β → Prop}
theorem sm_ret {x : α} {y : β} (h : o = some y) (p : P x y) : Sm o (some x) P := fun x e => by cases e; exact ⟨y, h, p⟩
theorem sm_b1 {p : Option γ} {t : γ → Option α} (h : ∀ x, p = some x → Sm o (t x) P) : Sm o (b1 p t) P := by
  cases p with
  | none => exact fun _ e => by cases e
  | some x => exact h x rfl
theorem sm_grd {p : Prop} [Decidable p] {t : Option α} (h : p → Sm o t P) : Sm o (grd p t) P := by
  unfold grd
  split
  · rename_i c; exact h c
  · exact fun _ e => by cases e
theorem Sm.get {s : Option α} (h : Sm o s P) {x : α} (e : s = some x) : ∃ y, o = some y ∧ P x y := h x e
theorem Sm.eq {s : Option α} {k : α → β} (h : Sm o s fun x y => y = k x) {x : α} (e : s = some x) : o = some (k x) := by
  obtain ⟨y, h1, rfl⟩ := h x e
  exact h1
end
/-! blocks -/
def nxt : Gm → Option Out := fun g => some (.nx g)
def cont (b n : Gm → Option Out) : Gm → Option Out := fun g => bO (b g) n
def J {α : Type} (m n : Gm → Option Out) (g : Gm) (s : Option α) (P : α → Out → Prop) : Prop := Sm (bO (m g) n) s P
def PN {σ : Type} (St : σ → Gm → Prop) : σ → Out → Prop := fun s o => ∃ g, o = .nx g ∧ St s g
/-- a loop's turn -/
def PT {σ : Type} (St : σ → Gm → Prop) : σ → Out → Prop := fun s o => ∃ g, (o = .nx g ∨ o = .ct g) ∧ St s g
def PC {σ ρ : Type} (St : σ → Gm → Prop) (k : ρ → R) : Ctl σ ρ → Out → Prop
  | .nx s, o => ∃ g, (o = .nx g ∨ o = .ct g) ∧ St s g
  | .bk s, o => ∃ g, o = .bk g ∧ St s g
  | .rt r, o => o = .rt (k r)
def PF {α : Type} (k : α → R) : α → Out → Prop := fun v o => fnR (some o) = some (k v)
theorem bO_assoc (x : Option Out) (m n : Gm → Option Out) : bO (bO x m) n = bO x (cont m n) := by
  cases x with
  | none => rfl
  | some o => cases o <;> rfl
theorem bO_nxt (x : Option Out) : bO x nxt = x := by
  cases x with
  | none => rfl
  | some o => cases o <;> rfl
section
variable {α γ : Type} {b n : Gm → Option Out} {g g1 : Gm} {P : α → Out → Prop} {s : Option α} {t : γ → Option α} {i : Nat}
theorem j_b1 {m : Gm → Option Out} {p : Option γ} (h : ∀ x, p = some x → J m n g (t x) P) : J m n g (b1 p t) P := sm_b1 h
theorem j_grd {m : Gm → Option Out} {p : Prop} [Decidable p] (h : p → J m n g s P) : J m n g (grd p s) P := sm_grd h
theorem j_seq {a : Gm → Option Out} (h : a g = some (.nx g1)) (k : J b n g1 s P) : J (sCons a b) n g s P := by
  unfold J
  rw [sCons_def, h, bO_nx]
  exact k
/-- a store whose value is a name already -/
theorem j_setN {e : Gm → Option R} {d : D} (h : e g = some (.va d)) (h1 : g.set i (.va d) = g1) (k : J b n g1 s P) : J (sCons (sSet i e) b) n g s P :=
  j_seq (a := sSet i e) (g1 := g1) (by rw [sSet_def, h, b1_some, stO_va, h1]) k
theorem j_setTN {e : Gm → Option R} {d : List D} (h : e g = some (.tm d)) (h1 : g.set i (.ow d) = g1) (k : J b n g1 s P) : J (sCons (sSet i e) b) n g s P :=
  j_seq (a := sSet i e) (g1 := g1) (by rw [sSet_def, h, b1_some, stO_tm, h1]) k
theorem j_aug {e : Gm → Option R} {f : R → R → Option R} {x y : R} {d : D} (h0 : eV i g = some x) (h : e g = some y) (hf : f x y = some (.va d)) (h1 : g.set i (.va d) = g1) (k : J b n g1 s P) : J (sCons (sAug i f e) b) n g s P :=
  j_seq (a := sAug i f e) (g1 := g1) (by rw [sAug_def, h0, h, b2_some, agO_def, hf, b1_some, stO_va, h1]) k
theorem j_app {e : Gm → Option R} {ds : List D} {r : R} (h0 : g[i]? = some (.ow ds)) (h : e g = some r) (hb : r.isBw = false) (hl : ds.length < 16777216) (h1 : g.set i (.ow (ds ++ [r.d])) = g1) (k : J b n g1 s P) : J (sCons (sApp i e) b) n g s P :=
  j_seq (a := sApp i e) (g1 := g1) (by rw [sApp_def, h0, h, apS_ow, b1_some, apO_ok hb hl, h1]) k
theorem j_ext {e : Gm → Option R} {ds es : List D} {r : R} (h0 : g[i]? = some (.ow ds)) (h : e g = some r) (hd : r.d = .lst es) (hl : ds.length + es.length ≤ 16777216) (h1 : g.set i (.ow (ds ++ es)) = g1) (k : J b n g1 s P) : J (sCons (sExt i e) b) n g s P :=
  j_seq (a := sExt i e) (g1 := g1) (by
    rw [sExt_def, h0, h, extS_ow, b1_some]
    unfold extO
    rw [hd]
    show (if ds.length + es.length ≤ LIM then _ else _) = _
    rw [if_pos (show _ ≤ LIM from hl), h1]) k
theorem j_fzO {m : Gm → Option Out} {ds : List D} (h0 : g[i]? = some (.ow ds)) (h1 : g.set i (.va (.lst ds)) = g1) (k : J (sCons m b) n g1 s P) : J (sCons (sFz i m) b) n g s P := by
  unfold J at k ⊢
  rw [sCons_def, sFz_def, h0, fzS_ow, h1]
  exact k
theorem j_fzV {m : Gm → Option Out} {d : D} (h0 : g[i]? = some (.va d)) (k : J (sCons m b) n g s P) : J (sCons (sFz i m) b) n g s P := by
  unfold J at k ⊢
  rw [sCons_def, sFz_def, h0, fzS_va]
  exact k
theorem j_mvO {j : Nat} {ds : List D} (h0 : g[j]? = some (.ow ds)) (hij : (i == j) = false) (h1 : (g.set j .un).set i (.ow ds) = g1) (k : J b n g1 s P) : J (sCons (sMv i j) b) n g s P :=
  j_seq (a := sMv i j) (g1 := g1) (by
    rw [sMv_def, h0, mvS_ow, if_neg (by simpa using hij), h1]) k
theorem j_ret {e : Gm → Option R} {r : R} {v : α} (h : e g = some r) (p : P v (.rt (retR r))) : J (sCons (sRet e) b) n g (some v) P := by
  unfold J
  rw [sCons_def, sRet_def, h, b1_some, rtO_def]
  exact sm_ret rfl p
theorem j_nil {v : α} (p : P v (.nx g)) : J sNil nxt g (some v) P := sm_ret rfl p
theorem j_nilC (k : J b n g s P) : J sNil (cont b n) g s P := k
theorem j_if {c : Gm → Option Bool} {A B : Gm → Option Out} {k : Bool} {sA sB : Option α} (h : c g = some k) (hA : k = true → J A (cont b n) g sA P) (hB : k = false → J B (cont b n) g sB P) : J (sCons (sIf c A B) b) n g (if k = true then sA else sB) P := by
  unfold J
  rw [sCons_def, sIf_def, h, b1_some, ifO_def, bO_assoc]
  cases k with
  | true => exact hA rfl
  | false => exact hB rfl
theorem j_cut {m : Gm → Option Out} {σ : Type} {St : σ → Gm → Prop} {u : Option σ} {t : σ → Option α} (h : J m nxt g u (PN St)) (k : ∀ st g', St st g' → J b n g' (t st) P) : J (sCons m b) n g (b1 u t) P := by
  refine sm_b1 fun st e => ?_
  obtain ⟨o, e1, g', rfl, h2⟩ := h st e
  rw [bO_nxt] at e1
  exact j_seq e1 (k st g' h2)
theorem j_joinB {c : Gm → Option Bool} {A B : Gm → Option Out} {k : Bool} {σ : Type} {St : σ → Gm → Prop} {sA sB : Option σ} {t : σ → Option α} (h : c g = some k) (hA : k = true → J A nxt g sA (PN St)) (hB : k = false → J B nxt g sB (PN St)) (q : ∀ st g', St st g' → J b n g' (t st) P) : J (sCons (sIf c A B) b) n g (b1 (if k = true then sA else sB) t) P := by
  refine j_cut (St := St) ?_ q
  unfold J
  rw [sIf_def, h, b1_some, ifO_def]
  cases k with
  | true => exact hA rfl
  | false => exact hB rfl
theorem jn_end {σ : Type} {St : σ → Gm → Prop} {st : σ} (h : St st g) : J sNil nxt g (some st) (PN St) := j_nil ⟨g, rfl, h⟩
theorem jt_end {σ : Type} {St : σ → Gm → Prop} {st : σ} (h : St st g) : J sNil nxt g (some st) (PT St) := j_nil ⟨g, .inl rfl, h⟩
theorem jc_end {σ ρ : Type} {St : σ → Gm → Prop} {k : ρ → R} {st : σ} (h : St st g) : J sNil nxt g (some (.nx st)) (PC St k) := j_nil (P := PC St k) (v := .nx st) ⟨g, .inl rfl, h⟩
theorem jc_ret {σ ρ : Type} {St : σ → Gm → Prop} {k : ρ → R} {e : Gm → Option R} {r : R} {v : ρ} (h : e g = some r) (p : retR r = k v) : J (sCons (sRet e) b) n g (some (.rt v)) (PC St k) := j_ret (P := PC St k) (v := .rt v) h (congrArg Out.rt p)
theorem forO_sm {α σ : Type} {f : D → Gm → Option Gm} {m : Gm → Option Out} (enc : α → D) (St : σ → Gm → Prop) (body : α → σ → Option σ) : ∀ (xs : List α), (∀ x ∈ xs, ∀ st g, St st g → ∃ g1, f (enc x) g = some g1 ∧ J m nxt g1 (body x st) (PT St)) → ∀ st g, St st g → ∀ st', forO body xs st = some st' → ∃ g', forL f m (xs.map enc) g = some (.nx g') ∧ St st' g'
  | [], _, st, g, h, st', e => by cases e; exact ⟨g, rfl, h⟩
  | x :: xs, step, st, g, h, st', e => by
    obtain ⟨g1, e1, j⟩ := step x List.mem_cons_self st g h
    cases e2 : body x st with
    | none => rw [forO, e2] at e; cases e
    | some s2 =>
      rw [forO, e2, b1_some] at e
      obtain ⟨o, e3, g2, ho, h2⟩ := j s2 e2
      rw [bO_nxt] at e3
      obtain ⟨g', e4, h4⟩ := forO_sm enc St body xs (fun y hy => step y (List.mem_cons_of_mem _ hy)) s2 g2 h2 st' e
      refine ⟨g', ?_, h4⟩
      rw [List.map_cons, forL_cons, e1, b1_some, e3]
      rcases ho with rfl | rfl
      · rw [fL_nx, e4]
      · rw [fL_ct, e4]
theorem j_for {δ σ : Type} {mi : Gm → Option (List Nat × List D)} {f : D → Gm → Option Gm} {m : Gm → Option Out} {T : List Nat} {ps : List Nat} (enc : δ → D) (St : σ → Gm → Prop) {body : δ → σ → Option σ} {xs : List δ} {st0 : σ} {t : σ → Option α}
    (hm : mi g = some (ps, xs.map enc)) (hp : ps.all (fun j => !T.contains j) = true) (h0 : St st0 g) (step : ∀ x ∈ xs, ∀ st g, St st g → ∃ g1, f (enc x) g = some g1 ∧ J m nxt g1 (body x st) (PT St)) (k : ∀ st g', St st g' → J b n g' (t st) P) : J (sCons (sFor mi f m T) b) n g (b1 (forO body xs st0) t) P := by
  refine sm_b1 fun st e => ?_
  obtain ⟨g', e1, h1⟩ := forO_sm enc St body xs step st0 g h0 st e
  refine j_seq (g1 := g') ?_ (k st g' h1)
  rw [sFor_def, hm]
  show (if ps.all (fun j => !T.contains j) = true then _ else _) = _
  rw [if_pos hp, e1]
theorem forC_sm {α σ ρ : Type} {f : D → Gm → Option Gm} {m : Gm → Option Out} (enc : α → D) (St : σ → Gm → Prop) (k : ρ → R) (body : α → σ → Option (Ctl σ ρ)) : ∀ (xs : List α), (∀ x ∈ xs, ∀ st g, St st g → ∃ g1, f (enc x) g = some g1 ∧ J m nxt g1 (body x st) (PC St k)) → ∀ st g, St st g → ∀ c, forC body xs st = some c → ∃ o, forL f m (xs.map enc) g = some o ∧ match c with
    | .nx st => ∃ g', o = .nx g' ∧ St st g'
    | .bk _ => False
    | .rt r => o = .rt (k r)
  | [], _, st, g, h, c, e => by cases e; exact ⟨_, rfl, g, rfl, h⟩
  | x :: xs, step, st, g, h, c, e => by
    obtain ⟨g1, e1, j⟩ := step x List.mem_cons_self st g h
    cases e2 : body x st with
    | none => rw [forC, e2] at e; cases e
    | some s2 =>
      rw [forC, e2, b1_some] at e
      obtain ⟨o, e3, ho⟩ := j s2 e2
      rw [bO_nxt] at e3
      cases s2 with
      | nx s2 =>
        obtain ⟨g2, ho, h2⟩ := ho
        obtain ⟨o', e4, h4⟩ := forC_sm enc St k body xs (fun y hy => step y (List.mem_cons_of_mem _ hy)) s2 g2 h2 c e
        refine ⟨o', ?_, h4⟩
        rw [List.map_cons, forL_cons, e1, b1_some, e3]
        rcases ho with rfl | rfl
        · rw [fL_nx, e4]
        · rw [fL_ct, e4]
      | bk s2 =>
        obtain ⟨g2, rfl, h2⟩ := ho
        cases e
        refine ⟨.nx g2, ?_, g2, rfl, h2⟩
        rw [List.map_cons, forL_cons, e1, b1_some, e3, fL_bk]
      | rt r =>
        cases e
        refine ⟨o, ?_, ho⟩
        have ho : o = .rt (k r) := ho
        subst ho
        rw [List.map_cons, forL_cons, e1, b1_some, e3, fL_rt]
theorem j_forC {δ σ ρ : Type} {mi : Gm → Option (List Nat × List D)} {f : D → Gm → Option Gm} {m : Gm → Option Out} {T : List Nat} {ps : List Nat} (enc : δ → D) (St : σ → Gm → Prop) (kr : ρ → R) {body : δ → σ → Option (Ctl σ ρ)} {xs : List δ} {st0 : σ} {t : σ → Option α} {u : ρ → Option α}
    (hm : mi g = some (ps, xs.map enc)) (hp : ps.all (fun j => !T.contains j) = true) (h0 : St st0 g) (step : ∀ x ∈ xs, ∀ st g, St st g → ∃ g1, f (enc x) g = some g1 ∧ J m nxt g1 (body x st) (PC St kr)) (k : ∀ st g', St st g' → J b n g' (t st) P) (k2 : ∀ r, Sm (some (.rt (kr r))) (u r) P) : J (sCons (sFor mi f m T) b) n g (b1 (forC body xs st0) fun c => ctl c t u) P := by
  refine sm_b1 fun c e => ?_
  obtain ⟨o, e1, h1⟩ := forC_sm enc St kr body xs step st0 g h0 c e
  have e2 : sFor mi f m T g = some o := by
    rw [sFor_def, hm]
    show (if ps.all (fun j => !T.contains j) = true then _ else _) = _
    rw [if_pos hp, e1]
  cases c with
  | nx st =>
    obtain ⟨g', rfl, h2⟩ := h1
    exact j_seq e2 (k st g' h2)
  | bk st => exact h1.elim
  | rt r =>
    have h1 : o = .rt (kr r) := h1
    subst h1
    show Sm (bO (bO (sFor mi f m T g) b) n) (u r) P
    rw [e2]
    exact k2 r
end
theorem sim_phi {α : Type} {m : Gm → Option Out} {N n : Nat} {ds : List D} {s : Option α} {k : α → R} (hl : ds.length = n) (h : J m nxt (ds.map Slot.va ++ List.replicate (N - n) Slot.un) s (PF k)) {x : α} (e : s = some x) : phi m N n ds = some (k x) := by
  obtain ⟨o, e1, e2⟩ := h x e
  rw [bO_nxt] at e1
  rw [phi_def, if_pos hl, e1, e2]
end BK
namespace BK
open PySem PySem.Spec L2
set_option autoImplicit false
/-! ### plain types as data -/
abbrev eD (d : D) : D := d
abbrev eL {α : Type} (e : α → D) (xs : List α) : D := .lst (xs.map e)
abbrev eT {α : Type} (e : α → D) (xs : List α) : D := .tup (xs.map e)
abbrev eRL (ns : List Int) : D := .rol (ns.map D.int)
def eO {α : Type} (e : α → D) : Option α → D
  | none => .non
  | some x => e x
abbrev eP2 {α β : Type} (a : α → D) (b : β → D) (x : α × β) : D := .tup [a x.1, b x.2]
abbrev eP3 {α β γ : Type} (a : α → D) (b : β → D) (c : γ → D) (x : α × β × γ) : D := .tup [a x.1, b x.2.1, c x.2.2]
abbrev eP6 {α β γ δ ε ζ : Type} (a : α → D) (b : β → D) (c : γ → D) (d : δ → D) (e : ε → D) (f : ζ → D) (x : α × β × γ × δ × ε × ζ) : D := .tup [a x.1, b x.2.1, c x.2.2.1, d x.2.2.2.1, e x.2.2.2.2.1, f x.2.2.2.2.2]
/-- a bridge -/
structure Bg where
  name : Str
  length : Int
  bears : Int
  wide : Int
  most : Int
abbrev insB (b : Bg) : D := .ins 1 [.int b.length, .str b.name, .int b.bears, .int b.wide, .int b.most]
abbrev Pc := Int ⊕ Bg
/-- a piece: an open one of a length, or a bridge -/
def insP : Pc → D
  | .inl n => .ins 0 [.int n]
  | .inr b => insB b
def pcLen : Pc → Int
  | .inl n => n
  | .inr b => b.length
def pcBr : Pc → Option Bg
  | .inl _ => none
  | .inr b => some b
def isBr : Pc → Bool
  | .inl _ => false
  | .inr _ => true
abbrev Wh := Int × Int × Int
abbrev eWh : Wh → D := eP3 D.int D.int D.int
abbrev Fr := Int × Int
structure Rd' where
  pieces : List Pc
  rounds : List (Str × Int)
  shuts : List (Str × Int × Int)
abbrev eRo (r : Rd') : D := .ins 2 [eL insP r.pieces, eL (eP2 D.str D.int) r.rounds, eL (eP3 D.str D.int D.int) r.shuts]
structure Ct where
  name : Str
  speed : Int
  wheels : List Wh
abbrev eCt (c : Ct) : D := .ins 3 [.str c.name, .int c.speed, eL eWh c.wheels]
/-! ### expressions -/
section
variable {g : Gm} {α β γ : Type}
theorem x1 {f : R → Option R} {a : Gm → Option R} {x z : R} (h : a g = some x) (k : f x = some z) : e1 f a g = some z := by
  rw [e1_def, h, b1_some, k]
theorem x2 {f : R → R → Option R} {a b : Gm → Option R} {x y z : R} (h : a g = some x) (h' : b g = some y) (k : f x y = some z) : e2 f a b g = some z := by
  rw [e2_def, h, h', b2_some, k]
theorem xA {f : List R → Option R} {a : Gm → Option (List R)} {rs : List R} {z : R} (h : a g = some rs) (k : f rs = some z) : eA f a g = some z := by
  rw [eA_def, h, b1_some, k]
theorem xaN : aN g = some [] := rfl
theorem xaC {a : Gm → Option R} {b : Gm → Option (List R)} {x : R} {rs : List R} (h : a g = some x) (h' : b g = some rs) : aC a b g = some (x.fz :: rs) := by
  rw [aC_def, h, h', b2_some, cF_def]
theorem xV {i : Nat} {d : D} (h : g[i]? = some (.va d)) : eV i g = some (.va d) := by rw [eV_def, h]; rfl
theorem xW {i : Nat} {ds : List D} (h : g[i]? = some (.ow ds)) : eV i g = some (.bw i ds) := by rw [eV_def, h]; rfl
/-! tests -/
theorem t_val {a : Gm → Option R} {k : Bool} (h : a g = some (.va (.bl k))) : bE a g = some k := by rw [bE_def, h]; rfl
theorem t_not {c : Gm → Option Bool} {k : Bool} (h : c g = some k) : bNot c g = some (!k) := by rw [bNot_def, h]; rfl
theorem t_or {c d : Gm → Option Bool} {k l : Bool} (h : c g = some k) (h' : d g = some l) : bOr c d g = some (k || l) := by
  rw [bOr_def, h, b1_some, orB_def, h']; cases k <;> rfl
theorem t_andP {c d : Gm → Option Bool} {k z : Bool} {s : Option Bool} (h : c g = some k) (h' : k = true → Sm (d g) s fun x y => y = x) (e : (if k = true then s else some false) = some z) : bAnd c d g = some z := by
  rw [bAnd_def, h, b1_some, anB_def]
  cases k with
  | false => exact e
  | true => exact (h' rfl).eq (k := id) (by simpa using e)
theorem t_orP {c d : Gm → Option Bool} {k z : Bool} {s : Option Bool} (h : c g = some k) (h' : k = false → Sm (d g) s fun x y => y = x) (e : (if k = true then some true else s) = some z) : bOr c d g = some z := by
  rw [bOr_def, h, b1_some, orB_def]
  cases k with
  | true => exact e
  | false => exact (h' rfl).eq (k := id) (by simpa using e)
theorem v_andP {a b : Gm → Option R} {k z : Bool} {s : Option Bool} (h : a g = some (.va (.bl k))) (h' : k = true → Sm (b g) s fun x y => y = .va (.bl x)) (e : (if k = true then s else some false) = some z) : eAnd a b g = some (.va (.bl z)) := by
  rw [eAnd_def, t_val h, b1_some, anR_def]
  cases k with
  | false => cases e; rfl
  | true => exact (h' rfl).eq (k := fun x => R.va (.bl x)) (by simpa using e)
/-! operators -/
theorem f_mul {i j : Int} (h : CMulB i j) : oMulA (.va (.int i)) (.va (.int j)) = some (.va (.int (i * j))) := by rw [oMulA_int, if_pos h]
theorem f_mod {i j : Int} (h : j ≠ 0) : oMod (.va (.int i)) (.va (.int j)) = some (.va (.int (i.fmod j))) := by rw [oMod_def, if_pos h]
theorem f_shl {i j : Int} (h : CPow i j) : oShl (.va (.int i)) (.va (.int j)) = some (.va (.int (i * 2 ^ j.toNat))) := by rw [oShl_def, if_pos h]
theorem f_shr {i j : Int} (h : 0 ≤ j) : oShr (.va (.int i)) (.va (.int j)) = some (.va (.int (i / 2 ^ j.toNat))) := by rw [oShr_def, if_pos h]
theorem f_addT {e : α → D} {xs ys : List α} {us vs : List D} (hx : us = xs.map e) (hy : vs = ys.map e) (h : xs.length + ys.length ≤ 16777216) : oAdd (.va (.tup us)) (.va (.tup vs)) = some (.va (.tup ((xs ++ ys).map e))) := by
  subst hx; subst hy
  rw [oAdd_tup, if_pos (by rw [List.length_map, List.length_map]; exact h), List.map_append]
theorem f_addL {e : α → D} {xs ys : List α} {a b : R} (hx : a.d = .lst (xs.map e)) (hy : b.d = .lst (ys.map e)) (h : xs.length + ys.length ≤ 16777216) : oAdd a b = some (.tm ((xs ++ ys).map e)) := by
  rw [oAdd_lst hx hy, if_pos (by rw [List.length_map, List.length_map]; exact h), List.map_append]
theorem f_mulS {i : Str} {j : Int} (h : -(2 ^ 63) ≤ j ∧ j < 2 ^ 63 ∧ i.length * j.toNat ≤ 16777216) : oMulA (.va (.str i)) (.va (.int j)) = some (.va (.str (strRep i j))) := by rw [oMulA_str, if_pos (show _ ∧ _ ∧ _ ≤ LIM from h)]
/-- == of plain types -/
structure EQ (n : Nat) [DecidableEq α] (e : α → D) : Prop where
  eq : ∀ x y, eqn n (e x) (e y) = decide (x = y)
structure OK (n : Nat) (e : α → D) : Prop where
  ok : ∀ x, okn n (e x) = true
theorem eqR_gen {a b : R} {x y : D} (ha : a.d = x) (hb : b.d = y) (h1 : okn 8 x = true) (h2 : okn 8 y = true) : eqR a b = some (eqn 8 x y) := by
  subst ha; subst hb
  unfold eqR
  split
  · rename_i u v e1 e2
    rw [e1, e2]; rfl
  · rw [h1, h2]; rfl
theorem f_eq {a b : R} {k : Bool} (h : eqR a b = some k) : oEq a b = some (.va (.bl k)) := by unfold oEq; rw [h]; rfl
theorem f_ne {a b : R} {k : Bool} (h : eqR a b = some k) : oNe a b = some (.va (.bl (!k))) := by unfold oNe; rw [h]; rfl
theorem eqR_T [DecidableEq α] {a b : R} {e : α → D} {x y : α} (E : EQ 8 e) (ha : a.d = e x) (hb : b.d = e y) (h : okn 8 (e x) = true ∧ okn 8 (e y) = true) : eqR a b = some (decide (x = y)) := by rw [eqR_gen ha hb h.1 h.2, E.eq]
theorem eqR_K [DecidableEq α] {a b : R} {e : α → D} {x y : α} (E : EQ 8 e) (O : OK 8 e) (ha : a.d = e x) (hb : b.d = e y) : eqR a b = some (decide (x = y)) := eqR_T E ha hb ⟨O.ok x, O.ok y⟩
theorem eqR_str {x y : Str} : eqR (.va (.str x)) (.va (.str y)) = some (decide (x = y)) := rfl
theorem EQ_int (n : Nat) : EQ n D.int := ⟨fun _ _ => eqn_int ..⟩
theorem OK_int (n : Nat) : OK n D.int := ⟨fun _ => okn_int ..⟩
theorem OK_L {n : Nat} {e : α → D} (h : OK n e) : OK (n + 1) (eL e) := ⟨fun xs => by
  rw [okn_lst, List.all_map, List.all_eq_true]; exact fun x _ => h.ok x⟩
theorem EQ_L {n : Nat} [DecidableEq α] {e : α → D} (h : EQ n e) : EQ (n + 1) (eL e) := ⟨fun xs ys => by rw [eqn_lst]; exact eqL_map h.eq xs ys⟩
theorem OK_P3 {n : Nat} {a : α → D} {b : β → D} {c : γ → D} (ha : OK n a) (hb : OK n b) (hc : OK n c) : OK (n + 1) (eP3 a b c) := ⟨fun x => by simp [ha.ok, hb.ok, hc.ok]⟩
theorem EQ_P3 {n : Nat} [DecidableEq α] [DecidableEq β] [DecidableEq γ] {a : α → D} {b : β → D} {c : γ → D} (ha : EQ n a) (hb : EQ n b) (hc : EQ n c) : EQ (n + 1) (eP3 a b c) := ⟨fun x y => by
  rw [Bool.eq_iff_iff]; simp [ha.eq, hb.eq, hc.eq, Prod.ext_iff]⟩
theorem f_isN (r : R) : oIs r (.va .non) = some (.va (.bl r.d.isNon)) := rfl
theorem f_isNN (r : R) : oIsN r (.va .non) = some (.va (.bl (!r.d.isNon))) := rfl
theorem isNon_eO {e : α → D} (h : ∀ x, (e x).isNon = false) (o : Option α) : D.isNon (eO e o) = o.isNone := by
  cases o with
  | none => rfl
  | some x => exact h x
theorem f_isO {e : α → D} (h : ∀ x, (e x).isNon = false) (o : Option α) : oIs (.va (eO e o)) (.va .non) = some (.va (.bl o.isNone)) := by rw [f_isN]; exact congrArg (fun k => some (R.va (.bl k))) (isNon_eO h o)
theorem f_isNO {e : α → D} (h : ∀ x, (e x).isNon = false) (o : Option α) : oIsN (.va (eO e o)) (.va .non) = some (.va (.bl o.isSome)) := by
  rw [f_isNN]
  refine congrArg (fun k => some (R.va (.bl k))) ?_
  show (!D.isNon (eO e o)) = _
  rw [isNon_eO h o]
  cases o <;> rfl
/-- items -/
theorem f_ixL {a : R} {e : α → D} {xs : List α} {i : Int} {x : α} (h : a.d = .lst (xs.map e)) (k : atI xs i = some x) : oIx a (.va (.int i)) = some (.va (e x)) := by
  rw [oIx_lst h, atI_map, k]; rfl
theorem f_ixT {e : α → D} {xs : List α} {us : List D} {i : Int} {x : α} (h : us = xs.map e) (k : atI xs i = some x) : oIx (.va (.tup us)) (.va (.int i)) = some (.va (e x)) := by
  subst h
  rw [oIx_tup, atI_map, k]; rfl
theorem f_ixR {ns : List Int} {us : List D} {i x : Int} (h : us = ns.map D.int) (k : atI ns i = some x) : oIx (.va (.rol us)) (.va (.int i)) = some (.va (.int x)) := by
  subst h
  rw [oIx_rol, atI_map, k]; rfl
def sgAt (z : Str) (i : Int) : Option Str := (atI z.cps.toList i).map fun c => ⟨#[c]⟩
theorem f_ixS {z x : Str} {i : Int} (h : z.length ≤ 16777216) (k : sgAt z i = some x) : oIx (.va (.str z)) (.va (.int i)) = some (.va (.str x)) := by
  rw [oIx_str, if_pos (show _ ≤ LIM from h)]
  unfold sgAt at k
  obtain ⟨c, e, rfl⟩ := Option.map_eq_some_iff.mp k
  rw [e]; rfl
theorem f_ixC {xs : List D} {x : D} (i : Nat) (h : xs[i]? = some x) : oIx (.va (.tup xs)) (.va (.int (i : Int))) = some (.va x) := by
  rw [oIx_tup, atI_ofNat, h]; rfl
/-- slices -/
theorem x_sl {m : Gm → Option R} {l h : Gm → Option (Option Int)} {a z : R} {lo hi : Option Int} (e1 : m g = some a) (e2 : l g = some lo) (e3 : h g = some hi) (k : oSl a lo hi = some z) : eSl m l h g = some z := by
  show (m g).bind _ = _
  rw [e1]
  show (l g).bind _ = _
  rw [e2]
  show (h g).bind _ = _
  rw [e3]
  exact k
theorem x_pS {m : Gm → Option R} {i : Int} (h : m g = some (.va (.int i))) : pS m g = some (some i) := by
  show (m g).bind _ = _
  rw [h]; rfl
theorem f_slL {a : R} {e : α → D} {xs : List α} {lo hi : Option Int} (h : a.d = .lst (xs.map e)) : oSl a lo hi = some (.tm ((cutL xs lo hi).map e)) := by
  unfold oSl
  rw [h, ← cut_map]
theorem f_slR {ns : List Int} {us : List D} {lo hi : Option Int} (h : us = ns.map D.int) : oSl (.va (.rol us)) lo hi = some (.tm ((cutL ns lo hi).map D.int)) := by
  subst h
  rw [← cut_map]; rfl
/-- displays -/
theorem f_tup {rs : List R} {ds : List D} (h : rs.all (fun r => !r.wr) = true) (hl : decide (rs.length ≤ LIM) = true) (hd : rs.map R.d = ds) : oTup rs = some (.va (.tup ds)) := by
  subst hd
  rw [oTup_def, if_pos (by rw [h, hl]; rfl)]
theorem f_lst {rs : List R} {ds : List D} (h : rs.all (fun r => !r.wr) = true) (hl : decide (rs.length ≤ LIM) = true) (hd : rs.map R.d = ds) : oLst rs = some (.tm ds) := by
  subst hd
  rw [oLst_def, if_pos (by rw [h, hl]; rfl)]
/-- calls of built-in names -/
theorem f_lenL {a : R} {e : α → D} {xs : List α} (h : a.d = .lst (xs.map e)) : cLen [a] = some (.va (.int xs.length)) := by
  cases a with
  | va d =>
    obtain rfl : d = .lst (xs.map e) := h
    rw [cLen_vlst, List.length_map]
  | tm ds =>
    obtain rfl : ds = xs.map e := by injection h
    rw [cLen_tm, List.length_map]
  | bw j ds =>
    obtain rfl : ds = xs.map e := by injection h
    rw [cLen_bw, List.length_map]
theorem f_lenR {us : List D} {ns : List Int} (h : us = ns.map D.int) : cLen [.va (.rol us)] = some (.va (.int ns.length)) := by
  subst h
  rw [cLen_rol, List.length_map]
theorem f_sum {r : R} {ns : List Int} (h : r.d = .lst (ns.map D.int)) : cSum [r] = some (.va (.int ns.sum)) := cSum_def h
theorem f_all {r : R} {ns : List Bool} (h : r.d = .lst (ns.map D.bl)) : cAll [r] = some (.va (.bl (ns.all id))) := cAll_def h
theorem f_max1 {r : R} {ns : List Int} {n : Int} (h : r.d = .lst (ns.map D.int)) (k : maxL ns = some n) : cMax1 [r] = some (.va (.int n)) := by
  show (((lstD r.d).bind intsOf).bind maxL).map _ = _
  rw [h]
  show ((intsOf (ns.map D.int)).bind maxL).map _ = _
  rw [intsOf_map]
  show (maxL ns).map _ = _
  rw [k]; rfl
theorem f_list {r : R} {ds : List D} (h : r.d = .lst ds ∨ r.d = .tup ds) : cList [r] = some (.tm ds) := by
  show (match r.d with | .lst ds => some (R.tm ds) | .tup ds => some (R.tm ds) | _ => none) = _
  rcases h with h | h <;> rw [h]
theorem f_isi {T : BTy} {a : Gm → Option R} {r : R} {b : Bool} (h : a g = some r) (ht : r.isTm = false) (k : isB T r.d = some b) : eIs T a g = some (.va (.bl b)) := by
  rw [eIs_def, h, b1_some, isO_def, ht, if_neg (by decide), k]; rfl
/-- own defs -/
theorem f_call {φ : Phi} {dds : List D} {rs : List R} {z : R} (h : φ (rs.map R.d ++ dds) = some z) (ht : rs.any R.isTm = false) (hb : rs.any R.isBw = false ∨ z.lf = true ∨ z.lfk (lentK rs) = true) : callR φ dds rs = some z := by
  rw [callR_def, ht, if_neg (by decide), h, b1_some]
  unfold kR
  rcases hb with hb | hb | hb
  · rw [hb]; rfl
  · rw [hb, Bool.or_true, Bool.true_or, if_pos rfl]
  · rw [hb, Bool.or_true, if_pos rfl]
theorem f_make {c n : Nat} {ms : List (Gm → Option R)} {rs : List R} {ds es : List D} (hl : rs.length = n) (h : allVa rs = some ds) (k : inis ms (.un :: ds.map .va) = some es) : cMkN c n ms rs = some (.va (.ins c es)) := by
  rw [cMkN_def, if_pos hl, cMk_def, h, b1_some, k]; rfl
theorem f_isb (p : Pc) : cIsB (.va (insP p)) = some (.va (.bl (isBr p))) := by cases p <;> rfl
theorem f_pcLen (p : Pc) : oFld "length" (.va (insP p)) = some (.va (.int (pcLen p))) := by cases p <;> rfl
theorem f_fld {f : Str} {c : Nat} {ds : List D} {d : D} (h : fldD c ds f = some d) : oFld f (.va (.ins c ds)) = some (.va d) := by rw [oFld_ins, h]; rfl
theorem pc_br {p : Pc} {b : Bg} (h : pcBr p = some b) : insP p = insB b := by
  cases p with
  | inl n => cases h
  | inr c => cases h; rfl
/-- walks -/
theorem i_seq {m : Gm → Option R} {r : R} {p : List Nat × List D} (h : m g = some r) (k : seqR r = some p) : iSeq m g = some p := by rw [iSeq_def, h, b1_some, k]
theorem i_A {f : List R → Option (List Nat × List D)} {ms : Gm → Option (List R)} {rs : List R} {p : List Nat × List D} (h : ms g = some rs) (k : f rs = some p) : iA f ms g = some p := by rw [iA_def, h, b1_some, k]
def rgI (a b : Int) : List Int := (List.range (b - a).toNat).map fun i : Nat => a + (i : Int)
theorem rangeL_rgI (lo : Int) (n : Nat) : rangeL lo n = ((List.range n).map fun i : Nat => lo + (i : Int)).map D.int := by
  apply List.ext_getElem?
  intro i
  by_cases h : i < n
  · rw [rangeL_get n lo i h, List.getElem?_map, List.getElem?_map, List.getElem?_range h]; rfl
  · rw [List.getElem?_eq_none (by rw [rangeL_length]; omega), List.getElem?_eq_none (by simp; omega)]
theorem f_rg1 {j : Int} (h : -4611686018427387904 ≤ j ∧ j < 4611686018427387904) : rg1R [.va (.int j)] = some ([], (rgI 0 j).map D.int) := by
  rw [rg1R_def, if_pos (by omega), rangeL_rgI, rgI, Int.sub_zero]
theorem f_rg2 {i j : Int} (h : (-4611686018427387904 ≤ i ∧ i < 4611686018427387904) ∧ -4611686018427387904 ≤ j ∧ j < 4611686018427387904) : rg2R [.va (.int i), .va (.int j)] = some ([], (rgI i j).map D.int) := by
  rw [rg2R_def, if_pos (by omega), rangeL_rgI, rgI]
def enI {α : Type} (xs : List α) : List (Int × α) := xs.zipIdx.map fun p => ((p.2 : Int), p.1)
theorem f_en {r : R} {ps : List Nat} {e : α → D} {xs : List α} (h : listA r = some (ps, xs.map e)) : enR [r] = some (ps, (enI xs).map (eP2 D.int e)) := by
  rw [enR_def, h]
  show some (ps, enumL 0 (xs.map e)) = _
  rw [enumL_map, enI, List.map_map]
  rfl
/-- comprehensions -/
theorem x_lc {mi : Gm → Option (List Nat × List D)} {f : D → Gm → Option Gm} {el : Gm → Option R} {own : List Nat} {ps : List Nat} {e : α → D} {e' : β → D} {xs : List α} {v : α → β} (r : α → R) (hm : mi g = some (ps, xs.map e)) (hl : xs.length ≤ 16777216) (h : ∀ x ∈ xs, ∃ g1, f (e x) (wipeG g own) = some g1 ∧ el g1 = some (r x)) (hr : ∀ x, (r x).isBw = false ∧ (r x).d = e' (v x) := by exact fun _ => ⟨rfl, rfl⟩) : eLc mi f bY el own g = some (.tm ((xs.map v).map e')) := by
  rw [eLc_def, hm, b1_some, lcO_def, if_pos (by rw [List.length_map]; exact hl), compL_map f bY el (wipeG g own) e (fun x => e' (v x)) xs, List.map_map]
  · rfl
  · intro x hx rest
    obtain ⟨g1, h1, h2⟩ := h x hx
    obtain ⟨h3, h4⟩ := hr x
    rw [h1, b1_some, cpG_def, bY_def, b1_some, cpK_def, if_pos rfl, h2, b1_some]
    unfold cpR
    rw [h3, h4]; rfl
theorem compL_mapO {f : D → Gm → Option Gm} {el : Gm → Option R} {g0 : Gm} {e : α → D} {e' : β → D} (p : α → Option β) (r : β → R) (hr : ∀ x, (r x).isBw = false ∧ (r x).d = e' x) : ∀ (xs : List α), (∀ x ∈ xs, ∃ g1, f (e x) g0 = some g1 ∧ Sm (el g1) (p x) fun y z => z = r y) → ∀ ys, mapO p xs = some ys → compL f bY el g0 (xs.map e) = some (ys.map e')
  | [], _, ys, h => by cases h; rfl
  | x :: xs, step, ys, h => by
    obtain ⟨g1, h1, h2⟩ := step x List.mem_cons_self
    cases e1 : p x with
    | none => rw [mapO, e1] at h; cases h
    | some y =>
      rw [mapO, e1, b1_some] at h
      cases e2 : mapO p xs with
      | none => rw [e2] at h; cases h
      | some zs =>
        rw [e2, b1_some] at h
        cases h
        obtain ⟨h3, h4⟩ := hr y
        rw [List.map_cons, compL_cons, h1, b1_some, cpG_def, bY_def, b1_some, cpK_def, if_pos rfl, h2.eq e1, b1_some, compL_mapO p r hr xs (fun z hz => step z (List.mem_cons_of_mem _ hz)) zs e2]
        unfold cpR
        rw [h3, h4]; rfl
theorem x_lcO {mi : Gm → Option (List Nat × List D)} {f : D → Gm → Option Gm} {el : Gm → Option R} {own : List Nat} {ps : List Nat} {e : α → D} {e' : β → D} {xs : List α} {p : α → Option β} {ys : List β} (r : β → R) (hm : mi g = some (ps, xs.map e)) (hl : xs.length ≤ 16777216) (h : ∀ x ∈ xs, ∃ g1, f (e x) (wipeG g own) = some g1 ∧ Sm (el g1) (p x) fun y z => z = r y) (hy : mapO p xs = some ys) (hr : ∀ x, (r x).isBw = false ∧ (r x).d = e' x := by exact fun _ => ⟨rfl, rfl⟩) : eLc mi f bY el own g = some (.tm (ys.map e')) := by
  rw [eLc_def, hm, b1_some, lcO_def, if_pos (by rw [List.length_map]; exact hl), compL_mapO p r hr xs h ys hy]; rfl
theorem compL_fmapO {f : D → Gm → Option Gm} {c : Gm → Option Bool} {el : Gm → Option R} {g0 : Gm} {e : α → D} {e' : β → D} (k : α → Option Bool) (p : α → Option β) (r : β → R) (hr : ∀ x, (r x).isBw = false ∧ (r x).d = e' x) : ∀ (xs : List α), (∀ x ∈ xs, ∃ g1, f (e x) g0 = some g1 ∧ Sm (c g1) (k x) (fun y z => z = y) ∧ (Sm (el g1) (p x) fun y z => z = r y)) → ∀ ys, fmapO k p xs = some ys → compL f c el g0 (xs.map e) = some (ys.map e')
  | [], _, ys, h => by cases h; rfl
  | x :: xs, step, ys, h => by
    obtain ⟨g1, h1, h5, h2⟩ := step x List.mem_cons_self
    cases e0 : k x with
    | none => rw [fmapO, e0] at h; cases h
    | some q =>
      rw [fmapO, e0, b1_some] at h
      have e00 := h5.eq (k := id) e0
      cases q with
      | false =>
        rw [if_neg (by decide)] at h
        rw [List.map_cons, compL_cons, h1, b1_some, cpG_def, e00, b1_some, cpK_def]
        show (if false = true then _ else _) = _
        rw [if_neg (by decide)]
        exact compL_fmapO k p r hr xs (fun z hz => step z (List.mem_cons_of_mem _ hz)) ys h
      | true =>
        rw [if_pos rfl] at h
        cases e1 : p x with
        | none => rw [e1] at h; cases h
        | some y =>
          rw [e1, b1_some] at h
          cases e2 : fmapO k p xs with
          | none => rw [e2] at h; cases h
          | some zs =>
            rw [e2, b1_some] at h
            cases h
            obtain ⟨h3, h4⟩ := hr y
            rw [List.map_cons, compL_cons, h1, b1_some, cpG_def, e00, b1_some, cpK_def]
            show (if true = true then _ else _) = _
            rw [if_pos rfl, h2.eq e1, b1_some, compL_fmapO k p r hr xs (fun z hz => step z (List.mem_cons_of_mem _ hz)) zs e2]
            unfold cpR
            rw [h3, h4]; rfl
theorem x_lcFO {mi : Gm → Option (List Nat × List D)} {f : D → Gm → Option Gm} {c : Gm → Option Bool} {el : Gm → Option R} {own : List Nat} {ps : List Nat} {e : α → D} {e' : β → D} {xs : List α} {k : α → Option Bool} {p : α → Option β} {ys : List β} (r : β → R) (hm : mi g = some (ps, xs.map e)) (hl : xs.length ≤ 16777216) (h : ∀ x ∈ xs, ∃ g1, f (e x) (wipeG g own) = some g1 ∧ Sm (c g1) (k x) (fun y z => z = y) ∧ (Sm (el g1) (p x) fun y z => z = r y)) (hy : fmapO k p xs = some ys) (hr : ∀ x, (r x).isBw = false ∧ (r x).d = e' x := by exact fun _ => ⟨rfl, rfl⟩) : eLc mi f c el own g = some (.tm (ys.map e')) := by
  rw [eLc_def, hm, b1_some, lcO_def, if_pos (by rw [List.length_map]; exact hl), compL_fmapO k p r hr xs h ys hy]; rfl
end
end BK
namespace BK
open PySem PySem.Spec L2
set_option autoImplicit false
theorem j_lt {α γ : Type} {m n : Gm → Option Out} {P : α → Out → Prop} {t : γ → Option α} (G : γ → Gm) {v : γ} (h : ∀ x, J m n (G x) (t x) P) : J m n (G v) (lt v t) P := h v
section
variable {g : Gm} {α β γ δ ε ζ : Type}
theorem x_get {m : Gm → Option R} {e : α → D} {o : Option α} {x : α} (p : m g = some (.va (eO e o))) (h : o = some x) : m g = some (.va (e x)) := by rw [p, h]; rfl
theorem x_br {m : Gm → Option R} {q : Pc} {b : Bg} (p : m g = some (.va (insP q))) (h : pcBr q = some b) : m g = some (.va (insB b)) := by rw [p, pc_br h]
def dInt : D → Option Int
  | .int i => some i
  | _ => none
def dStr : D → Option Str
  | .str i => some i
  | _ => none
theorem dInt_eq {d : D} {i : Int} (h : dInt d = some i) : d = .int i := by cases d <;> first | (cases h; rfl) | cases h
theorem dStr_eq {d : D} {i : Str} (h : dStr d = some i) : d = .str i := by cases d <;> first | (cases h; rfl) | cases h
theorem x_dInt {m : Gm → Option R} {d : D} {i : Int} (p : m g = some (.va d)) (h : dInt d = some i) : m g = some (.va (.int i)) := by rw [p, dInt_eq h]
theorem x_dStr {m : Gm → Option R} {d : D} {i : Str} (p : m g = some (.va d)) (h : dStr d = some i) : m g = some (.va (.str i)) := by rw [p, dStr_eq h]
theorem f_divK {i k : Int} (h : 0 < k ∧ k < 18446744073709551616) : oDiv (.va (.int i)) (.va (.int k)) = some (.va (.int (i / k))) := by
  rw [oDiv_def, if_pos (cdivB_small h.1 h.2), fdiv_nn (by omega)]
theorem f_modK {i k : Int} (h : 0 < k) : oMod (.va (.int i)) (.va (.int k)) = some (.va (.int (i % k))) := by
  rw [oMod_def, if_pos (by omega), fmod_nn (by omega)]
theorem f_powK {i j k : Int} (h : (0 ≤ i ∧ i < 18446744073709551616) ∧ 0 ≤ j ∧ j ≤ 1000000) (e : i ^ j.toNat = k) : oPow (.va (.int i)) (.va (.int j)) = some (.va (.int k)) := by
  rw [oPow_def, if_pos (cpow_small (by omega) h.1.2 h.2.1 h.2.2), e]
def eqD (a b : D) : Option Bool := eqR (.va a) (.va b)
theorem eqD_R {a b : R} {x y : D} {k : Bool} (h : eqD x y = some k) (ha : a.d = x) (hb : b.d = y) : eqR a b = some k := by
  subst ha; subst hb
  rw [← h]; rfl
def ixD' (d : D) (i : Int) : Option D := (oIx (.va d) (.va (.int i))).bind fun r => match r with
  | .va d => some d
  | _ => none
theorem f_ixD {d x : D} {i : Int} (h : ixD' d i = some x) : oIx (.va d) (.va (.int i)) = some (.va x) := by
  unfold ixD' at h
  obtain ⟨r, e1, e2⟩ := Option.bind_eq_some_iff.mp h
  split at e2
  · cases e2; exact e1
  · cases e2
end
instance iq1 : DecidableEq (List (Int × Int × Int)) := inferInstance
instance iq2 : DecidableEq (Int × List (Int × Int × Int)) := inferInstance
instance iq3 : DecidableEq ((Int × Int) × Int × List (Int × Int × Int)) := inferInstance
instance iq4 : DecidableEq (Str × (Int × Int) × Int × (List (Int × Int × Int))) := inferInstance
end BK
namespace BK
open PySem PySem.Spec L2
set_option autoImplicit false
/-! ### reckonings shown -/
def Gs {α : Type} (s : Option α) (P : α → Prop) : Prop := ∃ r, s = some r ∧ P r
section
variable {α β γ σ ρ : Type} {P : α → Prop} {s : Option α}
theorem gs_some {v : α} (h : P v) : Gs (some v) P := ⟨v, rfl, h⟩
theorem gs_of {v : α} (e : s = some v) (h : P v) : Gs s P := ⟨v, e, h⟩
theorem Gs.mono {Q : α → Prop} (h : Gs s Q) (k : ∀ x, Q x → P x) : Gs s P := by
  obtain ⟨r, e, q⟩ := h
  exact ⟨r, e, k r q⟩
theorem Gs.eq {v : α} (h : Gs s fun x => x = v) : s = some v := by
  obtain ⟨r, e, rfl⟩ := h
  exact e
theorem gs_b1 {p : Option γ} {t : γ → Option α} {Q : γ → Prop} (h : Gs p Q) (k : ∀ x, Q x → Gs (t x) P) : Gs (b1 p t) P := by
  obtain ⟨x, e, q⟩ := h
  rw [e, b1_some]
  exact k x q
theorem gs_eq {p : Option γ} {t : γ → Option α} {x : γ} (h : p = some x) (k : Gs (t x) P) : Gs (b1 p t) P := by
  rw [h, b1_some]
  exact k
theorem gs_lt {v : γ} {t : γ → Option α} (k : Gs (t v) P) : Gs (lt v t) P := k
theorem gs_ltE {v : γ} {t : γ → Option α} (k : ∀ x, x = v → Gs (t x) P) : Gs (lt v t) P := k v rfl
theorem gs_grd {p : Prop} [Decidable p] (h : p) (k : Gs s P) : Gs (grd p s) P := by rw [grd_pos h]; exact k
theorem gs_if {c : Bool} {a b : Option α} (h1 : c = true → Gs a P) (h2 : c = false → Gs b P) : Gs (if c = true then a else b) P := by
  cases c
  · exact h2 rfl
  · exact h1 rfl
theorem gs_ifT {c : Bool} {a b : Option α} (h : c = true) (k : Gs a P) : Gs (if c = true then a else b) P := by rw [if_pos h]; exact k
theorem gs_ifF {c : Bool} {a b : Option α} (h : c = false) (k : Gs b P) : Gs (if c = true then a else b) P := by rw [h, if_neg (by decide)]; exact k
theorem forO_inv {body : α → σ → Option σ} (I : List α → σ → Prop) (xs : List α) (step : ∀ pre x st, (∃ post, xs = pre ++ x :: post) → I pre st → Gs (body x st) (I (pre ++ [x]))) : ∀ st, I [] st → Gs (forO body xs st) (I xs) := by
  have key : ∀ (post pre : List α) st, xs = pre ++ post → I pre st → Gs (forO body post st) (I xs) := by
    intro post
    induction post with
    | nil =>
      intro pre st e h
      rw [List.append_nil] at e
      subst e
      exact gs_some h
    | cons x post ih =>
      intro pre st e h
      exact gs_b1 (step pre x st ⟨post, e⟩ h) fun st' h' => ih (pre ++ [x]) st' (by rw [e, List.append_assoc]; rfl) h'
  exact fun st h => key xs [] st rfl h
theorem gs_forO {γ : Type} {body : γ → σ → Option σ} {xs : List γ} {st0 : σ} {t : σ → Option α} (I : List γ → σ → Prop) (h0 : I [] st0) (step : ∀ pre x st, (∃ post, xs = pre ++ x :: post) → I pre st → Gs (body x st) (I (pre ++ [x]))) (k : ∀ st, I xs st → Gs (t st) P) : Gs (b1 (forO body xs st0) t) P := gs_b1 (forO_inv I xs step st0 h0) k
theorem forO_map {f : β → α} {body : α → σ → Option σ} : ∀ (xs : List β) st, forO body (xs.map f) st = forO (fun x => body (f x)) xs st
  | [], _ => rfl
  | x :: xs, st => by
    show b1 (body (f x) st) (forO body (xs.map f)) = b1 (body (f x) st) (forO (fun x => body (f x)) xs)
    congr 1
    funext st
    exact forO_map xs st
theorem forC_map {f : β → α} {body : α → σ → Option (Ctl σ ρ)} : ∀ (xs : List β) st, forC body (xs.map f) st = forC (fun x => body (f x)) xs st
  | [], _ => rfl
  | x :: xs, st => by
    show b1 (body (f x) st) _ = b1 (body (f x) st) _
    congr 1
    funext c
    cases c with
    | nx s => exact forC_map xs s
    | bk s => rfl
    | rt r => rfl
theorem rgI_nat {m : Int} {n : Nat} (h : m = n) : rgI 0 m = (List.range n).map fun i : Nat => (i : Int) := by
  subst h
  unfold rgI
  rw [Int.sub_zero, Int.toNat_natCast]
  exact List.map_congr_left fun i _ => Int.zero_add _
theorem gs_rg {body : Int → σ → Option σ} {st0 : σ} {t : σ → Option α} {m : Int} (n : Nat) (I : Nat → σ → Prop) (hm : m = n) (h0 : I 0 st0) (step : ∀ (k : Nat) st, k < n → I k st → Gs (body (k : Int) st) (I (k + 1))) (q : ∀ st, I n st → Gs (t st) P) : Gs (b1 (forO body (rgI 0 m) st0) t) P := by
  rw [rgI_nat hm, forO_map]
  refine gs_forO (fun pre st => I pre.length st) h0 ?_ ?_
  · intro pre x st hx h
    obtain ⟨h1, h2⟩ := range_split hx
    have e : pre.length = x := by rw [h2, List.length_range]
    rw [e] at h
    rw [List.length_append, e]
    exact step x st h1 h
  · intro st h
    rw [List.length_range] at h
    exact q st h
/-- a loop that may hand back: it goes through -/
theorem forC_inv {body : α → σ → Option (Ctl σ ρ)} (I : List α → σ → Prop) (xs : List α) (step : ∀ pre x st, (∃ post, xs = pre ++ x :: post) → I pre st → Gs (body x st) fun c => ∃ s, c = .nx s ∧ I (pre ++ [x]) s) : ∀ st, I [] st → Gs (forC body xs st) fun c => ∃ s, c = .nx s ∧ I xs s := by
  have key : ∀ (post pre : List α) st, xs = pre ++ post → I pre st → Gs (forC body post st) fun c => ∃ s, c = .nx s ∧ I xs s := by
    intro post
    induction post with
    | nil =>
      intro pre st e h
      rw [List.append_nil] at e
      subst e
      exact gs_some ⟨st, rfl, h⟩
    | cons x post ih =>
      intro pre st e h
      refine gs_b1 (step pre x st ⟨post, e⟩ h) fun c hc => ?_
      obtain ⟨s, rfl, h'⟩ := hc
      exact ih (pre ++ [x]) s (by rw [e, List.append_assoc]; rfl) h'
  exact fun st h => key xs [] st rfl h
theorem gs_forC {γ : Type} {body : γ → σ → Option (Ctl σ ρ)} {xs : List γ} {st0 : σ} {t : σ → Option α} {u : ρ → Option α} (I : List γ → σ → Prop) (h0 : I [] st0) (step : ∀ pre x st, (∃ post, xs = pre ++ x :: post) → I pre st → Gs (body x st) fun c => ∃ s, c = .nx s ∧ I (pre ++ [x]) s) (k : ∀ st, I xs st → Gs (t st) P) : Gs (b1 (forC body xs st0) fun c => ctl c t u) P := by
  refine gs_b1 (forC_inv I xs step st0 h0) fun c hc => ?_
  obtain ⟨s, rfl, h⟩ := hc
  exact k s h
/-- .. or hands back at the first item of a kind -/
theorem forC_find {body : α → Unit → Option (Ctl Unit ρ)} (p : α → Bool) (out : α → ρ) : ∀ (xs : List α), (∀ x ∈ xs, (p x = true → body x () = some (.rt (out x))) ∧ (p x = false → body x () = some (.nx ()))) → forC body xs () = some (match xs.find? p with | some x => .rt (out x) | none => .nx ())
  | [], _ => rfl
  | x :: xs, h => by
    obtain ⟨h1, h2⟩ := h x List.mem_cons_self
    rw [forC]
    cases e : p x with
    | true => rw [h1 e, List.find?_cons_of_pos e]; rfl
    | false =>
      rw [h2 e, b1_some, List.find?_cons_of_neg (by rw [e]; decide)]
      exact forC_find p out xs fun y hy => h y (List.mem_cons_of_mem _ hy)
theorem mapO_eq {f : α → Option β} {g : α → β} : ∀ (xs : List α), (∀ x ∈ xs, f x = some (g x)) → mapO f xs = some (xs.map g)
  | [], _ => rfl
  | x :: xs, h => by
    rw [mapO, h x List.mem_cons_self, b1_some, mapO_eq xs fun y hy => h y (List.mem_cons_of_mem _ hy), b1_some, List.map_cons]
theorem fmapO_eq {c : α → Option Bool} {k : α → Bool} {f : α → Option β} {g : α → β} : ∀ (xs : List α), (∀ x ∈ xs, c x = some (k x)) → (∀ x ∈ xs, k x = true → f x = some (g x)) → fmapO c f xs = some ((xs.filter k).map g)
  | [], _, _ => rfl
  | x :: xs, h, h' => by
    have ih := fmapO_eq xs (fun y hy => h y (List.mem_cons_of_mem _ hy)) fun y hy => h' y (List.mem_cons_of_mem _ hy)
    rw [fmapO, h x List.mem_cons_self, b1_some]
    cases e : k x with
    | true => rw [if_pos rfl, h' x List.mem_cons_self e, b1_some, ih, b1_some, List.filter_cons_of_pos e, List.map_cons]
    | false => rw [if_neg (by decide), ih, List.filter_cons_of_neg (by rw [e]; decide)]
end
/-! ### plain data compared -/
/-- plain data to a depth -/
def pl : Nat → D → Bool
  | _, .non => true
  | _, .bl _ => true
  | _, .int _ => true
  | _, .str _ => true
  | n + 1, .lst xs => decide (xs.length ≤ 1000000) && xs.all (pl n)
  | n + 1, .tup xs => decide (xs.length ≤ 1000000) && xs.all (pl n)
  | _, _ => false
noncomputable def sameG (a b : D) : Option Bool := @grd _ (a = b ∧ pl 9 a = true) (Classical.propDecidable _) (some true)
theorem sameG_ok {a b : D} (h : a = b) (hp : pl 9 b = true) : sameG a b = some true := by
  subst h
  exact @grd_pos _ _ (Classical.propDecidable _) _ ⟨rfl, hp⟩
theorem sameG_inv {a b : D} {r : Bool} (h : sameG a b = some r) : a = b ∧ pl 9 a = true ∧ r = true := by
  unfold sameG grd at h
  split at h
  · rename_i c
    cases h
    exact ⟨c.1, c.2, rfl⟩
  · cases h
structure PL (n : Nat) {α : Type} (e : α → D) : Prop where
  pl : ∀ x, pl n (e x) = true
@[simp] theorem pl_non (n : Nat) : pl n .non = true := by cases n <;> rfl
@[simp] theorem pl_bl (n : Nat) (b : Bool) : pl n (.bl b) = true := by cases n <;> rfl
@[simp] theorem pl_int (n : Nat) (b : Int) : pl n (.int b) = true := by cases n <;> rfl
@[simp] theorem pl_str (n : Nat) (b : Str) : pl n (.str b) = true := by cases n <;> rfl
theorem pl_lst (n : Nat) (xs : List D) : pl (n + 1) (.lst xs) = (decide (xs.length ≤ 1000000) && xs.all (pl n)) := rfl
theorem pl_tup (n : Nat) (xs : List D) : pl (n + 1) (.tup xs) = (decide (xs.length ≤ 1000000) && xs.all (pl n)) := rfl
@[simp] theorem pl_t2 (n : Nat) (a b : D) : pl (n + 1) (.tup [a, b]) = (pl n a && pl n b) := by simp [pl_tup]
@[simp] theorem pl_t3 (n : Nat) (a b c : D) : pl (n + 1) (.tup [a, b, c]) = (pl n a && (pl n b && pl n c)) := by simp [pl_tup]
@[simp] theorem pl_t4 (n : Nat) (a b c d : D) : pl (n + 1) (.tup [a, b, c, d]) = (pl n a && (pl n b && (pl n c && pl n d))) := by simp [pl_tup]
@[simp] theorem pl_l1 (n : Nat) (a : D) : pl (n + 1) (.lst [a]) = pl n a := by simp [pl_lst]
@[simp] theorem pl_l2 (n : Nat) (a b : D) : pl (n + 1) (.lst [a, b]) = (pl n a && pl n b) := by simp [pl_lst]
@[simp] theorem pl_l3 (n : Nat) (a b c : D) : pl (n + 1) (.lst [a, b, c]) = (pl n a && (pl n b && pl n c)) := by simp [pl_lst]
theorem pl_L {n : Nat} {α : Type} {e : α → D} {xs : List α} (hl : xs.length ≤ 1000000) (h : ∀ x ∈ xs, pl n (e x) = true) : pl (n + 1) (eL e xs) = true := by
  rw [pl_lst, List.length_map, decide_eq_true hl, Bool.true_and, List.all_map, List.all_eq_true]
  exact h
end BK
namespace BK
open PySem PySem.Spec L2
set_option autoImplicit false
/-! ### numbers, fractions -/
/-- a fraction as a pair -/
def qt (q : Rat) : Fr := (q.num, (q.den : Int))
@[simp] theorem qt_1 (q : Rat) : (qt q).1 = q.num := rfl
@[simp] theorem qt_2 (q : Rat) : (qt q).2 = (q.den : Int) := rfl
/-! partly reckoned operators -/
theorem cmul_s {a b : Int} (ha : a.natAbs < 18446744073709551616) (hb : b.natAbs < 18446744073709551616) : CMulB a b := (Sz.small ha).cmul (Sz.small hb) (by omega) (by omega) (by omega)
section
variable {α β σ : Type}
/-- an item of a written list -/
theorem gs_pick {xs : List α} {i : Int} (h0 : 0 ≤ i) (h1 : i < xs.length) : Gs (atI xs i) fun x => x ∈ xs := by
  obtain ⟨x, hx, e⟩ := atI_lt xs i h0 h1
  exact ⟨x, e, hx⟩
theorem atI_nat {xs : List α} {i : Int} {k : Nat} (h : i = k) (hk : k < xs.length) : atI xs i = some xs[k] := by
  subst h
  rw [atI_ofNat, List.getElem?_eq_getElem hk]
theorem atI_last' (xs : List α) (x : α) : atI (xs ++ [x]) (-(1 : Int)) = some x := atI_last xs x
theorem enI_length (xs : List α) : (enI xs).length = xs.length := by unfold enI; simp
theorem enI_split {xs : List α} {pre : List (Int × α)} {x : Int × α} (h : ∃ post, enI xs = pre ++ x :: post) : x.1 = pre.length ∧ (∃ post, xs = pre.map (·.2) ++ x.2 :: post) := by
  obtain ⟨post, h⟩ := h
  have h1 : (enI xs)[pre.length]? = some x := by rw [h]; simp
  have h2 : (enI xs).map (·.2) = xs := by
    unfold enI
    rw [List.map_map]
    exact List.zipIdx_map_fst 0 xs
  constructor
  · unfold enI at h1
    rw [List.getElem?_map, List.getElem?_zipIdx] at h1
    obtain ⟨a, ha, e⟩ := Option.map_eq_some_iff.mp h1
    obtain ⟨b, hb, e2⟩ := Option.map_eq_some_iff.mp ha
    rw [← e, ← e2]
    simp
  · rw [h] at h2
    exact ⟨post.map (·.2), by rw [← h2]; simp⟩
end
end BK
namespace BK
open PySem PySem.Spec L2
set_option autoImplicit false
/-! ### moments by 27720th parts -/
def gr (z : Int) : Rat := Rat.divInt z 27720
/-- parts of a minute for a length, by a speed -/
def stp (sp : Int) : Int := 27720 / sp
/-! wheels -/
def farW (ws : List Wh) : Int := ((ws.drop 1).map (·.1)).sum
def offs (ws : List Wh) : List Int := (List.range ws.length).map fun i => farW (ws.take (i + 1))
theorem offs_len (ws : List Wh) : (offs ws).length = ws.length := by simp [offs]
theorem offs_snoc (ws : List Wh) (x : Wh) : offs (ws ++ [x]) = offs ws ++ [farW (ws ++ [x])] := by
  unfold offs
  rw [List.length_append, List.length_singleton, List.range_succ, List.map_append, List.map_singleton]
  congr 1
  · apply List.map_congr_left
    intro i hi
    rw [List.mem_range] at hi
    rw [List.take_append_of_le_length (by omega)]
  · rw [List.take_of_length_le (by simp)]
theorem farW_snoc (ws : List Wh) (x : Wh) (h : ws ≠ []) : farW (ws ++ [x]) = farW ws + x.1 := by
  cases ws with
  | nil => exact absurd rfl h
  | cons w ws => simp [farW]
/-- a crossing by parts of a minute -/
structure XZ where
  name : Str
  at_ : Int
  speed : Int
  wheels : List Wh
/-- when each wheel is on a bridge of a length -/
def timesZ (len : Int) (x : XZ) : List (Int × Int) := (offs x.wheels).map fun o => (x.at_ + o * stp x.speed, x.at_ + o * stp x.speed + len * stp x.speed)
abbrev SpZ := Int × Int × Int × Int
def spanZ (len : Int) (x : XZ) : List SpZ := ((timesZ len x).zip x.wheels).map fun p => (p.1.1, p.1.2, p.2.2.1, p.2.2.2)
def spansZ (len : Int) (name : Str) (xs : List XZ) : List SpZ := (xs.filter fun x => decide (x.name = name)).flatMap (spanZ len)
def onZ (m : Int) (s : SpZ) : Bool := decide (s.1 ≤ m) && decide (m < s.2.1)
def sumsZ (ss : List SpZ) (m : Int) : Int × Int := (((ss.filter (onZ m)).map (·.2.2.1)).sum, ((ss.filter (onZ m)).map (·.2.2.2)).sum)
/-- a crossing of sizes that are reckoned with -/
structure XOk (x : XZ) : Prop where
  a0 : -1000000000000000 ≤ x.at_ ∧ x.at_ ≤ 1000000000000000
  sp : 1 ≤ x.speed ∧ x.speed ≤ 12
  wl : x.wheels.length ≤ 64
  wg : ∀ w ∈ x.wheels, 0 ≤ w.1 ∧ w.1 ≤ 1000
end BK
namespace BK
open PySem PySem.Spec L2
set_option autoImplicit false
/-! ### drawn bridges, roads, wheels -/
abbrev P5 := Str × Int × Int × Int × Int
/-- a drawn shut hour, of one of the bridges -/
structure HOk (bs : List P5) (s : Str × Int × Int) : Prop where
  b : s.1 ∈ bs.map (·.1)
  h : 0 ≤ s.2.1 ∧ s.2.1 < s.2.2 ∧ s.2.2 ≤ 1000
theorem cut_len {α : Type} (xs : List α) (a b : Option Int) : (cutL xs a b).length ≤ xs.length := by
  unfold cutL
  rw [List.length_take, List.length_drop]
  omega
theorem rgI_mem {a b x : Int} (h : x ∈ rgI a b) : a ≤ x ∧ x < b := by
  unfold rgI at h
  obtain ⟨i, hi, rfl⟩ := List.mem_map.mp h
  rw [List.mem_range] at hi
  omega
end BK
namespace BK
open PySem PySem.Spec L2
set_option autoImplicit false
/-! ### sorted(some, key=lambda fraction: fraction[0] * (bottom // fraction[1])) -/
end BK
namespace BK
open PySem PySem.Spec L2
set_option autoImplicit false
end BK
namespace BK
open PySem PySem.Spec L2
set_option autoImplicit false
/-! ### texts -/
abbrev S' (l : List Nat) : Str := ⟨l.toArray⟩
theorem str_len (x : Str) : x.length = x.cps.toList.length := by simp [Str.length]
theorem S'_len (l : List Nat) : (S' l).length = l.length := by rw [str_len]
theorem join_le (sep : Str) (zs : List Str) : (Txt.join sep zs).length ≤ (zs.map (·.length)).sum + zs.length * sep.length := by
  rw [show Txt.join sep zs = Str.join sep zs from TL.join_eq sep zs]
  exact StrLaws.join_length_le sep zs
/-- numbers as texts -/
theorem num_nat (n : Nat) : (toString (n : Int) : Str) = S' (TL.numL n) := SX.num_S n
theorem num_len {i : Int} {k : Nat} (h0 : 0 ≤ i) (hk : 0 < k) (h : i < 10 ^ k) : (toString i : Str).length ≤ k ∧ 1 ≤ (toString i : Str).length := by
  obtain ⟨n, rfl⟩ := Int.eq_ofNat_of_zero_le h0
  rw [num_nat, S'_len]
  have e : ((10 : Int) ^ k) = ((10 ^ k : Nat) : Int) := by simp
  rw [e] at h
  exact ⟨TL.numL_len hk (Int.ofNat_lt.mp h), List.length_pos_iff.mpr (TL.numL_ne n)⟩
/-- one sign -/
theorem sgAt_one (z : Str) (i : Int) (h0 : 0 ≤ i) (h1 : i < z.length) : Gs (sgAt z i) fun x => x.length = 1 := by
  unfold sgAt
  obtain ⟨c, e, _⟩ := gs_pick (xs := z.cps.toList) h0 (by rw [str_len] at h1; exact h1)
  rw [e]
  exact ⟨_, rfl, rfl⟩
end BK
namespace BK
open PySem PySem.Spec L2
set_option autoImplicit false
/-! ### numbers and fractions as texts -/
end BK
namespace BK
open PySem PySem.Spec L2
set_option autoImplicit false
/-! ### more block rules -/
end BK
namespace BK
open PySem PySem.Spec L2
set_option autoImplicit false
/-! ### the greatest of some, sums over some, bits -/
/-- r is the greatest of the v x of the x of l with c x, and 0 -/
def Mx {α : Type} (l : List α) (c : α → Prop) (v : α → Int) (r : Int) : Prop := 0 ≤ r ∧ (∀ x ∈ l, c x → v x ≤ r) ∧ (r = 0 ∨ ∃ x ∈ l, c x ∧ r = v x)
section
variable {α β : Type} {l : List α} {c : α → Prop} {v : α → Int} {r : Int}
theorem Mx.nil : Mx ([] : List α) c v 0 := ⟨Int.le_refl _, (fun _ h => by cases h), .inl rfl⟩
theorem Mx.yes {x : α} (h : Mx l c v r) (hc : c x) : Mx (l ++ [x]) c v (max r (v x)) := by
  obtain ⟨h0, h1, h2⟩ := h
  refine ⟨by omega, ?_, ?_⟩
  · intro y hy hcy
    rw [List.mem_append, List.mem_singleton] at hy
    rcases hy with hy | rfl
    · have := h1 y hy hcy
      omega
    · omega
  · by_cases hle : v x ≤ r
    · rw [show max r (v x) = r from by omega]
      rcases h2 with h2 | ⟨y, hy, hcy, e⟩
      · exact .inl h2
      · exact .inr ⟨y, List.mem_append_left _ hy, hcy, e⟩
    · exact .inr ⟨x, by simp, hc, by omega⟩
theorem Mx.no {x : α} (h : Mx l c v r) (hc : ¬ c x) : Mx (l ++ [x]) c v r := by
  obtain ⟨h0, h1, h2⟩ := h
  refine ⟨h0, ?_, ?_⟩
  · intro y hy hcy
    rw [List.mem_append, List.mem_singleton] at hy
    rcases hy with hy | rfl
    · exact h1 y hy hcy
    · exact absurd hcy hc
  · rcases h2 with h2 | ⟨y, hy, hcy, e⟩
    · exact .inl h2
    · exact .inr ⟨y, List.mem_append_left _ hy, hcy, e⟩
theorem Mx.le {l' : List β} {c' : β → Prop} {v' : β → Int} {r' : Int} (h : Mx l c v r) (h' : Mx l' c' v' r') (k : ∀ x ∈ l, c x → ∃ y ∈ l', c' y ∧ v x ≤ v' y) : r ≤ r' := by
  rcases h.2.2 with e | ⟨x, hx, hc, e⟩
  · rw [e]; exact h'.1
  · obtain ⟨y, hy, hc', hle⟩ := k x hx hc
    have := h'.2.1 y hy hc'
    omega
end
/-- the sum of w over the places below n with q -/
def sumP (n : Nat) (q : Nat → Bool) (w : Nat → Int) : Int := ((List.range n).map fun p => if q p = true then w p else 0).sum
theorem sumP_succ (n : Nat) (q : Nat → Bool) (w : Nat → Int) : sumP (n + 1) q w = sumP n q w + if q n = true then w n else 0 := by
  unfold sumP
  rw [List.range_succ, List.map_append, List.sum_append]
  simp
theorem sum_filter (l : List Nat) (q : Nat → Bool) (w : Nat → Int) : ((l.filter q).map w).sum = (l.map fun p => if q p = true then w p else 0).sum := by
  induction l with
  | nil => rfl
  | cons a l ih =>
    rw [List.map_cons, List.sum_cons, ← ih]
    by_cases h : q a = true
    · rw [List.filter_cons_of_pos h, if_pos h, List.map_cons, List.sum_cons]
    · rw [List.filter_cons_of_neg h, if_neg h]
      omega
theorem sumP_from (i n : Nat) (hi : i ≤ n) (q : Nat → Bool) (w : Nat → Int) : ((List.range (n - i)).map fun k => if q (i + k) = true then w (i + k) else 0).sum = sumP n (fun p => decide (i ≤ p) && q p) w := by
  have e : List.range n = List.range i ++ (List.range (n - i)).map (i + ·) := by
    rw [← List.range_add, show i + (n - i) = n from by omega]
  unfold sumP
  rw [e, List.map_append, List.sum_append, List.map_map]
  have h0 : ((List.range i).map fun p => if (decide (i ≤ p) && q p) = true then w p else 0).sum = 0 := by
    have : ∀ l : List Nat, (∀ x ∈ l, x < i) → (l.map fun p => if (decide (i ≤ p) && q p) = true then w p else 0).sum = 0 := by
      intro l
      induction l with
      | nil => intro _; rfl
      | cons a l ih =>
        intro h
        rw [List.map_cons, List.sum_cons, ih fun x hx => h x (List.mem_cons_of_mem _ hx)]
        have := h a List.mem_cons_self
        rw [if_neg (by simp; omega)]
        rfl
    exact this _ fun x hx => List.mem_range.mp hx
  rw [h0, Int.zero_add]
  congr 1
  apply List.map_congr_left
  intro k _
  simp
theorem bit_int (b k : Nat) : decide (Builtin.bitAnd ((b : Int) / 2 ^ k) 1 = 1) = b.testBit k := by
  have h := Bits.bit_at (x := (b : Int)) k
  rw [Int.fdiv_eq_ediv_of_nonneg _ (by exact Int.le_of_lt (Int.pow_pos (by omega)))] at h
  rw [h, Nat.testBit_eq_decide_div_mod_eq]
  have : (b : Int) / 2 ^ k % 2 = ((b / 2 ^ k % 2 : Nat) : Int) := by simp
  rw [this]
  rw [Bool.eq_iff_iff, decide_eq_true_iff, decide_eq_true_iff]
  omega
theorem pl_mono : ∀ (n : Nat) (d : D), pl n d = true → pl (n + 1) d = true := by
  intro n
  induction n with
  | zero =>
    intro d h
    cases d with
    | lst xs => cases h
    | tup xs => cases h
    | ins c fs => cases h
    | rol xs => cases h
    | dic ks xs => cases h
    | exc ks xs => cases h
    | opq a => cases h
    | ptp xs => cases h
    | _ => rfl
  | succ n ih =>
    intro d h
    cases d with
    | lst xs =>
      rw [pl_lst, Bool.and_eq_true, List.all_eq_true] at h ⊢
      exact ⟨h.1, fun x hx => ih x (h.2 x hx)⟩
    | tup xs =>
      rw [pl_tup, Bool.and_eq_true, List.all_eq_true] at h ⊢
      exact ⟨h.1, fun x hx => ih x (h.2 x hx)⟩
    | ins c fs => cases h
    | rol xs => cases h
    | dic ks xs => cases h
    | exc ks xs => cases h
    | opq a => cases h
    | ptp xs => cases h
    | _ => rfl
end BK
namespace BK
open PySem PySem.Spec L2
set_option autoImplicit false
/-! ### drawn roads of six bridges at most -/
/-- a name: one to twelve small letters -/
def NmOk (x : Str) : Prop := ∃ l : List Nat, x = S' l ∧ 1 ≤ l.length ∧ l.length ≤ 12 ∧ ∀ c ∈ l, 97 ≤ c ∧ c ≤ 122
theorem NmOk.len {x : Str} (h : NmOk x) : 1 ≤ x.length ∧ x.length ≤ 12 := by
  obtain ⟨l, rfl, h1, h2, _⟩ := h
  rw [S'_len]
  exact ⟨h1, h2⟩
def tellB (b : Bg) : D := eP6 D.str D.str D.int D.int D.int D.int ("bridge", b.name, b.length, b.bears, b.wide, b.most)
def tellO (n : Int) : D := eP2 D.str D.int ("open", n)
def tellP : Pc → D
  | .inl n => tellO n
  | .inr b => tellB b
def pcs (o0 : Int) (qs : List (Bg × Int)) : List Pc := .inl o0 :: qs.flatMap fun q => [.inr q.1, .inl q.2]
theorem pcs_snoc (o0 : Int) (qs : List (Bg × Int)) (q : Bg × Int) : pcs o0 (qs ++ [q]) = pcs o0 qs ++ [.inr q.1, .inl q.2] := by
  unfold pcs
  rw [List.flatMap_append]
  simp
theorem pcs_len (o0 : Int) (qs : List (Bg × Int)) : (pcs o0 qs).length = 1 + 2 * qs.length := by
  unfold pcs
  induction qs with
  | nil => rfl
  | cons q qs ih =>
    rw [List.flatMap_cons]
    simp at ih ⊢
    omega
structure BgOk (b : Bg) : Prop where
  l : 1 ≤ b.length ∧ b.length ≤ 1000
  br : 1 ≤ b.bears ∧ b.bears ≤ 10000000
  w : 1 ≤ b.wide ∧ b.wide ≤ 200
  m : 1 ≤ b.most ∧ b.most ≤ 10000000
end BK
namespace BK
open PySem PySem.Spec L2
set_option autoImplicit false
/-! ### pop -/
def popI {α : Type} (xs : List α) (k : Int) : Option (α × List α) := if -(2 ^ 63) ≤ k ∧ k < 2 ^ 63 then (seqIndex? k xs.length).bind fun t => xs[t]?.map fun d => (d, xs.eraseIdx t) else none
theorem popI_zero {α : Type} (x : α) (xs : List α) : popI (x :: xs) 0 = some (x, xs) := by
  unfold popI
  rw [if_pos (by omega)]
  have : seqIndex? 0 (x :: xs).length = some 0 := by
    unfold seqIndex?
    simp
  rw [this]
  rfl
section
variable {α γ : Type} {b n : Gm → Option Out} {g g1 : Gm} {P : α → Out → Prop} {s : Option α} {t : γ → Option α} {i j : Nat}
theorem popI_D {β : Type} {e : β → D} {xs : List β} {k : Int} {p : β × List β} (h : popI xs k = some p) : ∃ q : Nat, ixD (xs.map e) (.va (.int k)) = some q ∧ (xs.map e)[q]? = some (e p.1) ∧ (xs.map e).eraseIdx q = p.2.map e := by
  unfold popI at h
  split at h
  · rename_i hb
    obtain ⟨q, hq, h2⟩ := Option.bind_eq_some_iff.mp h
    obtain ⟨d, hd, rfl⟩ := Option.map_eq_some_iff.mp h2
    refine ⟨q, ?_, ?_, ?_⟩
    · unfold ixD
      rw [List.length_map]
      exact (if_pos hb).trans hq
    · rw [List.getElem?_map, hd]
      rfl
    · rw [List.eraseIdx_eq_take_drop_succ, List.eraseIdx_eq_take_drop_succ, List.map_append, List.map_take, List.map_drop]
  · cases h
theorem j_popS {β : Type} {e : β → D} {xs : List β} {mk : Gm → Option R} {k : Int} {p : β × List β} (h0 : g[i]? = some (.ow (xs.map e))) (hk : mk g = some (.va (.int k))) (hp : popI xs k = some p) (h1 : (g.set i (.ow (p.2.map e))).set j (.va (e p.1)) = g1) (K : J b n g1 s P) : J (sCons (sPopS j i mk) b) n g s P :=
  j_seq (a := sPopS j i mk) (g1 := g1) (by
    obtain ⟨q, h2, h3, h4⟩ := popI_D (e := e) hp
    unfold sPopS
    rw [h0]
    show (mk g).bind _ = _
    rw [hk]
    show (ixD (xs.map e) (.va (.int k))).bind _ = _
    rw [h2]
    show ((xs.map e)[q]?).map _ = _
    rw [h3]
    show some (Out.nx ((g.set i (.ow ((xs.map e).eraseIdx q))).set j (.va (e p.1)))) = _
    rw [h4, h1]) K
end
end BK
namespace BK
open PySem PySem.Spec L2
set_option autoImplicit false
/-! ### list(range(n)) -/
end BK
/-! ### list(reversed(a list)) -/
namespace BK
open PySem PySem.Spec L2
set_option autoImplicit false
end BK
namespace BK
open PySem PySem.Spec L2
set_option autoImplicit false
end BK
namespace BK
open PySem PySem.Spec L2
set_option autoImplicit false
end BK
namespace BK
open PySem PySem.Spec L2
set_option autoImplicit false
/-! ### the end over a head's facts, with one table -/
section
variable {K : PySem.W.Frag} {x qual : Str} {st : Stmt} {dvs : List V} {kws : List (Str × V)} {f : Addr} {fd : FuncData}
theorem funA_ofD (F : FunD K x qual (defArgs st) (defBody st) (defScope st) dvs kws f fd) : FunA K x qual st f fd := by
  obtain ⟨oc, od, dV, kV, doc, pm, an, cdv, ct, osl, e, lk, hcd, _, _⟩ := F.ex
  exact ⟨⟨oc, od, dV, kV, doc, pm, an, cdv, ct, osl, e, lk, hcd⟩, F.kp⟩
theorem fun_ofD (F : FunD K x qual (defArgs st) (defBody st) (defScope st) [] kws f fd) : Fun K x qual st f fd := by
  obtain ⟨oc, od, dV, kV, doc, pm, an, cdv, ct, osl, e, lk, hcd, hD, _⟩ := F.ex
  rcases hD with ⟨_, rfl⟩ | ⟨h, _⟩
  · exact ⟨⟨oc, od, kV, doc, pm, an, cdv, ct, osl, e, lk, hcd⟩, F.kp⟩
  · exact absurd rfl h
end
end BK
namespace BK
open PySem PySem.Spec L2
set_option autoImplicit false
/-! ### what is asked of entries -/
def meetsZ (ts : List (Int × Int)) (ss : List (Int × Int)) : Bool := ss.any fun s => ts.any fun t => decide (t.1 < 27720 * s.2) && decide (27720 * s.1 < t.2)
def mayZ (len bears : Int) (shuts : List (Int × Int)) (xs : List XZ) (x : XZ) : Bool := !meetsZ (timesZ len x) shuts && (spansZ len x.name (xs ++ [x])).all fun s => decide ((sumsZ (spansZ len x.name (xs ++ [x])) s.1).2 ≤ bears)
end BK
namespace BK
open PySem PySem.Spec L2
set_option autoImplicit false
/-! ### the moments at which an entry is forbidden, on the grid -/
/-- a crossing, entered at a moment -/
def XZ.to (x : XZ) (t : Int) : XZ := { x with at_ := t }
/-- the least moment from c on at which a crossing may enter -/
structure Least (len B : Int) (shuts : List (Int × Int)) (xs : List XZ) (x : XZ) (c m : Int) : Prop where
  ge : c ≤ m
  ok : mayZ len B shuts xs (x.to m) = true
  no : ∀ t, c ≤ t → t < m → mayZ len B shuts xs (x.to t) = false
theorem Least.uniq {len B : Int} {shuts : List (Int × Int)} {xs : List XZ} {x : XZ} {c m n : Int} (h : Least len B shuts xs x c m) (h' : Least len B shuts xs x c n) : m = n := by
  rcases Int.lt_trichotomy m n with a | a | a
  · have := h'.no m h.ge a
    rw [h.ok] at this; cases this
  · exact a
  · have := h.no n h'.ge a
    rw [h'.ok] at this; cases this
noncomputable def entZ (len B : Int) (shuts : List (Int × Int)) (xs : List XZ) (x : XZ) (c : Int) : Int := Classical.epsilon (Least len B shuts xs x c)
theorem Least.eq {len B : Int} {shuts : List (Int × Int)} {xs : List XZ} {x : XZ} {c m : Int} (h : Least len B shuts xs x c m) : entZ len B shuts xs x c = m := (Classical.epsilon_spec (p := Least len B shuts xs x c) ⟨m, h⟩).uniq h
end BK
namespace BK
open PySem PySem.Spec L2
set_option autoImplicit false
/-! ### what stands close, and what is on at one moment -/
def atZ (l : List Int) (p : Nat) : Int := l.getD p 0
theorem atZ_at {l : List Int} {p : Nat} (h : p < l.length) : atI l (p : Int) = some (atZ l p) := by
  rw [atI_ofNat]
  unfold atZ
  rw [List.getElem?_eq_getElem h, List.getD_eq_getElem?_getD, List.getElem?_eq_getElem h]
  rfl
/-- the weights of what is close to place i, from it on -/
def closeW (o w : List Int) (width : Int) (i : Nat) : Int := sumP o.length (fun p => decide (i ≤ p) && decide (atZ o p - atZ o i < width)) (atZ w)
theorem XOk.to {x : XZ} (h : XOk x) {t : Int} (ht : -1000000000000000 ≤ t ∧ t ≤ 1000000000000000) : XOk (x.to t) := ⟨ht, h.sp, h.wl, h.wg⟩
end BK
namespace BK
open PySem PySem.Spec L2
set_option autoImplicit false
/-! ### ways -/
def roundQ (rs : List (Str × Int)) (x : Str) : Option Int := (rs.find? fun r => decide (r.1 = x)).map (·.2)
/-- the ways by what is free to be left out -/
def chL (f : Bool) : List Bool := if f = true then [true, false] else [true]
def waysL (fs : List Bool) : List (List Bool) := fs.foldl (fun ws f => ws.flatMap fun w => (chL f).map fun c => w ++ [c]) [[]]
theorem waysL_snoc (fs : List Bool) (f : Bool) : waysL (fs ++ [f]) = (waysL fs).flatMap fun w => (chL f).map fun c => w ++ [c] := by
  unfold waysL
  rw [List.foldl_append]
  rfl
theorem waysL_len (fs : List Bool) : ∀ w ∈ waysL fs, w.length = fs.length := by
  generalize hn : fs.length = n
  induction n generalizing fs with
  | zero =>
    rw [List.length_eq_zero_iff.mp hn]
    intro w hw
    have : w ∈ ([[]] : List (List Bool)) := hw
    rw [List.mem_singleton] at this
    rw [this]
    rfl
  | succ n ih =>
    have hne : fs ≠ [] := by intro e; rw [e] at hn; cases hn
    obtain ⟨ini, x, rfl⟩ : ∃ ini x, fs = ini ++ [x] := ⟨fs.dropLast, fs.getLast hne, (List.dropLast_concat_getLast hne).symm⟩
    intro w hw
    rw [waysL_snoc, List.mem_flatMap] at hw
    obtain ⟨v, hv, hw⟩ := hw
    obtain ⟨c, _, rfl⟩ := List.mem_map.mp hw
    rw [List.length_append, List.length_singleton] at hn ⊢
    rw [ih ini (by omega) v hv]
theorem waysL_size (fs : List Bool) : (waysL fs).length ≤ 2 ^ fs.length := by
  generalize hn : fs.length = n
  induction n generalizing fs with
  | zero =>
    rw [List.length_eq_zero_iff.mp hn]
    decide
  | succ n ih =>
    have hne : fs ≠ [] := by intro e; rw [e] at hn; cases hn
    obtain ⟨ini, x, rfl⟩ : ∃ ini x, fs = ini ++ [x] := ⟨fs.dropLast, fs.getLast hne, (List.dropLast_concat_getLast hne).symm⟩
    rw [List.length_append, List.length_singleton] at hn
    have h := ih ini (by omega)
    rw [waysL_snoc]
    have : ∀ l : List (List Bool), (l.flatMap fun w => (chL x).map fun c => w ++ [c]).length ≤ 2 * l.length := by
      intro l
      induction l with
      | nil => simp
      | cons a l ih2 =>
        rw [List.flatMap_cons, List.length_append, List.length_map, List.length_cons]
        have : (chL x).length ≤ 2 := by unfold chL; split <;> simp
        omega
    have := this (waysL ini)
    rw [Nat.pow_succ]
    omega
def freeQ (rs : List (Str × Int)) (bs : List Bg) : List Bool := bs.map fun b => (roundQ rs b.name).isSome
/-- the ways by the bits of numbers -/
def wayB (n b : Nat) : List Bool := (List.range n).map fun k => !b.testBit (n - 1 - k)
def okW : List Bool → List Bool → Bool
  | f :: fs, w :: ws => (f || w) && okW fs ws
  | _, _ => true
theorem okW_snoc : ∀ (fs ws : List Bool) (f w : Bool), fs.length = ws.length → okW (fs ++ [f]) (ws ++ [w]) = (okW fs ws && (f || w))
  | [], [], f, w, _ => by simp [okW]
  | a :: fs, b :: ws, f, w, h => by
    rw [List.cons_append, List.cons_append]
    show ((a || b) && okW (fs ++ [f]) (ws ++ [w])) = _
    rw [okW_snoc fs ws f w (by simpa using h)]
    show _ = (((a || b) && okW fs ws) && (f || w))
    rw [Bool.and_assoc]
theorem wayB_len (n b : Nat) : (wayB n b).length = n := by unfold wayB; simp
theorem wayB_snoc (n b : Nat) (c : Bool) : wayB (n + 1) (2 * b + (if c = true then 0 else 1)) = wayB n b ++ [c] := by
  unfold wayB
  rw [List.range_succ, List.map_append, List.map_singleton]
  congr 1
  · apply List.map_congr_left
    intro k hk
    have := List.mem_range.mp hk
    rw [show n + 1 - 1 - k = (n - 1 - k) + 1 from by omega, Nat.testBit_succ]
    congr 2
    split <;> omega
  · rw [show n + 1 - 1 - n = 0 from by omega, Nat.testBit_zero]
    cases c <;> simp <;> omega
theorem range_double (n : Nat) : List.range (2 * n) = (List.range n).flatMap fun b => [2 * b, 2 * b + 1] := by
  induction n with
  | zero => rfl
  | succ n ih =>
    rw [List.range_succ, List.flatMap_append, ← ih, show 2 * (n + 1) = 2 * n + 1 + 1 from by omega, List.range_succ, List.range_succ]
    simp
def dueL (fs : List Bool) : List (List Bool) := ((List.range (2 ^ fs.length)).map (wayB fs.length)).filter (okW fs)
theorem dueL_eq (fs : List Bool) : dueL fs = waysL fs := by
  generalize hn : fs.length = n
  induction n generalizing fs with
  | zero =>
    rw [List.length_eq_zero_iff.mp hn]
    rfl
  | succ n ih =>
    have hne : fs ≠ [] := by intro e; rw [e] at hn; cases hn
    obtain ⟨ini, x, rfl⟩ : ∃ ini x, fs = ini ++ [x] := ⟨fs.dropLast, fs.getLast hne, (List.dropLast_concat_getLast hne).symm⟩
    rw [List.length_append, List.length_singleton] at hn
    have hn2 : ini.length = n := by omega
    rw [waysL_snoc, ← ih ini hn2]
    unfold dueL
    rw [List.length_append, List.length_singleton, hn2, show 2 ^ (n + 1) = 2 * 2 ^ n from by rw [Nat.pow_succ]; omega, range_double]
    generalize List.range (2 ^ n) = l
    induction l with
    | nil => rfl
    | cons b l ih2 =>
      have e1 := wayB_snoc n b true
      have e2 := wayB_snoc n b false
      rw [if_pos rfl] at e1
      have e1 : wayB (n + 1) (2 * b) = wayB n b ++ [true] := e1
      rw [if_neg (by decide)] at e2
      have e3 : ([2 * b, 2 * b + 1].map (wayB (n + 1))) = [wayB n b ++ [true], wayB n b ++ [false]] := by
        rw [List.map_cons, List.map_cons, List.map_nil, e1, e2]
      rw [List.flatMap_cons, List.map_append, List.filter_append, ih2, e3, List.map_cons]
      have o1 := okW_snoc ini (wayB n b) x true (by rw [wayB_len, hn2])
      have o2 := okW_snoc ini (wayB n b) x false (by rw [wayB_len, hn2])
      by_cases c : okW ini (wayB n b) = true
      · rw [List.filter_cons_of_pos c, List.flatMap_cons]
        congr 1
        rw [List.filter_cons_of_pos (by rw [o1, c]; simp)]
        unfold chL
        cases x with
        | true => rw [List.filter_cons_of_pos (by rw [o2, c]; rfl)]; rfl
        | false => rw [List.filter_cons_of_neg (by rw [o2, c]; simp)]; rfl
      · rw [List.filter_cons_of_neg c, List.filter_cons_of_neg (by rw [o1]; simp [c]), List.filter_cons_of_neg (by rw [o2]; simp [c])]
        rfl
end BK
namespace BK
open PySem PySem.Spec L2
set_option autoImplicit false
/-! ### the moments at which wheels come on, each once; the first of the greatest -/
end BK
namespace BK
open PySem PySem.Spec L2 PyProof.Rows
set_option autoImplicit false
/-! ### chains of three -/
/-! ### xs.append(ys.pop(k)) -/
/-! ### xs.count(x), xs.index(x), x in xs, of items of any depth -/
section
variable {X : Cx} {ca : Nat → Addr} {a b : Expr} {m n : Gm → Option R} {pos apos : Pos}
theorem room65 {k : Nat} {A : Around} (r : Room k A) : A.units + 65 < cLine := by have := r.un; omega
end
/-! in plain types -/
end BK
namespace BK
open PySem PySem.Spec L2
set_option autoImplicit false
/-! ### walks and texts of data of any kind -/
end BK
namespace BK
open PySem PySem.Spec L2
set_option autoImplicit false
/-! ### rows of words -/
/-- a word: no blank, no line end -/
structure Wd (x : Str) : Prop where
  b : 32 ∉ x.cps.toList
  n : 10 ∉ x.cps.toList
  l : x.length ≤ 20
  k : ∀ c ∈ x.cps.toList, c < 1114112
theorem NmOk.wd {x : Str} (h : NmOk x) : Wd x := by
  have hl := h.len
  obtain ⟨l, rfl, _, _, h⟩ := h
  refine ⟨fun q => ?_, fun q => ?_, by omega, fun c hc => ?_⟩
  · have := h 32 q; omega
  · have := h 10 q; omega
  · have := h c hc; omega
theorem num_wd {i : Int} (h0 : 0 ≤ i) (h1 : i ≤ 1000000000) : Wd (toString i : Str) := by
  have hn := num_len (i := i) (k := 10) h0 (by omega) (by omega)
  obtain ⟨n, rfl⟩ := Int.eq_ofNat_of_zero_le h0
  rw [num_nat] at hn ⊢
  have hd := TL.numL_digits n
  refine ⟨fun q => ?_, fun q => ?_, by omega, fun c hc => ?_⟩
  · have := hd 32 q; omega
  · have := hd 10 q; omega
  · have := hd c hc; omega
theorem sum_len {n : Nat} : ∀ {ws : List Str}, (∀ w ∈ ws, w.length ≤ n) → (ws.map Str.length).sum ≤ n * ws.length
  | [], _ => by simp
  | w :: ws, h => by
    have h1 := h w List.mem_cons_self
    have h2 := sum_len fun x hx => h x (List.mem_cons_of_mem _ hx)
    rw [List.map_cons, List.sum_cons, List.length_cons, Nat.mul_add]
    omega
/-- words as a row -/
def rowW (ws : List Str) : Str := Txt.join " " ws
theorem rowW_len {ws : List Str} (h : ∀ w ∈ ws, Wd w) : (rowW ws).length ≤ 21 * ws.length := by
  have h1 : (Txt.join " " ws).length ≤ (ws.map Str.length).sum + ws.length * (" " : Str).length := join_le " " ws
  have h2 := sum_len (n := 20) fun w hw => (h w hw).l
  have h3 : (" " : Str).length = 1 := by decide +kernel
  rw [h3] at h1
  unfold rowW
  omega
/-! ### rows of roads -/
inductive Rw where
  | op (n : Int) | br (b : Bg) | rd (r : Str × Int) | sh (s : Str × Int × Int)
def Rw.ws : Rw → List Str
  | .op n => ["open", toString n]
  | .br b => ["bridge", b.name, toString b.length, toString b.bears, toString b.wide, toString b.most]
  | .rd r => ["round", r.1, toString r.2]
  | .sh s => ["shut", s.1, toString s.2.1, toString s.2.2]
def Rw.tx (r : Rw) : Str := rowW r.ws
def Rw.Ok : Rw → Prop
  | .op n => 200 ≤ n ∧ n ≤ 1000
  | .br b => NmOk b.name ∧ BgOk b
  | .rd r => NmOk r.1 ∧ 1 ≤ r.2 ∧ r.2 ≤ 1000
  | .sh s => NmOk s.1 ∧ 0 ≤ s.2.1 ∧ s.2.1 < s.2.2 ∧ s.2.2 ≤ 10000
theorem lit_wd {x : Str} (l : List Nat) (e : x = S' l) (h : 32 ∉ l ∧ 10 ∉ l ∧ l.length ≤ 20 ∧ ∀ c ∈ l, c < 1114112) : Wd x := by
  subst e
  exact ⟨h.1, h.2.1, by rw [S'_len]; exact h.2.2.1, h.2.2.2⟩
theorem open_wd : Wd "open" := lit_wd [111, 112, 101, 110] (by decide +kernel) (by decide)
theorem bridge_wd : Wd "bridge" := lit_wd [98, 114, 105, 100, 103, 101] (by decide +kernel) (by decide)
theorem round_wd : Wd "round" := lit_wd [114, 111, 117, 110, 100] (by decide +kernel) (by decide)
theorem shut_wd : Wd "shut" := lit_wd [115, 104, 117, 116] (by decide +kernel) (by decide)
theorem Rw.wd {r : Rw} (h : r.Ok) : ∀ w ∈ r.ws, Wd w := by
  intro w hw
  cases r with
  | op n =>
    obtain ⟨h1, h2⟩ := h
    simp only [Rw.ws, List.mem_cons, List.not_mem_nil, or_false] at hw
    rcases hw with rfl | rfl
    · exact open_wd
    · exact num_wd (by omega) (by omega)
  | br b =>
    obtain ⟨h1, h2, h3, h4, h5⟩ := h
    simp only [Rw.ws, List.mem_cons, List.not_mem_nil, or_false] at hw
    rcases hw with rfl | rfl | rfl | rfl | rfl | rfl
    · exact bridge_wd
    · exact h1.wd
    · exact num_wd (by omega) (by omega)
    · exact num_wd (by omega) (by omega)
    · exact num_wd (by omega) (by omega)
    · exact num_wd (by omega) (by omega)
  | rd r =>
    obtain ⟨h1, h2, h3⟩ := h
    simp only [Rw.ws, List.mem_cons, List.not_mem_nil, or_false] at hw
    rcases hw with rfl | rfl | rfl
    · exact round_wd
    · exact h1.wd
    · exact num_wd (by omega) (by omega)
  | sh s =>
    obtain ⟨h1, h2, h3, h4⟩ := h
    simp only [Rw.ws, List.mem_cons, List.not_mem_nil, or_false] at hw
    rcases hw with rfl | rfl | rfl | rfl
    · exact shut_wd
    · exact h1.wd
    · exact num_wd (by omega) (by omega)
    · exact num_wd (by omega) (by omega)
theorem Rw.ne (r : Rw) : r.ws ≠ [] := by cases r <;> simp [Rw.ws]
theorem Rw.wl (r : Rw) : r.ws.length ≤ 6 := by cases r <;> simp [Rw.ws]
theorem Rw.len {r : Rw} (h : r.Ok) : r.tx.length ≤ 126 := by
  have h1 := rowW_len (Rw.wd h)
  have h2 := r.wl
  unfold Rw.tx
  omega
def Rw.tail : Rw → Prop
  | .rd _ => True
  | .sh _ => True
  | _ => False
end BK
namespace BK
open PySem PySem.Spec L2
set_option autoImplicit false
/-! ### own trees: read for a while, frozen for good -/
section
variable {K : PySem.W.Frag} {ca : Nat → Addr} {H0 F0 H F H' F' : Hp} {σ : L2.St} {Γ : Gm}
theorem SR.thaw (S : SR K ca H0 F0 σ H F Γ) {i : Nat} {t : T} (h : Γ[i]? = some (Slot.ot t)) : ∃ F2, Same F F2 ∧ SR K ca H0 F0 σ H F2 (Γ.set i (.va t.d)) ∧ ∀ H' F', Ext ca H F2 H' F' → Ext ca H F H' F := by
  classical
  obtain ⟨A, ⟨o1, o2, o3⟩⟩ := S.own
  obtain ⟨⟨v, hv, ht⟩, hd, hf⟩ := o1 i t h
  let F2 : Hp := fun b => if b ∈ A i then H b else F b
  have sf : Same F F2 := fun b u e => by
    show (if b ∈ A i then H b else F b) = some u
    by_cases hb : b ∈ A i
    · rw [(hf b hb).2] at e; cases e
    · rw [if_neg hb]; exact e
  have s2 : Same F2 H := fun b u e => by
    have e : (if b ∈ A i then H b else F b) = some u := e
    by_cases hb : b ∈ A i
    · rw [if_pos hb] at e; exact e
    · rw [if_neg hb] at e; exact S.ext.fh b u e
  have no : ∀ b, b ∉ A i → F b = none → F2 b = none := fun b hb e => by
    show (if b ∈ A i then H b else F b) = none
    rw [if_neg hb]; exact e
  have x : Ext ca H0 F0 H F2 := ⟨S.ext.hh, S.ext.ff.trans sf, s2, fun b e => by
    by_cases hb : b ∈ A i
    · exact .inr (hf b hb).1
    · have e : (if b ∈ A i then H b else F b) ≠ none := e
      rw [if_neg hb] at e
      exact S.ext.nw b e, fun n b ps e => by
    have e : (if b ∈ A i then H b else F b) = some (.tbl ps) := e
    by_cases hb : b ∈ A i
    · rw [if_pos hb] at e
      obtain ⟨u, hu, hn⟩ := ht.at b hb
      rw [hu] at e
      exact hn ps (Option.some.inj e)
    · rw [if_neg hb] at e
      exact S.ext.nt n b ps e⟩
  refine ⟨F2, sf, ⟨x, S.nt0, S.tc0, by rw [List.length_set]; exact S.len, fun j e hj => ?_, fun j es hj => ?_, fun j k es fs b n hj hk sj sk => ?_, A, fun j u e => ?_, fun j k u w n e e' => ?_, fun j k u es b e g s => ?_⟩, fun H' F' y => ⟨y.hh, Same.refl _, sf.trans (y.ff.trans y.fh), fun _ z => .inl z, fun n => n⟩⟩
  · rcases get_set hj with ⟨rfl, e1, hl⟩ | ⟨n, hj⟩
    · injection e1 with e1; subst e1
      exact ⟨v, hv, ht.den sf fun b hb => if_pos hb⟩
    · obtain ⟨w, g1, g2⟩ := S.va j e hj
      exact ⟨w, g1, g2.mono sf⟩
  · rcases get_set hj with ⟨rfl, e1, hl⟩ | ⟨n, hj⟩
    · cases e1
    · obtain ⟨b, ws, g1, g2, g3, g4, g5⟩ := S.ow j es hj
      exact ⟨b, ws, g1, g2, no b (o3 i j t es b h hj g1) g3, g4, g5.mono sf⟩
  · rcases get_set hj with ⟨_, e1, _⟩ | ⟨_, hj⟩
    · cases e1
    · rcases get_set hk with ⟨_, e1, _⟩ | ⟨_, hk⟩
      · cases e1
      · exact S.ap j k es fs b n hj hk sj sk
  · rcases get_set e with ⟨_, e1, _⟩ | ⟨n, e⟩
    · cases e1
    · obtain ⟨⟨w, hw, hu⟩, hd', hf'⟩ := o1 j u e
      exact ⟨⟨w, hw, hu.mono sf fun _ _ => rfl⟩, hd', fun b hb => ⟨(hf' b hb).1, no b (o2 j i u t (fun z => n z.symm) e h b hb) (hf' b hb).2⟩⟩
  · rcases get_set e with ⟨_, e1, _⟩ | ⟨_, e⟩
    · cases e1
    · rcases get_set e' with ⟨_, e1, _⟩ | ⟨_, e'⟩
      · cases e1
      · exact o2 j k u w n e e'
  · rcases get_set e with ⟨_, e1, _⟩ | ⟨_, e⟩
    · cases e1
    · rcases get_set g with ⟨_, e1, _⟩ | ⟨_, g⟩
      · cases e1
      · exact o3 j k u es b e g s
def putA (A : Nat → List Addr) (i : Nat) (as : List Addr) : Nat → List Addr := fun j => if j = i then as else A j
theorem putA_same {A : Nat → List Addr} {i : Nat} {as : List Addr} : putA A i as i = as := if_pos rfl
theorem putA_ne {A : Nat → List Addr} {i j : Nat} {as : List Addr} (h : j ≠ i) : putA A i as j = A j := if_neg h
/-- an own list becomes an own tree -/
theorem SR.tree (S : SR K ca H0 F0 σ H F Γ) {i : Nat} {ds : List D} (h : Γ[i]? = some (Slot.ow ds)) : SR K ca H0 F0 σ H F (Γ.set i (.ot (.lst (ds.map .fz)))) := by
  obtain ⟨a, vs, s, h1, h2, h3, h4⟩ := S.ow i ds h
  obtain ⟨A, ⟨o1, o2, o3⟩⟩ := S.own
  refine ⟨S.ext, S.nt0, S.tc0, by rw [List.length_set]; exact S.len, fun j e hj => ?_, fun j es hj => ?_, fun j k es fs b n hj hk sj sk => ?_, putA A i [a], fun j u e => ?_, fun j k u w n e e' b hb => ?_, fun j k u es b e g s' => ?_⟩
  · rcases get_set hj with ⟨_, e1, _⟩ | ⟨_, hj⟩
    · cases e1
    · exact S.va j e hj
  · rcases get_set hj with ⟨_, e1, _⟩ | ⟨_, hj⟩
    · cases e1
    · exact S.ow j es hj
  · rcases get_set hj with ⟨_, e1, _⟩ | ⟨_, hj⟩
    · cases e1
    · rcases get_set hk with ⟨_, e1, _⟩ | ⟨_, hk⟩
      · cases e1
      · exact S.ap j k es fs b n hj hk sj sk
  · rcases get_set e with ⟨e0, e1, _⟩ | ⟨n, e⟩
    · subst e0
      injection e1 with e1; subst e1
      refine ⟨⟨_, s, ?_⟩, ?_, fun b hb => ?_⟩
      · rw [putA_same]; exact .lst h3 (OTs.fzs h4)
      · rw [putA_same]; simp
      · rw [putA_same, List.mem_singleton] at hb
        subst hb
        exact ⟨h1, h2⟩
    · rw [putA_ne fun z => n z.symm]
      exact o1 j u e
  · rcases get_set e with ⟨e0, _, _⟩ | ⟨n1, e⟩
    · rcases get_set e' with ⟨e0', _, _⟩ | ⟨n2, e'⟩
      · exact absurd (e0.symm.trans e0') n
      · subst e0
        rw [putA_same, List.mem_singleton] at hb
        subst hb
        rw [putA_ne fun z => n2 z.symm]
        exact o3 k i w ds b e' h s
    · rw [putA_ne fun z => n1 z.symm] at hb
      rcases get_set e' with ⟨e0', _, _⟩ | ⟨n2, e'⟩
      · subst e0'
        rw [putA_same, List.mem_singleton]
        intro z
        subst z
        exact o3 j i u ds b e h s hb
      · rw [putA_ne fun z => n2 z.symm]
        exact o2 j k u w n e e' b hb
  · rcases get_set g with ⟨_, e1, _⟩ | ⟨n2, g⟩
    · cases e1
    · rcases get_set e with ⟨e0, _, _⟩ | ⟨n1, e⟩
      · subst e0
        rw [putA_same, List.mem_singleton]
        intro z
        subst z
        exact S.ap k i es ds b (fun z => n2 z.symm) g h s' s
      · rw [putA_ne fun z => n1 z.symm]
        exact o3 j k u es b e g s'
/-- a list of an own tree is changed -/
theorem sr_updT (S : SR K ca H0 F0 σ H F Γ) {i : Nat} {t t' : T} {v : V} {A : Nat → List Addr} {p : Addr} {vs ws : List V} {as' : List Addr}
    (oA : OwnA K ca H0 F σ H Γ A)
    (h : Γ[i]? = some (Slot.ot t)) (hv : σ[i]? = some (some v)) (hp : p ∈ A i) (hl : H p = some (.lst vs)) (ht : OT K ca F (L2.upd H p (.lst ws)) v t' as') (nd : as'.Nodup)
    (hn : ∀ b ∈ as', b ∈ A i ∨ (noT H0 b = none ∧ F b = none ∧ ∀ u, H b = some u → (∀ (j : Nat) (w : BK.T), Γ[j]? = some (Slot.ot w) → b ∉ A j) ∧ ∀ (j : Nat) (ds : List D), Γ[j]? = some (Slot.ow ds) → σ[j]? ≠ some (some (V.ref b)))) (hN : ∀ b ∈ as', H b ≠ none) :
    SR K ca H0 F0 σ (L2.upd H p (.lst ws)) F (Γ.set i (.ot t')) := by
  obtain ⟨o1, o2, o3⟩ := oA
  have hp0 := ((o1 i t h).2.2 p hp).1
  have hpF := ((o1 i t h).2.2 p hp).2
  have keep : ∀ b, b ≠ p → L2.upd H p (.lst ws) b = H b := fun b hb => upd_ne hb
  refine ⟨⟨S.ext.hh.updO hp0 (Pl.lst hl), S.ext.ff, fun b o e => ?_, S.ext.nw, S.ext.nt⟩, S.nt0, S.tc0, by rw [List.length_set]; exact S.len, fun j e hj => ?_, fun j es hj => ?_, fun j k es fs b n hj hk sj sk => ?_, putA A i as', fun j u e => ?_, fun j k u w n e e' b hb => ?_, fun j k u es b e g s' => ?_⟩
  · rw [upd_ne (ne_of_none e hpF)]; exact S.ext.fh b o e
  · rcases get_set hj with ⟨_, e1, _⟩ | ⟨_, hj⟩
    · cases e1
    · exact S.va j e hj
  · rcases get_set hj with ⟨_, e1, _⟩ | ⟨_, hj⟩
    · cases e1
    · obtain ⟨b, us, g1, g2, g3, g4, g5⟩ := S.ow j es hj
      exact ⟨b, us, g1, g2, g3, by rw [keep b fun z => o3 i j t es b h hj g1 (z ▸ hp)]; exact g4, g5⟩
  · rcases get_set hj with ⟨_, e1, _⟩ | ⟨_, hj⟩
    · cases e1
    · rcases get_set hk with ⟨_, e1, _⟩ | ⟨_, hk⟩
      · cases e1
      · exact S.ap j k es fs b n hj hk sj sk
  · rcases get_set e with ⟨e0, e1, _⟩ | ⟨n, e⟩
    · subst e0
      injection e1 with e1; subst e1
      refine ⟨⟨v, hv, by rw [putA_same]; exact ht⟩, by rw [putA_same]; exact nd, fun b hb => ?_⟩
      rw [putA_same] at hb
      rcases hn b hb with z | z
      · exact (o1 i t h).2.2 b z
      · exact ⟨z.1, z.2.1⟩
    · rw [putA_ne fun z => n z.symm]
      obtain ⟨⟨w, hw, hu⟩, hd, hf⟩ := o1 j u e
      exact ⟨⟨w, hw, hu.mono (Same.refl _) fun b hb => keep b fun z => o2 i j t u n h e p hp (z ▸ hb)⟩, hd, hf⟩
  · have key : ∀ m x, Γ[m]? = some (Slot.ot x) → i ≠ m → ∀ b ∈ as', b ∉ A m := fun m x g ne b hb => by
      rcases hn b hb with z | z
      · exact o2 i m t x ne h g b z
      · cases q : H b with
        | none => exact absurd q (hN b hb)
        | some u => exact (z.2.2 u q).1 m x g
    rcases get_set e with ⟨e0, _, _⟩ | ⟨n1, e⟩
    · rcases get_set e' with ⟨e0', _, _⟩ | ⟨n2, e'⟩
      · exact absurd (e0.symm.trans e0') n
      · subst e0
        rw [putA_same] at hb
        rw [putA_ne fun z => n2 z.symm]
        exact key k w e' n2 b hb
    · rw [putA_ne fun z => n1 z.symm] at hb
      rcases get_set e' with ⟨e0', _, _⟩ | ⟨n2, e'⟩
      · subst e0'
        rw [putA_same]
        exact fun z => key j u e n1 b z hb
      · rw [putA_ne fun z => n2 z.symm]
        exact o2 j k u w n e e' b hb
  · rcases get_set g with ⟨_, e1, _⟩ | ⟨n2, g⟩
    · cases e1
    · rcases get_set e with ⟨e0, _, _⟩ | ⟨n1, e⟩
      · subst e0
        rw [putA_same]
        intro hb
        rcases hn b hb with z | z
        · exact o3 i k t es b h g s' z
        · cases q : H b with
          | none => exact absurd q (hN b hb)
          | some x => exact (z.2.2 x q).2 k es g s'
      · rw [putA_ne fun z => n1 z.symm]
        exact o3 j k u es b e g s'
end
def bTh (i : Nat) (c : Gm → Option Bool) : Gm → Option Bool := fun g => match g[i]? with
  | some (.ot t) => c (g.set i (.va t.d))
  | _ => none
/-- an own list is from here on an own tree -/
def sOT (i : Nat) (m : Gm → Option Out) : Gm → Option Out := fun g => match g[i]? with
  | some (.ow ds) => m (g.set i (.ot (.lst (ds.map .fz))))
  | _ => none
/-- an own tree is frozen -/
def sFzT (i : Nat) (m : Gm → Option Out) : Gm → Option Out := fun g => match g[i]? with
  | some (.ot t) => m (g.set i (.va t.d))
  | _ => none
section
variable {X : Cx} {ca : Nat → Addr} {e : Expr} {st : Stmt} {m : Gm → Option R} {b : Gm → Option Out} {c : Gm → Option Bool} {i : Nat} {T : List Nat}
theorem tv_th (h : TV X ca e c) : TV X ca e (bTh i c) := by
  refine pt_imp h ?_
  rintro σ H Q ⟨H0, F0, F, Γ, k, S, e, q⟩
  unfold bTh at e
  split at e
  · rename_i t ht
    obtain ⟨F2, _, S2, back⟩ := S.thaw ht
    exact ⟨H0, F0, F2, _, k, S2, e, fun H' F' x => q H' F (back H' F' x)⟩
  · cases e
theorem sv_oT (h : SV X ca st b T) : SV X ca st (sOT i b) (i :: T) := by
  have i2 : ∀ j ∈ T, j ∈ i :: T := fun j h => List.mem_cons_of_mem _ h
  refine ⟨ps_imp h.ps ?_, fun g o e => ?_⟩
  · rintro D σ H ⟨H0, F0, F, Γ, o, S, e, p⟩
    unfold sOT at e
    split at e
    · rename_i ds hg
      exact ⟨H0, F0, F, _, o, S.tree hg, e, PostO.mono (T := []) (Same.refl _) .refl (fun _ z => nomatch z) i2 p⟩
    · cases e
  · unfold sOT at e
    split at e
    · exact KpG.after (g' := g.set i _) (T := [i]) kpg_set (h.kp _ _ e) (by simp) i2
    · cases e
theorem sv_fzT (h : SV X ca st b T) : SV X ca st (sFzT i b) (i :: T) := by
  have i2 : ∀ j ∈ T, j ∈ i :: T := fun j h => List.mem_cons_of_mem _ h
  refine ⟨ps_imp h.ps ?_, fun g o e => ?_⟩
  · rintro D σ H ⟨H0, F0, F, Γ, o, S, e, p⟩
    unfold sFzT at e
    split at e
    · rename_i t ht
      obtain ⟨F2, sf, S2, _⟩ := S.thaw ht
      exact ⟨H0, F0, F2, _, o, S2, e, PostO.mono (T := []) sf .refl (fun _ z => nomatch z) i2 p⟩
    · cases e
  · unfold sFzT at e
    split at e
    · exact KpG.after (g' := g.set i _) (T := [i]) kpg_set (h.kp _ _ e) (by simp) i2
    · cases e
end
/-! ### lists of own trees are changed -/
section
variable {K : PySem.W.Frag} {ca : Nat → Addr} {F H : Hp}
theorem OTs.snoc_inv {t : T} : ∀ {ts : List T} {vs : List V} {as : List Addr}, OTs K ca F H vs (ts ++ [t]) as → ∃ ws w as1 as2, vs = ws ++ [w] ∧ as = as1 ++ as2 ∧ OTs K ca F H ws ts as1 ∧ OT K ca F H w t as2
  | [], vs, as, h => by
    cases h with
    | cons h hs =>
      rename_i v vs as bs
      cases hs
      exact ⟨[], v, [], as, rfl, by simp, .nil, h⟩
  | u :: ts, vs, as, h => by
    cases h with
    | cons h hs =>
      rename_i v vs as bs
      obtain ⟨ws, w, as1, as2, rfl, rfl, h1, h2⟩ := OTs.snoc_inv hs
      exact ⟨v :: ws, w, as ++ as1, as2, rfl, by rw [List.append_assoc], .cons h h1, h2⟩
end
/-- x.append(e): a new list of frozen data, or frozen data -/
def apT (ts : List T) : R → Option (List T)
  | .tm ds => some (ts ++ [.lst (ds.map .fz)])
  | .va d => some (ts ++ [.fz d])
  | _ => none
def sAppT (i : Nat) (m : Gm → Option R) : Gm → Option Out := fun g => match g[i]? with
  | some (.ot (.lst ts)) => (m g).bind fun r => if ts.length < LIM then (apT ts r).map fun us => .nx (g.set i (.ot (.lst us))) else none
  | _ => none
/-- x[-1].append(e) -/
def lastL (ts : List T) : Option (List T × List T) := match ts.getLast? with
  | some (.lst us) => some (ts.dropLast, us)
  | _ => none
theorem lastL_inv {ts init us : List T} (h : lastL ts = some (init, us)) : ts = init ++ [.lst us] := by
  unfold lastL at h
  split at h
  · rename_i us' e
    cases h
    obtain ⟨l, rfl⟩ := List.getLast?_eq_some_iff.mp e
    rw [List.dropLast_concat]
  · cases h
def sAppL (i : Nat) (k m : Gm → Option R) : Gm → Option Out := fun g => match g[i]? with
  | some (.ot (.lst ts)) => (lastL ts).bind fun p => (k g).bind fun r => match r with
    | .va (.int j) => if j = -1 then (m g).bind fun r => match r with
      | .va d => if p.2.length < LIM then some (.nx (g.set i (.ot (.lst (p.1 ++ [.lst (p.2 ++ [.fz d])]))))) else none
      | _ => none
      else none
    | _ => none
  | _ => none
section
variable {X : Cx} {ca : Nat → Addr} {e e2 : Expr} {m k : Gm → Option R} {i : Nat}
theorem sv_appT {x : Str} {pos p1 p2 p3 : Pos} (h : PE X (.Call (.Attribute (.Name x p1) "append" p2) [e] [] p3) (tBM X.K "list" rAppend (tVar i) (tCons (tEV X.K ca m) tNil)))
    (hs : swapsWith (.Call (.Attribute (.Name x p1) "append" p2) [e] [] p3) none pos.line X.env = pure false := by rfl) : SV X ca (.Expr (.Call (.Attribute (.Name x p1) "append" p2) [e] [] p3) pos) (sAppT i m) [i] := by
  refine ⟨ps_imp (ps_expr h hs) ?_, fun g o e => ?_⟩
  · rintro D σ H ⟨H0, F0, F, Γ, o, S, e, p⟩
    unfold sAppT at e
    split at e
    · rename_i ts hg
      obtain ⟨r, er, e⟩ := Option.bind_eq_some_iff.mp e
      split at e
      rotate_left
      · cases e
      rename_i hlen
      obtain ⟨us, eu, rfl⟩ := Option.map_eq_some_iff.mp e
      obtain ⟨A, oA⟩ := S.own
      obtain ⟨⟨v, sv, ht⟩, _, _⟩ := oA.a i _ hg
      generalize hAi : A i = Ai at ht
      cases ht with
      | lst hl hts =>
        rename_i a vs as0
        refine ⟨_, sv, .inl ⟨rfl, vs, SqL.of hl⟩, H0, F0, F, Γ, r, S, er, fun w H1 F1 x1 r1 => ?_⟩
        have o1 := oA.mono x1
        have S1 := S.mono x1
        obtain ⟨⟨v', sv', ht'⟩, nd, hf⟩ := o1.a i _ hg
        rw [sv] at sv'
        cases sv'
        rw [hAi] at ht' nd hf
        cases ht' with
        | lst hl' hts' =>
          rename_i vs'
          rw [x1.hh.l hl] at hl'
          cases hl'
          rw [List.nodup_cons] at nd
          refine ⟨a, vs, w, rfl, rfl, x1.hh.l hl, by rw [lim_eq, hts.length]; exact hlen, ?_⟩
          have hne : ∀ c ∈ as0, (L2.upd H1 a (.lst (vs ++ [w]))) c = H1 c := fun c hc => upd_ne fun z => nd.1 (z ▸ hc)
          cases r with
          | bw j ds => cases eu
          | va d =>
            cases eu
            have r1 : Den X.K ca F1 w d := r1
            have ht2 : OT X.K ca F1 (L2.upd H1 a (.lst (vs ++ [w]))) (.ref a) (.lst (ts ++ [.fz d])) (a :: (as0 ++ ([] ++ []))) := .lst upd_same (OTs.append (OTs.mono (Same.refl _) hts' hne) (.cons (.fz r1) .nil))
            refine p σ _ F1 (sr_updT S1 o1 hg sv (by rw [hAi]; exact List.mem_cons_self) (x1.hh.l hl) ht2 (by simpa using nd) (fun b hb => .inl ?_) fun b hb => ?_) x1.ff .refl
            · rw [hAi]; simpa using hb
            · obtain ⟨u, hu, _⟩ := (OT.lst (x1.hh.l hl) hts').at b (by simpa using hb)
              rw [hu]; exact fun z => nomatch z
          | tm ds =>
            cases eu
            obtain ⟨b, ws, rfl, n1, f1, h1, d1⟩ := r1
            have hbA : ∀ j u, Γ[j]? = some (Slot.ot u) → b ∉ A j := fun j u g hb => by
              obtain ⟨⟨_, _, hh⟩, _⟩ := oA.a j u g
              obtain ⟨z, hz, hn⟩ := hh.at b hb
              rw [noT_get hz hn] at n1
              cases n1
            have hbi := hbA i _ hg
            rw [hAi, List.mem_cons, not_or] at hbi
            have ht2 : OT X.K ca F1 (L2.upd H1 a (.lst (vs ++ [.ref b]))) (.ref a) (.lst (ts ++ [.lst (ds.map .fz)])) (a :: (as0 ++ ((b :: []) ++ []))) := .lst upd_same (OTs.append (OTs.mono (Same.refl _) hts' hne) (.cons (.lst (by rw [upd_ne hbi.1]; exact h1) (OTs.fzs d1)) .nil))
            refine p σ _ F1 (sr_updT S1 o1 hg sv (by rw [hAi]; exact List.mem_cons_self) (x1.hh.l hl) ht2 ?_ (fun c hc => ?_) fun c hc => ?_) x1.ff .refl
            · rw [List.nodup_cons]
              simp only [List.append_nil, List.mem_append, List.mem_singleton, not_or]
              refine ⟨⟨nd.1, fun z => hbi.1 z.symm⟩, ?_⟩
              rw [List.nodup_append]
              refine ⟨nd.2, by simp, fun c hc d hd => ?_⟩
              rw [List.mem_singleton] at hd
              subst hd
              exact fun z => hbi.2 (z ▸ hc)
            · simp only [List.append_nil, List.mem_cons, List.mem_append, List.not_mem_nil, or_false] at hc
              rcases hc with rfl | hc | rfl
              · left; rw [hAi]; exact List.mem_cons_self
              · left; rw [hAi]; exact List.mem_cons_of_mem _ hc
              · right
                refine ⟨S.ext.hh.free n1, f1, fun u hu => ⟨fun j w' g => hbA j w' g, fun j es g s => ?_⟩⟩
                obtain ⟨a2, _, s2, _, _, h2, _⟩ := S.ow j es g
                rw [s] at s2
                cases s2
                rw [noT_get h2 fun _ z => nomatch z] at n1
                cases n1
            · simp only [List.append_nil, List.mem_cons, List.mem_append, List.not_mem_nil, or_false] at hc
              rcases hc with rfl | hc | rfl
              · rw [x1.hh.l hl]; exact fun z => nomatch z
              · obtain ⟨u, hu, _⟩ := hts'.at c hc
                rw [hu]; exact fun z => nomatch z
              · rw [h1]; exact fun z => nomatch z
    · cases e
  · unfold sAppT at e
    split at e
    · obtain ⟨r, er, e⟩ := Option.bind_eq_some_iff.mp e
      split at e
      · obtain ⟨us, eu, rfl⟩ := Option.map_eq_some_iff.mp e
        exact kpg_set
      · cases e
    · cases e
theorem sv_appL {pos p2 p3 : Pos} (h : PE X (.Call (.Attribute e2 "append" p2) [e] [] p3) (tBM X.K "list" rAppend (tOp (rIx X.K) (tVar i) (tEV X.K ca k)) (tCons (tEV X.K ca m) tNil)))
    (hs : swapsWith (.Call (.Attribute e2 "append" p2) [e] [] p3) none pos.line X.env = pure false := by rfl) : SV X ca (.Expr (.Call (.Attribute e2 "append" p2) [e] [] p3) pos) (sAppL i k m) [i] := by
  refine ⟨ps_imp (ps_expr h hs) ?_, fun g o e => ?_⟩
  · rintro D σ H ⟨H0, F0, F, Γ, o, S, e, p⟩
    unfold sAppL at e
    split at e
    · rename_i ts hg
      obtain ⟨⟨init, us⟩, el, e⟩ := Option.bind_eq_some_iff.mp e
      obtain ⟨rk, ek, e⟩ := Option.bind_eq_some_iff.mp e
      split at e
      rotate_left
      · cases e
      split at e
      rotate_left
      · cases e
      rename_i hj
      subst hj
      obtain ⟨r, er, e⟩ := Option.bind_eq_some_iff.mp e
      split at e
      rotate_left
      · cases e
      rename_i d
      split at e
      rotate_left
      · cases e
      rename_i hlen
      cases e
      have hts := lastL_inv el
      subst hts
      obtain ⟨A, oA⟩ := S.own
      obtain ⟨⟨v, sv, ht⟩, _, _⟩ := oA.a i _ hg
      generalize hAi : A i = Ai at ht
      cases ht with
      | lst hl hts =>
        rename_i a vs as0
        refine ⟨_, sv, H0, F0, F, Γ, _, S, ek, fun y H1 F1 x1 r1 => ?_⟩
        cases r1
        obtain ⟨ws, w, as1, as2, rfl, rfl, hi, hw⟩ := hts.snoc_inv
        cases hw with
        | lst hp hus =>
          rename_i q xs as3
          refine .inl ⟨a, ws ++ [.ref q], -1, .ref q, rfl, rfl, SqL.of (x1.hh.l hl), atI_last ws (.ref q), .inl ⟨rfl, xs, SqL.of (x1.hh.l hp)⟩, ?_⟩
          refine ⟨H0, F0, F1, Γ, _, S.mono x1, er, fun z H2 F2 x2 r2 => ?_⟩
          have x12 := x1.trans x2
          have o2 := oA.mono x12
          have S2 := S.mono x12
          obtain ⟨⟨v', sv', ht'⟩, nd, hf⟩ := o2.a i _ hg
          rw [sv] at sv'
          cases sv'
          rw [hAi] at ht' nd hf
          have hi2 := OTs.mono (F' := F2) (H' := H2) x12.ff hi fun b hb => by
            obtain ⟨u, hu, hn⟩ := hi.at b hb
            rw [hu, x12.hh.st b u hu hn]
          have hus2 := OTs.mono (F' := F2) (H' := H2) x12.ff hus fun b hb => by
            obtain ⟨u, hu, hn⟩ := hus.at b hb
            rw [hu, x12.hh.st b u hu hn]
          refine ⟨q, xs, z, rfl, rfl, x12.hh.l hp, by rw [lim_eq, hus.length]; exact hlen, ?_⟩
          have r2 : Den X.K ca F2 z d := r2
          rw [List.nodup_cons] at nd
          have hqa : a ≠ q := fun z => nd.1 (by rw [z]; exact List.mem_append_right _ List.mem_cons_self)
          have hnd := List.nodup_append.mp nd.2
          have hq1 : ∀ c ∈ as1, c ≠ q := fun c hc => hnd.2.2 c hc q List.mem_cons_self
          have hq3 : ∀ c ∈ as3, c ≠ q := fun c hc z => (List.nodup_cons.mp hnd.2.1).1 (z ▸ hc)
          have ht2 : OT X.K ca F2 (L2.upd H2 q (.lst (xs ++ [z]))) (.ref a) (.lst (init ++ [.lst (us ++ [.fz d])])) (a :: (as1 ++ ((q :: (as3 ++ ([] ++ []))) ++ []))) :=
            .lst (by rw [upd_ne hqa]; exact x12.hh.l hl) (OTs.append (OTs.mono (Same.refl _) hi2 fun c hc => upd_ne (hq1 c hc)) (.cons (.lst upd_same (OTs.append (OTs.mono (Same.refl _) hus2 fun c hc => upd_ne (hq3 c hc)) (.cons (.fz r2) .nil))) .nil))
          have eas : (a :: (as1 ++ ((q :: (as3 ++ ([] ++ []))) ++ []))) = a :: (as1 ++ q :: as3) := by simp
          rw [eas] at ht2
          refine p σ _ F2 (sr_updT S2 o2 hg sv (by rw [hAi]; exact List.mem_cons_of_mem _ (List.mem_append_right _ List.mem_cons_self)) (x12.hh.l hp) ht2 (List.nodup_cons.mpr nd) (fun b hb => .inl (by rw [hAi]; exact hb)) fun b hb => ?_) x12.ff .refl
          obtain ⟨u, hu, hn⟩ := ht'.at b hb
          rw [hu]
          exact fun z => nomatch z
    · cases e
  · unfold sAppL at e
    split at e
    · obtain ⟨_, _, e⟩ := Option.bind_eq_some_iff.mp e
      obtain ⟨_, _, e⟩ := Option.bind_eq_some_iff.mp e
      split at e
      · split at e
        · obtain ⟨_, _, e⟩ := Option.bind_eq_some_iff.mp e
          split at e
          · split at e
            · cases e
              exact kpg_set
            · cases e
          · cases e
        · cases e
      · cases e
    · cases e
end
end BK
namespace BK
open PySem PySem.Spec L2
set_option autoImplicit false
/-! ### own trees in plain types -/
section
variable {α γ : Type} {b n : Gm → Option Out} {g g1 : Gm} {P : α → Out → Prop} {s : Option α} {i : Nat}
/-- lists of lists -/
def tL2 {β : Type} (e : β → D) (xs : List (List β)) : T := .lst (xs.map fun ys => .lst ((ys.map e).map .fz))
theorem d_tL2 {β : Type} (e : β → D) (xs : List (List β)) : (tL2 e xs).d = eL (eL e) xs := by
  show D.lst (T.ds (xs.map fun ys => .lst ((ys.map e).map .fz))) = .lst (xs.map (eL e))
  rw [T.ds_map, List.map_map]
  congr 1
  apply List.map_congr_left
  intro ys _
  show D.lst (T.ds ((ys.map e).map .fz)) = .lst (ys.map e)
  rw [T.ds_fz]
theorem x_bTh {c : Gm → Option Bool} {t : T} {d : D} {k : Bool} (h0 : g[i]? = some (.ot t)) (hd : t.d = d) (h1 : g.set i (.va d) = g1) (h : c g1 = some k) : bTh i c g = some k := by
  subst hd
  unfold bTh
  rw [h0]
  show c (g.set i (.va t.d)) = _
  rw [h1, h]
theorem j_oT {m : Gm → Option Out} {ds : List D} (h0 : g[i]? = some (.ow ds)) (h1 : g.set i (.ot (.lst (ds.map .fz))) = g1) (k : J (sCons m b) n g1 s P) : J (sCons (sOT i m) b) n g s P := by
  unfold J at k ⊢
  have e : sCons (sOT i m) b g = sCons m b g1 := by
    unfold sCons sOT
    rw [h0]
    show (m (g.set i (.ot (.lst (ds.map .fz))))).bind _ = _
    rw [h1]
  rw [e]
  exact k
theorem j_fzT {m : Gm → Option Out} {t : T} {d : D} (h0 : g[i]? = some (.ot t)) (hd : t.d = d) (h1 : g.set i (.va d) = g1) (k : J (sCons m b) n g1 s P) : J (sCons (sFzT i m) b) n g s P := by
  subst hd
  unfold J at k ⊢
  have e : sCons (sFzT i m) b g = sCons m b g1 := by
    unfold sCons sFzT
    rw [h0]
    show (m (g.set i (.va t.d))).bind _ = _
    rw [h1]
  rw [e]
  exact k
theorem j_appT {β : Type} {e : β → D} {xs : List (List β)} {ys : List β} {m : Gm → Option R} (h0 : g[i]? = some (.ot (tL2 e xs))) (h : m g = some (.tm (ys.map e))) (hl : xs.length < 16777216) (h1 : g.set i (.ot (tL2 e (xs ++ [ys]))) = g1) (k : J b n g1 s P) : J (sCons (sAppT i m) b) n g s P :=
  j_seq (a := sAppT i m) (g1 := g1) (by
    unfold sAppT
    rw [h0]
    show ((m g).bind _) = _
    rw [h]
    show (if (xs.map _).length < LIM then _ else none) = _
    rw [if_pos (by rw [List.length_map]; exact hl), ← h1]
    show some (Out.nx (g.set i (.ot (.lst (xs.map _ ++ [.lst ((ys.map e).map .fz)]))))) = _
    unfold tL2
    rw [List.map_append]
    rfl) k
/-- xs[-1].append(y) -/
def appL {β : Type} (xs : List (List β)) (y : β) : Option (List (List β)) := match xs.getLast? with
  | some ys => if ys.length < 16777216 then some (xs.dropLast ++ [ys ++ [y]]) else none
  | none => none
theorem j_appL {β : Type} {e : β → D} {xs zs : List (List β)} {y : β} {k m : Gm → Option R} (h0 : g[i]? = some (.ot (tL2 e xs))) (hk : k g = some (.va (.int (-1)))) (h : m g = some (.va (e y))) (hz : appL xs y = some zs) (h1 : g.set i (.ot (tL2 e zs)) = g1) (K : J b n g1 s P) : J (sCons (sAppL i k m) b) n g s P :=
  j_seq (a := sAppL i k m) (g1 := g1) (by
    unfold appL at hz
    split at hz
    rotate_left
    · cases hz
    rename_i ys hy
    split at hz
    rotate_left
    · cases hz
    rename_i hl
    cases hz
    obtain ⟨init, rfl⟩ := List.getLast?_eq_some_iff.mp hy
    rw [List.dropLast_concat] at h1
    have el : lastL ((init ++ [ys]).map fun ys => T.lst ((ys.map e).map .fz)) = some (init.map (fun ys => T.lst ((ys.map e).map .fz)), (ys.map e).map .fz) := by
      rw [List.map_append]
      unfold lastL
      rw [show (List.map (fun ys => T.lst ((ys.map e).map .fz)) [ys]) = [T.lst ((ys.map e).map .fz)] from rfl, List.getLast?_concat, List.dropLast_concat]
    unfold sAppL
    rw [h0]
    show (lastL ((init ++ [ys]).map fun ys => T.lst ((ys.map e).map .fz))).bind _ = _
    rw [el]
    show ((k g).bind _) = _
    rw [hk]
    show (if (-1 : Int) = -1 then ((m g).bind _) else none) = _
    rw [if_pos rfl, h]
    show (if ((ys.map e).map T.fz).length < LIM then _ else none) = _
    rw [if_pos (by rw [List.length_map, List.length_map]; exact hl), ← h1]
    unfold tL2
    rw [List.map_append]
    simp only [List.map_append, List.map_cons, List.map_nil]) K
end
end BK
namespace BK
open PySem PySem.Spec L2
open PyProof.Rows (envOfC)
set_option autoImplicit false
/-! ### defs that make trees, defs that change them -/
/-! ### statements of such defs and calls of them -/
end BK
namespace BK
open PySem PySem.Spec L2
set_option autoImplicit false
/-! ### data taken apart; lists seen as other lists; in, deep -/
theorem j_appE {α β : Type} {b n : Gm → Option Out} {g g1 : Gm} {P : α → Out → Prop} {s : Option α} {i : Nat} {e : Gm → Option R} {r : R} (en : β → D) (xs : List β) (v : β) (h0 : g[i]? = some (.ow (xs.map en))) (h : e g = some r) (hd : r.d = en v) (hb : r.isBw = false) (hl : xs.length < 16777216) (h1 : g.set i (.ow ((xs ++ [v]).map en)) = g1) (k : J b n g1 s P) : J (sCons (sApp i e) b) n g s P :=
  j_app h0 h hb (by rw [List.length_map]; exact hl) (by rw [← h1, List.map_append, hd]; rfl) k
end BK
namespace BK
open PySem PySem.Spec L2
set_option autoImplicit false
/-! ### for the mathematics of days of shapes -/
end BK
namespace BK
open PySem PySem.Spec L2
set_option autoImplicit false
/-! ### dict(pairs) with texts as keys, read alone -/
/-! in plain types -/
end BK
namespace BK
open PySem PySem.Spec L2
set_option autoImplicit false
/-! ### tests that take an item out of an own list -/
/-! in plain types -/
end BK
namespace BK
open PySem PySem.Spec L2 PyProof.Rows
set_option autoImplicit false
/-! ### defs that change their first argument, or tell a new tree -/
/-! ### x != [], whatever x's items are -/
/-! ### loads as own trees -/
end BK
namespace BK
open PySem PySem.Spec L2 PyProof.Rows
set_option autoImplicit false
/-! ### an instance made of an own list that is copied -/
end BK
namespace BK
open PySem PySem.Spec L2 PyProof.Rows
set_option autoImplicit false
/-! ### a, b, .. = xs.pop(k) -/
end BK
namespace BK
open PySem PySem.Spec L2
open PyProof.Rows (envOfC)
set_option autoImplicit false
/-! ### exceptions: what raises, beside what answers -/
def XD (K : PySem.W.Frag) (ca : Nat → Addr) (F : Hp) (cls : Value) (d : Option Addr) (x : Exc) : Prop :=
  cls = .ref (ca x.c) ∧ ∃ fs : List (Str × V), (d = none ∧ fs = [] ∨ ∃ dd, d = some dd ∧ F dd = some (.xd fs)) ∧ fs.map (·.1) = xflds x.c ∧ Dens K ca F (fs.map (·.2)) (x.fs.map aD)
theorem aD_lf : ∀ fs : List (Int ⊕ Str), (fs.map aD).all (lfn 8) = true
  | [] => rfl
  | .inl i :: fs => by rw [List.map_cons, List.all_cons, aD_lf fs]; rfl
  | .inr s :: fs => by rw [List.map_cons, List.all_cons, aD_lf fs]; rfl
def spX (K : PySem.W.Frag) (ca : Nat → Addr) (ψ : List D → Option Exc) : Sp := fun vs H _ E => ∃ ds F x, Same F H ∧ NT F ∧ TabsC ca H ∧ Dens K ca F vs ds ∧ ψ ds = some x ∧ ∀ cls d H' F', Ext ca H F H' F' → XD K ca F' cls d x → E cls d H'
structure CalleeX (P : Program) (w : World) (K : PySem.W.Frag) (mg : Str → Option Value) (base : Heap) (ca : Nat → Addr) (k : Nat) (x : Str) (ψ : List D → Option Exc) : Prop where
  ex : ∃ (f : Addr) (fd : FuncData) (ps : List Str), FnOk P w K mg base (L2.CX P w) k f fd ps (spX K ca ψ) ∧ mg x = some (.ref f) ∧ PySem.W.keepIn K (.ref f) = true ∧ Binds K fd ps []
theorem CalleeX.mono {P : Program} {w : World} {K : PySem.W.Frag} {mg : Str → Option Value} {base : Heap} {ca : Nat → Addr} {j k : Nat} {x : Str} {ψ : List D → Option Exc} (C : CalleeX P w K mg base ca j x ψ) (h : j ≤ k) : CalleeX P w K mg base ca k x ψ := by
  obtain ⟨f, fd, ps, F, r⟩ := C.ex
  exact ⟨f, fd, ps, F.mono h, r⟩
/-- .. the call by values -/
def callX (ψ : List D → Option Exc) (rs : List R) : Option Exc := if rs.any R.isTm = true then none else ψ (rs.map R.d)
section
variable {X : Cx} {ca : Nat → Addr}
theorem callX_core {H0 F0 H F : Hp} {σ : L2.St} {Γ : Gm} {vs : List V} {rs : List R} {ψ : List D → Option Exc} {z : Exc} {Hs : Hp} {Q : VK} {E : XK} (S : SR X.K ca H0 F0 σ H F Γ) (hr : RVs X.K ca (BB σ Γ) Hs F H vs rs) (e : callX ψ rs = some z)
    (q : ∀ cls d H' F', Ext ca H F H' F' → XD X.K ca F' cls d z → E cls d H') : spX X.K ca ψ vs H Q E := by
  classical
  unfold callX at e
  split at e
  · cases e
  rename_i htm
  have er := e
  have hlf := aD_lf z.fs
  have s := S.ext.fh
  let Bp : Addr → Prop := fun b => ∃ j ds vs, BB σ Γ j b ds ∧ F b = none ∧ H b = some (.lst vs) ∧ Dens X.K ca F vs ds ∧ R.bw j ds ∈ rs
  let F3 : Hp := fun b => if Bp b then H b else F b
  have s13 : Same F F3 := fun b o h => by
    show (if Bp b then H b else F b) = some o
    by_cases hb : Bp b
    · obtain ⟨_, _, _, _, h2, _⟩ := hb
      rw [h2] at h; cases h
    · rw [if_neg hb]; exact h
  have s3 : Same F3 H := fun b o h => by
    have h : (if Bp b then H b else F b) = some o := h
    by_cases hb : Bp b
    · rw [if_pos hb] at h; exact h
    · rw [if_neg hb] at h; exact s b o h
  have dens : ∀ {us : List V} {ts : List R}, RVs X.K ca (BB σ Γ) Hs F H us ts → (∀ t ∈ ts, t.isTm = false) → (∀ t ∈ ts, t.isBw = true → t ∈ rs) → Dens X.K ca F3 us (ts.map R.d) := by
    intro us ts h
    induction h with
    | nil => intro _ _; exact .nil
    | cons h hs ih =>
      rename_i v t us ts
      intro g1 g2
      refine .cons ?_ (ih (fun t ht => g1 t (List.mem_cons_of_mem _ ht)) fun t ht => g2 t (List.mem_cons_of_mem _ ht))
      cases t with
      | va d => exact Den.mono s13 h
      | tm ds => exact absurd (g1 _ List.mem_cons_self) (by simp [R.isTm])
      | bw j ds =>
        obtain ⟨a, ws, rfl, hb, h2, h3, h4⟩ := h
        have hB : Bp a := ⟨j, ds, ws, hb, h2, h3, h4, g2 _ List.mem_cons_self rfl⟩
        refine .lst ?_ (h4.mono s13)
        show (if Bp a then H a else F a) = some (.lst ws)
        rw [if_pos hB]; exact h3
  have htm' : ∀ t ∈ rs, t.isTm = false := fun t ht => by
    cases q : t.isTm with
    | false => rfl
    | true => exact absurd (List.any_eq_true.mpr ⟨t, ht, q⟩) htm
  have nF : NT F := S.ext.nt S.nt0
  have n3 : NT F3 := fun b ps h => by
    have h : (if Bp b then H b else F b) = some (.tbl ps) := h
    by_cases hb : Bp b
    · rw [if_pos hb] at h
      obtain ⟨_, _, _, _, _, h3, _⟩ := hb
      rw [h3] at h; cases h
    · rw [if_neg hb] at h; exact nF b ps h
  refine ⟨rs.map R.d, F3, z, s3, n3, S.tc0.mono S.ext.hh, dens hr htm' fun t ht hb => ht, er, fun cls d H' F4 x4 r4 => ?_⟩
  let F5 : Hp := fun b => if Bp b then none else F4 b
  have s15 : Same F F5 := fun b o h => by
    show (if Bp b then none else F4 b) = some o
    by_cases hb : Bp b
    · obtain ⟨_, _, _, _, h2, _⟩ := hb
      rw [h2] at h; cases h
    · rw [if_neg hb]; exact x4.ff _ _ (s13 b o h)
  have s54 : Same F5 F4 := fun b o h => by
    have h : (if Bp b then none else F4 b) = some o := h
    by_cases hb : Bp b
    · rw [if_pos hb] at h; cases h
    · rw [if_neg hb] at h; exact h
  have x5 : Ext ca H F H' F5 := ⟨x4.hh, s15, s54.trans x4.fh, fun b h => by
    have h : (if Bp b then none else F4 b) ≠ none := h
    by_cases hb : Bp b
    · rw [if_pos hb] at h; exact absurd rfl h
    · rw [if_neg hb] at h
      rcases x4.nw b h with z | z
      · have z : (if Bp b then H b else F b) ≠ none := z
        rw [if_neg hb] at z
        exact .inl z
      · exact .inr z, fun _ b ps h => by
    have h : (if Bp b then none else F4 b) = some (.tbl ps) := h
    by_cases hb : Bp b
    · rw [if_pos hb] at h; cases h
    · rw [if_neg hb] at h; exact x4.nt n3 b ps h⟩
  have res : ∀ b o, F4 b = some o → (∀ xs, o ≠ .lst xs) → F5 b = some o := fun b o h hn => by
    show (if Bp b then none else F4 b) = some o
    by_cases hb : Bp b
    · exfalso
      obtain ⟨_, _, ws, _, h2, h3, _⟩ := id hb
      have h4 : F3 b = some (.lst ws) := by
        show (if Bp b then H b else F b) = _
        rw [if_pos hb]; exact h3
      have h5 := x4.ff _ _ h4
      rw [h] at h5
      cases h5
      exact hn ws rfl
    · rw [if_neg hb]; exact h
  obtain ⟨ec, fs, hd, hm, hs⟩ := r4
  exact q cls d H' F5 x5 ⟨ec, fs, hd.imp (fun z => z) fun ⟨dd, e1, e2⟩ => ⟨dd, e1, res _ _ e2 fun xs z => nomatch z⟩, hm, lf_dens res hlf hs⟩
end
/-! expressions that raise -/
def tXV (K : PySem.W.Frag) (ca : Nat → Addr) (W : WX) (m : Gm → Option Exc) : L2.St → Hp → Prop := fun σ H => ∃ H0 F0 F Γ x, SR K ca H0 F0 σ H F Γ ∧ m Γ = some x ∧ ∀ cls d H' F', Ext ca H F H' F' → XD K ca F' cls d x → W cls d σ H'
def XV (X : Cx) (ca : Nat → Addr) (e : Expr) (m : Gm → Option Exc) : Prop := ∀ W : WX, Takes X W → PE X e fun σ H _ => tXV X.K ca W m σ H
section
variable {X : Cx} {ca : Nat → Addr} {e : Expr} {es : List Expr} {m n : Gm → Option Exc} {a : Gm → Option R} {ms : Gm → Option (List R)} {pos p apos : Pos}
theorem tXV.mono {K : PySem.W.Frag} {W : WX} {σ : L2.St} {H0 F0 H F H1 F1 : Hp} {Γ : Gm} {x : Exc} (S : SR K ca H0 F0 σ H F Γ) (x1 : Ext ca H F H1 F1) (e : m Γ = some x) (q : ∀ cls d H' F', Ext ca H F H' F' → XD K ca F' cls d x → W cls d σ H') : tXV K ca W m σ H1 :=
  ⟨H0, F0, F1, Γ, x, S.mono x1, e, fun cls d H' F' x2 r => q cls d H' F' (x1.trans x2) r⟩
/-- f(..) raises -/
def xC (ψ : List D → Option Exc) (ms : Gm → Option (List R)) : Gm → Option Exc := fun g => (ms g).bind (callX ψ)
theorem xv_call {j : Nat} {x : Str} {ψ : List D → Option Exc} (C : CalleeX X.prog X.w X.K X.mg X.base ca j x ψ) (hr : Room j X.A) (hg : Gl X x) (ha : AV X ca (e :: es) ms) (hdb : (x == ("__debug__" : Str)) = false := by decide)
    (he : starEach (e :: es) X.env = (false, eval e X.env) :: starEach es X.env := by rfl) (hpl : (backTo pos (starEach es X.env)).any (·.1) = false := by rfl) : XV X ca (.Call (.Name x p) (e :: es) [] pos) (xC ψ ms) := by
  intro W tk
  obtain ⟨f, fd, ps, G, hm, hk, hb⟩ := C.ex
  refine pe_imp (pe_callS (E := WE W) G hr hg hm hk hb (passAt tk) ha hdb he hpl) ?_
  rintro σ H Q ⟨H0, F0, F, Γ, z, S, e, q⟩
  obtain ⟨rs, er, e⟩ := Option.bind_eq_some_iff.mp e
  refine ⟨H0, F0, F, Γ, rs, S, er, fun vs H1 F1 x1 r1 => ?_⟩
  exact callX_core (S.mono x1) r1 e fun cls d H2 F2 x2 r2 => q cls d H2 F2 (x1.trans x2) r2
end
/-! statements that raise: the state behind is forgotten (XS), or it is the state ahead (X0) -/
def tXS (K : PySem.W.Frag) (ca : Nat → Addr) (W : WX) (m : Gm → Option Exc) : TS := fun _ σ H => ∃ H0 F0 F Γ x, SR K ca H0 F0 σ H F Γ ∧ m Γ = some x ∧ ∀ cls d σ' H' F', Ext ca H0 F0 H' F' → XD K ca F' cls d x → W cls d σ' H'
def XS (X : Cx) (ca : Nat → Addr) (st : Stmt) (m : Gm → Option Exc) : Prop := ∀ W : WX, Takes X W → PS X st (tXS X.K ca W m)
def XSs (X : Cx) (ca : Nat → Addr) (sts : List Stmt) (m : Gm → Option Exc) : Prop := ∀ W : WX, Takes X W → PSs X sts (tXS X.K ca W m)
def X0 (X : Cx) (ca : Nat → Addr) (st : Stmt) (m : Gm → Option Exc) : Prop := ∀ W : WX, Takes X W → PS X st fun _ σ H => tXV X.K ca W m σ H
def X0s (X : Cx) (ca : Nat → Addr) (sts : List Stmt) (m : Gm → Option Exc) : Prop := ∀ W : WX, Takes X W → PSs X sts fun _ σ H => tXV X.K ca W m σ H
def xSeq (m : Gm → Option Out) (n : Gm → Option Exc) : Gm → Option Exc := fun g => (m g).bind fun o => match o with
  | .nx g' => n g'
  | _ => none
def xIf (c : Gm → Option Bool) (m n : Gm → Option Exc) : Gm → Option Exc := fun g => (c g).bind fun k => if k = true then m g else n g
def xNo : Gm → Option Exc := fun _ => none
section
variable {X : Cx} {ca : Nat → Addr} {e : Expr} {st : Stmt} {rest : List Stmt} {m n : Gm → Option Exc} {mo : Gm → Option Out} {T : List Nat} {pos p apos : Pos}
theorem X0.xs (h : X0 X ca st m) : XS X ca st m := fun W tk => ps_imp (h W tk) (by
  rintro D σ H ⟨H0, F0, F, Γ, x, S, e, q⟩
  exact ⟨H0, F0, F, Γ, x, S, e, fun cls d H' F' x1 r => q cls d σ H' F' (S.ext.trans x1) r⟩)
theorem PSs.ps {t : TS} (h : PS X.nox st t) : PS X st t := ⟨fun pins s σ H D I hw =>
  wpAny_mono (h.run pins s σ H D (I.wish _) hw) (fun _ _ q => q.unwish) fun _ _ z => False.elim z⟩
theorem x0_one (h : X0 X ca st m) : X0s X ca (st :: rest) m := fun W tk => pss_imp (pss_cons (h W tk) (pss_never (X := X))) fun D σ H q => q
theorem xss_head (h : XS X ca st m) : XSs X ca (st :: rest) m := fun W tk => pss_imp (pss_cons (h W tk) (pss_never (X := X))) fun D σ H q => q
theorem xss_tail (h : SV X.nox ca st mo T) (hr : XSs X ca rest m) : XSs X ca (st :: rest) (xSeq mo m) := fun W tk => pss_imp (pss_cons (PSs.ps h.ps) (hr W tk)) (by
  rintro D σ H ⟨H0, F0, F, Γ, x, S, e, q⟩
  obtain ⟨o, eo, e⟩ := Option.bind_eq_some_iff.mp e
  refine ⟨H0, F0, F, Γ, o, S, eo, ?_⟩
  cases o with
  | nx g' => exact fun σ' H' F' S' _ _ => ⟨H0, F0, F', g', x, S', e, q⟩
  | rt r => cases e
  | bk g' => cases e
  | ct g' => cases e
  | ex x => cases e)
theorem xss_no : XSs X ca rest xNo := fun W tk => pss_imp pss_never (by
  rintro D σ H ⟨H0, F0, F, Γ, x, S, e, q⟩
  cases e)
theorem xs_if {c : Expr} {a b : List Stmt} {mc : Gm → Option Bool} (hc : TV X ca c mc) (ha : XSs X ca a m) (hb : XSs X ca b n) : XS X ca (.If c a b pos) (xIf mc m n) := fun W tk => ps_imp (ps_if hc (ha W tk) (hb W tk)) (by
  rintro D σ H ⟨H0, F0, F, Γ, x, S, e, q⟩
  obtain ⟨k, ek, e⟩ := Option.bind_eq_some_iff.mp e
  refine ⟨H0, F0, F, Γ, k, S, ek, fun H1 F1 x1 => ?_⟩
  cases k with
  | true => exact iteT ⟨H0, F0, F1, Γ, x, S.mono x1, by simpa using e, q⟩
  | false => exact iteF ⟨H0, F0, F1, Γ, x, S.mono x1, by simpa using e, q⟩)
theorem x0_set {i : Nat} {x : Str} {pos' : Pos} (hN : X.N.Nodup) (hi : X.N[i]? = some x) (hx : Loc X.env.scope x) (h : XV X ca e m) (hs : swapsWith e (some (.Name x pos')) pos.line X.env = pure false := by rfl) (hf : X.fn x = true ∨ X.env.scope.names.lookup x = some .local := by first | exact .inl rfl | exact .inr rfl | assumption) :
    X0 X ca (.Assign [.Name x pos'] e pos) m := fun W tk => ps_imp (ps_set hN hi hx (h W tk) hs hf) fun D σ H q => q
end
/-! a loop in whose turns something raises -/
def xForL (f : D → Gm → Option Gm) (b : Gm → Option Out) (bx : Gm → Option Exc) : List D → Gm → Option Exc
  | [], _ => none
  | d :: ds, g => (f d g).bind fun g1 => match bx g1 with
    | some x => some x
    | none => (b g1).bind fun o => match o with
      | .nx g2 => xForL f b bx ds g2
      | .ct g2 => xForL f b bx ds g2
      | _ => none
def xFor (mi : Gm → Option (List Nat × List D)) (f : D → Gm → Option Gm) (b : Gm → Option Out) (bx : Gm → Option Exc) (T : List Nat) : Gm → Option Exc := fun g => (mi g).bind fun p => if p.1.all (fun j => !T.contains j) = true then xForL f b bx p.2 g else none
section
variable {X : Cx} {ca : Nat → Addr} {pos : Pos}
theorem pss_or {sts : List Stmt} {t u : TS} (h1 : PSs X sts t) (h2 : PSs X sts u) : PSs X sts fun D σ H => t D σ H ∨ u D σ H := ⟨fun pins s σ H D I q => by
  rcases q with q | q
  · exact h1.run pins s σ H D I q
  · exact h2.run pins s σ H D I q⟩
theorem ps_or2 {st : Stmt} {t u : TS} (h1 : PS X st t) (h2 : PS X st u) : PS X st fun D σ H => t D σ H ∨ u D σ H := ⟨fun pins s σ H D I q => by
  rcases q with q | q
  · exact h1.run pins s σ H D I q
  · exact h2.run pins s σ H D I q⟩
theorem xs_for {tg iter : Expr} {body : List Stmt} {mi : Gm → Option (List Nat × List D)} {f : D → Gm → Option Gm} {b : Gm → Option Out} {bx : Gm → Option Exc} {T T' U : List Nat} (hp : PassesOwn (model X.prog X.w) X.A X.env X.xe) (hc : X.calm = true) (hi : IV X ca tg iter mi) (hg : GV X ca tg f T) (hb : SVs X.nox ca body b T') (hx : XSs X ca body bx)
    (hU : U = T ++ T') (hs : ∀ x, foldedSetIterable iter X.env x = pure x := by intro _; rfl) : XS X ca (.For tg iter body [] pos) (xFor mi f b bx U) := by
  subst hU
  intro W tk
  have i1 : ∀ j ∈ T, j ∈ T ++ T' := fun j h => List.mem_append_left _ h
  have i2 : ∀ j ∈ T', j ∈ T ++ T' := fun j h => List.mem_append_right _ h
  refine ps_imp (ps_for hp hc hi hg.pg (pss_or (PSs.nox hb.ps) (hx W tk)) hs) ?_
  rintro D σ H ⟨H0, F0, F, Γ, x, S, e, p⟩
  unfold xFor at e
  obtain ⟨⟨ps, ds⟩, em, e⟩ := Option.bind_eq_some_iff.mp e
  by_cases hall : (ps.all fun j => !(T ++ T').contains j) = true
  · rw [if_pos hall] at e
    refine ⟨H0, F0, F, Γ, (ps, ds), S, em, fun J H1 F1 PL x1 jo hPL => ?_⟩
    have hj : ∀ q ∈ PL, q.1 ∉ T ++ T' := fun q hq hm => by
      have := List.all_eq_true.mp hall q.1 (hPL q hq).1
      simp at this
      rcases List.mem_append.mp hm with z | z
      · exact this.1 z
      · exact this.2 z
    refine ⟨fun i m σ' H' => ∃ F' g, m = ds.length - i ∧ SR X.K ca H0 F0 σ' H' F' g ∧ Same F1 F' ∧ xForL f b bx (ds.drop i) g = some x ∧ i ≤ ds.length ∧ (∀ q ∈ PL, BB σ' g q.1 q.2.1 q.2.2),
      ⟨_, F1, Γ, rfl, S.mono x1, Same.refl _, e, Nat.zero_le _, fun q hq => (hPL q hq).2⟩, ?_⟩
    rintro i m σ2 H2 ⟨F2, g, rfl, S2, s2, e2, hi2, hb2⟩
    have hpin : ∀ q ∈ PL, ∃ vs, H2 q.2.1 = some (.lst vs) ∧ Dens X.K ca F2 vs q.2.2 := fun q hq => by
      obtain ⟨z1, z2⟩ := hb2 q hq
      obtain ⟨a, vs, y1, _, _, y4, y5⟩ := S2.ow _ _ z2
      rw [z1] at y1
      cases y1
      exact ⟨vs, y4, y5⟩
    by_cases hlt : i < ds.length
    · have hd : ds[i]? = some ds[i] := List.getElem?_eq_getElem hlt
      have ed : ds.drop i = ds[i] :: ds.drop (i + 1) := List.drop_eq_getElem_cons hlt
      rw [ed] at e2
      unfold xForL at e2
      obtain ⟨g1, eg, e2⟩ := Option.bind_eq_some_iff.mp e2
      obtain ⟨jgo, jy⟩ := jo.go i _ H2 F2 hd s2 S2.ext.fh hpin
      refine .inr ⟨jgo, fun σ' H' => ∃ F' g, SR X.K ca H0 F0 σ' H' F' g ∧ Same F1 F' ∧ xForL f b bx (ds.drop (i + 1)) g = some x ∧ (∀ q ∈ PL, BB σ' g q.1 q.2.1 q.2.2), fun σ' H' ⟨F', g', w1, w2, w3, w5⟩ => ⟨ds.length - (i + 1), by omega, F', g', rfl, w1, w2, w3, hlt, w5⟩, fun y H3 yy => ?_⟩
      obtain ⟨F3, x3, d3⟩ := jy y H3 yy
      refine ⟨H0, F0, F3, g, _, g1, S2.mono x3, d3, eg, fun σ4 S4 k4 => ?_⟩
      have kg1 : KpG (T ++ T') g (.nx g1) := (hg.kp _ _ _ eg).mono i1
      cases hbx : bx g1 with
      | some x' =>
        rw [hbx] at e2
        cases e2
        exact .inr ⟨H0, F0, F3, g1, x, S4, hbx, p⟩
      | none =>
        rw [hbx] at e2
        obtain ⟨o1, eo, e2⟩ := Option.bind_eq_some_iff.mp e2
        refine .inl ⟨H0, F0, F3, g1, o1, S4, eo, ?_⟩
        have kg := hb.kp _ _ eo
        have step : ∀ (g5 : Gm) (σ5 : L2.St) (H5 F5 : Hp), KpG T' g1 (.nx g5) → SR X.K ca H0 F0 σ5 H5 F5 g5 → Same F3 F5 → Kp T' σ4 σ5 → xForL f b bx (ds.drop (i + 1)) g5 = some x →
            ∃ F' g, SR X.K ca H0 F0 σ5 H5 F' g ∧ Same F1 F' ∧ xForL f b bx (ds.drop (i + 1)) g = some x ∧ (∀ q ∈ PL, BB σ5 g q.1 q.2.1 q.2.2) := fun g5 σ5 H5 F5 kg S5 s5 k5 e5 => by
          have kk : Kp (T ++ T') σ2 σ5 := k4.trans k5 i1 i2
          have kkg : KpG (T ++ T') g (.nx g5) := KpG.after kg1 kg (fun _ z => z) i2
          have sf : Same F2 F5 := x3.ff.trans s5
          refine ⟨F5, g5, S5, s2.trans sf, e5, fun q hq => ⟨?_, ?_⟩⟩
          · rw [kk _ (hj q hq)]; exact (hb2 q hq).1
          · rw [(kkg : ∀ j, j ∉ T ++ T' → g5[j]? = g[j]?) _ (hj q hq)]; exact (hb2 q hq).2
        cases o1 with
        | nx g5 => exact fun σ5 H5 F5 S5 s5 k5 => step g5 σ5 H5 F5 kg S5 s5 k5 e2
        | ct g5 => exact fun σ5 H5 F5 S5 s5 k5 => step g5 σ5 H5 F5 kg S5 s5 k5 e2
        | bk g5 => cases e2
        | rt r => cases e2
        | ex x => cases e2
    · have ei : i = ds.length := by omega
      subst ei
      rw [List.drop_length] at e2
      cases e2
  · rw [if_neg hall] at e
    cases e
end
end BK
namespace BK
open PySem PySem.Spec L2
open PyProof.Rows (envOfC)
set_option autoImplicit false
/-! ### exceptions: made, raised, let out, caught -/
/-- __init__ of an exception class that stores its arguments by name -/
def spXI (C : Addr) (names : List Str) : Sp := fun vs H Q _ => ∃ (H0 : Hp) (a : Addr) (us : List V), vs = .ref a :: us ∧ us.length = names.length ∧ H0 a = none ∧ H = upd H0 a (exo a C none) ∧
  ∀ (d : Addr) (H2 : Hp), H0 d = none → d ≠ a → H2 a = some (exo a C (some d)) → H2 d = some (exd d (names.zip us).reverse) → (∀ b, b ≠ a → b ≠ d → H2 b = H0 b) → Q .non H2
section
variable {X : Cx} {e : Expr} {es : List Expr} {ta : TA} {p1 p2 pos : Pos}
/-- Base.__init__(self, ..), where it is ValueError's -/
theorem pe_winit {x : Str} {C : Addr} {mc : Value} {pl : Sem Bool} (hg : Gl X x) (hm : X.mg x = some (.ref C)) (hrd : PySem.W.readsIn X.K C mc = true) (hga : PySem.W.specialIn X.K (.ref C) "__getattribute__" = some (some (.builtin "type.__getattribute__")))
    (hfc : PySem.W.findCls X.K (.ref C) mc "__init__" = some (.val (.builtin "ValueError.__init__"))) (ha : PA X (e :: es) ta)
    (he : starEach (e :: es) X.env = (false, eval e X.env) :: starEach es X.env := by rfl) (hpl : (backTo pos (starEach es X.env)).any (·.1) = false := by rfl)
    (hev : eval (.Call (.Attribute (.Name x p1) "__init__" p2) (e :: es) [] pos) X.env = (do
      let ov ← eval (.Name x p1) X.env
      standAt p2.atName
      let (f, first) ← holding [ov] (getMethod ov "__init__" pl)
      callWith pos f first (backTo pos (starEach (e :: es) X.env)) (backToKw pos (keywordEach [] X.env))) := by rfl) (hdb : (x == ("__debug__" : Str)) = false := by decide) :
    PE X (.Call (.Attribute (.Name x p1) "__init__" p2) (e :: es) [] pos) (tVeI X.K ta) := by
  refine ⟨fun pins s σ H Q I h => ?_⟩
  refine PySem.W.methodCall_KW (ld_glob I hg hm ?_ hdb) hev
  refine PySem.W.method_cls I.kIn hga (PySem.W.cls_value I.kIn hrd hfc rfl ?_)
  have I2 := I.tok (s.toks + 1)
  refine PyProof.Rows.callWith_method1 (thn (ha.run pos pins _ σ H _ I2 h) fun us s1 ⟨vs, H1, I1, r1, a, C, ws, ev, hl, T, ea, q⟩ => ?_) he hpl
  subst ev
  cases r1 with
  | @cons _ u0 _ ur ra rw' =>
    obtain rfl : u0 = Value.ref a := ra
    have hlen : ur.length ≤ sizeLine := by
      rw [← Paired.length rw', sizeLine_eq]
      omega
    exact oinit_ok T I1 ea hlen fun s' J => ⟨.non, H1, J, rfl, q⟩
end
section
variable {P : Program} {w : World} {K : PySem.W.Frag} {mg : Str → Option Value} {base : Heap} {ca : Nat → Addr}
theorem xi_two {x qual f g : Str} {st : Stmt} {fi : Addr} {fd : FuncData} {C : Addr} {m : Str} {N ps : List Str} {e1 o1 v1 o2 v2 : Expr} {p' p'' pos1 pos2 pos3 : Pos} (T : OexC K C) (hno : PySem.W.findIn K (.ref C) f = some none) (hno2 : PySem.W.findIn K (.ref C) g = some none) (F : FunA K x qual st fi fd) (S : FnScope N ps (defScope st)) (hps : ps.length = 3)
    (hb : defBody st = [.Expr e1 pos1, .Assign [.Attribute o1 f p'] v1 pos2, .Assign [.Attribute o2 g p''] v2 pos3])
    (hst : ∀ (cdv : Value) (A : Around) (outer : List Env) (s : Shared) (H : Hp) (E : XK), ∃ ta, PE (cxOf CX0 P w K mg base N qual (defScope st) fi cdv A outer s H E).nox e1 (tVeI K ta) ∧ (∀ σ H' Q, (∃ a, σ[0]? = some (some (.ref a)) ∧ Q [.ref a, .str m] H') → ta σ H' Q) ∧
      PE (cxOf CX0 P w K mg base N qual (defScope st) fi cdv A outer s H E).nox o1 (tVar 0) ∧ PE (cxOf CX0 P w K mg base N qual (defScope st) fi cdv A outer s H E).nox v1 (tVar 1) ∧
      PE (cxOf CX0 P w K mg base N qual (defScope st) fi cdv A outer s H E).nox o2 (tVar 0) ∧ PE (cxOf CX0 P w K mg base N qual (defScope st) fi cdv A outer s H E).nox v2 (tVar 2) ∧
      swapsWith e1 none pos1.line (cxOf CX0 P w K mg base N qual (defScope st) fi cdv A outer s H E).nox.env = pure false ∧ swapsWith v1 (some (.Attribute o1 f p')) pos2.line (cxOf CX0 P w K mg base N qual (defScope st) fi cdv A outer s H E).nox.env = pure false ∧ swapsWith v2 (some (.Attribute o2 g p'')) pos3.line (cxOf CX0 P w K mg base N qual (defScope st) fi cdv A outer s H E).nox.env = pure false) :
    FnOk P w K mg base CX0 1 fi fd ps (spXI C [f, g]) := by
  refine F.ok (k := 0) S (fun vs H Q E ⟨H0, a, us, e, hl, _⟩ => by rw [e, hps]; simp only [List.length_cons]; simp at hl; omega) fun cdv _ A outer s H vs Q E hr ⟨H0, a, us, ev, hl, h0, eH, q⟩ => ?_
  obtain ⟨ta, h1, h2, h3, h4, h5, h6, s1, s2, s3⟩ := hst cdv A outer s H E
  rw [hb]
  refine ⟨_, pss_cons (ps_expr h1 s1) (pss_cons (ps_ost h3 h4 s2) (pss_one (ps_ost h5 h6 s3))), ?_⟩
  obtain ⟨y, z, rfl⟩ : ∃ y z, us = [y, z] := by
    match us, hl with
    | [y, z], _ => exact ⟨y, z, rfl⟩
  subst ev eH
  have g0 : (L2.start N [.ref a, y, z])[0]? = some (some (.ref a)) := start_get rfl
  have g1 : (L2.start N [.ref a, y, z])[1]? = some (some y) := start_get rfl
  have g2 : (L2.start N [.ref a, y, z])[2]? = some (some z) := start_get rfl
  refine h2 _ _ _ ⟨a, g0, a, C, [.str m], rfl, by simp, T, upd_same, ?_⟩
  refine ⟨y, g1, _, g0, a, C, rfl, T, hno, .inl ⟨upd_same, fun dx n1 n2 => ?_⟩⟩
  rw [upd_ne n2] at n1
  refine ⟨z, g2, _, g0, a, C, rfl, T, hno2, .inr ⟨dx, [(f, y)], upd_same, by rw [upd_ne n2, upd_same], by simp, ?_⟩⟩
  refine q dx _ n1 n2 (by rw [upd_ne (Ne.symm n2), upd_same]) upd_same fun b hb1 hb2 => ?_
  rw [upd_ne hb2, upd_ne hb1, upd_ne hb2, upd_ne hb1]
end
/-- an exception class of ours with an own __init__, as it is raised -/
structure Raiser (P : Program) (w : World) (K : PySem.W.Frag) (mg : Str → Option Value) (base : Heap) (ca : Nat → Addr) (k c : Nat) (x : Str) : Prop where
  ex : ∃ (fI : Addr) (fd : FuncData) (ps : List Str), OexC K (ca c) ∧ PySem.W.findIn K (.ref (ca c)) "__init__" = some (some (.ref fI)) ∧ PySem.W.typeIn K (.ref fI) = some (.type "function") ∧ FnOk P w K mg base CX0 k fI fd ps (spXI (ca c) (xflds c).reverse) ∧ Binds K fd ps [] ∧ mg x = some (.ref (ca c))
def toA : R → Option (Int ⊕ Str)
  | .va (.int i) => some (.inl i)
  | .va (.str s) => some (.inr s)
  | _ => none
def atoms : List R → Option (List (Int ⊕ Str))
  | [] => some []
  | r :: rs => (toA r).bind fun a => (atoms rs).map (a :: ·)
theorem atoms_d : ∀ {rs : List R} {fs : List (Int ⊕ Str)}, atoms rs = some fs → (rs.all (fun r => !r.wr)) = true ∧ rs.map R.d = fs.map aD ∧ rs.length = fs.length
  | [], fs, h => by cases h; exact ⟨rfl, rfl, rfl⟩
  | r :: rs, fs, h => by
    obtain ⟨a, ea, h⟩ := Option.bind_eq_some_iff.mp h
    obtain ⟨gs, eg, rfl⟩ := Option.map_eq_some_iff.mp h
    obtain ⟨h1, h2, h3⟩ := atoms_d eg
    unfold toA at ea
    split at ea
    · cases ea
      exact ⟨by rw [List.all_cons, h1]; rfl, by rw [List.map_cons, List.map_cons, h2]; rfl, by rw [List.length_cons, List.length_cons, h3]⟩
    · cases ea
      exact ⟨by rw [List.all_cons, h1]; rfl, by rw [List.map_cons, List.map_cons, h2]; rfl, by rw [List.length_cons, List.length_cons, h3]⟩
    · cases ea
def xRaise (c : Nat) (ms : Gm → Option (List R)) : Gm → Option Exc := fun g => (ms g).bind fun rs => (atoms rs).bind fun fs => if (fs.length == (xflds c).length) = true then some ⟨c, fs.reverse⟩ else none
theorem zip_fst : ∀ {names : List Str} {us : List V}, us.length = names.length → (names.zip us).map (·.1) = names
  | [], [], _ => rfl
  | n :: names, u :: us, h => by
    rw [List.zip_cons_cons, List.map_cons, zip_fst (by simpa using h)]
theorem zip_snd : ∀ {names : List Str} {us : List V}, us.length = names.length → (names.zip us).map (·.2) = us
  | [], [], _ => rfl
  | n :: names, u :: us, h => by
    rw [List.zip_cons_cons, List.map_cons, zip_snd (by simpa using h)]
section
variable {X : Cx} {ca : Nat → Addr} {e : Expr} {es : List Expr} {ms : Gm → Option (List R)} {p pos pos' : Pos}
theorem xflds_len (c : Nat) : (xflds c).length ≤ 2 := by
  unfold xflds
  split
  · exact Nat.le_refl _
  · split
    · decide
    · decide
theorem x0_raise {k c : Nat} {x : Str} (M : Raiser X.prog X.w X.K X.mg X.base ca k c x) (hc : X.calm = true) (hr : Room (k + 1) X.A) (hg : Gl X x) (ha : AV X ca (e :: es) ms) (hdb : (x == ("__debug__" : Str)) = false := by decide)
    (he : starEach (e :: es) X.env = (false, eval e X.env) :: starEach es X.env := by rfl) (hpl : (backTo pos (starEach es X.env)).any (·.1) = false := by rfl) : X0 X ca (.Raise (some (.Call (.Name x p) (e :: es) [] pos)) none pos') (xRaise c ms) := by
  intro W tk
  obtain ⟨fI, fd, ps, T, iC, tI, G, hb, hm⟩ := M.ex
  refine ps_imp (ps_raise hc tk (pmk_oex T iC tI G hr hb .nil pass0 hg hm ha hdb he hpl)) ?_
  rintro D σ H ⟨H0, F0, F, Γ, z, S, e, q⟩
  obtain ⟨rs, er, e⟩ := Option.bind_eq_some_iff.mp e
  obtain ⟨as, ea, e⟩ := Option.bind_eq_some_iff.mp e
  obtain ⟨w1, w2, w3⟩ := atoms_d ea
  refine ⟨H0, F0, F, Γ, rs, S, er, fun vs H1 F1 x1 r1 => ?_⟩
  split at e
  rotate_left
  · cases e
  rename_i hc
  cases e
  rw [beq_iff_eq] at hc
  have hl : vs.length = (xflds c).length := ((RVs.length r1).trans w3).trans hc
  have hl' : vs.length = ((xflds c).reverse).length := by rw [List.length_reverse]; exact hl
  have hd := RVs.den r1 w1
  rw [w2] at hd
  refine ⟨by have := xflds_len c; omega, fun a n => ⟨H1, a, vs, by rw [List.append_nil], hl', n, rfl, fun d H2 n1 n2 e1 e2 e3 => ⟨rfl, d, _, e1, e2, n1, ?_⟩⟩⟩
  have eh : upd (del H2 a) d (.xd ((xflds c).reverse.zip vs).reverse) = upd H1 d (.xd ((xflds c).reverse.zip vs).reverse) := funext fun b => by
    by_cases hb : b = d
    · subst hb; rw [upd_same, upd_same]
    · rw [upd_ne hb, upd_ne hb]
      by_cases hb2 : b = a
      · subst hb2; rw [del_same, n]
      · rw [del_ne hb2]; exact e3 b hb2 hb
  rw [eh]
  refine q _ _ _ (upd F1 d (.xd ((xflds c).reverse.zip vs).reverse)) (x1.trans (.new x1.fh _ n1)) ⟨rfl, _, .inr ⟨d, rfl, upd_same⟩, ?_, ?_⟩
  · rw [List.map_reverse, zip_fst hl', List.reverse_reverse]
  · rw [List.map_reverse, zip_snd hl']
    show Dens X.K ca _ vs.reverse (as.reverse.map aD)
    rw [List.map_reverse]
    exact (hd.mono (same_upd (x1.fh.free n1))).reverse
end
/-! a def that raises -/
def psi (m : Gm → Option Exc) (N n : Nat) : List D → Option Exc := fun ds => if ds.length = n then m (ds.map Slot.va ++ List.replicate (N - n) Slot.un) else none
section
variable {P : Program} {w : World} {K : PySem.W.Frag} {mg : Str → Option Value} {base : Heap} {ca : Nat → Addr}
theorem FunA.okX {x qual : Str} {st : Stmt} {f : Addr} {fd : FuncData} {N ps : List Str} {k : Nat} {sp : Sp} (F : FunA K x qual st f fd) (S : FnScope N ps (defScope st)) (len : ∀ vs H Q E, sp vs H Q E → vs.length = ps.length)
    (hbody : ∀ (cdv : Value), fd.code = cdv → ∀ (A : Around) (outer : List Env) (s : Shared) (H : Hp) (vs : List V) (Q : VK) (E : XK), Room k (A.deeper (envOfC qual (defScope st) s.heap.objs.size f cdv)) → sp vs H Q E →
      ∃ t, PSs (cxOf (L2.CX P w) P w K mg base N qual (defScope st) f cdv A outer s H E) (defBody st) t ∧ t { nx := fun _ H' => Q .non H', rt := Q } (L2.start N vs) H) : FnOk P w K mg base (L2.CX P w) (k + 1) f fd ps sp := by
  obtain ⟨oc, od, dV, kV, doc, pm, an, cdv, ct, osl, rfl, lk, hcd⟩ := F.ex
  exact fn_of lk hcd S len fun A outer s H vs Q E hr hsp => hbody cdv rfl A outer s H vs Q E hr hsp
theorem fnx_ok {x qual : Str} {st : Stmt} {f : Addr} {fd : FuncData} {N ps : List Str} {k n nN : Nat} {m : Gm → Option Exc} {ψ : List D → Option Exc} (F : FunA K x qual st f fd) (S : FnScope N ps (defScope st)) (hn : ps.length = n) (hN : N.length = nN) (hψ : ψ = psi m nN n)
    (hbody : ∀ (cdv : Value) (A : Around) (outer : List Env) (s : Shared) (H : Hp) (E : XK), Room k (A.deeper (envOfC qual (defScope st) s.heap.objs.size f cdv)) →
      XSs (cxOf (L2.CX P w) P w K mg base N qual (defScope st) f cdv A outer s H E) ca (defBody st) m) : FnOk P w K mg base (L2.CX P w) (k + 1) f fd ps (spX K ca ψ) := by
  subst hψ
  subst hn
  subst hN
  refine F.okX S (fun vs H Q E ⟨ds, F0, r, s, _, _, h, e, _⟩ => ?_) (fun cdv _ A outer s H vs Q E hr ⟨ds, F0, r, sm, nt, tc, h, e, q⟩ => ?_)
  · unfold psi at e
    split at e
    · rw [h.length]; assumption
    · cases e
  · unfold psi at e
    split at e
    · rename_i hl
      have S0 : SR K ca H F0 (L2.start N vs) H F0 (ds.map Slot.va ++ List.replicate (N.length - ps.length) Slot.un) := by
        rw [← hl]
        exact sr_start sm nt tc h
      exact ⟨_, hbody cdv A outer s H E hr (fun cls d _ H' => E cls d H') (takes_of rfl rfl rfl rfl), H, F0, F0, _, r, S0, e, fun cls d σ' H' F' x1 rx => q cls d H' F' x1 rx⟩
    · cases e
end
/-! try -/
theorem exh_ok {P : Program} {w : World} {H : Hp} {h : Heap} {a C : Addr} {d : Option Addr} {o : Obj} {vs : Array Value} (he : h.get? a = some o) (hz : Zc (.ref C) d o) (hd : o.data = .fields vs) : ObjOk P w H h a (exh a C d) :=
  ⟨⟨o, vs, he, hz, hd⟩, ⟨_, he⟩, fun h1 h2 z k => by
    obtain ⟨o, vs, e1, e2, e3⟩ := z
    exact ⟨o, vs, k _ e1, e2, e3⟩⟩
theorem exh_at {P : Program} {w : World} {H : Hp} {h : Heap} {a C : Addr} {d : Option Addr} (hok : L2.HOk P w H h) (he : H a = some (exh a C d)) : ∃ (o : Obj) (vs : Array Value), h.get? a = some o ∧ Zc (.ref C) d o ∧ o.data = .fields vs := by
  have x : ObjOk P w H h a (.ext fun h => ∃ (o : Obj) (vs : Array Value), h.get? a = some o ∧ Zc (.ref C) d o ∧ o.data = .fields vs) := hok a _ he
  exact x.1
section
variable {X : Cx} {pins : List (Addr × Obj)} {σ : L2.St} {H : Hp} {s : Shared}
/-- the exception that was held is tracked -/
theorem track {a C : Addr} {oe : Obj} {d : Option Addr} {vs : Array Value} {xe : Value → Shared → Prop} (ok : X.Ok) (I : Inv (X.tr ((a, oe) :: (X.pn ++ pins)) xe) [] σ H s) (hz : Zc (.ref C) d oe) (hd : oe.data = .fields vs)
    (hp : ∀ p ∈ X.pn ++ pins, p.1 ≠ a) (h0 : ∀ b o, X.s_0.heap.get? b = some o → b ∉ X.ex → b ≠ a) : Inv X pins σ (upd H a (exh a C d)) s := by
  obtain ⟨ha, na, nL, nF, nc⟩ := I.pin (a, oe) (List.mem_append_left _ List.mem_cons_self)
  have un : ∀ {b u}, H b = some u → b ≠ a := fun {b u} e z => by
    rw [z] at e
    rw [na] at e; cases e
  refine ⟨ok, I.os, I.bare, ⟨I.base.keep, I.base.slot, fun b o e n hx => by rw [upd_ne (h0 b o e hx)]; exact I.base.free b o e n hx, I.base.there, fun b xs e => by rw [upd_ne (un (I.base.tups b xs e))]; exact I.base.tups b xs e,
    fun b o u e => by rw [upd_ne (un (I.base.frzs b o u e))]; exact I.base.frzs b o u e, fun b ps e => by
    obtain ⟨m, z⟩ := I.base.tbls b ps e
    exact ⟨m, by rw [upd_ne (un z)]; exact z⟩⟩, I.loc, I.cell, ?_, fun x c e => ?_, fun p hp' => ?_, fun b u e => ?_, I.len⟩
  · show upd H a _ X.env.locals = none
    rw [upd_ne (Ne.symm nL)]; exact I.free
  · obtain ⟨v, o, z1, z2⟩ := I.cell x c e
    have : c ≠ a := fun z => by
      rw [z, ha] at z1
      cases z1
      exact nc v z2
    rw [upd_ne this]; exact I.freeC x c e
  · obtain ⟨g1, g2, g3, g4, g5⟩ := I.pin p (List.mem_append_left _ (List.mem_cons_of_mem _ hp'))
    exact ⟨g1, by rw [upd_ne (hp p hp')]; exact g2, g3, g4, g5⟩
  · by_cases hb : b = a
    · subst hb
      rw [upd_same] at e
      cases e
      exact exh_ok ha hz hd
    · rw [upd_ne hb] at e
      exact (I.hok b u e).stay (fun _ _ _ q => q) (fun c q => by rw [upd_ne (un q)]; exact q) fun c xs q => by rw [upd_ne (un q)]; exact q
end
def wKeep (K : PySem.W.Frag) (c : Value) (i : Nat) (ts : Addr → TS) (D : Ends) : WX := fun cls d σ H =>
  ∃ C : Addr, cls = .ref C ∧ PySem.W.exmOne K cls c = some true ∧ ∀ a, H a = none → ts a { nx := fun σ' H' => D.nx (σ'.set i none) (upd H' a (exh a C d)), rt := fun _ _ => False, bk := fun _ _ => False, ct := fun _ _ => False } (σ.set i (some (.ref a))) H
section
variable {X : Cx} {x n : Str} {c : Value} {i : Nat} {body suite : List Stmt} {b₀ : Stmt} {np pos pos' : Pos} {tb : WX → TS} {ts : Addr → TS}
theorem ps_try_keep (hs : X.stack = X.env :: X.outer) (hf : X.env.frame = some X.env.locals) (hN : X.N.Nodup) (hi : X.N[i]? = some n) (hln : X.env.kindOf n = some .local) (hc : Names X x c)
    (hb : ∀ (W : WX) (pn : List (Addr × Obj)) (xe : Value → Shared → Prop), Takes (X.tr pn xe) W → PSs (X.tr pn xe) body (tb W))
    (hsu : ∀ (a : Addr) (oe : Obj) (pn : List (Addr × Obj)), PSs (X.suite a ((a, oe) :: pn)) (b₀ :: suite) (ts a)) :
    PS X (.Try body [.ExceptHandler (some (.Name x np)) (some n) (b₀ :: suite) pos'] [] [] pos) (fun D σ H => tb (wKeep X.K c i ts D) D σ H) := by
  refine ⟨fun pins s σ H D I h => ?_⟩
  have ok := I.ok
  have hfr : X.A.frames = some (X.env :: X.outer) := by rw [ok.frames, hs]
  have hloc : Loc X.env.scope n := .inl hln
  refine wpAny_Try_except ?_
  refine wpAny_mono ((hb (wKeep X.K c i ts D) (X.pn ++ pins) (fun e s₁ => wpAny (model X.prog X.w) X.A (noteFrame e X.env) (fun _ s₂ => wpAny (model X.prog X.w) X.A (setFlight e none) (fun _ s₃ =>
    wpAny (model X.prog X.w) X.A (handleBy e X.env [.ExceptHandler (some (.Name x np)) (some n) (b₀ :: suite) pos']) (SP X pins D) X.xe s₃) X.xe s₂) X.xe s₁) (fun u s' xx => ?_)).run [] s σ H D (I.toTry _) h) (fun f s1 hsp => ?_) (fun e s1 he => he)
  · obtain ⟨a, B, sI, pins', σ', H', cls, d, rfl, J', nb, up, sky, na, os, ag, C, rfl, hb1, hyes⟩ := xx
    have J : Inv X pins σ' H' sI := J'.ofTry ok
    have sky' : Sky B (X.env :: X.outer) a (Zc (.ref C) d) X.env.locals s'.heap := by rw [← hs]; exact sky
    show wpAny (model X.prog X.w) X.A (noteFrame (.ref a) X.env) _ _ _
    refine Sky.land Zc.steady hfr hf sky' fun h3 fl3 up3 => ?_
    have J3 : Inv X pins σ' H' { s' with heap := h3 } := J.landed nb fl3.1 (up.trans up3) os ag
    obtain ⟨oe3, vs3, he3, hz3, hd3⟩ := fl3.there
    have notFr : ∀ {h : Heap} {o : Obj} {vs : Array Value}, h.FunFrames B (X.env :: X.outer) → h.get? a = some o → o.data = .fields vs → a ∉ frs (X.env :: X.outer) := fun {h o vs} ff e dd hm => by
      obtain ⟨_, o', e', hnf⟩ := ff.mem hm
      rw [e] at e'; cases e'
      exact hnf _ dd
    have nfr := notFr fl3.2.2.1 he3 hd3
    have nL : a ≠ X.env.locals := fun z => nfr (List.mem_filterMap.mpr ⟨X.env, List.mem_cons_self, by rw [hf, z]⟩)
    have nF : a ∉ X.fs := fun hm => by
      obtain ⟨e, he, q⟩ := List.mem_filterMap.mp hm
      exact nfr (List.mem_filterMap.mpr ⟨e, List.mem_cons_of_mem _ he, q⟩)
    have nsI : ∀ o, sI.heap.get? a ≠ some o := fun o e => by
      have z := nb a o e (by rw [hs]; exact nfr)
      rw [fl3.2.1] at z; cases z
    have hpins : ∀ p ∈ X.pn ++ pins, p.1 ≠ a := fun p hp z => by
      obtain ⟨e, _⟩ := J.pin p hp
      rw [z] at e
      exact nsI _ e
    have hs0 : ∀ b o, X.s_0.heap.get? b = some o → b ∉ X.ex → b ≠ a := fun b o e hx z => by
      obtain ⟨o', e'⟩ := J.base.there b o e hx
      rw [z] at e'
      exact nsI _ e'
    have S3 := J3.suite he3 hd3 na nL nF
    refine wpAny_handleBy_cons (codeAny_handlers_test ?_) (by intro q; cases q)
    have LT : PySem.W.Looks (model X.prog X.w) h3 (typeOf (.ref a)) (.ref C) := fun A Q E s k q => wpAny_typeOf_ref (k _ _ he3) (by rw [hz3.1]; exact q)
    have LM := PySem.W.exm_one (M := model X.prog X.w) (J3.kIn) LT hb1
    have test : ∀ {Q : Value → Shared → Prop} {E : Value → Shared → Prop}, Q c { s' with heap := h3 } → wpAny (model X.prog X.w) (X.A.mark (some (.ref a))) (eval (.Name x np) X.env) Q E { s' with heap := h3 } := fun {Q E} q => by
      obtain ⟨hg, hdbg, hm | ⟨hm, hv, hnn⟩⟩ := hc
      · exact ld_glob (X := X.suite a ((a, oe3) :: (X.pn ++ pins))) S3 hg hm q hdbg
      · exact ld_blt (X := X.suite a ((a, oe3) :: (X.pn ++ pins))) S3 hg hm hv q hnn hdbg
    refine test (LM.here ?_)
    refine codeAny_handlers_suite_as ?_
    refine HandSPX.lands_againZ fl3 fun h4 fl4 up4 => ?_
    have J4 : Inv X pins σ' H' { s' with heap := h4 } := J.landed nb fl4.1 ((up.trans up3).trans up4) os ag
    obtain ⟨oe4, vs4, he4, hz4, hd4⟩ := fl4.there
    have S4 := J4.suite he4 hd4 na nL nF
    refine store_ok (X := X.suite a ((a, oe4) :: (X.pn ++ pins))) (v := .ref a) S4 hN hi hloc rfl (fun s5 S5 => ?_) (.inr hln)
    refine wpAny_mono ((hsu a oe4 (X.pn ++ pins)).run [] s5 _ H' _ S5 (hyes a na)) (fun f s6 hsp => ?_) (fun _ _ z => False.elim z)
    cases f with
    | next =>
      obtain ⟨σ6, H6, S6, q6⟩ := hsp
      have J6 : Inv (X.tr ((a, oe4) :: (X.pn ++ pins)) X.xe) [] σ6 H6 s6 := ⟨ok.toTry _ _, S6.os, S6.bare, S6.base, S6.loc, S6.cell, S6.free, S6.freeC, S6.pin, S6.hok, S6.len⟩
      exact gone_ok (X := X.tr ((a, oe4) :: (X.pn ++ pins)) X.xe) J6 hN hi hln fun s7 J7 => ⟨_, _, track ok J7 hz4 hd4 hpins hs0, q6⟩
    | brk =>
      obtain ⟨σ6, H6, S6, q6⟩ := hsp
      exact q6.elim
    | cont =>
      obtain ⟨σ6, H6, S6, q6⟩ := hsp
      exact q6.elim
    | ret u =>
      obtain ⟨v6, σ6, H6, S6, r6, q6⟩ := hsp
      exact q6.elim
  · cases f with
    | next =>
      obtain ⟨σ', H', J', q⟩ := hsp
      exact wpAny_execs_nil ⟨σ', H', J'.ofTry ok, q⟩
    | brk =>
      obtain ⟨σ', H', J', q⟩ := hsp
      exact ⟨σ', H', J'.ofTry ok, q⟩
    | cont =>
      obtain ⟨σ', H', J', q⟩ := hsp
      exact ⟨σ', H', J'.ofTry ok, q⟩
    | ret u =>
      obtain ⟨v, σ', H', J', r, q⟩ := hsp
      exact ⟨v, σ', H', J'.ofTry ok, r, q⟩
end
/-- what a block raises -/
def exn (m : Gm → Option Out) : Gm → Option Exc := fun g => match m g with
  | some (.ex x) => some x
  | _ => none
theorem exn_some {m : Gm → Option Out} {g : Gm} {x : Exc} (h : exn m g = some x) : m g = some (.ex x) := by
  unfold exn at h
  split at h
  · rename_i y e
    cases h
    exact e
  · cases h
theorem exn_of {m : Gm → Option Out} {g : Gm} {x : Exc} (h : m g = some (.ex x)) : exn m g = some x := by
  unfold exn
  rw [h]
def sTry (m : Gm → Option Out) (ie i : Nat) (cs : List Nat) : Gm → Option Out := fun g => (m g).bind fun o => match o with
  | .nx g' => some (.nx g')
  | .rt r => some (.rt r)
  | .bk g' => some (.bk g')
  | .ct g' => some (.ct g')
  | .ex x => if (cs.contains x.c && decide (ie < g.length)) = true then some (.nx (((g.set ie (.va (.exc x.c (x.fs.map aD)))).set i (.va (.exc x.c (x.fs.map aD)))).set ie .un)) else none
theorem sv_try {X : Cx} {ca : Nat → Addr} {ie i ct : Nat} {x n y : Str} {body : List Stmt} {np ap yp vp pos pos' : Pos} {m : Gm → Option Out} {T : List Nat} {cs : List Nat} (hs : X.stack = X.env :: X.outer) (hf : X.env.frame = some X.env.locals) (hN : X.N.Nodup) (hie : X.N[ie]? = some n) (hi : X.N[i]? = some y) (hln : X.env.kindOf n = some .local) (hly : X.env.kindOf y = some .local)
    (hg : Gl X x) (hm : X.mg x = some (.ref (ca ct))) (hcs : ∀ c ∈ cs, PySem.W.exmOne X.K (.ref (ca c)) (.ref (ca ct)) = some true) (hb : SVs X.nox ca body m T) (hx : ∀ (pn : List (Addr × Obj)) (xe : Value → Shared → Prop), X0s (X.tr pn xe) ca body (exn m))
    (hsw : swapsWith (.Name n vp) (some (.Name y yp)) ap.line X.env = pure false := by rfl) (hdb : (x == ("__debug__" : Str)) = false := by decide) (hdn : (n == ("__debug__" : Str)) = false := by decide) (hcn : (n == ("__classdict__" : Str)) = false := by decide) :
    SV X ca (.Try body [.ExceptHandler (some (.Name x np)) (some n) [.Assign [.Name y yp] (.Name n vp) ap] pos'] [] [] pos) (sTry m ie i cs) (ie :: i :: T) := by
  have it : ∀ j ∈ T, j ∈ ie :: i :: T := fun j h => List.mem_cons_of_mem _ (List.mem_cons_of_mem _ h)
  refine ⟨ps_imp (ps_or2 (ps_try_thru0 hb.ps) (ps_try_keep (c := .ref (ca ct)) (tb := fun W _ σ H => tXV X.K ca W (exn m) σ H) hs hf hN hie hln ⟨hg, hdb, .inl hm⟩ (fun W pn xe tk => hx pn xe W tk) (fun a oe pn => pss_one (ps_set (X := X.suite a ((a, oe) :: pn)) hN hi (.inl hly) (pe_var (i := ie) hie (.inl hln) hdn hcn) hsw (.inr hly))))) ?_, fun g o e => ?_⟩
  · rintro D σ H ⟨H0, F0, F, Γ, o, S, e, p⟩
    unfold sTry at e
    obtain ⟨o1, hm1, e⟩ := Option.bind_eq_some_iff.mp e
    cases o1 with
    | nx g' => cases e; exact .inl ⟨H0, F0, F, Γ, _, S, hm1, PostO.mono (T := []) (Same.refl _) .refl (fun _ z => nomatch z) it p⟩
    | rt r => cases e; exact .inl ⟨H0, F0, F, Γ, _, S, hm1, PostO.mono (T := []) (Same.refl _) .refl (fun _ z => nomatch z) it p⟩
    | bk g' => cases e; exact .inl ⟨H0, F0, F, Γ, _, S, hm1, PostO.mono (T := []) (Same.refl _) .refl (fun _ z => nomatch z) it p⟩
    | ct g' => cases e; exact .inl ⟨H0, F0, F, Γ, _, S, hm1, PostO.mono (T := []) (Same.refl _) .refl (fun _ z => nomatch z) it p⟩
    | ex z =>
      have ez := exn_of hm1
      replace e : (if (cs.contains z.c && decide (ie < Γ.length)) = true then some (Out.nx (((Γ.set ie (.va (.exc z.c (z.fs.map aD)))).set i (.va (.exc z.c (z.fs.map aD)))).set ie .un)) else none) = some o := e
      split at e
      rotate_left
      · cases e
      rename_i hc
      cases e
      rw [Bool.and_eq_true, decide_eq_true_eq] at hc
      obtain ⟨hc, hl⟩ := hc
      refine .inr ⟨H0, F0, F, Γ, z, S, ez, fun cls d H1 F1 x1 r1 => ?_⟩
      obtain ⟨rfl, fs, hd, hfs, hdn⟩ := r1
      refine ⟨_, rfl, hcs _ (List.contains_iff_mem.mp hc), fun a na => ?_⟩
      have x2 := x1.trans (Ext.new x1.fh (exh a (ca z.c) d) na)
      have dn : Den X.K ca (upd F1 a (exh a (ca z.c) d)) (.ref a) (.exc z.c (z.fs.map aD)) := by
        refine .exc upd_same (hd.imp (fun z => z) fun ⟨dd, e1, e2⟩ => ⟨dd, e1, ?_⟩) hfs (hdn.mono (same_upd (x1.fh.free na)))
        exact same_upd (x1.fh.free na) _ _ e2
      refine ⟨.ref a, List.getElem?_set_self (S.lt hl), ?_⟩
      refine p _ _ _ ((((S.mono x2).setVa dn).setVa dn).setUn none) x2.ff (fun j hj => ?_)
      rw [List.getElem?_set_ne fun z => hj (by simp [z]), List.getElem?_set_ne fun z => hj (by simp [z]), List.getElem?_set_ne fun z => hj (by simp [z])]
  · unfold sTry at e
    obtain ⟨o1, hm1, e⟩ := Option.bind_eq_some_iff.mp e
    have k1 := hb.kp _ _ hm1
    cases o1 with
    | nx g' => cases e; exact k1.mono it
    | rt r => cases e; trivial
    | bk g' => cases e; exact k1.mono it
    | ct g' => cases e; exact k1.mono it
    | ex z =>
      replace e : (if (cs.contains z.c && decide (ie < g.length)) = true then some (Out.nx (((g.set ie (.va (.exc z.c (z.fs.map aD)))).set i (.va (.exc z.c (z.fs.map aD)))).set ie .un)) else none) = some o := e
      split at e
      · cases e
        intro j hj
        rw [List.getElem?_set_ne fun z => hj (by simp [z]), List.getElem?_set_ne fun z => hj (by simp [z]), List.getElem?_set_ne fun z => hj (by simp [z])]
      · cases e
end BK
set_option maxHeartbeats 4000000
namespace PySem.W
open PySem PySem.Spec PySem.Calls PyProof.Rows
section
variable {prog : Program} {w : World} {A : Around} {E : Value → Shared → Prop} {s : Shared} {K : Frag} {x D : Addr} {ox : Obj} {od : Option Obj}
theorem bk_findObj {C : Addr} {name : Str} {a g : Value} (hc : (clsIn K C).isSome = true) (ha : findIn K (.ref C) name = some (some a)) (hg : specialIn K a "__get__" = some (some g)) (ht : takesIn K a = some true) : findObj K C od name = some (.bind g a) := by
  obtain ⟨cd, hc⟩ := Option.isSome_iff_exists.mp hc
  unfold findObj
  rw [hc, Option.bind_some, ha, Option.bind_some]
  simp [hg, ht]
theorem bk_classE {Q : Option Value → Shared → Prop} (hga : findIn K (.ref D) "__getattribute__" = some (some (.builtin "BaseException.__getattribute__"))) (hgt : findIn K (.ref D) "__getattr__" = some none) (hsub : subIn K (.ref D) (.type "BaseException") = some true)
    (hdct : hasDictIn K D = true) (ha : findIn K (.ref D) "__class__" = some (some (.builtin "object.__class__")))
    (hn : specialIn K (.builtin "object.__class__") "__get__" = some (some (.builtin "getset_descriptor.__get__"))) (htk : takesIn K (.builtin "object.__class__") = some true) (hm : mroIn K D (.type "object") = some true)
    (X : K.In s.heap) (I : InstAt s.heap x ox D od) (h : Q (some (.ref D)) { s with toks := s.toks + 1 }) : wpAny (model prog w) A (getAttr? (.ref x) "__class__") Q E s := by
  have hf : findObj K D od "__class__" = some (.bind (.builtin "getset_descriptor.__get__") (.builtin "object.__class__")) := bk_findObj (by obtain ⟨cd, hc, _⟩ := any_some hdct; rw [hc]; rfl) ha hn htk
  obtain ⟨hp, g, d, t, os⟩ := s
  have L0 := I.type (M := model prog w)
  have L1 := looks_findIn (M := model prog w) X hga
  have L2 := looks_findIn (M := model prog w) X hgt
  have L3 := looks_find (M := model prog w) X I hf
  have sub : Looks (model prog w) hp (isInstance (.ref x) (.type "BaseException")) true := L0.andThen (looks_subIn X hsub)
  have hx0 : (false && onTheHeap (Value.builtin "BaseException.__getattribute__")) = false := rfl
  have hx2 : (Value.builtin "BaseException.__getattribute__" == Value.builtin "object.__getattribute__") = false := by decide +kernel
  have hx1 : (onTheHeap (Value.ref D) && Value.builtin "BaseException.__getattribute__" == Value.builtin "object.__getattribute__") = false := by rw [hx2]; rfl
  unfold getAttr? getAttrBy? getAttrBy
  refine wpAny_bind (wpAny_mkText (wpAny_bind (wpAny_attempt (wpAny_holding (wpAny_bind (L0.at (wpAny_bind (L1.at ?_))))))))
  show wpAny _ _ (if (onTheHeap (Value.ref D) && Value.builtin "BaseException.__getattribute__" == Value.builtin "object.__getattribute__") = true then _ else _) _ _ _
  rw [hx1, if_neg Bool.false_ne_true]
  unfold getAttrByItsOwn hookBefore
  refine wpAny_bind ?_
  rw [if_pos (show onTheHeap (Value.ref D) = true from rfl)]
  refine L2.at ?_
  refine wpAny_bind (wpAny_attempt (wpAny_holding ?_))
  unfold callGetattribute
  rw [hx0, if_neg Bool.false_ne_true]
  unfold boundAndCalled
  rw [PySem.F.excAttr_ValueError.ga.bind (.ref x)]
  refine wpAny_bind (wpAny_pure ?_)
  show wpAny _ _ (call (.builtin "BaseException.__getattribute__") [.ref x, .str "__class__" t]) _ _ _
  refine wpAny_call (codeAny_call_builtin PySem.F.excAttr_ValueError.ga.plain PySem.F.entry_bexc_ga ?_)
  refine @check_slot (model prog w) _ _ ⟨hp, g, d, t + 1, os⟩ "BaseException.__getattribute__" "BaseException" "__getattribute__" (.ref x) [.str "__class__" t] [] _ (by decide +kernel) (by decide +kernel) sub (PySem.F.args_bexc_ga (.ref x) (.str "__class__" t)) ?_
  unfold Builtin.«object.__getattribute__»
  refine wpAny_bind (wpAny_of_eq (a := ((Value.ref x : Value), [Value.str "__class__" t])) (by first | rfl | (simp only [slotArgs]; rfl)) ?_)
  refine wpAny_bind (wpAny_pure (wpAny_bind (L0.at (wpAny_bind (L3.at ?_)))))
  show wpAny _ _ (holding [Value.builtin "object.__class__"] (call (.builtin "getset_descriptor.__get__") [.builtin "object.__class__", .ref x, .ref D]) >>= ret) _ _ _
  refine wpAny_bind (wpAny_holding (wpAny_call (class_get (s := ⟨hp, g, d, t + 1, os⟩) (ox := ox) (od := od) X I hm ?_)))
  refine wpAny_pure ?_
  show wpAny _ _ (handedOut (.ref D)) _ _ _
  rw [handedOut_of (v := .ref D) rfl]
  first
    | exact wpAny_pure (wpAny_pure h)
    | exact wpAny_pure h
    | exact wpAny_pure (wpAny_bind (wpAny_pure (wpAny_pure h)))
theorem bk_kitx (hga : findIn K (.ref D) "__getattribute__" = some (some (.builtin "BaseException.__getattribute__"))) (hgt : findIn K (.ref D) "__getattr__" = some none) (hsub : subIn K (.ref D) (.type "BaseException") = some true) (hdct : hasDictIn K D = true) (ha : findIn K (.ref D) "__class__" = some (some (.builtin "object.__class__")))
    (hn : specialIn K (.builtin "object.__class__") "__get__" = some (some (.builtin "getset_descriptor.__get__"))) (htk : takesIn K (.builtin "object.__class__") = some true) (hm : mroIn K D (.type "object") = some true) :
    KitX K (.ref x) (.ref D) (fun h => InstAt h x ox D od) where
  ty := fun _ _ _ I => I.type
  it := fun _ _ X _ => by
    obtain ⟨cdD, hcD, _⟩ := any_some hdct
    unfold clsIn at hcD
    split at hcD
    · rename_i c' d' cd' sl' ho
      intro A' Q' E' s' k q
      unfold isType loadHead
      exact wpAny_bind (wpAny_loadPart (k _ _ (X _ _ ho)) (wpAny_pure q))
    · cases hcD
  ne := (handS_kitx_exc (x := x) (ox := ox) hga hgt hsub hdct ha hn htk hm).ne
  ca := fun X I k => bk_classE hga hgt hsub hdct ha hn htk hm X I k
end
end PySem.W
namespace BK
open PySem PySem.Spec L2
set_option autoImplicit false
/-! ### a caught exception: its class, its fields -/
/-- a tracked exception as the library sees it -/
theorem exc_inst {X : Cx} {pins : List (Addr × Obj)} {σ : L2.St} {H : Hp} {s : Shared} {a C : Addr} {d : Option Addr} (I : Inv X pins σ H s) (h : H a = some (exh a C d)) (hd : d = none ∨ ∃ dd fs, d = some dd ∧ H dd = some (.xd fs)) : ∃ (o : Obj) (od : Option Obj), PySem.W.InstAt s.heap a o C od := by
  obtain ⟨o, vs, h1, h2, h3⟩ := exh_at I.hok h
  have nc : PySem.W.notCls o = true := by unfold PySem.W.notCls; rw [h3] <;> rfl
  rcases hd with rfl | ⟨dd, fs, rfl, e⟩
  · exact ⟨o, none, h1, h2.1, nc, by rw [h2.2]; trivial⟩
  · have hx : ObjOk X.prog X.w H s.heap dd (.xd fs) := I.hok dd _ e
    obtain ⟨mA, hns, hr⟩ := hx
    obtain ⟨od, ho, hl⟩ := lookIn_ns hns
    exact ⟨o, some od, h1, h2.1, nc, by rw [h2.2]; exact ho⟩
def rIsH (K : PySem.W.Frag) : List V → Hp → VK → Prop := fun xs H Q => ∃ (a C : Addr) (d : Option Addr) (c : V) (u : Value) (b : Bool), xs = [.ref a, c] ∧ H a = some (exh a C d) ∧ (d = none ∨ ∃ dd fs, d = some dd ∧ H dd = some (.xd fs)) ∧ ExcC K C ∧ ClsV c u ∧ PySem.W.kitOne K (.ref C) u = some b ∧ Q (.bl b) H
def rIsHT (K : PySem.W.Frag) : List V → Hp → VK → Prop := fun xs H Q => ∃ (a C : Addr) (d : Option Addr) (tp : Addr) (cs : List V) (us : List Value) (b : Bool), xs = [.ref a, .ref tp] ∧ H a = some (exh a C d) ∧ (d = none ∨ ∃ dd fs, d = some dd ∧ H dd = some (.xd fs)) ∧ ExcC K C ∧ H tp = some (.tup cs) ∧ Paired ClsV cs us ∧ PySem.W.kitAny K (.ref C) us = some b ∧ Q (.bl b) H
section
variable {X : Cx}
theorem call_isH : CallR X (.builtin "isinstance") (rIsH X.K) := by
  intro pins s σ H xs us Q I r h
  obtain ⟨a, C, d, c, u, b, rfl, h1, h2, T, k, e, q⟩ := h
  obtain ⟨u1, u2, rfl, r1, r2⟩ := vals2 r
  have e2 := k.eq r2
  subst e2
  cases (show u1 = Value.ref a from r1)
  obtain ⟨o, od, J⟩ := exc_inst I h1 h2
  exact PySem.W.kia_one (PySem.W.bk_kitx T.hg T.hk T.hs T.hd T.ha T.hn T.ht T.hm) I.kIn J e (fun z => nomatch z) fun tk => ⟨.bl b, H, I.tok tk, rfl, q⟩
theorem call_isHT : CallR X (.builtin "isinstance") (rIsHT X.K) := by
  intro pins s σ H xs us Q I r h
  obtain ⟨a, C, d, tp, cs, ws, b, rfl, h1, h2, T, hT, k, e, q⟩ := h
  obtain ⟨u1, u2, rfl, r1, r2⟩ := vals2 r
  cases (show u2 = Value.ref tp from r2)
  cases (show u1 = Value.ref a from r1)
  obtain ⟨o, od, J⟩ := exc_inst I h1 h2
  obtain ⟨_, its, rv, o2, g1, g2, n, g3⟩ := (show ObjOk X.prog X.w H s.heap tp (.tup cs) from I.hok tp _ hT)
  have e3 := ClsV.all k rv
  subst e3
  obtain ⟨oc, od2, dt, sl⟩ := o2
  simp only at g2 g3
  subst g2 g3
  exact PySem.W.kia_tup (PySem.W.bk_kitx T.hg T.hk T.hs T.hd T.ha T.hn T.ht T.hm) I.kIn J g1 e (fun z => nomatch z) fun tk => ⟨.bl b, H, I.tok tk, rfl, q⟩
end
def cIsX (cs : List Nat) (tb : Nat → Bool) (r : R) : Option R := match r with
  | .va (.exc c _) => if cs.contains c = true then some (.va (.bl (tb c))) else none
  | _ => none
/-- what isinstance wants of the classes cs, asked by the class value u -/
def IsX (K : PySem.W.Frag) (ca : Nat → Addr) (cs : List Nat) (u : Value) (tb : Nat → Bool) : Prop := ∀ c ∈ cs, ExcC K (ca c) ∧ PySem.W.kitOne K (.ref (ca c)) u = some (tb c)
theorem isX_any {K : PySem.W.Frag} {ca : Nat → Addr} {cs : List Nat} {us : List Value} {tbs : List (Nat → Bool)} (h : Paired (fun u tb => IsX K ca cs u tb) us tbs) {c : Nat} (hc : c ∈ cs) : PySem.W.kitAny K (.ref (ca c)) us = some (tbs.any fun tb => tb c) := by
  induction h with
  | nil => rfl
  | cons h hs ih =>
    refine kitAny_cons (h c hc).2 (fun z => ?_) fun z => ?_
    · rw [List.any_cons, z, Bool.false_or]; exact ih
    · rw [List.any_cons, z, Bool.true_or]
section
variable {X : Cx} {ca : Nat → Addr} {e : Expr} {m : Gm → Option R} {pos p p1 p2 p3 apos : Pos}
theorem dxd {K : PySem.W.Frag} {F H : Hp} {d : Option Addr} {fs : List (Str × V)} (s : Same F H) (h : d = none ∧ fs = [] ∨ ∃ dd, d = some dd ∧ F dd = some (.xd fs)) : d = none ∨ ∃ dd fs, d = some dd ∧ H dd = some (.xd fs) := by
  rcases h with ⟨h, _⟩ | ⟨dd, h1, h2⟩
  · exact .inl h
  · exact .inr ⟨dd, fs, h1, s _ _ h2⟩
theorem ev_isx {cs : List Nat} {tb : Nat → Bool} {x : Str} {v : V} {u : Value} (hg : Gl X "isinstance") (hm : X.mg "isinstance" = none) (hv : bootBuiltins "isinstance" = some (.builtin "isinstance")) (he : EV X ca e m) (hT : PE X (.Name x p1) (tC v)) (k : ClsV v u) (I : IsX X.K ca cs u tb)
    (hs1 : starEach [e, .Name x p1] X.env = (false, eval e X.env) :: starEach [.Name x p1] X.env := by rfl) (hs2 : starEach [.Name x p1] X.env = (false, eval (.Name x p1) X.env) :: starEach [] X.env := by rfl)
    (hpl : (backTo pos (starEach [.Name x p1] X.env)).any (·.1) = false := by rfl) : EV X ca (.Call (.Name "isinstance" p) [e, .Name x p1] [] pos) (e1 (cIsX cs tb) m) := by
  refine pe_imp (pe_callB call_isH hg hm hv (pa_cons he (pa_cons hT pa_nil hs2) hs1) (by decide) (by decide) hs1 hpl) ?_
  rintro σ H Q ⟨H0, F0, F, Γ, z, S, e, q⟩
  unfold e1 at e
  obtain ⟨r, er, e⟩ := Option.bind_eq_some_iff.mp e
  unfold cIsX at e
  split at e
  rotate_left
  · cases e
  rename_i c fs
  split at e
  rotate_left
  · cases e
  rename_i hc
  cases e
  refine ⟨H0, F0, F, Γ, _, S, er, fun v' H1 F1 x1 r1 => ?_⟩
  cases r1 with
  | exc g1 g2 g3 g4 =>
    obtain ⟨T, e2⟩ := I c (List.contains_iff_mem.mp hc)
    exact ⟨_, _, _, v, u, _, rfl, x1.fh _ _ g1, dxd (K := X.K) x1.fh g2, T, k, e2, q _ H1 F1 x1 (.bl _)⟩
theorem ev_isxT {cs : List Nat} {tbs : List (Nat → Bool)} {es : List Expr} {kt : Nat} {vs : List V} {us : List Value} (hg : Gl X "isinstance") (hm : X.mg "isinstance" = none) (hv : bootBuiltins "isinstance" = some (.builtin "isinstance")) (he : EV X ca e m) (TC : ∀ c ∈ cs, ExcC X.K (ca c)) (k : Paired ClsV vs us) (I : Paired (fun u tb => IsX X.K ca cs u tb) us tbs) (hl : vs.length ≤ 100)
    {t : TA} (ht : PA X es t) (htq : ∀ σ H Q, Q vs H → t σ H Q)
    (hs1 : starEach [e, .Tuple es kt p3] X.env = (false, eval e X.env) :: starEach [.Tuple es kt p3] X.env := by rfl)
    (hs2 : starEach [.Tuple es kt p3] X.env = (false, eval (.Tuple es kt p3) X.env) :: starEach [] X.env := by rfl)
    (hpl : (backTo pos (starEach [.Tuple es kt p3] X.env)).any (·.1) = false := by rfl) : EV X ca (.Call (.Name "isinstance" p) [e, .Tuple es kt p3] [] pos) (e1 (cIsX cs fun c => tbs.any fun tb => tb c) m) := by
  refine pe_imp (pe_callB call_isHT hg hm hv (pa_cons he (pa_cons (pe_tup ht) pa_nil hs2) hs1) (by decide) (by decide) hs1 hpl) ?_
  rintro σ H Q ⟨H0, F0, F, Γ, z, S, e, q⟩
  unfold e1 at e
  obtain ⟨r, er, e⟩ := Option.bind_eq_some_iff.mp e
  unfold cIsX at e
  split at e
  rotate_left
  · cases e
  rename_i c fs
  split at e
  rotate_left
  · cases e
  rename_i hc
  cases e
  refine ⟨H0, F0, F, Γ, _, S, er, fun v' H1 F1 x1 r1 => ?_⟩
  refine htq _ _ _ ⟨by rw [sizeLine_eq]; omega, fun t2 ht2 => ?_⟩
  have x2 := x1.trans (Ext.newO x1.fh (.tup vs) ht2)
  have sm := same_upd (o := .tup vs) ht2
  cases r1 with
  | exc g1 g2 g3 g4 =>
    have T := TC c (List.contains_iff_mem.mp hc)
    exact ⟨_, _, _, t2, vs, us, _, rfl, sm _ _ (x1.fh _ _ g1), dxd (K := X.K) (x1.fh.trans sm) g2, T, upd_same, k, isX_any I (List.contains_iff_mem.mp hc), q _ _ F1 x2 (.bl _)⟩
/-- e.f of a caught exception -/
def xFld (cs : List Nat) (f : Str) (r : R) : Option R := match r with
  | .va (.exc c ds) => if cs.contains c = true then (((xflds c).zip ds).lookup f).map .va else none
  | _ => none
theorem pe_xfH {n : Str} {te : TE} (he : PE X e te) (hb : attributeBase e n X.env (eval e X.env) = eval e X.env) : PE X (.Attribute e n pos) fun σ H Q => te σ H fun x H1 => ∃ (a C dd : Addr) (fs : List (Str × V)) (v : V), x = .ref a ∧ H1 a = some (exh a C (some dd)) ∧ H1 dd = some (.xd fs) ∧ XfC X.K C ∧ PySem.W.findIn X.K (.ref C) n = some none ∧ fs.lookup n = some v ∧ Q v H1 := by
  refine ⟨fun pins s σ H Q I h => ?_⟩
  refine attr_of hb (thn (he.run pins s σ H _ I h) fun u s1 hh => ?_)
  obtain ⟨x, H1, I1, rx, a, C, dd, fs, v, ex, h1, h2, T, hno, l, q⟩ := hh
  subst ex
  obtain rfl : u = Value.ref a := rx
  obtain ⟨o, vs, g1, g2, g3⟩ := exh_at I1.hok h1
  have hx : ObjOk X.prog X.w H1 s1.heap dd (.xd fs) := I1.hok dd _ h2
  obtain ⟨mA, hns, hr⟩ := hx
  obtain ⟨od, ho, hl⟩ := lookIn_ns hns
  obtain ⟨u, hu, ru⟩ := RelO.some_of (v := v) (o := mA n) (by rw [← l]; exact hr n)
  have J : PySem.W.InstAt s1.heap a o C (some od) := ⟨g1, g2.1, by unfold PySem.W.notCls; rw [g3] <;> rfl, by rw [g2.2]; exact ho⟩
  exact HandSPX.exc_get I1.kIn J T.ga T.gg T.exC (PySem.W.findObj_own T.hdC hno rfl (by rw [hl, hu])) (handed_of ru) ⟨v, H1, I1.tok _, ru, q⟩
def XfS (K : PySem.W.Frag) (ca : Nat → Addr) (cs : List Nat) (f : Str) : Prop := ∀ c ∈ cs, XfC K (ca c) ∧ PySem.W.findIn K (.ref (ca c)) f = some none
theorem ev_xfld {cs : List Nat} {f : Str} (T : XfS X.K ca cs f) (he : EV X ca e m) (hb : attributeBase e f X.env (eval e X.env) = eval e X.env := by rfl) : EV X ca (.Attribute e f pos) (e1 (xFld cs f) m) := by
  refine pe_imp (pe_xfH he hb) ?_
  rintro σ H Q ⟨H0, F0, F, Γ, z, S, e, q⟩
  unfold e1 at e
  obtain ⟨r, er, e⟩ := Option.bind_eq_some_iff.mp e
  unfold xFld at e
  split at e
  rotate_left
  · cases e
  rename_i c ds
  split at e
  rotate_left
  · cases e
  rename_i hc
  obtain ⟨d, ed, rfl⟩ := Option.map_eq_some_iff.mp e
  refine ⟨H0, F0, F, Γ, _, S, er, fun v' H1 F1 x1 r1 => ?_⟩
  cases r1 with
  | exc g1 g2 g3 g4 =>
    obtain ⟨hm, v, e1, e2⟩ := lookup_den g3 g4 ed
    obtain ⟨T1, T2⟩ := T c (List.contains_iff_mem.mp hc)
    rcases g2 with ⟨_, rfl⟩ | ⟨dd, rfl, g2⟩
    · cases e1
    · exact ⟨_, _, dd, _, v, rfl, x1.fh _ _ g1, x1.fh _ _ g2, T1, T2, e1, q v H1 F1 x1 e2⟩
end
end BK
namespace BK
open PySem PySem.Spec L2
set_option autoImplicit false
/-! ### what is asked of exception classes, as Bools over a head's facts -/
theorem b_ValueError : bootBuiltins "ValueError" = some (.type "ValueError") := boot_ValueError
theorem oexcB_ok {K : PySem.W.Frag} {C : Addr} (q : oexcB K C = true) : ∃ nm q N bs bm sn sub ab col dd k0 k1 k2 k3 k5, K.lookup C = some (excClassObj nm q C N bs bm true sn sub ab col dd k0 k1 k2 k3 k5 "ValueError.__new__") ∧ PySem.HandSPX.refsVE bm = true := by
  unfold oexcB at q
  split at q
  · rename_i dd cd sl ho
    split at q
    · rename_i C' bm k0 k1 k2 k3 n k5 hm hs
      simp only [Bool.and_eq_true, beq_iff_eq, Bool.not_eq_true'] at q
      obtain ⟨⟨⟨⟨rfl, rfl⟩, hdel⟩, hdd⟩, hok⟩ := q
      obtain ⟨nm, bs, mro, ns, qn, hd, sn, sub, ab, col, del⟩ := cd
      dsimp only at hm hdel hdd
      subst hm hdel hdd
      have hsl : sl = #[k0, k1, k2, k3, some (.builtin "ValueError.__new__"), k5] := by
        obtain ⟨l⟩ := sl
        simp only at hs
        rw [hs]
      subst hsl
      exact ⟨nm, qn, ns, bs, bm, sn, sub, ab, col, dd, k0, k1, k2, k3, k5, ho, hok⟩
    · cases q
  · cases q
theorem oexB_ok {K : PySem.W.Frag} {C : Addr} (h : oexB K C = true) : OexC K C := by
  obtain ⟨h1, h⟩ := He.ba h
  obtain ⟨h2, h⟩ := He.ba h
  obtain ⟨h3, h⟩ := He.ba h
  obtain ⟨h4, h5⟩ := He.ba h
  exact ⟨oexcB_ok h1, He.eqO_ok h2, of_decide_eq_true h3, of_decide_eq_true h4, h5⟩
theorem exccB_ok {K : PySem.W.Frag} {C : Addr} (h : exccB K C = true) : ExcC K C := by
  obtain ⟨h1, h⟩ := He.ba h
  obtain ⟨h2, h⟩ := He.ba h
  obtain ⟨h3, h⟩ := He.ba h
  obtain ⟨h4, h⟩ := He.ba h
  obtain ⟨h5, h⟩ := He.ba h
  obtain ⟨h6, h⟩ := He.ba h
  obtain ⟨h7, h8⟩ := He.ba h
  exact ⟨He.eqO_ok h1, He.eqO_ok h2, of_decide_eq_true h3, h4, He.eqO_ok h5, He.eqO_ok h6, of_decide_eq_true h7, of_decide_eq_true h8⟩
/-- all of the classes cs -/
theorem allC_ok {cs : List Nat} {p : Nat → Bool} (h : allC cs p = true) : ∀ c ∈ cs, p c = true := List.all_eq_true.mp h
theorem xt_ok {K : PySem.W.Frag} {ca : Nat → Addr} {cs : List Nat} {ct : Nat} (h : allC cs (fun c => decide (PySem.W.exmOne K (.ref (ca c)) (.ref (ca ct)) = some true)) = true) : ∀ c ∈ cs, PySem.W.exmOne K (.ref (ca c)) (.ref (ca ct)) = some true := fun c hc => of_decide_eq_true (allC_ok h c hc)
theorem xe_ok {K : PySem.W.Frag} {ca : Nat → Addr} {cs : List Nat} (h : allC cs (fun c => exccB K (ca c)) = true) : ∀ c ∈ cs, ExcC K (ca c) := fun c hc => exccB_ok (allC_ok h c hc)
theorem xi_ok {K : PySem.W.Frag} {ca : Nat → Addr} {cs : List Nat} {u : Value} {tb : Nat → Bool} (he : ∀ c ∈ cs, ExcC K (ca c)) (h : allC cs (fun c => decide (PySem.W.kitOne K (.ref (ca c)) u = some (tb c))) = true) : IsX K ca cs u tb := fun c hc => ⟨he c hc, of_decide_eq_true (allC_ok h c hc)⟩
theorem xf_ok {K : PySem.W.Frag} {ca : Nat → Addr} {cs : List Nat} {f : Str} (h : allC cs (fun c => xfB K (ca c) && He.eqO (PySem.W.findIn K (.ref (ca c)) f) (some none)) = true) : XfS K ca cs f := fun c hc => by
  obtain ⟨h1, h2⟩ := He.ba (allC_ok h c hc)
  exact ⟨xfB_ok h1, He.eqO_ok h2⟩
theorem ra_ok {P : Program} {w : World} {K : PySem.W.Frag} {mg : Str → Option Value} {base : Heap} {ca : Nat → Addr} {k c : Nat} {x : Str} {fI : Addr} {fd : FuncData} {ps : List Str} (h : raB K (ca c) fI = true) (G : OexC K (ca c) → FnOk P w K mg base CX0 k fI fd ps (spXI (ca c) (xflds c).reverse)) (hb : Binds K fd ps []) (hm : mg x = some (.ref (ca c))) : Raiser P w K mg base ca k c x := by
  obtain ⟨h1, h⟩ := He.ba h
  obtain ⟨h2, h3⟩ := He.ba h
  exact ⟨fI, fd, ps, oexB_ok h1, He.eqO_ok h2, of_decide_eq_true h3, G (oexB_ok h1), hb, hm⟩
theorem fcvB_ok {o : Option PySem.W.CFound} (h : fcvB o = true) : o = some (.val (.builtin "ValueError.__init__")) := by
  unfold fcvB at h
  split at h
  · rw [of_decide_eq_true h]
  · cases h
/-! further contexts -/
end BK
namespace BK
open PySem PySem.Spec L2
open PyProof.Rows (envOfC)
set_option autoImplicit false
/-! ### what answers or raises, in one function -/
abbrev UE := Gm → Option (R ⊕ Exc)
def nE (u : UE) : Gm → Option R := fun g => match u g with
  | some (.inl r) => some r
  | _ => none
def xE (u : UE) : Gm → Option Exc := fun g => match u g with
  | some (.inr x) => some x
  | _ => none
theorem nE_some {u : UE} {g : Gm} {r : R} (h : nE u g = some r) : u g = some (.inl r) := by
  unfold nE at h
  split at h
  · rename_i e; cases h; exact e
  · cases h
theorem xE_some {u : UE} {g : Gm} {r : Exc} (h : xE u g = some r) : u g = some (.inr r) := by
  unfold xE at h
  split at h
  · rename_i e; cases h; exact e
  · cases h
theorem nE_of {u : UE} {g : Gm} {r : R} (h : u g = some (.inl r)) : nE u g = some r := by
  unfold nE
  rw [h]
theorem xE_of {u : UE} {g : Gm} {r : Exc} (h : u g = some (.inr r)) : xE u g = some r := by
  unfold xE
  rw [h]
def ups (m : Gm → Option Out) (N n : Nat) : List D → Option (R ⊕ Exc) := fun ds => if ds.length = n then match m (ds.map Slot.va ++ List.replicate (N - n) Slot.un) with
  | some (.rt r) => some (.inl (retR r))
  | some (.nx _) => some (.inl (.va .non))
  | some (.ex x) => some (.inr x)
  | _ => none
  else none
theorem ups_n {m : Gm → Option Out} {N n : Nat} {ds : List D} {r : R} (h : ups m N n ds = some (.inl r)) : phi m N n ds = some r := by
  unfold ups at h
  unfold phi
  split at h
  · rename_i hl
    rw [if_pos hl]
    split at h
    · rename_i e; cases h; rw [e]
    · rename_i e; cases h; rw [e]
    · cases h
    · cases h
  · cases h
theorem ups_x {m : Gm → Option Out} {N n : Nat} {ds : List D} {x : Exc} (h : ups m N n ds = some (.inr x)) : psi (exn m) N n ds = some x := by
  unfold ups at h
  unfold psi
  split at h
  · rename_i hl
    rw [if_pos hl]
    split at h
    · cases h
    · cases h
    · rename_i e; cases h; exact exn_of e
    · cases h
  · cases h
/-- the call by values -/
def callU (υ : List D → Option (R ⊕ Exc)) (rs : List R) : Option (R ⊕ Exc) := if rs.any R.isTm = true then none else (υ (rs.map R.d)).bind fun z => match z with
  | .inl r => if (!rs.any R.isBw || r.lf || r.lfk (lentK rs)) = true then some (.inl r) else none
  | .inr x => some (.inr x)
theorem callU_n {υ : List D → Option (R ⊕ Exc)} {φ : Phi} (hφ : ∀ ds r, υ ds = some (.inl r) → φ ds = some r) {rs : List R} {r : R} (h : callU υ rs = some (.inl r)) : callR φ [] rs = some r := by
  unfold callU at h
  unfold callR
  split at h
  · cases h
  · rename_i c
    rw [if_neg c]
    obtain ⟨z, ez, h⟩ := Option.bind_eq_some_iff.mp h
    cases z with
    | inl q =>
      have h : (if (!rs.any R.isBw || q.lf || q.lfk (lentK rs)) = true then some (Sum.inl q) else none : Option (R ⊕ Exc)) = some (.inl r) := h
      split at h
      · rename_i c2
        cases h
        rw [List.append_nil, hφ _ _ ez]
        show (if _ then _ else _) = _
        rw [if_pos c2]
      · cases h
    | inr x =>
      cases h
theorem callU_x {υ : List D → Option (R ⊕ Exc)} {ψ : List D → Option Exc} (hψ : ∀ ds x, υ ds = some (.inr x) → ψ ds = some x) {rs : List R} {x : Exc} (h : callU υ rs = some (.inr x)) : callX ψ rs = some x := by
  unfold callU at h
  unfold callX
  split at h
  · cases h
  · rename_i c
    rw [if_neg c]
    obtain ⟨z, ez, h⟩ := Option.bind_eq_some_iff.mp h
    cases z with
    | inl q =>
      have h : (if (!rs.any R.isBw || q.lf || q.lfk (lentK rs)) = true then some (Sum.inl q) else none : Option (R ⊕ Exc)) = some (.inr x) := h
      split at h <;> cases h
    | inr y =>
      cases h
      exact hψ _ _ ez
section
variable {X : Cx} {ca : Nat → Addr} {e : Expr} {es : List Expr} {pos p apos : Pos}
theorem ev_imp {m m' : Gm → Option R} (h : EV X ca e m) (i : ∀ g r, m' g = some r → m g = some r) : EV X ca e m' := pe_imp h fun σ H Q ⟨H0, F0, F, Γ, r, S, e, q⟩ => ⟨H0, F0, F, Γ, r, S, i _ _ e, q⟩
theorem xv_imp {m m' : Gm → Option Exc} (h : XV X ca e m) (i : ∀ g x, m' g = some x → m g = some x) : XV X ca e m' := fun W tk => pe_imp (h W tk) fun σ H Q ⟨H0, F0, F, Γ, r, S, e, q⟩ => ⟨H0, F0, F, Γ, r, S, i _ _ e, q⟩
/-- an expression that answers or raises -/
structure UV (X : Cx) (ca : Nat → Addr) (e : Expr) (u : UE) : Prop where
  n : EV X ca e (nE u)
  x : XV X ca e (xE u)
/-- f(..), f raises -/
def uC (υ : List D → Option (R ⊕ Exc)) (ms : Gm → Option (List R)) : UE := fun g => (ms g).bind (callU υ)
theorem uv_call {j : Nat} {x : Str} {υ : List D → Option (R ⊕ Exc)} {φ : Phi} {ψ : List D → Option Exc} {ms : Gm → Option (List R)} (C : Callee X.prog X.w X.K X.mg X.base ca j x φ []) (CX : CalleeX X.prog X.w X.K X.mg X.base ca j x ψ) (hφ : ∀ ds r, υ ds = some (.inl r) → φ ds = some r) (hψ : ∀ ds x, υ ds = some (.inr x) → ψ ds = some x)
    (hr : Room j X.A) (hg : Gl X x) (ha : AV X ca (e :: es) ms) (hdb : (x == ("__debug__" : Str)) = false := by decide)
    (he : starEach (e :: es) X.env = (false, eval e X.env) :: starEach es X.env := by rfl) (hpl : (backTo pos (starEach es X.env)).any (·.1) = false := by rfl) : UV X ca (.Call (.Name x p) (e :: es) [] pos) (uC υ ms) := by
  refine ⟨ev_imp (ev_fn C hr hg ha hdb he hpl) fun g r z => ?_, xv_imp (xv_call CX hr hg ha hdb he hpl) fun g r z => ?_⟩
  · obtain ⟨rs, er, z⟩ := Option.bind_eq_some_iff.mp (nE_some z)
    unfold eA
    rw [er]
    exact callU_n hφ z
  · obtain ⟨rs, er, z⟩ := Option.bind_eq_some_iff.mp (xE_some z)
    unfold xC
    rw [er]
    exact callU_x hψ z
end
/-! statements -/
def NoEx (m : Gm → Option Out) : Prop := ∀ g x, m g ≠ some (.ex x)
def sU (u : UE) (k : R → Gm → Option Out) : Gm → Option Out := fun g => (u g).bind fun z => match z with
  | .inl r => k r g
  | .inr x => some (.ex x)
theorem sU_inl {u : UE} {k : R → Gm → Option Out} {g : Gm} {r : R} (h : u g = some (.inl r)) : sU u k g = k r g := by
  unfold sU
  rw [h]
  rfl
theorem sU_inr {u : UE} {k : R → Gm → Option Out} {g : Gm} {x : Exc} (h : u g = some (.inr x)) : sU u k g = some (.ex x) := by
  unfold sU
  rw [h]
  rfl
section
variable {X : Cx} {ca : Nat → Addr} {e : Expr} {st : Stmt} {rest : List Stmt} {m n : Gm → Option Out} {T T' : List Nat} {pos : Pos}
theorem sv_imp {m' : Gm → Option Out} (h : SV X ca st m T) (i : ∀ g o, m' g = some o → (∃ x, o = .ex x) ∨ m g = some o) : SV X ca st m' T := by
  refine ⟨ps_imp h.ps ?_, fun g o e => ?_⟩
  · rintro D σ H ⟨H0, F0, F, Γ, o, S, e, p⟩
    rcases i _ _ e with ⟨x, rfl⟩ | e
    · exact p.elim
    · exact ⟨H0, F0, F, Γ, o, S, e, p⟩
  · rcases i _ _ e with ⟨x, rfl⟩ | e
    · trivial
    · exact h.kp g o e
theorem x0_imp {m m' : Gm → Option Exc} (h : X0 X ca st m) (i : ∀ g x, m' g = some x → m g = some x) : X0 X ca st m' := fun W tk => ps_imp (h W tk) fun D σ H ⟨H0, F0, F, Γ, r, S, e, q⟩ => ⟨H0, F0, F, Γ, r, S, i _ _ e, q⟩
theorem xs_imp {m m' : Gm → Option Exc} (h : XS X ca st m) (i : ∀ g x, m' g = some x → m g = some x) : XS X ca st m' := fun W tk => ps_imp (h W tk) fun D σ H ⟨H0, F0, F, Γ, r, S, e, q⟩ => ⟨H0, F0, F, Γ, r, S, i _ _ e, q⟩
theorem x0s_imp {m m' : Gm → Option Exc} (h : X0s X ca rest m) (i : ∀ g x, m' g = some x → m g = some x) : X0s X ca rest m' := fun W tk => pss_imp (h W tk) fun D σ H ⟨H0, F0, F, Γ, r, S, e, q⟩ => ⟨H0, F0, F, Γ, r, S, i _ _ e, q⟩
theorem xss_imp {m m' : Gm → Option Exc} (h : XSs X ca rest m) (i : ∀ g x, m' g = some x → m g = some x) : XSs X ca rest m' := fun W tk => pss_imp (h W tk) fun D σ H ⟨H0, F0, F, Γ, r, S, e, q⟩ => ⟨H0, F0, F, Γ, r, S, i _ _ e, q⟩
theorem sv_u {u : UE} {k : R → Gm → Option Out} (h : SV X ca st (fun g => (nE u g).bind fun r => k r g) T) : SV X ca st (sU u k) T := sv_imp h fun g o z => by
  obtain ⟨q, eq, z⟩ := Option.bind_eq_some_iff.mp z
  cases q with
  | inl r =>
    refine .inr ?_
    show (nE u g).bind _ = _
    rw [nE_of eq]
    exact z
  | inr x => cases z; exact .inl ⟨x, rfl⟩
theorem x0_u {u : UE} {k : R → Gm → Option Out} (h : X0 X ca st (xE u)) (nk : ∀ r g x, k r g ≠ some (.ex x)) : X0 X ca st (exn (sU u k)) := x0_imp h fun g x z => by
  obtain ⟨q, eq, z⟩ := Option.bind_eq_some_iff.mp (exn_some z)
  cases q with
  | inl r => exact absurd z (nk r g x)
  | inr y => cases z; exact xE_of eq
def kSet (i : Nat) : R → Gm → Option Out := fun r g => (setR g i r).map .nx
def kAsg (f : D → Gm → Option Gm) : R → Gm → Option Out := fun r g => match r with
  | .va d => (f d g).map .nx
  | _ => none
theorem kSet_no (i : Nat) (r : R) (g : Gm) (x : Exc) : kSet i r g ≠ some (.ex x) := fun h => by
  obtain ⟨_, _, h⟩ := Option.map_eq_some_iff.mp h
  cases h
theorem kAsg_no (f : D → Gm → Option Gm) (r : R) (g : Gm) (x : Exc) : kAsg f r g ≠ some (.ex x) := fun h => by
  cases r with
  | va d =>
    obtain ⟨_, _, h⟩ := Option.map_eq_some_iff.mp h
    cases h
  | tm ds => cases h
  | bw j ds => cases h
theorem svU_set {i : Nat} {x : Str} {u : UE} {pos' : Pos} (hN : X.N.Nodup) (hi : X.N[i]? = some x) (hx : Loc X.env.scope x) (he : UV X ca e u) (hs : swapsWith e (some (.Name x pos')) pos.line X.env = pure false := by rfl) (hf : X.fn x = true ∨ X.env.scope.names.lookup x = some .local := by first | exact .inl rfl | exact .inr rfl | assumption) :
    SV X ca (.Assign [.Name x pos'] e pos) (sU u (kSet i)) [i] := sv_u (sv_set hN hi hx he.n hs hf)
theorem x0U_set {i : Nat} {x : Str} {u : UE} {pos' : Pos} (hN : X.N.Nodup) (hi : X.N[i]? = some x) (hx : Loc X.env.scope x) (he : UV X ca e u) (hs : swapsWith e (some (.Name x pos')) pos.line X.env = pure false := by rfl) (hf : X.fn x = true ∨ X.env.scope.names.lookup x = some .local := by first | exact .inl rfl | exact .inr rfl | assumption) :
    X0 X ca (.Assign [.Name x pos'] e pos) (exn (sU u (kSet i))) := x0_u (x0_set hN hi hx he.x hs hf) (kSet_no i)
/-- raise -/
def sRs (m : Gm → Option Exc) : Gm → Option Out := fun g => (m g).map .ex
theorem svU_raise {mx : Gm → Option Exc} : SV X ca st (sRs mx) [] := sv_imp (sv_never) fun g o z => by
  obtain ⟨x, _, rfl⟩ := Option.map_eq_some_iff.mp z
  exact .inl ⟨x, rfl⟩
theorem x0U_raise {mx : Gm → Option Exc} (h : X0 X ca st mx) : X0 X ca st (exn (sRs mx)) := x0_imp h fun g x z => by
  obtain ⟨y, ey, z⟩ := Option.map_eq_some_iff.mp (exn_some z)
  cases z
  exact ey
/-- .. whose first does not raise -/
theorem xsU_tail (h0 : SV X.nox ca st m T) (hn : NoEx m) (h2 : XSs X ca rest (exn n)) : XSs X ca (st :: rest) (exn (sCons m n)) := xss_imp (xss_tail h0 h2) fun g x z => by
  obtain ⟨o, eo, z⟩ := Option.bind_eq_some_iff.mp (exn_some z)
  unfold xSeq
  rw [eo]
  cases o with
  | nx g' => exact exn_of z
  | rt r => cases z
  | bk g' => cases z
  | ct g' => cases z
  | ex y => exact absurd eo (hn g y)
/-- .. whose rest does not raise -/
theorem xsU_head (h1 : XS X ca st (exn m)) (hn : NoEx n) : XSs X ca (st :: rest) (exn (sCons m n)) := xss_imp (xss_head h1) fun g x z => by
  obtain ⟨o, eo, z⟩ := Option.bind_eq_some_iff.mp (exn_some z)
  cases o with
  | nx g' => exact absurd z (hn g' x)
  | rt r => cases z
  | bk g' => cases z
  | ct g' => cases z
  | ex y => cases z; exact exn_of eo
theorem xsU_no (hn : NoEx n) : XSs X ca rest (exn n) := xss_imp xss_no fun g x z => absurd (exn_some z) (hn g x)
theorem ifX {c : Gm → Option Bool} {g : Gm} {x : Exc} (z : exn (sIf c m n) g = some x) : xIf c (exn m) (exn n) g = some x := by
  obtain ⟨k, ek, z⟩ := Option.bind_eq_some_iff.mp (exn_some z)
  unfold xIf
  rw [ek]
  cases k with
  | true => exact exn_of z
  | false => exact exn_of z
theorem xsU_if {c : Expr} {a b : List Stmt} {mc : Gm → Option Bool} (hc : TV X ca c mc) (ha : XSs X ca a (exn m)) (hb : XSs X ca b (exn n)) : XS X ca (.If c a b pos) (exn (sIf mc m n)) := xs_imp (xs_if hc ha hb) fun g x z => ifX z
theorem forLX {f : D → Gm → Option Gm} {b : Gm → Option Out} : ∀ (ds : List D) (g : Gm) (x : Exc), forL f b ds g = some (.ex x) → xForL f b (exn b) ds g = some x
  | [], g, x, z => by cases z
  | d :: ds, g, x, z => by
    unfold forL at z
    obtain ⟨g1, e1, z⟩ := Option.bind_eq_some_iff.mp z
    obtain ⟨o, eo, z⟩ := Option.bind_eq_some_iff.mp z
    unfold xForL
    rw [e1]
    show (match exn b g1 with | some x => some x | none => _) = _
    have no : (∀ y, o ≠ .ex y) → exn b g1 = none := fun h => by
      unfold exn
      rw [eo]
      split
      · rename_i y e; cases e; exact absurd rfl (h y)
      · rfl
    cases o with
    | nx g2 => rw [no fun y h => nomatch h]; show (b g1).bind _ = _; rw [eo]; exact forLX ds g2 x z
    | ct g2 => rw [no fun y h => nomatch h]; show (b g1).bind _ = _; rw [eo]; exact forLX ds g2 x z
    | bk g2 => cases z
    | rt r => cases z
    | ex y => cases z; rw [exn_of eo]
theorem xsU_for {tg iter : Expr} {body : List Stmt} {mi : Gm → Option (List Nat × List D)} {f : D → Gm → Option Gm} {b : Gm → Option Out} {U : List Nat} (hp : PassesOwn (model X.prog X.w) X.A X.env X.xe) (hc : X.calm = true) (hi : IV X ca tg iter mi) (hg : GV X ca tg f T) (hb : SVs X.nox ca body b T') (hx : XSs X ca body (exn b))
    (hU : U = T ++ T') (hs : ∀ x, foldedSetIterable iter X.env x = pure x := by intro _; rfl) : XS X ca (.For tg iter body [] pos) (exn (sFor mi f b U)) := xs_imp (xs_for hp hc hi hg hb hx hU hs) fun g x z => by
  obtain ⟨p, ep, z⟩ := Option.bind_eq_some_iff.mp (exn_some z)
  unfold xFor
  rw [ep]
  show (if _ then _ else _) = _
  have z : (if p.1.all (fun j => !U.contains j) = true then forL f b p.2 g else none) = some (.ex x) := z
  split at z
  · rename_i c
    rw [if_pos c]
    exact forLX _ _ _ z
  · cases z
end
/-! no statement of these raises -/
section
variable {m n : Gm → Option Out}
theorem noex_nil : NoEx sNil := fun g x h => by cases h
theorem noex_cons (h1 : NoEx m) (h2 : NoEx n) : NoEx (sCons m n) := fun g x h => by
  obtain ⟨o, eo, z⟩ := Option.bind_eq_some_iff.mp h
  cases o with
  | nx g' => exact h2 g' x z
  | rt r => cases z
  | bk g' => cases z
  | ct g' => cases z
  | ex y => exact h1 g y eo
theorem noex_if {c : Gm → Option Bool} (h1 : NoEx m) (h2 : NoEx n) : NoEx (sIf c m n) := fun g x h => by
  obtain ⟨k, ek, z⟩ := Option.bind_eq_some_iff.mp h
  cases k with
  | true => exact h1 g x z
  | false => exact h2 g x z
theorem noex_forL {f : D → Gm → Option Gm} (h1 : NoEx m) : ∀ (ds : List D) (g : Gm) (x : Exc), forL f m ds g ≠ some (.ex x)
  | [], g, x, h => by cases h
  | d :: ds, g, x, h => by
    unfold forL at h
    obtain ⟨g1, e1, h⟩ := Option.bind_eq_some_iff.mp h
    obtain ⟨o, eo, h⟩ := Option.bind_eq_some_iff.mp h
    cases o with
    | nx g2 => exact noex_forL h1 ds g2 x h
    | ct g2 => exact noex_forL h1 ds g2 x h
    | bk g2 => cases h
    | rt r => cases h
    | ex y => exact h1 _ _ eo
theorem noex_for {mi : Gm → Option (List Nat × List D)} {f : D → Gm → Option Gm} {T : List Nat} (h1 : NoEx m) : NoEx (sFor mi f m T) := fun g x h => by
  obtain ⟨p, ep, z⟩ := Option.bind_eq_some_iff.mp h
  have z : (if p.1.all (fun j => !T.contains j) = true then forL f m p.2 g else none) = some (.ex x) := z
  split at z
  · exact noex_forL h1 _ _ _ z
  · cases z
theorem noex_wh {c : Gm → Option Bool} (h1 : NoEx m) : ∀ N, NoEx (sWh c m N)
  | 0, g, x, h => by cases h
  | N + 1, g, x, h => by
    unfold sWh at h
    obtain ⟨k, ek, h⟩ := Option.bind_eq_some_iff.mp h
    cases k with
    | false => rw [if_neg (by decide)] at h; cases h
    | true =>
      rw [if_pos rfl] at h
      obtain ⟨o, eo, h⟩ := Option.bind_eq_some_iff.mp h
      cases o with
      | nx g2 => exact noex_wh h1 N g2 x h
      | ct g2 => exact noex_wh h1 N g2 x h
      | bk g2 => cases h
      | rt r => cases h
      | ex y => exact h1 _ _ eo
theorem noex_fz {i : Nat} (h1 : NoEx m) : NoEx (sFz i m) := fun g x h => by
  unfold sFz at h
  split at h
  · exact h1 _ _ h
  · exact h1 _ _ h
theorem noex_set {i : Nat} {a : Gm → Option R} : NoEx (sSet i a) := fun g x h => by
  obtain ⟨r, er, h⟩ := Option.bind_eq_some_iff.mp h
  obtain ⟨_, _, h⟩ := Option.map_eq_some_iff.mp h
  cases h
theorem noex_asg {a : Gm → Option R} {f : D → Gm → Option Gm} : NoEx (sAsg a f) := fun g x h => by
  obtain ⟨r, er, h⟩ := Option.bind_eq_some_iff.mp h
  exact kAsg_no f r g x h
theorem noex_ret {a : Gm → Option R} : NoEx (sRet a) := fun g x h => by
  obtain ⟨_, _, h⟩ := Option.map_eq_some_iff.mp h
  cases h
theorem noex_retN : NoEx sRetN := fun g x h => by cases h
theorem noex_nv : NoEx sNv := fun g x h => by cases h
theorem noex_bk : NoEx sBk := fun g x h => by cases h
theorem noex_ct : NoEx sCt := fun g x h => by cases h
theorem noex_exp {a : Gm → Option R} : NoEx (sExp a) := fun g x h => by
  obtain ⟨_, _, h⟩ := Option.map_eq_some_iff.mp h
  cases h
theorem noex_app {i : Nat} {a : Gm → Option R} : NoEx (sApp i a) := fun g x h => by
  unfold sApp at h
  split at h
  · obtain ⟨r, er, h⟩ := Option.bind_eq_some_iff.mp h
    split at h <;> cases h
  · cases h
theorem noex_ext {i : Nat} {a : Gm → Option R} : NoEx (sExt i a) := fun g x h => by
  unfold sExt at h
  split at h
  · obtain ⟨r, er, h⟩ := Option.bind_eq_some_iff.mp h
    repeat' (first | split at h | cases h)
  · cases h
theorem noex_aug {i : Nat} {f : R → R → Option R} {a : Gm → Option R} : NoEx (sAug i f a) := fun g x h => by
  obtain ⟨r, er, h⟩ := Option.bind_eq_some_iff.mp h
  obtain ⟨r, er, h⟩ := Option.bind_eq_some_iff.mp h
  obtain ⟨r, er, h⟩ := Option.bind_eq_some_iff.mp h
  obtain ⟨_, _, h⟩ := Option.map_eq_some_iff.mp h
  cases h
theorem noex_mv {i j : Nat} : NoEx (sMv i j) := fun g x h => by
  unfold sMv at h
  repeat' (first | split at h | cases h)
end
end BK
namespace BK
end BK
namespace BK
open PySem PySem.Spec L2
set_option autoImplicit false
/-! ### in plain types: what answers or raises -/
/-- an exception that is held -/
def eX (x : Exc) : D := .exc x.c (x.fs.map aD)
def bU {α β : Type} (ι : Exc → β) (p : Option (α ⊕ Exc)) (t : α → Option β) : Option β := p.bind fun z => match z with
  | .inl v => t v
  | .inr x => some (ι x)
/-- try: the body's end, or what is left where x was caught -/
def tryU {σ : Type} (b : Option (σ ⊕ Exc)) (h : Exc → Option σ) : Option σ := b.bind fun z => match z with
  | .inl s => some s
  | .inr x => h x
def KU {α : Type} (k : α → R) : α ⊕ Exc → R ⊕ Exc
  | .inl v => .inl (k v)
  | .inr x => .inr x
def PU {α : Type} (k : α → R) : α ⊕ Exc → Out → Prop
  | .inl v, o => fnR (some o) = some (k v)
  | .inr x, o => o = .ex x
def KO {α : Type} (k : α → R) : α ⊕ Exc → Out
  | .inl v => .rt (k v)
  | .inr x => .ex x
/-- a loop's turn that may hand back or raise -/
def PCO {σ ρ : Type} (St : σ → Gm → Prop) (ko : ρ → Out) : Ctl σ ρ → Out → Prop
  | .nx s, o => ∃ g, (o = .nx g ∨ o = .ct g) ∧ St s g
  | .bk s, o => ∃ g, o = .bk g ∧ St s g
  | .rt r, o => o = ko r
/-- the body of a try -/
def PB {σ : Type} (St : σ → Gm → Prop) : σ ⊕ Exc → Out → Prop
  | .inl s, o => ∃ g, o = .nx g ∧ St s g
  | .inr x, o => o = .ex x
theorem ups_def (m : Gm → Option Out) (N n : Nat) (ds : List D) (h : ds.length = n) : ups m N n ds = match m (ds.map Slot.va ++ List.replicate (N - n) Slot.un) with
  | some (.rt r) => some (.inl (retR r))
  | some (.nx _) => some (.inl (.va .non))
  | some (.ex x) => some (.inr x)
  | _ => none := if_pos h
theorem fnR_ups {m : Gm → Option Out} {N n : Nat} {ds : List D} (hl : ds.length = n) {o : Out} {r : R} (h : m (ds.map Slot.va ++ List.replicate (N - n) Slot.un) = some o) (k : fnR (some o) = some r) : ups m N n ds = some (.inl r) := by
  rw [ups_def m N n ds hl, h]
  cases o with
  | nx g => cases k; rfl
  | rt q => cases k; rfl
  | bk g => cases k
  | ct g => cases k
  | ex x => cases k
theorem sim_ups {α : Type} {m : Gm → Option Out} {N n : Nat} {ds : List D} {s : Option (α ⊕ Exc)} {k : α → R} (hl : ds.length = n) (h : J m nxt (ds.map Slot.va ++ List.replicate (N - n) Slot.un) s (PU k)) {x : α ⊕ Exc} (e : s = some x) : ups m N n ds = some (KU k x) := by
  obtain ⟨o, e1, e2⟩ := h x e
  rw [bO_nxt] at e1
  cases x with
  | inl v => exact fnR_ups hl e1 e2
  | inr x =>
    have e2 : o = .ex x := e2
    subst e2
    rw [ups_def m N n ds hl, e1]
    rfl
/-! calls -/
theorem f_cuN {υ : List D → Option (R ⊕ Exc)} {rs : List R} {z : R} (h : υ (rs.map R.d) = some (.inl z)) (ht : rs.any R.isTm = false) (hb : rs.any R.isBw = false ∨ z.lf = true ∨ z.lfk (lentK rs) = true) : callU υ rs = some (.inl z) := by
  unfold callU
  rw [ht, if_neg (by decide), h]
  show (if _ then _ else _) = _
  rcases hb with hb | hb | hb
  · rw [hb]; rfl
  · rw [hb, Bool.or_true, Bool.true_or, if_pos rfl]
  · rw [hb, Bool.or_true, if_pos rfl]
theorem f_cuX {υ : List D → Option (R ⊕ Exc)} {rs : List R} {x : Exc} (h : υ (rs.map R.d) = some (.inr x)) (ht : rs.any R.isTm = false) : callU υ rs = some (.inr x) := by
  unfold callU
  rw [ht, if_neg (by decide), h]
  rfl
section
variable {g : Gm} {ms : Gm → Option (List R)} {rs : List R} {υ : List D → Option (R ⊕ Exc)} {u : UE} {F : R → Option R}
theorem x_uC {z : R ⊕ Exc} (h : ms g = some rs) (k : callU υ rs = some z) : uC υ ms g = some z := by
  unfold uC
  rw [h]
  exact k
theorem x_rs {c : Nat} {fs : List (Int ⊕ Str)} (h : ms g = some rs) (k : atoms rs = some fs) (hl : (fs.length == (xflds c).length) = true) : xRaise c ms g = some ⟨c, fs.reverse⟩ := by
  unfold xRaise
  rw [h]
  show (atoms rs).bind _ = _
  rw [k]
  show (if _ then _ else _) = _
  rw [if_pos hl]
end
/-! blocks -/
section
variable {α γ σ : Type} {b n : Gm → Option Out} {g g1 : Gm} {P : α → Out → Prop} {s : Option α} {i : Nat} {u : UE} {m : Gm → Option Out}
theorem j_bU {ι : Exc → α} {p : Option (γ ⊕ Exc)} {t : γ → Option α} (hx : ∀ x, p = some (.inr x) → m g = some (.ex x)) (hP : ∀ x, P (ι x) (.ex x)) (h : ∀ v, p = some (.inl v) → J (sCons m b) n g (t v) P) : J (sCons m b) n g (bU ι p t) P := by
  cases p with
  | none => exact fun _ e => by cases e
  | some z =>
    cases z with
    | inl v => exact h v rfl
    | inr x =>
      unfold J
      rw [sCons_def, hx x rfl]
      exact sm_ret rfl (hP x)
theorem j_setTU {d : List D} (h : u g = some (.inl (.tm d))) (h1 : g.set i (.ow d) = g1) (k : J b n g1 s P) : J (sCons (sU u (kSet i)) b) n g s P :=
  j_seq (a := sU u (kSet i)) (g1 := g1) (by rw [sU_inl h, ← h1]; rfl) k
theorem j_rs {mx : Gm → Option Exc} {x : Exc} {v : α} (h : mx g = some x) (p : P v (.ex x)) : J (sCons (sRs mx) b) n g (some v) P := by
  unfold J
  rw [sCons_def]
  unfold sRs
  rw [h]
  exact sm_ret rfl p
theorem jcu_end {σ ρ : Type} {St : σ → Gm → Prop} {ko : ρ → Out} {st : σ} (h : St st g) : J sNil nxt g (some (.nx st)) (PCO St ko) := j_nil (P := PCO St ko) (v := .nx st) ⟨g, .inl rfl, h⟩
theorem jb_end {St : σ → Gm → Prop} {st : σ} (h : St st g) : J sNil nxt g (some (.inl st)) (PB St) := j_nil (P := PB St) (v := .inl st) ⟨g, rfl, h⟩
theorem j_try {ie i : Nat} {cs : List Nat} {St : σ → Gm → Prop} {s : Option (σ ⊕ Exc)} {hv : Exc → σ} {t : σ → Option α} (hb : J m nxt g s (PB St)) (hl : ie < g.length) (hh : ∀ x, cs.contains x.c = true → St (hv x) (((g.set ie (.va (eX x))).set i (.va (eX x))).set ie .un)) (k : ∀ st g', St st g' → J b n g' (t st) P) :
    J (sCons (sTry m ie i cs) b) n g (b1 (tryU s fun x => grd (cs.contains x.c = true) (some (hv x))) t) P := by
  refine sm_b1 fun st e => ?_
  cases hs : s with
  | none => rw [hs] at e; cases e
  | some z =>
    obtain ⟨o, e1, e2⟩ := hb z hs
    rw [bO_nxt] at e1
    rw [hs] at e
    cases z with
    | inl st' =>
      obtain ⟨g', rfl, h2⟩ := e2
      cases e
      exact j_seq (a := sTry m ie i cs) (g1 := g') (by unfold sTry; rw [e1]; rfl) (k st g' h2)
    | inr x =>
      have e2 : o = .ex x := e2
      subst e2
      have e : grd (cs.contains x.c = true) (some (hv x)) = some st := e
      unfold grd at e
      split at e
      · rename_i c
        cases e
        refine j_seq (a := sTry m ie i cs) (g1 := ((g.set ie (.va (eX x))).set i (.va (eX x))).set ie .un) ?_ (k _ _ (hh x c))
        unfold sTry
        rw [e1]
        show (if (cs.contains x.c && decide (ie < g.length)) = true then _ else _) = _
        rw [if_pos (by rw [c, decide_eq_true hl]; rfl)]
        rfl
      · cases e
end
/-! loops that may raise -/
section
variable {α : Type} {b n : Gm → Option Out} {g g1 : Gm} {P : α → Out → Prop}
def Fin (o : Out) : Prop := (∃ r, o = .rt r) ∨ ∃ x, o = .ex x
theorem KO_fin {β : Type} (k : β → R) (z : β ⊕ Exc) : Fin (KO k z) := by
  cases z with
  | inl v => exact .inl ⟨_, rfl⟩
  | inr x => exact .inr ⟨_, rfl⟩
theorem Fin.fL {o : Out} (h : Fin o) (f : D → Gm → Option Gm) (b : Gm → Option Out) (ds : List D) : fL f b ds (some o) = some o := by
  rcases h with ⟨r, rfl⟩ | ⟨x, rfl⟩ <;> rfl
theorem Fin.bO {o : Out} (h : Fin o) (n : Gm → Option Out) : bO (some o) n = some o := by
  rcases h with ⟨r, rfl⟩ | ⟨x, rfl⟩ <;> rfl
theorem forCO_sm {α σ ρ : Type} {f : D → Gm → Option Gm} {m : Gm → Option Out} (enc : α → D) (St : σ → Gm → Prop) (ko : ρ → Out) (hf : ∀ r, Fin (ko r)) (body : α → σ → Option (Ctl σ ρ)) : ∀ (xs : List α), (∀ x ∈ xs, ∀ st g, St st g → ∃ g1, f (enc x) g = some g1 ∧ J m nxt g1 (body x st) (PCO St ko)) → ∀ st g, St st g → ∀ c, forC body xs st = some c → ∃ o, forL f m (xs.map enc) g = some o ∧ match c with
    | .nx st => ∃ g', o = .nx g' ∧ St st g'
    | .bk _ => False
    | .rt r => o = ko r
  | [], _, st, g, h, c, e => by cases e; exact ⟨_, rfl, g, rfl, h⟩
  | x :: xs, step, st, g, h, c, e => by
    obtain ⟨g1, e1, j⟩ := step x List.mem_cons_self st g h
    cases e2 : body x st with
    | none => rw [forC, e2] at e; cases e
    | some s2 =>
      rw [forC, e2, b1_some] at e
      obtain ⟨o, e3, ho⟩ := j s2 e2
      rw [bO_nxt] at e3
      cases s2 with
      | nx s2 =>
        obtain ⟨g2, ho, h2⟩ := ho
        obtain ⟨o', e4, h4⟩ := forCO_sm enc St ko hf body xs (fun y hy => step y (List.mem_cons_of_mem _ hy)) s2 g2 h2 c e
        refine ⟨o', ?_, h4⟩
        rw [List.map_cons, forL_cons, e1, b1_some, e3]
        rcases ho with rfl | rfl
        · rw [fL_nx, e4]
        · rw [fL_ct, e4]
      | bk s2 =>
        obtain ⟨g2, rfl, h2⟩ := ho
        cases e
        refine ⟨.nx g2, ?_, g2, rfl, h2⟩
        rw [List.map_cons, forL_cons, e1, b1_some, e3, fL_bk]
      | rt r =>
        cases e
        refine ⟨o, ?_, ho⟩
        have ho : o = ko r := ho
        subst ho
        rw [List.map_cons, forL_cons, e1, b1_some, e3, (hf r).fL]
theorem j_forCO {δ σ ρ : Type} {mi : Gm → Option (List Nat × List D)} {f : D → Gm → Option Gm} {m : Gm → Option Out} {T : List Nat} {ps : List Nat} (enc : δ → D) (St : σ → Gm → Prop) (ko : ρ → Out) (hf : ∀ r, Fin (ko r)) {body : δ → σ → Option (Ctl σ ρ)} {xs : List δ} {st0 : σ} {t : σ → Option α} {u : ρ → Option α}
    (hm : mi g = some (ps, xs.map enc)) (hp : ps.all (fun j => !T.contains j) = true) (h0 : St st0 g) (step : ∀ x ∈ xs, ∀ st g, St st g → ∃ g1, f (enc x) g = some g1 ∧ J m nxt g1 (body x st) (PCO St ko)) (k : ∀ st g', St st g' → J b n g' (t st) P) (k2 : ∀ r, Sm (some (ko r)) (u r) P) : J (sCons (sFor mi f m T) b) n g (b1 (forC body xs st0) fun c => ctl c t u) P := by
  refine sm_b1 fun c e => ?_
  obtain ⟨o, e1, h1⟩ := forCO_sm enc St ko hf body xs step st0 g h0 c e
  have e2 : sFor mi f m T g = some o := by
    rw [sFor_def, hm]
    show (if ps.all (fun j => !T.contains j) = true then _ else _) = _
    rw [if_pos hp, e1]
  cases c with
  | nx st =>
    obtain ⟨g', rfl, h2⟩ := h1
    exact j_seq e2 (k st g' h2)
  | bk st => exact h1.elim
  | rt r =>
    have h1 : o = ko r := h1
    subst h1
    show Sm (bO (bO (sFor mi f m T g) b) n) (u r) P
    rw [e2, (hf r).bO, (hf r).bO]
    exact k2 r
end
/-! a caught exception read -/
def xInt (f : Str) (x : Exc) : Option Int := match ((xflds x.c).zip x.fs).lookup f with
  | some (.inl n) => some n
  | _ => none
def xStr (f : Str) (x : Exc) : Option Str := match ((xflds x.c).zip x.fs).lookup f with
  | some (.inr n) => some n
  | _ => none
theorem lookup_mapA {f : Str} : ∀ (ns : List Str) (fs : List (Int ⊕ Str)), (ns.zip (fs.map aD)).lookup f = ((ns.zip fs).lookup f).map aD
  | [], _ => rfl
  | n :: ns, [] => rfl
  | n :: ns, a :: fs => by
    rw [List.map_cons, List.zip_cons_cons, List.zip_cons_cons, List.lookup_cons, List.lookup_cons]
    cases (f == n) with
    | true => rfl
    | false => exact lookup_mapA ns fs
theorem f_isx {cs : List Nat} {tb : Nat → Bool} {x : Exc} (h : cs.contains x.c = true) : cIsX cs tb (.va (eX x)) = some (.va (.bl (tb x.c))) := by
  show (if cs.contains x.c = true then _ else _) = _
  rw [if_pos h]
theorem f_xfI {cs : List Nat} {f : Str} {x : Exc} {n : Int} (h : cs.contains x.c = true) (k : xInt f x = some n) : xFld cs f (.va (eX x)) = some (.va (.int n)) := by
  show (if cs.contains x.c = true then (((xflds x.c).zip (x.fs.map aD)).lookup f).map R.va else none) = _
  rw [if_pos h, lookup_mapA]
  unfold xInt at k
  split at k
  · rename_i e; cases k; rw [e]; rfl
  · cases k
theorem f_xfS {cs : List Nat} {f : Str} {x : Exc} {n : Str} (h : cs.contains x.c = true) (k : xStr f x = some n) : xFld cs f (.va (eX x)) = some (.va (.str n)) := by
  show (if cs.contains x.c = true then (((xflds x.c).zip (x.fs.map aD)).lookup f).map R.va else none) = _
  rw [if_pos h, lookup_mapA]
  unfold xStr at k
  split at k
  · rename_i e; cases k; rw [e]; rfl
  · cases k
end BK
namespace BK
open PySem PySem.Spec L2
set_option autoImplicit false
/-! ### a text's own method without arguments: upper -/
end BK
namespace L2
open PySem PySem.Spec BK
set_option autoImplicit false
/-! ### an exception made as a value -/
end L2
namespace BK
open PySem PySem.Spec L2
set_option autoImplicit false
end BK
namespace BK
open PySem PySem.Spec L2
set_option autoImplicit false
/-! ### a told list that is asked once, then appended to and forgotten: x = f(..); if c: return b; x.append(k) -/
def eH : Hp := fun _ => none
/-! in plain types -/
end BK
namespace BK
open PySem PySem.Spec L2
set_option autoImplicit false
/-! ### an own list that is lent: frozen if it is empty; turned round -/
end BK
namespace BK
open PySem PySem.Spec L2
set_option autoImplicit false
/-! ### f-strings of texts and numbers -/
/-! .. in plain types -/
end BK
namespace BK
open PySem PySem.Spec L2 PyProof.Rows
set_option autoImplicit false
/-! ### sorted(..) of whole numbers, of a list or a tuple -/
end BK
namespace BK
open PySem PySem.Spec L2
set_option autoImplicit false
/-! ### a told thing that is asked once, whose lists are then changed, and that is forgotten: x = f(..); if c: return b; x.p.q.append(e); x.r.reverse(); .. -/
/-! in plain types -/
end BK
namespace BK
open PySem PySem.Spec L2
set_option autoImplicit false
/-! ### lists handed to a class that copies them, then changed behind: x = [e1, ..]; y = C(x[0], ..); x[k].append(e); x[k].insert(0, e); .. -/
/-! in plain types: a road -/
end BK
namespace BK
open PySem PySem.Spec L2
open PyProof.Rows (envOfC)
set_option autoImplicit false
/-! ### a def that tells a pair: a new list and a number; what is asked of the pair in one breath -/
end BK
namespace BK
open PySem PySem.Spec L2
set_option autoImplicit false
/-! ### raising statements over own trees -/
section
variable {X : Cx} {ca : Nat → Addr} {st : Stmt} {b : Gm → Option Out} {i : Nat}
theorem xsU_oT (h : XS X ca st (exn b)) : XS X ca st (exn (sOT i b)) := fun W tk => by
  refine ps_imp (h W tk) ?_
  rintro D σ H ⟨H0, F0, F, Γ, x, S, e, p⟩
  have e := exn_some e
  unfold sOT at e
  split at e
  · rename_i ds hg
    exact ⟨H0, F0, F, _, x, S.tree hg, exn_of e, p⟩
  · cases e
end
end BK
namespace BK
open PySem PySem.Spec L2
set_option autoImplicit false
/-! ### a display whose items are new trees -/
def tTr (K : PySem.W.Frag) (ca : Nat → Addr) (m : Gm → Option BK.T) : TE := fun σ H Q => ∃ H0 F0 F Γ t, SR K ca H0 F0 σ H F Γ ∧ m Γ = some t ∧
  ∀ v H' F' bs, Ext ca H F H' F' → OT K ca F' H' v t bs → bs.Nodup → (∀ b ∈ bs, noT H b = none ∧ F' b = none) → Q v H'
theorem ots_ext {K : PySem.W.Frag} {ca : Nat → Addr} {H F H' F' : Hp} (x : Ext ca H F H' F') {vs : List V} {ts : List BK.T} {bs : List Addr} (h : OTs K ca F H vs ts bs) (hf : ∀ b ∈ bs, F b = none) : OTs K ca F' H' vs ts bs ∧ ∀ b ∈ bs, F' b = none := by
  refine ⟨OTs.mono x.ff h fun b hb => ?_, fun b hb => ?_⟩
  · obtain ⟨u, hu, hn⟩ := h.at b hb
    rw [hu, x.hh.st b u hu hn]
  · obtain ⟨u, hu, hn⟩ := h.at b hb
    cases q : F' b with
    | none => rfl
    | some o =>
      exfalso
      rcases x.nw b (by rw [q]; exact fun z => nomatch z) with z | z
      · exact z (hf b hb)
      · rw [noT_get hu hn] at z
        cases z
end BK
namespace BK
open PySem PySem.Spec L2
set_option autoImplicit false
/-! ### defs that tell new trees, used whole; what they told is changed and forgotten -/
end BK
namespace BK
open PySem PySem.Spec L2
set_option autoImplicit false
/-! ### x = f(..), f tells a new tree; if c: return b; x.p.append(e); x.p.reverse(); ..; x is forgotten -/
end BK
namespace BK
open PySem PySem.Spec L2
set_option autoImplicit false
/-! ### the trees of a told list are changed in a loop: for one in x: one.p.append(e); one.q.reverse() .. -/
structure MI (H2 : Hp) (as : List Addr) (pin : List (Addr × List V)) (k : Nat) (Hk : Hp) : Prop where
  ins : ∀ b ∈ as, ∀ C dx fs, H2 b = some (.ins C dx fs) → Hk b = some (.ins C dx fs)
  lst : ∀ b ∈ as, ∀ xs, H2 b = some (.lst xs) → ∃ ys, Hk b = some (.lst ys) ∧ ys.length ≤ xs.length + k
  pin : ∀ p ∈ pin, Hk p.1 = some (.lst p.2)
section
variable {K : PySem.W.Frag} {ca : Nat → Addr}
theorem MI.ext {H2 Hk F H' F' : Hp} {as : List Addr} {pin : List (Addr × List V)} {k : Nat} (I : MI H2 as pin k Hk) (x : SameN ca Hk H') : MI H2 as pin k H' :=
  ⟨fun b hb C dx fs h => x.i (I.ins b hb C dx fs h), fun b hb xs h => by
    obtain ⟨ys, h1, h2⟩ := I.lst b hb xs h
    exact ⟨ys, x.l h1, h2⟩, fun p hp => x.l (I.pin p hp)⟩
theorem MI.upd {H2 Hk : Hp} {as : List Addr} {pin : List (Addr × List V)} {k : Nat} (I : MI H2 as pin k Hk) (hp : ∀ p ∈ pin, p.1 ∉ as) {b : Addr} {xs zs : List V} (hb : b ∈ as) (gb : H2 b = some (.lst xs)) (hz : zs.length ≤ xs.length + (k + 1)) : MI H2 as pin (k + 1) (upd Hk b (.lst zs)) := by
  refine ⟨fun c hc C dx fs h => ?_, fun c hc w h => ?_, fun p hpp => ?_⟩
  · have hcb : c ≠ b := fun z => by rw [z, gb] at h; cases h
    rw [upd_ne hcb]
    exact I.ins c hc C dx fs h
  · by_cases hcb : c = b
    · subst hcb
      rw [gb] at h
      cases h
      exact ⟨zs, upd_same, hz⟩
    · rw [upd_ne hcb]
      obtain ⟨ys, h1, h2⟩ := I.lst c hc w h
      exact ⟨ys, h1, by omega⟩
  · have hcb : p.1 ≠ b := fun z => hp p hpp (by rw [z]; exact hb)
    rw [upd_ne hcb]
    exact I.pin p hpp
end
end BK
namespace BK
open PySem PySem.Spec L2
set_option autoImplicit false
/-! ### x = f(..), a new list of trees; for one in x: one.p.append(e) ..; if c: return b; x.reverse(); x is forgotten -/
end BK
namespace BK
open PySem PySem.Spec L2
set_option autoImplicit false
end BK
namespace BK
open PySem PySem.Spec L2
set_option autoImplicit false
/-! in plain types: told trees changed and forgotten -/
end BK
namespace BK
open PySem PySem.Spec L2
set_option autoImplicit false
end BK
namespace BK
open PySem PySem.Spec L2
set_option autoImplicit false
/-- an own list is frozen ahead of a block -/
theorem svs_fz {X : Cx} {ca : Nat → Addr} {i : Nat} {st : List Stmt} {m : Gm → Option Out} {T : List Nat} (h : SVs X ca st m T) : SVs X ca st (sFz i m) (i :: T) := by
  have i2 : ∀ j ∈ T, j ∈ i :: T := fun j h => List.mem_cons_of_mem _ h
  refine ⟨pss_imp h.ps ?_, fun g o e => ?_⟩
  · rintro D σ H ⟨H0, F0, F, Γ, o, S, e, p⟩
    unfold sFz at e
    split at e
    · rename_i ds hg
      obtain ⟨F', sf, S'⟩ := S.frz hg
      exact ⟨H0, F0, F', _, o, S', e, PostO.mono (T := []) sf .refl (fun _ z => nomatch z) i2 p⟩
    · exact ⟨H0, F0, F, Γ, o, S, e, PostO.mono (T := []) (Same.refl _) .refl (fun _ z => nomatch z) i2 p⟩
  · unfold sFz at e
    split at e
    · exact KpG.after (g' := g.set i _) (T := [i]) kpg_set (h.kp _ _ e) (by simp) i2
    · exact (h.kp _ _ e).mono i2
section
variable {α : Type} {i : Nat} {n : Gm → Option Out} {g g1 : Gm} {s : Option α} {P : α → Out → Prop}
theorem j_bfzO {m : Gm → Option Out} {ds : List D} (h0 : g[i]? = some (.ow ds)) (h1 : g.set i (.va (.lst ds)) = g1) (k : J m n g1 s P) : J (sFz i m) n g s P := by
  unfold J at k ⊢
  rw [sFz_def, h0, fzS_ow, h1]
  exact k
end
end BK
namespace BK
open PySem PySem.Spec L2
set_option autoImplicit false
/-! ### zip of a list with a tuple -/
/-! in the hand layer -/
end BK
namespace BK
open PySem PySem.Spec L2
set_option autoImplicit false
/-! ### expressions that are new trees; own trees kept in a variable -/
def tTrs (K : PySem.W.Frag) (ca : Nat → Addr) (m : Gm → Option (List BK.T)) : TA := fun σ H Q => ∃ H0 F0 F Γ ts, SR K ca H0 F0 σ H F Γ ∧ m Γ = some ts ∧
  ∀ vs H' F' bs, Ext ca H F H' F' → OTs K ca F' H' vs ts bs → bs.Nodup → (∀ b ∈ bs, noT H b = none ∧ F' b = none) → Q vs H'
/-- what an expression tells, as a tree -/
def kTm (m : Gm → Option R) : Gm → Option BK.T := fun g => match m g with
  | some (.tm ds) => some (.lst (ds.map .fz))
  | some (.va d) => some (.fz d)
  | _ => none
def ksN : Gm → Option (List BK.T) := fun _ => some []
def ksC (k : Gm → Option BK.T) (ks : Gm → Option (List BK.T)) : Gm → Option (List BK.T) := fun g => (k g).bind fun t => (ks g).bind fun ts => some (t :: ts)
def kLs (ks : Gm → Option (List BK.T)) : Gm → Option BK.T := fun g => (ks g).bind fun ts => if ts.length ≤ LIM then some (.lst ts) else none
theorem ot_ext1 {K : PySem.W.Frag} {ca : Nat → Addr} {H F H' F' : Hp} (x : Ext ca H F H' F') {v : V} {t : BK.T} {bs : List Addr} (h : OT K ca F H v t bs) (hf : ∀ b ∈ bs, F b = none) : OT K ca F' H' v t bs ∧ ∀ b ∈ bs, F' b = none := by
  refine ⟨OT.mono x.ff h fun b hb => ?_, fun b hb => ?_⟩
  · obtain ⟨u, hu, hn⟩ := h.at b hb
    rw [hu, x.hh.st b u hu hn]
  · obtain ⟨u, hu, hn⟩ := h.at b hb
    exact x.keepN hu (hf b hb) hn
section
variable {X : Cx} {ca : Nat → Addr} {e : Expr} {es : List Expr} {m : Gm → Option R} {k : Gm → Option BK.T} {ks : Gm → Option (List BK.T)} {pos : Pos}
theorem tr_ev (h : EV X ca e m) : PE X e (tTr X.K ca (kTm m)) := by
  refine pe_imp h ?_
  rintro σ H Q ⟨H0, F0, F, Γ, t, S, e, q⟩
  unfold kTm at e
  split at e
  · rename_i ds em
    cases e
    refine ⟨H0, F0, F, Γ, _, S, em, fun v H1 F1 x1 r1 => ?_⟩
    obtain ⟨a, vs, rfl, h1, h2, h3, h4⟩ := r1
    exact q _ _ _ [a] x1 (.lst h3 (OTs.fzs h4)) (by simp) fun b hb => by
      rw [List.mem_singleton] at hb
      subst hb
      exact ⟨h1, h2⟩
  · rename_i d em
    cases e
    exact ⟨H0, F0, F, Γ, _, S, em, fun v H1 F1 x1 r1 => q _ _ _ [] x1 (.fz r1) List.nodup_nil (by simp)⟩
  · cases e
theorem trs_nil : PA X [] (tTrs X.K ca ksN) := by
  refine pa_imp pa_nil ?_
  rintro σ H Q ⟨H0, F0, F, Γ, ts, S, e, q⟩
  cases e
  exact q [] H F [] (.refl S.ext.fh) .nil List.nodup_nil (by simp)
theorem trs_cons (ha : PE X e (tTr X.K ca k)) (hr : PA X es (tTrs X.K ca ks)) (hs : starEach (e :: es) X.env = (false, eval e X.env) :: starEach es X.env := by rfl) : PA X (e :: es) (tTrs X.K ca (ksC k ks)) := by
  refine pa_imp (pa_cons ha hr hs) ?_
  rintro σ H Q ⟨H0, F0, F, Γ, ts, S, e, q⟩
  unfold ksC at e
  obtain ⟨t, et, e⟩ := Option.bind_eq_some_iff.mp e
  obtain ⟨us, eu, e⟩ := Option.bind_eq_some_iff.mp e
  cases e
  refine ⟨H0, F0, F, Γ, t, S, et, fun v H1 F1 bs x1 o1 n1 f1 => ?_⟩
  refine ⟨H0, F0, F1, Γ, us, S.mono x1, eu, fun vs H2 F2 cs x2 o2 n2 f2 => ?_⟩
  obtain ⟨o3, f3⟩ := ot_ext1 x2 o1 fun b hb => (f1 b hb).2
  refine q _ H2 F2 (bs ++ cs) (x1.trans x2) (.cons o3 o2) ?_ fun b hb => ?_
  · refine List.nodup_append.mpr ⟨n1, n2, fun a ha b hb z => ?_⟩
    subst z
    obtain ⟨u, hu, hn⟩ := o1.at a ha
    have := (f2 a hb).1
    rw [noT_get hu hn] at this
    cases this
  · rcases List.mem_append.mp hb with hb | hb
    · exact ⟨(f1 b hb).1, f3 b hb⟩
    · exact ⟨x1.hh.free (f2 b hb).1, (f2 b hb).2⟩
theorem tr_lst (h : PA X es (tTrs X.K ca ks)) : PE X (.List es pos) (tTr X.K ca (kLs ks)) := by
  refine pe_imp (pe_lst h) ?_
  rintro σ H Q ⟨H0, F0, F, Γ, t, S, e, q⟩
  unfold kLs at e
  obtain ⟨ts, et, e⟩ := Option.bind_eq_some_iff.mp e
  by_cases hl : ts.length ≤ LIM
  rotate_left
  · rw [if_neg hl] at e; cases e
  rw [if_pos hl] at e
  cases e
  refine ⟨H0, F0, F, Γ, ts, S, et, fun vs H1 F1 bs x1 o1 n1 f1 => ⟨by rw [lim_eq, o1.length]; exact hl, fun p hp => ?_⟩⟩
  have x2 : Ext ca H1 F1 (L2.upd H1 p (.lst vs)) F1 := .newO x1.fh _ hp
  obtain ⟨o2, f2⟩ := ots_ext x2 o1 fun b hb => (f1 b hb).2
  have np : p ∉ bs := fun z => by
    obtain ⟨u, hu, _⟩ := o1.at p z
    rw [hp] at hu; cases hu
  refine q _ _ F1 (p :: bs) (x1.trans x2) (.lst upd_same o2) (List.nodup_cons.mpr ⟨np, n1⟩) fun b hb => ?_
  rcases List.mem_cons.mp hb with rfl | hb
  · exact ⟨x1.hh.free (noT_none hp), x1.fh.free hp⟩
  · exact f1 b hb
end
/-! a new tree is kept -/
section
variable {K : PySem.W.Frag} {ca : Nat → Addr} {H0 F0 H F H' F' : Hp} {σ : L2.St} {Γ : Gm}
theorem SR.setOt (S : SR K ca H0 F0 σ H F Γ) (x : Ext ca H F H' F') {i : Nat} {v : V} {t : BK.T} {bs : List Addr} (ht : OT K ca F' H' v t bs) (nd : bs.Nodup) (hf : ∀ b ∈ bs, noT H b = none ∧ F' b = none) : SR K ca H0 F0 (σ.set i (some v)) H' F' (Γ.set i (.ot t)) := by
  have S' := S.mono x
  obtain ⟨A, ⟨o1, o2, o3⟩⟩ := S.own
  obtain ⟨p1, p2, p3⟩ := OwnA.mono ⟨o1, o2, o3⟩ x
  have sep : ∀ (j : Nat) (u : BK.T), Γ[j]? = some (.ot u) → ∀ b ∈ A j, b ∉ bs := fun j u e b hb z => by
    obtain ⟨⟨w, hw, hu⟩, _, _⟩ := o1 j u e
    obtain ⟨o, ho, hn⟩ := hu.at b hb
    have := (hf b z).1
    rw [noT_get ho hn] at this
    cases this
  refine ⟨S'.ext, S.nt0, S.tc0, by rw [List.length_set, List.length_set]; exact S.len, fun j e hj => ?_, fun j es hj => ?_, fun j k es fs b n hj hk sj sk => ?_, putA A i bs, fun j u e => ?_, fun j k u w n e e' => ?_, fun j k u es b e g s => ?_⟩
  · rcases get_set hj with ⟨_, e1, _⟩ | ⟨n, hj⟩
    · cases e1
    · rw [List.getElem?_set_ne n]; exact S'.va j e hj
  · rcases get_set hj with ⟨_, e1, _⟩ | ⟨n, hj⟩
    · cases e1
    · rw [List.getElem?_set_ne n]; exact S'.ow j es hj
  · rcases get_set hj with ⟨_, e1, _⟩ | ⟨n1, hj⟩
    · cases e1
    · rcases get_set hk with ⟨_, e1, _⟩ | ⟨n2, hk⟩
      · cases e1
      · rw [List.getElem?_set_ne n1] at sj
        rw [List.getElem?_set_ne n2] at sk
        exact S.ap j k es fs b n hj hk sj sk
  · rcases get_set e with ⟨rfl, e1, hl⟩ | ⟨n, e⟩
    · injection e1 with e1
      subst e1
      rw [putA_same]
      exact ⟨⟨v, List.getElem?_set_self (S.lt hl), ht⟩, nd, fun b hb => ⟨S.ext.hh.free (hf b hb).1, (hf b hb).2⟩⟩
    · rw [putA_ne (fun z => n z.symm), List.getElem?_set_ne n]
      exact p1 j u e
  · rcases get_set e with ⟨rfl, e1, hl⟩ | ⟨n1, e⟩
    · rcases get_set e' with ⟨q, _, _⟩ | ⟨n2, e'⟩
      · exact absurd q n
      · rw [putA_same, putA_ne (fun z => n2 z.symm)]
        exact fun b hb z => sep k w e' b z hb
    · rw [putA_ne (fun z => n1 z.symm)]
      rcases get_set e' with ⟨rfl, e1, hl⟩ | ⟨n2, e'⟩
      · rw [putA_same]
        exact sep j u e
      · rw [putA_ne (fun z => n2 z.symm)]
        exact p2 j k u w n e e'
  · rcases get_set g with ⟨_, e1, _⟩ | ⟨n2, g⟩
    · cases e1
    · rw [List.getElem?_set_ne n2] at s
      rcases get_set e with ⟨rfl, e1, hl⟩ | ⟨n1, e⟩
      · rw [putA_same]
        intro z
        obtain ⟨c, ws, s', _, _, g4, _⟩ := S.ow k es g
        rw [s] at s'
        cases s'
        exact ne_noT g4 (fun _ z => nomatch z) (hf b z).1 rfl
      · rw [putA_ne (fun z => n1 z.symm)]
        exact p3 j k u es b e g s
end
def sSetT (i : Nat) (k : Gm → Option BK.T) : Gm → Option Out := fun g => (k g).bind fun t => if i < g.length then some (.nx (g.set i (.ot t))) else none
section
variable {X : Cx} {ca : Nat → Addr} {e : Expr} {k : Gm → Option BK.T} {i : Nat} {pos : Pos}
theorem sv_setT {x : Str} {pos' : Pos} (hN : X.N.Nodup) (hi : X.N[i]? = some x) (hx : Loc X.env.scope x) (he : PE X e (tTr X.K ca k)) (hs : swapsWith e (some (.Name x pos')) pos.line X.env = pure false := by rfl) (hf : X.fn x = true ∨ X.env.scope.names.lookup x = some .local := by first | exact .inl rfl | exact .inr rfl | assumption) :
    SV X ca (.Assign [.Name x pos'] e pos) (sSetT i k) [i] := by
  refine ⟨ps_imp (ps_set hN hi hx he hs hf) ?_, fun g o e => ?_⟩
  · rintro D σ H ⟨H0, F0, F, Γ, o, S, e, p⟩
    unfold sSetT at e
    obtain ⟨t, et, e⟩ := Option.bind_eq_some_iff.mp e
    split at e
    · cases e
      exact ⟨H0, F0, F, Γ, t, S, et, fun v H' F' bs x h nd hf => p _ H' F' (S.setOt x h nd hf) x.ff kp_set⟩
    · cases e
  · unfold sSetT at e
    obtain ⟨t, et, e⟩ := Option.bind_eq_some_iff.mp e
    split at e
    · cases e
      exact kpg_set
    · cases e
end
end BK
namespace BK
open PySem PySem.Spec L2
set_option autoImplicit false
/-! ### an instance made of own lists that are copied, whatever they hold: its making asks nothing of their items -/
def tokV : V → D → D
  | .ref a, _ => .opq a
  | _, d => d
def toks : List V → List D → List D
  | v :: vs, d :: ds => tokV v d :: toks vs ds
  | _, _ => []
def allFz : List BK.T → Option (List D)
  | [] => some []
  | .fz d :: ts => (allFz ts).map (d :: ·)
  | _ :: _ => none
section
variable {K : PySem.W.Frag} {ca : Nat → Addr} {F F' H : Hp}
theorem tok_den {v : V} {d : D} (h : Den K ca F v d) : Den K ca F' v (tokV v d) := by
  cases h
  case non => exact .non
  case bl b => exact .bl b
  case int i => exact .int i
  case str x => exact .str x
  all_goals exact .opq _
theorem tok_back {v u : V} {d : D} (h : Den K ca F v d) (h2 : Den K ca F' u (tokV v d)) : u = v := by
  cases h
  case non => cases h2; rfl
  case bl b => cases h2; rfl
  case int i => cases h2; rfl
  case str x => cases h2; rfl
  all_goals (cases h2; rfl)
theorem toks_dens : ∀ {vs : List V} {ds : List D}, Dens K ca F vs ds → Dens K ca F' vs (toks vs ds)
  | _, _, .nil => .nil
  | _, _, .cons h hs => .cons (tok_den h) (toks_dens hs)
theorem toks_back : ∀ {vs us : List V} {ds : List D} {as : List Addr}, Dens K ca F vs ds → OTs K ca F' H us ((toks vs ds).map .fz) as → us = vs ∧ as = []
  | _, _, _, _, .nil, .nil => ⟨rfl, rfl⟩
  | _, _, _, _, .cons h hs, .cons (.fz a) b => by
    obtain ⟨rfl, rfl⟩ := toks_back hs b
    exact ⟨by rw [tok_back h a], rfl⟩
theorem allFz_dens : ∀ {us : List BK.T} {ws : List V} {ds : List D} {as : List Addr}, OTs K ca F H ws us as → allFz us = some ds → Dens K ca F ws ds
  | [], _, _, _, .nil, e => by cases e; exact .nil
  | .fz d :: us, _, _, _, .cons (.fz h) hs, e => by
    unfold allFz at e
    obtain ⟨es, e1, rfl⟩ := Option.map_eq_some_iff.mp e
    exact .cons h (allFz_dens hs e1)
  | .lst _ :: _, _, _, _, _, e => by cases e
  | .ins _ _ :: _, _, _, _, _, e => by cases e
  | .tup _ :: _, _, _, _, _, e => by cases e
theorem ots_tok {F2 : Hp} : ∀ {xs : List V} {ts : List BK.T} {as : List Addr}, OTs K ca F H xs ts as → (∀ b ∈ as, F2 b = H b) → ∃ es, Dens K ca F2 xs es ∧ ∀ (k : Nat) (us : List BK.T) (ds : List D), ts[k]? = some (.lst us) → allFz us = some ds → ∃ ws, Dens K ca F ws ds ∧ es[k]? = some (.lst (toks ws ds))
  | _, _, _, .nil, _ => ⟨[], .nil, fun k us ds h => by simp at h⟩
  | _, _, _, .cons (v := v) (t := t) h hs, e => by
    obtain ⟨es, h1, h2⟩ := ots_tok hs fun b hb => e b (List.mem_append_right _ hb)
    have key : ∃ d, Den K ca F2 v d ∧ ∀ us ds, t = .lst us → allFz us = some ds → ∃ ws, Dens K ca F ws ds ∧ d = .lst (toks ws ds) := by
      have e0 := fun b hb => e b (List.mem_append_left _ hb)
      cases h with
      | fz h => exact ⟨_, tok_den h, fun us ds z => nomatch z⟩
      | lst ha hs' =>
        rename_i a ws us as'
        cases q : allFz us with
        | none => exact ⟨.opq a, .opq a, fun us' ds z z2 => by cases z; rw [q] at z2; cases z2⟩
        | some ds =>
          have hd := allFz_dens hs' q
          exact ⟨.lst (toks ws ds), .lst ((e0 a List.mem_cons_self).trans ha) (toks_dens hd), fun us' ds' z z2 => by cases z; rw [q] at z2; cases z2; exact ⟨ws, hd, rfl⟩⟩
      | ins _ _ _ _ => exact ⟨_, .opq _, fun us ds z => nomatch z⟩
      | tup _ _ => exact ⟨_, .opq _, fun us ds z => nomatch z⟩
    obtain ⟨d, g1, g2⟩ := key
    refine ⟨d :: es, .cons g1 h1, fun k us ds hk hz => ?_⟩
    cases k with
    | zero =>
      rw [List.getElem?_cons_zero] at hk
      obtain ⟨ws, k1, rfl⟩ := g2 us ds (Option.some.inj hk) hz
      exact ⟨ws, k1, rfl⟩
    | succ k => exact h2 k us ds (by simpa using hk) hz
end
section
variable {K : PySem.W.Frag} {ca : Nat → Addr} {H0 F0 H F : Hp} {σ : L2.St} {Γ : Gm}
/-- all that is own is read, of its items nothing is known -/
theorem SR.tok (S : SR K ca H0 F0 σ H F Γ) : ∃ F2 Γ2, Same F F2 ∧ (∀ H' F', Ext ca H F2 H' F' → Ext ca H F H' F) ∧ SR K ca H0 F0 σ H F2 Γ2 ∧ (∀ (i : Nat) (ds : List D), Γ[i]? = some (Slot.ow ds) → ∃ vs, Dens K ca F vs ds ∧ Γ2[i]? = some (Slot.va (.lst (toks vs ds)))) ∧
    (∀ (i : Nat) (d : D), Γ[i]? = some (Slot.va d) → ∃ v, Den K ca F v d ∧ Γ2[i]? = some (Slot.va (tokV v d))) ∧
    ∀ (i : Nat) (ts : List BK.T), Γ[i]? = some (Slot.ot (.lst ts)) → ∃ es, Γ2[i]? = some (Slot.va (.lst es)) ∧ ∀ (k : Nat) (us : List BK.T) (ds : List D), ts[k]? = some (.lst us) → allFz us = some ds → ∃ ws, Dens K ca F ws ds ∧ es[k]? = some (.lst (toks ws ds)) := by
  classical
  obtain ⟨A, ⟨o1, o2, o3⟩⟩ := S.own
  let P : Addr → Prop := fun b => (∃ (j : Nat) (ds : List D), Γ[j]? = some (Slot.ow ds) ∧ σ[j]? = some (some (V.ref b))) ∨ ∃ (j : Nat) (t : BK.T), Γ[j]? = some (Slot.ot t) ∧ b ∈ A j
  let F2 : Hp := fun b => if P b then H b else F b
  have hP : ∀ b, P b → noT H0 b = none ∧ F b = none ∧ ∃ u, H b = some u ∧ ∀ ps, u ≠ .tbl ps := fun b hb => by
    rcases hb with ⟨j, ds, g, s⟩ | ⟨j, t, g, hb⟩
    · obtain ⟨a, vs, s', h1, h2, h3, _⟩ := S.ow j ds g
      rw [s] at s'
      cases s'
      exact ⟨h1, h2, _, h3, fun ps z => nomatch z⟩
    · obtain ⟨⟨v, _, ht⟩, _, hf⟩ := o1 j t g
      obtain ⟨u, hu, hn⟩ := ht.at b hb
      exact ⟨(hf b hb).1, (hf b hb).2, u, hu, hn⟩
  have e1 : ∀ b, P b → F2 b = H b := fun b hb => if_pos hb
  have e0 : ∀ b, ¬ P b → F2 b = F b := fun b hb => if_neg hb
  have sf : Same F F2 := fun b u e => by
    rw [e0 b fun z => by rw [(hP b z).2.1] at e; cases e]
    exact e
  have s2 : Same F2 H := fun b u e => by
    by_cases hb : P b
    · rw [e1 b hb] at e; exact e
    · rw [e0 b hb] at e; exact S.ext.fh b u e
  have x : Ext ca H0 F0 H F2 := ⟨S.ext.hh, S.ext.ff.trans sf, s2, fun b e => by
    by_cases hb : P b
    · exact .inr (hP b hb).1
    · rw [e0 b hb] at e; exact S.ext.nw b e, fun n b ps e => by
    by_cases hb : P b
    · rw [e1 b hb] at e
      obtain ⟨u, hu, hn⟩ := (hP b hb).2.2
      rw [hu] at e
      exact hn ps (Option.some.inj e)
    · rw [e0 b hb] at e; exact S.ext.nt n b ps e⟩
  have ex : ∀ i : Nat, ∃ s : Slot, (∀ d, s = .va d → ∃ v, σ[i]? = some (some v) ∧ Den K ca F2 v d) ∧ (∀ ds, s ≠ .ow ds) ∧ (∀ t, s ≠ .ot t) ∧ (∀ ds, Γ[i]? = some (Slot.ow ds) → ∃ vs, Dens K ca F vs ds ∧ s = .va (.lst (toks vs ds))) ∧
      (∀ d, Γ[i]? = some (Slot.va d) → ∃ v, Den K ca F v d ∧ s = .va (tokV v d)) ∧ ∀ ts, Γ[i]? = some (Slot.ot (.lst ts)) → ∃ es, s = .va (.lst es) ∧ ∀ (k : Nat) (us : List BK.T) (ds : List D), ts[k]? = some (.lst us) → allFz us = some ds → ∃ ws, Dens K ca F ws ds ∧ es[k]? = some (.lst (toks ws ds)) := by
    intro i
    cases hi : Γ[i]? with
    | none => exact ⟨.un, by simp, by simp, by simp, by simp, by simp, by simp⟩
    | some s =>
      cases s with
      | un => exact ⟨.un, by simp, by simp, by simp, by simp, by simp, by simp⟩
      | va d =>
        obtain ⟨v, h1, h2⟩ := S.va i d hi
        exact ⟨.va (tokV v d), fun e z => by cases z; exact ⟨v, h1, tok_den h2⟩, by simp, by simp, by simp, fun e z => by cases z; exact ⟨v, h2, rfl⟩, by simp⟩
      | ow ds =>
        obtain ⟨a, vs, h1, h2, h3, h4, h5⟩ := S.ow i ds hi
        exact ⟨.va (.lst (toks vs ds)), fun e z => by cases z; exact ⟨_, h1, .lst ((e1 a (.inl ⟨i, ds, hi, h1⟩)).trans h4) (toks_dens h5)⟩, by simp, by simp, fun e z => by cases z; exact ⟨vs, h5, rfl⟩, by simp, by simp⟩
      | ot t =>
        obtain ⟨⟨v, hv, ht⟩, hd, hf⟩ := o1 i t hi
        have hPA : ∀ b ∈ A i, F2 b = H b := fun b hb => e1 b (.inr ⟨i, t, hi, hb⟩)
        generalize A i = as at ht hPA
        cases ht with
        | lst ha hs =>
          obtain ⟨es, g1, g2⟩ := ots_tok (F2 := F2) hs fun b hb => hPA b (List.mem_cons_of_mem _ hb)
          exact ⟨.va (.lst es), fun e z => by cases z; exact ⟨_, hv, .lst ((hPA _ List.mem_cons_self).trans ha) g1⟩, by simp, by simp, by simp, by simp, fun ts z => by cases z; exact ⟨es, rfl, g2⟩⟩
        | fz h => exact ⟨.un, by simp, by simp, by simp, by simp, by simp, fun ts z => by cases z⟩
        | ins _ _ _ _ => exact ⟨.un, by simp, by simp, by simp, by simp, by simp, fun ts z => by cases z⟩
        | tup _ _ => exact ⟨.un, by simp, by simp, by simp, by simp, by simp, fun ts z => by cases z⟩
  let f : Nat → Slot := fun i => Classical.choose (ex i)
  have hf := fun i => Classical.choose_spec (ex i)
  have gl : ∀ (i : Nat) (s : Slot), ((List.range Γ.length).map f)[i]? = some s → s = f i := fun i s h => by
    rw [List.getElem?_map] at h
    obtain ⟨j, h1, h2⟩ := Option.map_eq_some_iff.mp h
    have := (List.getElem?_eq_some_iff.mp h1).2
    rw [List.getElem_range] at this
    rw [← h2, this]
  have gr : ∀ (i : Nat) (s : Slot), Γ[i]? = some s → ((List.range Γ.length).map f)[i]? = some (f i) := fun i s h => by
    rw [List.getElem?_map, List.getElem?_range (List.getElem?_eq_some_iff.mp h).1]
    rfl
  refine ⟨F2, (List.range Γ.length).map f, sf, fun H' F' y => ⟨y.hh, Same.refl _, sf.trans (y.ff.trans y.fh), fun _ z => .inl z, fun n => n⟩, ⟨x, S.nt0, S.tc0, by rw [List.length_map, List.length_range]; exact S.len, fun i d h => (hf i).1 d (gl i _ h).symm, fun i ds h => absurd (gl i _ h).symm ((hf i).2.1 ds), fun i j ds es a n h => absurd (gl i _ h).symm ((hf i).2.1 ds), Own.nil fun i t h => absurd (gl i _ h).symm ((hf i).2.2.1 t)⟩, fun i ds h => ?_, fun i d h => ?_, fun i ts h => ?_⟩
  · obtain ⟨vs, h1, h2⟩ := (hf i).2.2.2.1 ds h
    exact ⟨vs, h1, by rw [gr i _ h]; exact congrArg some h2⟩
  · obtain ⟨v, h1, h2⟩ := (hf i).2.2.2.2.1 d h
    exact ⟨v, h1, by rw [gr i _ h]; exact congrArg some h2⟩
  · obtain ⟨es, h1, h2⟩ := (hf i).2.2.2.2.2 ts h
    exact ⟨es, by rw [gr i _ h]; exact congrArg some h1, h2⟩
end
end BK
namespace BK
open PySem PySem.Spec L2
set_option autoImplicit false
/-! ### C(.., x, .., y[k], ..): x an own list, y an own tree of lists, all copied -/
inductive AK where
  | ow (j : Nat) | ix (j k : Nat) | sl (j : Nat)
def AK.d (g : Gm) : AK → Option D
  | .ow j => match g[j]? with
    | some (.ow ds) => some (.lst ds)
    | _ => none
  | .sl j => match g[j]? with
    | some (.va d) => some d
    | _ => none
  | .ix j k => match g[j]? with
    | some (.ot (.lst ts)) => match ts[k]? with
      | some (.lst us) => (allFz us).map .lst
      | _ => none
    | _ => none
/-- which fields are copies of lists -/
def AK.c : AK → Bool
  | .sl _ => false
  | _ => true
def fldT1 : AK → D → BK.T
  | .sl _, d => .fz d
  | _, .lst xs => .lst (xs.map .fz)
  | _, d => .fz d
def fldT : List AK → List D → List BK.T
  | a :: as, d :: ds => fldT1 a d :: fldT as ds
  | _, _ => []
def fitF : List AK → List D → Bool
  | [], [] => true
  | .sl _ :: as, _ :: ds => fitF as ds
  | _ :: as, .lst _ :: ds => fitF as ds
  | _, _ => false
section
variable {K : PySem.W.Frag} {ca : Nat → Addr} {F H : Hp}
/-- d told by tokens -/
def Tk (K : PySem.W.Frag) (ca : Nat → Addr) (F : Hp) (a : AK) (d e : D) : Prop := match a with
  | .sl _ => ∃ v, e = tokV v d ∧ Den K ca F v d
  | _ => ∃ vs ds, d = .lst ds ∧ e = .lst (toks vs ds) ∧ Dens K ca F vs ds
theorem Tk.back {a : AK} {d e : D} {u : V} {bs : List Addr} (h : Tk K ca F a d e) (o : OT K ca F H u (fldT1 a e) bs) : OT K ca F H u (fldT1 a d) bs := by
  have lst : (∃ vs ds, d = .lst ds ∧ e = .lst (toks vs ds) ∧ Dens K ca F vs ds) → ∀ us, d = .lst us → ∀ ws, e = .lst ws → OT K ca F H u (.lst (ws.map .fz)) bs → OT K ca F H u (.lst (us.map .fz)) bs := by
    rintro ⟨vs, ds, rfl, rfl, hd⟩ us e1 ws e2 o
    cases e1
    cases e2
    cases o with
    | lst ha hs =>
      obtain ⟨rfl, rfl⟩ := toks_back hd hs
      exact .lst ha (OTs.fzs hd)
  cases a with
  | sl j =>
    obtain ⟨v, rfl, hd⟩ := h
    cases o with
    | fz o => exact .fz (by rw [tok_back hd o]; exact hd)
  | ow j =>
    have h2 := h
    obtain ⟨vs, ds, rfl, rfl, hd⟩ := h
    exact lst h2 _ rfl _ rfl o
  | ix j k =>
    have h2 := h
    obtain ⟨vs, ds, rfl, rfl, hd⟩ := h
    exact lst h2 _ rfl _ rfl o
def Tks (K : PySem.W.Frag) (ca : Nat → Addr) (F : Hp) : List AK → List D → List D → Prop
  | [], [], [] => True
  | a :: as, d :: ds, e :: es => Tk K ca F a d e ∧ Tks K ca F as ds es
  | _, _, _ => False
theorem Tks.fit : ∀ {as : List AK} {ds es : List D}, Tks K ca F as ds es → fitF as es = true
  | [], [], [], _ => rfl
  | a :: as, d :: ds, e :: es, h => by
    have ih := Tks.fit h.2
    have h1 := h.1
    cases a with
    | sl j => exact ih
    | ow j => obtain ⟨vs, ds, rfl, rfl, hd⟩ := h1; exact ih
    | ix j k => obtain ⟨vs, ds, rfl, rfl, hd⟩ := h1; exact ih
  | [], _ :: _, _, h => h.elim
  | [], [], _ :: _, h => h.elim
  | _ :: _, [], _, h => h.elim
  | _ :: _, _ :: _, [], h => h.elim
theorem Tks.back : ∀ {as : List AK} {ds es : List D} {us : List V} {bs : List Addr}, Tks K ca F as ds es → OTs K ca F H us (fldT as es) bs → OTs K ca F H us (fldT as ds) bs
  | [], [], [], _, _, _, o => o
  | a :: as, d :: ds, e :: es, us, bs, h, o => by
    have o : OTs K ca F H us (fldT1 a e :: fldT as es) bs := o
    cases o with
    | cons o1 o2 => exact .cons (h.1.back o1) (Tks.back h.2 o2)
  | [], _ :: _, _, _, _, h, _ => h.elim
  | [], [], _ :: _, _, _, h, _ => h.elim
  | _ :: _, [], _, _, _, h, _ => h.elim
  | _ :: _, _ :: _, [], _, _, h, _ => h.elim
theorem Tks.ds : ∀ {as : List AK} {ds es : List D}, Tks K ca F as ds es → T.ds (fldT as ds) = ds
  | [], [], [], _ => rfl
  | a :: as, d :: ds, e :: es, h => by
    have h1 := h.1
    show (fldT1 a d).d :: T.ds (fldT as ds) = _
    rw [Tks.ds h.2]
    congr 1
    cases a with
    | sl j => rfl
    | ow j => obtain ⟨vs, ds, rfl, rfl, hd⟩ := h1; show D.lst (T.ds (ds.map .fz)) = _; rw [T.ds_fz]
    | ix j k => obtain ⟨vs, ds, rfl, rfl, hd⟩ := h1; show D.lst (T.ds (ds.map .fz)) = _; rw [T.ds_fz]
  | [], _ :: _, _, h => h.elim
  | [], [], _ :: _, h => h.elim
  | _ :: _, [], _, h => h.elim
  | _ :: _, _ :: _, [], h => h.elim
end
end BK
namespace BK
open PySem PySem.Spec L2
set_option autoImplicit false
/-! ### an own tree changed in a loop and forgotten: for one in x: one.reverse() .. -/
end BK
namespace BK
open PySem PySem.Spec L2
set_option autoImplicit false
/-! ### in plain types: own lists handed to classes -/
section
variable {α γ : Type} {b n : Gm → Option Out} {g g1 : Gm} {P : α → Out → Prop} {s : Option α} {i j : Nat}
theorem k_ksN : ksN g = some [] := rfl
theorem k_ksC {m : Gm → Option R} {ks : Gm → Option (List BK.T)} {ds : List D} {ts : List BK.T} (h : m g = some (.tm ds)) (k : ks g = some ts) : ksC (kTm m) ks g = some (.lst (ds.map .fz) :: ts) := by
  have e : kTm m g = some (.lst (ds.map .fz)) := by unfold kTm; rw [h]
  unfold ksC
  rw [e, k]
  rfl
theorem k_kLs {ks : Gm → Option (List BK.T)} {ts : List BK.T} (h : ks g = some ts) (hl : ts.length ≤ 16777216) : kLs ks g = some (.lst ts) := by
  unfold kLs
  rw [h]
  exact if_pos hl
theorem j_setOt {k : Gm → Option BK.T} {t : BK.T} (h : k g = some t) (hi : i < g.length) (h1 : g.set i (.ot t) = g1) (q : J b n g1 s P) : J (sCons (sSetT i k) b) n g s P :=
  j_seq (a := sSetT i k) (g1 := g1) (by
    unfold sSetT
    rw [h]
    show (if i < g.length then _ else _) = _
    rw [if_pos hi, h1]) q
end
end BK
namespace BK
open PySem PySem.Spec L2
set_option autoImplicit false
/-! ### a display of a list that an exception leaves -/
end BK
namespace BK
open PySem PySem.Spec L2
set_option autoImplicit false
end BK
namespace BK
open PySem PySem.Spec L2
set_option autoImplicit false
/-! ### enumerate(x, 1) -/
end BK
namespace BK
open PySem PySem.Spec L2
set_option autoImplicit false
/-! ### [f(..) for ..], f raises; enumerate(x, 1) -/
/-! enumerate(x, 1) -/
end BK
namespace BK
open PySem PySem.Spec L2
set_option autoImplicit false
/-! ### [f(..) for ..] that answers or raises; xs.pop() -/
/-! in plain types -/
end BK
namespace BK
open PySem PySem.Spec L2
set_option autoImplicit false
/-! ### try: .. except C as e: a block that reads e -/
/-! in plain types -/
end BK
namespace BK
open PySem PySem.Spec L2
set_option autoImplicit false
/-! ### displays that answer or raise, in plain types; enumerate(x, 1) -/
end BK
namespace BK
open PySem PySem.Spec L2
set_option autoImplicit false
/-! ### iterables that raise; items of displays that raise -/
end BK
namespace BK
open PySem PySem.Spec L2
set_option autoImplicit false
/-! ### BK92 in plain types -/
end BK
namespace BK
open PySem PySem.Spec L2
set_option autoImplicit false
/-! ### told lists that no handed list is like: they are new -/
end BK
namespace BK
open PySem PySem.Spec L2
set_option autoImplicit false
/-! ### x = f(..); if c: return b; if c2: return b2; for t in x[k]: t.fl.clear(); x[k].clear(); x is forgotten -/
def headBad (n : Nat) : List D → Bool
  | [] => true
  | .tup ds :: _ => ds.length == n
  | _ => false
def okX (fl : Str) (n : Nat) : D → Bool
  | .ins c ds => match fldD c ds fl with
    | some (.lst l) => headBad n l
    | _ => false
  | _ => false
end BK
namespace BK
open PySem PySem.Spec L2
set_option autoImplicit false
end BK
namespace BK
open PySem PySem.Spec L2
set_option autoImplicit false
end BK
namespace BK
open PySem PySem.Spec L2
set_option autoImplicit false
/-! ### BK97 in plain types -/
end BK
namespace BK
open PySem PySem.Spec L2
open PyProof.Rows (envOfC)
set_option autoImplicit false
/-! ### a def that changes its first argument, a tree, and raises; a tree is read by what raises -/
end BK
namespace BK
open PySem PySem.Spec L2
open PyProof.Rows (envOfC)
set_option autoImplicit false
/-! ### such a def, and its callers -/
end BK
namespace BK
open PySem PySem.Spec L2
set_option autoImplicit false
/-! ### x.f.append(e), f the last field of a tree, e may raise -/
theorem noex_oT {i : Nat} {m : Gm → Option Out} (h1 : NoEx m) : NoEx (sOT i m) := fun g x h => by
  unfold sOT at h
  split at h
  · exact h1 _ _ h
  · cases h
theorem noex_fzT {i : Nat} {m : Gm → Option Out} (h1 : NoEx m) : NoEx (sFzT i m) := fun g x h => by
  unfold sFzT at h
  split at h
  · exact h1 _ _ h
  · cases h
end BK
namespace BK
open PySem PySem.Spec L2
set_option autoImplicit false
/-! ### BK100, BK101 in plain types: carts -/
end BK
namespace BK
open PySem PySem.Spec L2 PyProof.Rows
set_option autoImplicit false
/-! ### tuples that have no dict: displays, sums, x.count(e), x.index(e) -/
/-! by values -/
def intsO : List D → Option (List Int)
  | [] => some []
  | .int b :: ds => (intsO ds).map (b :: ·)
  | _ => none
theorem intsO_some : ∀ {ds : List D} {bs : List Int}, intsO ds = some bs → ds = bs.map D.int
  | [], bs, h => by cases h; rfl
  | d :: ds, bs, h => by
    cases d with
    | int b =>
      obtain ⟨cs, e, rfl⟩ := Option.map_eq_some_iff.mp (show (intsO ds).map (b :: ·) = some bs from h)
      rw [intsO_some e]
      rfl
    | _ => cases h
theorem intsO_map : ∀ bs : List Int, intsO (bs.map D.int) = some bs
  | [] => rfl
  | b :: bs => by
    show (intsO (bs.map D.int)).map (b :: ·) = _
    rw [intsO_map bs]
    rfl
end BK
namespace BK
open PySem PySem.Spec L2
set_option autoImplicit false
/-! ### tuples that have no dict, in plain types -/
end BK
namespace BK
open PySem PySem.Spec L2 PyProof.Rows
set_option autoImplicit false
/-! ### sorted(..) of tuples whose first items, whole numbers and lists of such, tell them apart -/
structure Lin {α : Type} (lt : α → α → Bool) : Prop where
  irr : ∀ a, lt a a = false
  tr : ∀ a b c, lt a b = true → lt b c = true → lt a c = true
  tot : ∀ a b, lt a b = true ∨ a = b ∨ lt b a = true
theorem Lin.asym {α : Type} {lt : α → α → Bool} (h : Lin lt) (a b : α) (k : lt a b = true) : lt b a = false := by
  cases e : lt b a with
  | false => rfl
  | true =>
    have := h.tr a b a k e
    rw [h.irr] at this; cases this
theorem Lin.swo {α β : Type} {lt : α → α → Bool} (h : Lin lt) (k : β → α) : SrtO.Swo fun v u => lt (k v) (k u) := by
  refine ⟨fun x y e => h.asym _ _ e, fun x y z h1 h2 => ?_⟩
  cases e : lt (k z) (k x) with
  | false => rfl
  | true =>
    rcases h.tot (k x) (k y) with c | c | c
    · rw [h.tr _ _ _ e c] at h2; cases h2
    · rw [c, h2] at e; cases e
    · rw [c] at h1; cases h1
def lexG {α : Type} [DecidableEq α] (lt : α → α → Bool) : List α → List α → Bool
  | [], [] => false
  | [], _ :: _ => true
  | _ :: _, [] => false
  | a :: x, b :: y => if a = b then lexG lt x y else lt a b
theorem Lin.lex {α : Type} [DecidableEq α] {lt : α → α → Bool} (h : Lin lt) : Lin (lexG lt) := by
  refine ⟨fun a => ?_, fun a => ?_, fun a => ?_⟩
  · induction a with
    | nil => rfl
    | cons x a ih => rw [lexG, if_pos rfl]; exact ih
  · induction a with
    | nil =>
      intro b c h1 h2
      cases b with
      | nil => cases h1
      | cons y b => cases c with
        | nil => cases h2
        | cons z c => rfl
    | cons x a ih =>
      intro b c h1 h2
      cases b with
      | nil => cases h1
      | cons y b => cases c with
        | nil => cases h2
        | cons z c =>
          rw [lexG] at h1 h2 ⊢
          by_cases e1 : x = y
          · subst e1
            rw [if_pos rfl] at h1
            by_cases e2 : x = z
            · rw [if_pos e2] at h2 ⊢
              exact ih b c h1 h2
            · rw [if_neg e2] at h2 ⊢
              exact h2
          · rw [if_neg e1] at h1
            by_cases e2 : y = z
            · subst e2
              rw [if_neg e1]
              exact h1
            · rw [if_neg e2] at h2
              have h3 := h.tr _ _ _ h1 h2
              rw [if_neg (fun e => by subst e; rw [h.irr] at h3; cases h3)]
              exact h3
  · induction a with
    | nil =>
      intro b
      cases b with
      | nil => exact .inr (.inl rfl)
      | cons y b => exact .inl rfl
    | cons x a ih =>
      intro b
      cases b with
      | nil => exact .inr (.inr rfl)
      | cons y b =>
        rw [lexG, lexG]
        by_cases e : x = y
        · subst e
          rw [if_pos rfl, if_pos rfl]
          rcases ih b with c | c | c
          · exact .inl c
          · exact .inr (.inl (by rw [c]))
          · exact .inr (.inr c)
        · rw [if_neg e, if_neg fun z => e z.symm]
          rcases h.tot x y with c | c | c
          · exact .inl c
          · exact absurd c e
          · exact .inr (.inr c)
theorem lin_int : Lin fun a b : Int => decide (a < b) := ⟨fun a => by simp, fun a b c h1 h2 => by simp at *; omega, fun a b => by simp; omega⟩
abbrev lexI : List Int → List Int → Bool := lexG fun a b : Int => decide (a < b)
abbrev ltK : List (List Int) → List (List Int) → Bool := lexG lexI
theorem lin_I : Lin lexI := lin_int.lex
theorem lin_K : Lin ltK := lin_I.lex
theorem firstLt_map (e r : Nat → Bool) (fin : Bool) : ∀ l : List Nat, SeqAt.firstLt e r fin (l.map Nat.succ) = SeqAt.firstLt (fun j => e (j + 1)) (fun j => r (j + 1)) fin l
  | [] => rfl
  | j :: l => by
    rw [List.map_cons, SeqAt.firstLt, SeqAt.firstLt, firstLt_map e r fin l]
theorem firstLt_lex : ∀ ns ms : List Int, SeqAt.firstLt (fun j => decide (ns.getD j 0 = ms.getD j 0)) (fun j => decide (ns.getD j 0 < ms.getD j 0)) (decide (ns.length < ms.length)) (List.range (min ns.length ms.length)) = lexI ns ms
  | [], [] => rfl
  | [], b :: y => by simp [SeqAt.firstLt, lexG]
  | a :: x, [] => by simp [SeqAt.firstLt, lexG]
  | a :: x, b :: y => by
    have h := firstLt_lex x y
    rw [List.length_cons, List.length_cons, Nat.succ_min_succ, List.range_succ_eq_map, SeqAt.firstLt, firstLt_map]
    show (if decide (a = b) = true then _ else decide (a < b)) = (if a = b then lexI x y else decide (a < b))
    by_cases e : a = b
    · rw [if_pos (decide_eq_true e), if_pos e, ← h]
      congr 1
      exact decide_eq_decide.mpr (by omega)
    · rw [if_neg (by simpa using e), if_neg e]
/-- an item of a key: a whole number, or (true) a list of such -/
def CompIs (h : Heap) : Bool → Value → List Int → Prop
  | false, w, c => ∃ n t, w = .int n t ∧ c = [n]
  | true, w, c => ∃ l its, w = .ref l ∧ h.IsList l its ∧ IntsAre its.toList c
def CompsAre (h : Heap) : List Bool → List Value → List (List Int) → Prop
  | [], _, [] => True
  | b :: sh, w :: ws, c :: cs => CompIs h b w c ∧ CompsAre h sh ws cs
  | _, _, _ => False
def IsKey (h : Heap) (sh : List Bool) (N : Nat) (v : Value) (ks : List (List Int)) : Prop := ∃ (a : Addr) (o : Obj) (items : Array Value) (n : Nat), v = .ref a ∧ h.get? a = some o ∧ o.cls = .type "tuple" ∧ o.data = .seq items n ∧ items.size = N ∧ CompsAre h sh items.toList ks
section
variable {h h' : Heap}
theorem CompIs.keeps (k : ∀ b o, h.get? b = some o → h'.get? b = some o) : ∀ {b : Bool} {w : Value} {c : List Int}, CompIs h b w c → CompIs h' b w c
  | false, _, _, x => x
  | true, _, _, ⟨l, its, e, ⟨o, ho, r⟩, i⟩ => ⟨l, its, e, ⟨o, k _ _ ho, r⟩, i⟩
theorem CompsAre.keeps (k : ∀ b o, h.get? b = some o → h'.get? b = some o) : ∀ {sh : List Bool} {ws : List Value} {cs : List (List Int)}, CompsAre h sh ws cs → CompsAre h' sh ws cs
  | [], _, [], _ => trivial
  | b :: sh, w :: ws, c :: cs, x => ⟨x.1.keeps k, CompsAre.keeps k x.2⟩
  | [], _, _ :: _, x => x.elim
  | _ :: _, [], _, x => by cases x
  | _ :: _, _ :: _, [], x => by cases x
theorem IsKey.keeps (k : ∀ b o, h.get? b = some o → h'.get? b = some o) {sh : List Bool} {N : Nat} {v : Value} {ks : List (List Int)} (x : IsKey h sh N v ks) : IsKey h' sh N v ks := by
  obtain ⟨a, o, items, n, e, ho, hc, hd, hN, c⟩ := x
  exact ⟨a, o, items, n, e, k _ _ ho, hc, hd, hN, c.keeps k⟩
theorem intsAre_inj : ∀ {vs : List Value} {ns ms : List Int}, IntsAre vs ns → IntsAre vs ms → ns = ms := by
  intro vs ns ms h1
  induction h1 generalizing ms with
  | nil => intro h2; cases h2; rfl
  | cons i t _ ih => intro h2; cases h2 with
    | cons _ _ h2 => rw [ih h2]
theorem CompIs.inj : ∀ {b : Bool} {w : Value} {c d : List Int}, CompIs h b w c → CompIs h b w d → c = d
  | false, _, _, _, ⟨n, t, e, ec⟩, ⟨m, u, e', ed⟩ => by
    rw [e] at e'
    cases e'
    rw [ec, ed]
  | true, _, _, _, ⟨l, its, e, ⟨o, ho, hc, n, hd⟩, i⟩, ⟨l', its', e', ⟨o', ho', hc', n', hd'⟩, i'⟩ => by
    rw [e] at e'
    cases e'
    rw [ho] at ho'
    cases ho'
    rw [hd] at hd'
    cases hd'
    exact intsAre_inj i i'
theorem CompsAre.inj : ∀ {sh : List Bool} {ws : List Value} {cs ds : List (List Int)}, CompsAre h sh ws cs → CompsAre h sh ws ds → cs = ds
  | [], _, [], [], _, _ => rfl
  | b :: sh, w :: ws, c :: cs, d :: ds, x, y => by rw [x.1.inj y.1, CompsAre.inj x.2 y.2]
  | [], _, _ :: _, _, x, _ => x.elim
  | [], _, [], _ :: _, _, y => y.elim
  | _ :: _, [], _, _, x, _ => by cases x
  | _ :: _, _ :: _, [], _, x, _ => by cases x
  | _ :: _, _ :: _, _ :: _, [], _, y => by cases y
theorem IsKey.inj {sh : List Bool} {N M : Nat} {v : Value} {ks ls : List (List Int)} (x : IsKey h sh N v ks) (y : IsKey h sh M v ls) : ks = ls := by
  obtain ⟨a, o, items, n, e, ho, hc, hd, _, c⟩ := x
  obtain ⟨a', o', items', n', e', ho', hc', hd', _, c'⟩ := y
  rw [e] at e'
  cases e'
  rw [ho] at ho'
  cases ho'
  rw [hd] at hd'
  cases hd'
  exact c.inj c'
end
section
variable {prog : Program} {w : World} {A : Around} {E : Value → Shared → Prop} {s : Shared}
theorem intsAre_at : ∀ {vs : List Value} {ns : List Int}, IntsAre vs ns → ∀ (j : Nat) (h : j < vs.length), ∃ t, vs[j] = .int (ns.getD j 0) t := by
  intro vs ns h
  induction h with
  | nil => intro j h; cases h
  | cons i t _ ih =>
    intro j h
    cases j with
    | zero => exact ⟨_, rfl⟩
    | succ j => exact ih j (Nat.lt_of_succ_lt_succ h)
theorem intsAre_len : ∀ {vs : List Value} {ns : List Int}, IntsAre vs ns → vs.length = ns.length := by
  intro vs ns h
  induction h with
  | nil => rfl
  | cons _ _ _ ih => rw [List.length_cons, List.length_cons, ih]
/-- items of keys: equal or not, and less -/
theorem comp_eq (hu : A.units < cLine) {b : Bool} {v u : Value} {c d : List Int} (x : CompIs s.heap b v c) (y : CompIs s.heap b u d) : SeqAt.EqAt A s v u (decide (c = d)) := by
  cases b with
  | false =>
    obtain ⟨n, t, rfl, rfl⟩ := x
    obtain ⟨m, t', rfl, rfl⟩ := y
    have := SeqAt.EqAt.int_int (A := A) (s := s) n t m t'
    have e : decide ([n] = [m]) = (n == m) := by
      rw [Bool.eq_iff_iff]; simp
    rw [e]
    exact this
  | true =>
    obtain ⟨l, its, rfl, hl, hi⟩ := x
    obtain ⟨l', its', rfl, hl', hi'⟩ := y
    by_cases z : l = l'
    · subst z
      have : c = d := (show CompIs s.heap true (.ref l) c from ⟨l, its, rfl, hl, hi⟩).inj ⟨l, its', rfl, hl', hi'⟩
      rw [decide_eq_true this]
      exact .same _
    · refine .of_refs z ?_
      have e1 := intsAre_len hi
      have e2 := intsAre_len hi'
      rw [Array.length_toList] at e1 e2
      by_cases hs : its.size = its'.size
      · have h := SeqAt.RcAt.lists (e := fun j => decide (c.getD j 0 = d.getD j 0)) hl hl' hs hu fun j h1 h2 => ?_
        · have ee : (List.range its.size).all (fun j => decide (c.getD j 0 = d.getD j 0)) = decide (c = d) := by
            rw [Bool.eq_iff_iff, List.all_eq_true, decide_eq_true_iff]
            constructor
            · intro hh
              refine List.ext_getElem (by omega) fun j j1 j2 => ?_
              have := of_decide_eq_true (hh j (List.mem_range.mpr (by omega)))
              rw [List.getD_eq_getElem?_getD, List.getD_eq_getElem?_getD, List.getElem?_eq_getElem j1, List.getElem?_eq_getElem j2] at this
              exact this
            · rintro rfl j _
              exact decide_eq_true rfl
          rw [ee] at h
          exact h
        · obtain ⟨t, et⟩ := intsAre_at hi j (by rw [Array.length_toList]; exact h1)
          obtain ⟨t', et'⟩ := intsAre_at hi' j (by rw [Array.length_toList]; exact h2)
          rw [Array.getElem_toList] at et et'
          rw [et, et']
          have := SeqAt.EqAt.int_int (A := A.in1) (s := s) (c.getD j 0) t (d.getD j 0) t'
          rw [show decide (c.getD j 0 = d.getD j 0) = (c.getD j 0 == d.getD j 0) by rw [Bool.eq_iff_iff]; simp]
          exact this
      · have hne : c ≠ d := fun z => hs (by rw [e1, e2, z])
        rw [decide_eq_false hne]
        exact SeqAt.RcAt.lists_lengths hl hl' (by rw [bne_iff_ne]; exact hs) hu
theorem comp_lt (hu : A.units < cLine) {l l' : Addr} {its its' : Array Value} {c d : List Int} (hl : s.heap.IsList l its) (hi : IntsAre its.toList c) (hl' : s.heap.IsList l' its') (hi' : IntsAre its'.toList d) : SeqAt.RcLt A s (.ref l) (.ref l') (lexI c d) := by
  have e1 := intsAre_len hi
  have e2 := intsAre_len hi'
  rw [Array.length_toList] at e1 e2
  have h := SeqAt.RcLt.lists (e := fun j => decide (c.getD j 0 = d.getD j 0)) (r := fun j => decide (c.getD j 0 < d.getD j 0)) hl hl' hu (fun j h1 h2 => ?_) fun j h1 h2 _ => ?_
  · rw [e1, e2, firstLt_lex] at h
    exact h
  · obtain ⟨t, et⟩ := intsAre_at hi j (by rw [Array.length_toList]; exact h1)
    obtain ⟨t', et'⟩ := intsAre_at hi' j (by rw [Array.length_toList]; exact h2)
    rw [Array.getElem_toList] at et et'
    rw [et, et']
    have := SeqAt.EqAt.int_int (A := A.in1) (s := s) (c.getD j 0) t (d.getD j 0) t'
    rw [show decide (c.getD j 0 = d.getD j 0) = (c.getD j 0 == d.getD j 0) by rw [Bool.eq_iff_iff]; simp]
    exact this
  · obtain ⟨t, et⟩ := intsAre_at hi j (by rw [Array.length_toList]; exact h1)
    obtain ⟨t', et'⟩ := intsAre_at hi' j (by rw [Array.length_toList]; exact h2)
    rw [Array.getElem_toList] at et et'
    rw [et, et']
    exact fun prog w E Q hq => PyProof.Rows.lt_int hq
/-- two keys that differ -/
theorem kat_comps {b fin : Bool} {Q : Bool → Shared → Prop} (hu : A.units < cLine) : ∀ (sh : List Bool) (i : Nat) (xs ys : List Value) (ks ls : List (List Int)), (b = true → i = 0 → sh.head? = some false) → CompsAre s.heap sh xs ks → CompsAre s.heap sh ys ls → ks ≠ ls → Q (ltK ks ls) s → PySem.W.KatLex prog w A b fin Q (xs.zip ys) i s
  | [], i, xs, ys, ks, ls, _, hx, hy, hne, _ => by
    cases ks with
    | cons _ _ => exact hx.elim
    | nil => cases ls with
      | cons _ _ => exact hy.elim
      | nil => exact absurd rfl hne
  | c :: sh, i, xs, ys, ks, ls, h0, hx, hy, hne, hq => by
    cases xs with
    | nil => cases hx
    | cons x xs => cases ks with
      | nil => cases hx
      | cons k ks => cases ys with
        | nil => cases hy
        | cons y ys => cases ls with
          | nil => cases hy
          | cons l ls =>
            rw [List.zip_cons_cons]
            refine PySem.W.kat_cons (comp_eq hu hx.1 hy.1 prog w _ _ ?_)
            refine PySem.W.kat_go (fun e => ?_) (fun e => ?_)
            · have e : k = l := of_decide_eq_true e
              subst e
              refine PySem.W.kat_yes (kat_comps hu sh (i + 1) xs ys ks ls (fun _ z => absurd z (by omega)) hx.2 hy.2 (fun z => hne (by rw [z])) ?_)
              rw [ltK, lexG, if_pos rfl] at hq
              exact hq
            · have e : ¬ k = l := of_decide_eq_false e
              rw [ltK, lexG, if_neg e] at hq
              refine PySem.W.kat_no ?_
              cases c with
              | false =>
                obtain ⟨n, t, rfl, rfl⟩ := hx.1
                obtain ⟨m, t', rfl, rfl⟩ := hy.1
                have en : ¬ n = m := fun z => e (by rw [z])
                rw [lexI, lexG, if_neg en] at hq
                cases hc : (b && i == 0) with
                | true => exact oneLt_int hq
                | false => exact PySem.W.kat_one _ _ (PyProof.Rows.lt_int (Q := PySem.W.BoolBack Q) hq)
              | true =>
                obtain ⟨a, its, rfl, hl, hi⟩ := hx.1
                obtain ⟨a', its', rfl, hl', hi'⟩ := hy.1
                have hc : (b && i == 0) = false := by
                  cases b with
                  | false => rfl
                  | true =>
                    cases i with
                    | zero => exact absurd (h0 rfl rfl) (by simp)
                    | succ i => rfl
                rw [hc]
                exact PySem.W.kat_one _ _ (comp_lt hu hl hi hl' hi' prog w _ (PySem.W.BoolBack Q) hq)
theorem kat_self {b : Bool} {Q : Bool → Shared → Prop} : ∀ (i : Nat) (xs : List Value), Q false s → PySem.W.KatLex prog w A b false Q (xs.zip xs) i s
  | i, [], h => PySem.W.kat_nil h
  | i, x :: xs, h => by
    rw [List.zip_cons_cons]
    refine PySem.W.kat_cons (SeqAt.EqAt.same x prog w _ _ ?_)
    exact PySem.W.kat_yes (kat_self (i + 1) xs h)
/-- keys of all items, told apart by them -/
structure TKeys (h : Heap) (sh : List Bool) (N : Nat) (vs : List Value) (k : Value → List (List Int)) : Prop where
  ky : ∀ v ∈ vs, IsKey h sh N v (k v)
  df : ∀ v ∈ vs, ∀ u ∈ vs, k v = k u → v = u
theorem TKeys.keeps {h h' : Heap} (kk : ∀ b o, h.get? b = some o → h'.get? b = some o) {sh : List Bool} {N : Nat} {vs : List Value} {k : Value → List (List Int)} (x : TKeys h sh N vs k) : TKeys h' sh N vs k := ⟨fun v hv => (x.ky v hv).keeps kk, x.df⟩
theorem keys_cmp (hu : A.units < cLine) {sh : List Bool} {N : Nat} {vs : List Value} {k : Value → List (List Int)} (x : TKeys s.heap (false :: sh) N vs k) : SrtO.Cmp prog w A s (tuples' true) (fun p => p.1 ∈ vs) (SrtO.lt2 fun v u => ltK (k v) (k u)) := by
  intro p q hm hm'
  show wpAny (model prog w) A (keyLt' (tuples' true) p.1 q.1) (fun r s' => s' = s ∧ r = ltK (k p.1) (k q.1)) (fun _ _ => False) s
  by_cases z : p.1 = q.1
  · rw [z]
    obtain ⟨a, o, items, n, e, ho, hc, hd, hN, c⟩ := x.ky _ hm'
    rw [e]
    refine PySem.W.kat_lt ho hd ho hd ?_
    rw [decide_eq_false (Nat.lt_irrefl _)]
    refine kat_self 0 _ ⟨rfl, ?_⟩
    rw [lin_K.irr]
  · have hne : k p.1 ≠ k q.1 := fun e => z (x.df _ hm _ hm' e)
    obtain ⟨a, o, items, n, e, ho, hc, hd, hN, c⟩ := x.ky _ hm
    obtain ⟨a', o', items', n', e', ho', hc', hd', hN', c'⟩ := x.ky _ hm'
    rw [e, e'] at hne
    rw [e] at c
    rw [e'] at c'
    rw [e, e']
    refine PySem.W.kat_lt ho hd ho' hd' ?_
    exact kat_comps hu (false :: sh) 0 _ _ _ _ (fun _ _ => rfl) c c' hne ⟨rfl, rfl⟩
theorem keys_firsts {h : Heap} {sh : List Bool} {N : Nat} : ∀ {vs : List Value}, (∀ v ∈ vs, ∃ ks, IsKey h (false :: sh) N v ks) → ∃ fs : List Value, PySem.W.KatTups h vs fs ∧ fs.length = vs.length ∧ ∀ f ∈ fs, ∃ x t, f = Value.int x t
  | [], _ => ⟨[], PySem.W.KatTups.nil, rfl, fun _ hm => by simp at hm⟩
  | v :: vs, hp => by
    obtain ⟨fs, h1, h2, h3⟩ := keys_firsts (vs := vs) fun v' hm => hp v' (List.mem_cons_of_mem _ hm)
    obtain ⟨ks, a, o, items, n, e, ho, hc, hd, hN, c⟩ := hp v List.mem_cons_self
    subst e
    cases hl : items.toList with
    | nil => rw [hl] at c; cases ks <;> cases c
    | cons x xs =>
      rw [hl] at c
      cases ks with
      | nil => cases c
      | cons k ks =>
        obtain ⟨m, t, ex, _⟩ := c.1
        subst ex
        refine ⟨.int m t :: fs, PySem.W.KatTups.cons ho hc hd (by rw [← Array.getElem?_toList, hl]; rfl) h1, by rw [List.length_cons, List.length_cons, h2], fun f hm => ?_⟩
        rcases List.mem_cons.mp hm with rfl | hm
        · exact ⟨m, t, rfl⟩
        · exact h3 f hm
theorem keys_sortable (hu : A.units < cLine) {sh : List Bool} {N : Nat} {a : Addr} {vs : List Value} {k : Value → List (List Int)} (h0 : 0 < vs.length) {h0' : Heap} (kk : ∀ b o, h0'.get? b = some o → b ≠ a ∧ s.heap.get? b = some o) (x : TKeys h0' (false :: sh) N vs k) : SrtO.SortableO prog w A s a vs fun v u => ltK (k v) (k u) := by
  intro h' keep
  have x' := x.keeps (h' := h') fun b o e => keep b o (kk b o e).1 (kk b o e).2
  obtain ⟨fs, h1, h2, h3⟩ := keys_firsts fun v hm => ⟨_, x'.ky v hm⟩
  refine ⟨tuples' true, fun Q E hq => ?_, keys_cmp (s := { s with heap := h' }) hu x'⟩
  refine PySem.W.kat_kind (T := .type "int") h1 (by omega) (fun f hm => ?_) (by rfl) ?_
  · obtain ⟨x, t, rfl⟩ := h3 f hm
    exact PySem.W.Looks.now
  · have e : (Value.type "int" != Value.type "tuple") = true := by first | decide +kernel | rfl | decide
    rw [e]
    exact hq
end
end BK
namespace BK
open PySem PySem.Spec L2 PyProof.Rows
set_option autoImplicit false
/-! ### sorted(..) of such tuples, by values and in plain types -/
theorem perm_lift {α β : Type} (f : α → β) : ∀ {l m : List β}, l.Perm m → ∀ zs : List α, zs.map f = m → ∃ zs' : List α, zs'.Perm zs ∧ zs'.map f = l := by
  intro l m h
  induction h with
  | nil => intro zs e; exact ⟨zs, .refl _, e⟩
  | cons x _ ih =>
    intro zs e
    cases zs with
    | nil => cases e
    | cons z zs =>
      injection e with e1 e2
      obtain ⟨zs', h1, h2⟩ := ih zs e2
      exact ⟨z :: zs', h1.cons z, by rw [List.map_cons, h2, e1]⟩
  | swap x y l =>
    intro zs e
    cases zs with
    | nil => cases e
    | cons z zs =>
      cases zs with
      | nil => cases e
      | cons z' zs =>
        injection e with e1 e2
        injection e2 with e2 e3
        exact ⟨z' :: z :: zs, .swap z z' zs, by rw [List.map_cons, List.map_cons, e1, e2, e3]⟩
  | trans _ _ ih1 ih2 =>
    intro zs e
    obtain ⟨z2, h1, h2⟩ := ih2 zs e
    obtain ⟨z1, h3, h4⟩ := ih1 z2 h2
    exact ⟨z1, h3.trans h1, h4⟩
/-- sorted lists with the same items are the same, where the order tells items apart -/
theorem sorted_uniq {α : Type} (R : α → α → Prop) : ∀ (a b : List α), a.Perm b → a.Pairwise R → b.Pairwise R → (∀ x ∈ a, ∀ y ∈ a, R x y → R y x → x = y) → a = b
  | [], b, h, _, _, _ => by rw [List.nil_perm.mp h]
  | x :: a, b, h, ha, hb, an => by
    cases b with
    | nil => exact absurd h.length_eq (by simp)
    | cons y b =>
      rw [List.pairwise_cons] at ha hb
      have hy : y ∈ x :: a := h.symm.subset List.mem_cons_self
      have hxy : x = y := by
        have h1 : x ∈ y :: b := h.subset List.mem_cons_self
        rcases List.mem_cons.mp h1 with e | h1
        · exact e
        · rcases List.mem_cons.mp hy with e | h2
          · exact e.symm
          · exact an x List.mem_cons_self y hy (ha.1 y h2) (hb.1 x h1)
      subst hxy
      rw [sorted_uniq R a b (List.Perm.cons_inv h) ha.2 hb.2 fun u hu v hv => an u (List.mem_cons_of_mem _ hu) v (List.mem_cons_of_mem _ hv)]
/-- sorted by keys -/
def sortBy {α : Type} (k : α → List (List Int)) (xs : List α) : List α := xs.mergeSort fun a b => !ltK (k b) (k a)
theorem sortBy_perm {α : Type} (k : α → List (List Int)) (xs : List α) : (sortBy k xs).Perm xs := List.mergeSort_perm ..
theorem sortBy_sorted {α : Type} (k : α → List (List Int)) (xs : List α) : (sortBy k xs).Pairwise fun a b => ltK (k b) (k a) = false := by
  have O := lin_K.swo (β := α) k
  have h := List.pairwise_mergeSort (le := fun a b : α => !ltK (k b) (k a)) (fun a b c h1 h2 => by
    have h1 : ltK (k b) (k a) = false := by simpa using h1
    have h2 : ltK (k c) (k b) = false := by simpa using h2
    have := O.tr a b c h1 h2
    simpa using this) (fun a b => by
    cases e : ltK (k b) (k a) with
    | false => simp
    | true => rw [O.asym b a e]; simp) xs
  exact h.imp fun h => by simpa using h
theorem sortBy_uniq {α : Type} {k : α → List (List Int)} {xs ys : List α} (h : ys.Perm xs) (hs : ys.Pairwise fun a b => ltK (k b) (k a) = false) (hn : (xs.map k).Nodup) : ys = sortBy k xs := by
  refine sorted_uniq _ ys (sortBy k xs) (h.trans (sortBy_perm k xs).symm) hs (sortBy_sorted k xs) fun x hx y hy h1 h2 => ?_
  have e : k x = k y := by
    rcases lin_K.tot (k x) (k y) with c | c | c
    · rw [c] at h2; cases h2
    · exact c
    · rw [c] at h1; cases h1
  have hx := h.subset hx
  have hy := h.subset hy
  obtain ⟨i, hi, ei⟩ := List.getElem_of_mem hx
  obtain ⟨j, hj, ej⟩ := List.getElem_of_mem hy
  have : i = j := by
    refine (List.getElem_inj (h₀ := by rw [List.length_map]; exact hi) (h₁ := by rw [List.length_map]; exact hj) hn).mp ?_
    rw [List.getElem_map, List.getElem_map, ei, ej]
    exact e
  subst this
  rw [← ei, ← ej]
theorem sortBy_map {α β : Type} {k : α → List (List Int)} {k' : β → List (List Int)} {f : α → β} {xs : List α} (h : ∀ x ∈ xs, k' (f x) = k x) (hn : (xs.map k).Nodup) : sortBy k' (xs.map f) = (sortBy k xs).map f := by
  refine (sortBy_uniq ((sortBy_perm k xs).map f) ?_ ?_).symm
  · rw [List.pairwise_map]
    refine (sortBy_sorted k xs).imp_of_mem fun ha hb hh => ?_
    rw [h _ ((sortBy_perm k xs).subset ha), h _ ((sortBy_perm k xs).subset hb)]
    exact hh
  · rw [List.map_map, show xs.map (k' ∘ f) = xs.map k from List.map_congr_left h]
    exact hn
/-! by values of the hand layer -/
def CompV (K : PySem.W.Frag) (H : Hp) : Bool → V → List Int → Prop
  | false, y, c => ∃ n, y = .int n ∧ c = [n]
  | true, y, c => ∃ l, y = .ref l ∧ SqL K H l (c.map V.int)
def CompsV (K : PySem.W.Frag) (H : Hp) : List Bool → List V → List (List Int) → Prop
  | [], _, [] => True
  | b :: sh, w :: ws, c :: cs => CompV K H b w c ∧ CompsV K H sh ws cs
  | _, _, _ => False
def KeyV (K : PySem.W.Frag) (H : Hp) (sh : List Bool) (N : Nat) (x : V) (ks : List (List Int)) : Prop := ∃ p ys, x = .ref p ∧ SqT K H p ys ∧ ys.length = N ∧ CompsV K H sh ys ks
def rSortedK (K : PySem.W.Frag) (sh : List Bool) : List V → Hp → VK → Prop := fun vs H Q => ∃ (a : Addr) (xs : List V) (kss : List (List (List Int))) (N : Nat), vs = [V.ref a] ∧ SqL K H a xs ∧ xs.length = kss.length ∧ (∀ (i : Nat) x ks, xs[i]? = some x → kss[i]? = some ks → KeyV K H (false :: sh) N x ks) ∧ kss.Nodup ∧
  ∀ (xs' : List V) (kss' : List (List (List Int))) (p : Addr), xs'.length = kss'.length → (xs'.zip kss').Perm (xs.zip kss) → kss'.Pairwise (fun a b => ltK b a = false) → H p = none → Q (.ref p) (upd H p (.lst xs'))
section
variable {X : Cx} {pins : List (Addr × Obj)} {σ : L2.St} {H : Hp} {s : Shared}
theorem compV_is (I : Inv X pins σ H s) {b : Bool} {y : V} {u : Value} {c : List Int} (r : RelV y u) (h : CompV X.K H b y c) : CompIs s.heap b u c := by
  cases b with
  | false =>
    obtain ⟨n, rfl, rfl⟩ := h
    obtain ⟨t, rfl⟩ := r
    exact ⟨n, t, rfl, rfl⟩
  | true =>
    obtain ⟨l, rfl, h⟩ := h
    cases r
    obtain ⟨its, rv, pl, hz⟩ := I.list h
    exact ⟨l, its.toArray, rfl, pl.isList, by simpa using intsAre_of rv⟩
theorem compsV_are (I : Inv X pins σ H s) : ∀ {sh : List Bool} {ys : List V} {us : List Value} {cs : List (List Int)}, Vals ys us → CompsV X.K H sh ys cs → CompsAre s.heap sh us cs
  | [], _, _, [], _, _ => trivial
  | b :: sh, y :: ys, _, c :: cs, .cons r t, h => ⟨compV_is I r h.1, compsV_are I t h.2⟩
  | [], _, _, _ :: _, _, h => h.elim
  | _ :: _, [], _, _, _, h => by cases h
  | _ :: _, _ :: _, _, [], _, h => by cases h
theorem keyV_is (I : Inv X pins σ H s) {sh : List Bool} {N : Nat} {x : V} {u : Value} {ks : List (List Int)} (r : RelV x u) (h : KeyV X.K H sh N x ks) : IsKey s.heap sh N u ks := by
  obtain ⟨p, ys, rfl, ht, hN, hc⟩ := h
  cases r
  obtain ⟨its, rv, ⟨o, ho, hcl, n, hd⟩, hz⟩ := I.tuple ht
  exact ⟨p, o, its.toArray, n, rfl, ho, hcl, hd, by rw [List.size_toArray, ← rv.length]; exact hN, by simpa using compsV_are I rv hc⟩
theorem vals_zip : ∀ {xs : List V} {us : List Value}, Vals xs us → ∀ z ∈ xs.zip us, RelV z.1 z.2
  | _, _, .nil, z, hz => by cases hz
  | _, _, .cons r t, z, hz => by
    rcases List.mem_cons.mp hz with rfl | hz
    · exact r
    · exact vals_zip t z hz
theorem vals_of_zip : ∀ (zs : List (V × Value)), (∀ z ∈ zs, RelV z.1 z.2) → Vals (zs.map (·.1)) (zs.map (·.2))
  | [], _ => .nil
  | z :: zs, h => .cons (h z List.mem_cons_self) (vals_of_zip zs fun y hy => h y (List.mem_cons_of_mem _ hy))
theorem zip_map_r {α β γ : Type} (f : β → γ) : ∀ (xs : List α) (ys : List β), xs.zip (ys.map f) = (xs.zip ys).map fun z => (z.1, f z.2)
  | [], _ => rfl
  | _ :: _, [] => rfl
  | x :: xs, y :: ys => by rw [List.map_cons, List.zip_cons_cons, List.zip_cons_cons, List.map_cons, zip_map_r f xs ys]
theorem zip_fs2 {α β : Type} : ∀ (xs : List α) (ys : List β), xs.length = ys.length → (xs.zip ys).map (·.2) = ys ∧ (xs.zip ys).map (·.1) = xs
  | [], [], _ => ⟨rfl, rfl⟩
  | x :: xs, y :: ys, h => by
    have := zip_fs2 xs ys (Nat.succ.inj h)
    rw [List.zip_cons_cons, List.map_cons, List.map_cons, this.1, this.2]
    exact ⟨rfl, rfl⟩
  | [], _ :: _, h => by cases h
  | _ :: _, [], h => by cases h
theorem cr_sortedK (hu0 : X.A.units + 64 < cLine) {sh : List Bool} : CallR X (.builtin "sorted") (rSortedK X.K sh) := by
  intro pins s σ H vs us Q I r h
  obtain ⟨a, xs, kss, N, rfl, hs, hl, hk, hn, q⟩ := h
  obtain ⟨its, rv, hpl, hz⟩ := I.list hs
  rw [Vals.ref1 r]
  have hlen := rv.length
  let k : Value → List (List Int) := fun v => Classical.epsilon (IsKey s.heap (false :: sh) N v)
  have key : ∀ (i : Nat) (h1 : i < its.length) (h2 : i < kss.length), IsKey s.heap (false :: sh) N its[i] kss[i] := fun i h1 h2 => by
    have h3 : i < xs.length := by omega
    obtain ⟨u, hu, ru⟩ := rv.get (i := i) (x := xs[i]) (List.getElem?_eq_getElem h3)
    rw [List.getElem?_eq_getElem h1] at hu
    cases hu
    exact keyV_is I ru (hk i _ _ (List.getElem?_eq_getElem h3) (List.getElem?_eq_getElem h2))
  have kk : ∀ (i : Nat) (h1 : i < its.length) (h2 : i < kss.length), k its[i] = kss[i] := fun i h1 h2 => (Classical.epsilon_spec (p := IsKey s.heap (false :: sh) N its[i]) ⟨_, key i h1 h2⟩).inj (key i h1 h2)
  have hmap : its.map k = kss := by
    refine List.ext_getElem (by rw [List.length_map]; omega) fun i h1 h2 => ?_
    rw [List.getElem_map]
    exact kk i (by rw [List.length_map] at h1; exact h1) h2
  have T : TKeys s.heap (false :: sh) N its k := ⟨fun v hv => by
    obtain ⟨i, hi, rfl⟩ := List.getElem_of_mem hv
    have h2 : i < kss.length := by omega
    have := key i hi h2
    rw [← kk i hi h2] at this
    exact this, fun v hv u hu e => by
    obtain ⟨i, hi, rfl⟩ := List.getElem_of_mem hv
    obtain ⟨j, hj, rfl⟩ := List.getElem_of_mem hu
    rw [kk i hi (by omega), kk j hj (by omega)] at e
    have := (List.getElem_inj hn).mp e
    subst this
    rfl⟩
  refine SrtO.sorted_ord (lin_K.swo k) hpl.isList (by rw [← hlen]; exact hz) (fun h2 h₁ a' _ hkeep => ?_) fun out h1 h2 => ?_
  · exact keys_sortable (s := { s with heap := h₁ }) (by show X.A.in1.in1.units < cLine; have : X.A.in1.in1.units = X.A.units + 1 + 1 := rfl; omega) (by omega) hkeep T
  · have hp := h2.perm
    obtain ⟨zs, hz1, hz2⟩ := perm_lift (·.2) hp (xs.zip its) (zip_fs2 xs its hlen).1
    have hrel : ∀ z ∈ zs, RelV z.1 z.2 := fun z hz => vals_zip rv z (hz1.subset hz)
    have hv := vals_of_zip zs hrel
    rw [hz2] at hv
    obtain ⟨ep, he'⟩ := PyProof.Rows.sortedAll_at s.heap its out.toArray
    have hol : (zs.map (·.1)).length = out.length := hv.length
    have hzl : (zs.map (·.1)).length ≤ sizeLine := by
      rw [hol, hp.length_eq, ← hlen]
      exact hz
    refine ⟨.ref _, upd H (s.heap.objs.size + 1) (.lst (zs.map (·.1))), I.laid (t' := s.toks) (fun _ _ => PyProof.Rows.sortedAll_old) (Nat.le_succ _) ⟨hzl, out, ep, hv, he'⟩, rfl, q _ (out.map k) _ (by rw [hol, List.length_map]) ?_ ?_ (I.hok.fresh (Nat.le_succ _))⟩
    · rw [← hmap, zip_map_r, zip_map_r, ← hz2, show (zs.map (·.1)).zip (zs.map (·.2)) = zs from by
        rw [List.zip_map']
        exact List.map_id _]
      exact hz1.map _
    · rw [List.pairwise_map]
      exact h1
end
end BK
namespace BK
open PySem PySem.Spec L2
set_option autoImplicit false
/-! ### sorted(..) of tuples by their first items: data, plain types -/
def compD : D → Option (Bool × List Int)
  | .int n => some (false, [n])
  | .lst ds => (intsO ds).map fun ns => (true, ns)
  | _ => none
def keyC : List Bool → List D → Option (List (List Int))
  | [], _ => some []
  | b :: sh, d :: ds => (compD d).bind fun c => if c.1 = b then (keyC sh ds).map (c.2 :: ·) else none
  | _ :: _, [] => none
def keyD (sh : List Bool) : D → Option (List (List Int))
  | .tup ds => keyC sh ds
  | _ => none
def tlen : D → Nat
  | .tup ds => ds.length
  | _ => 0
def keysD (sh : List Bool) : List D → Option (List (List (List Int)))
  | [] => some []
  | d :: ds => (keyD sh d).bind fun k => (keysD sh ds).map (k :: ·)
def keyOr (sh : List Bool) (d : D) : List (List Int) := (keyD sh d).getD []
def sortKR (sh : List Bool) (r : R) : Option R := match r.d with
  | .lst ds => (keysD sh ds).bind fun kss => if kss.Nodup ∧ ∀ d ∈ ds, tlen d = (ds.map tlen).headD 0 then some (.tm (sortBy (keyOr sh) ds)) else none
  | _ => none
def cSortK (sh : List Bool) : List R → Option R := c1 (sortKR sh)
section
variable {K : PySem.W.Frag} {ca : Nat → Addr} {F H : Hp}
theorem compD_v (s : Same F H) {v : V} {d : D} (h : Den K ca F v d) {b : Bool} {c : List Int} (e : compD d = some (b, c)) : CompV K H b v c := by
  cases h with
  | int n => cases e; exact ⟨n, rfl, rfl⟩
  | lst h hs =>
    obtain ⟨ns, en, e2⟩ := Option.map_eq_some_iff.mp e
    cases e2
    obtain rfl := intsO_some en
    obtain rfl := Dens.ints_of hs
    exact ⟨_, rfl, .inl (.inl (s _ _ h))⟩
  | _ => cases e
theorem keyC_v (s : Same F H) : ∀ {sh : List Bool} {vs : List V} {ds : List D} {ks : List (List Int)}, Dens K ca F vs ds → keyC sh ds = some ks → CompsV K H sh vs ks
  | [], _, _, _, _, e => by cases e; trivial
  | b :: sh, _, _, ks, .cons (d := d) h hs, e => by
    obtain ⟨c, ec, e⟩ := Option.bind_eq_some_iff.mp (show (compD d).bind _ = some ks from e)
    split at e
    · rename_i hb
      obtain ⟨cs, ecs, rfl⟩ := Option.map_eq_some_iff.mp e
      obtain ⟨b', c'⟩ := c
      cases hb
      exact ⟨compD_v s h ec, keyC_v s hs ecs⟩
    · cases e
  | _ :: _, _, _, _, .nil, e => by cases e
theorem keyD_v (s : Same F H) {sh : List Bool} {v : V} {d : D} {ks : List (List Int)} (h : Den K ca F v d) (e : keyD sh d = some ks) : KeyV K H sh (tlen d) v ks := by
  cases h with
  | tup h hs => exact ⟨_, _, rfl, Same.seqT s h, hs.length, keyC_v s hs e⟩
  | _ => cases e
theorem keysD_some {sh : List Bool} : ∀ {ds : List D} {kss : List (List (List Int))}, keysD sh ds = some kss → kss = ds.map (keyOr sh) ∧ ∀ d ∈ ds, keyD sh d = some (keyOr sh d)
  | [], kss, e => by cases e; exact ⟨rfl, by simp⟩
  | d :: ds, kss, e => by
    obtain ⟨k, ek, e⟩ := Option.bind_eq_some_iff.mp (show (keyD sh d).bind _ = some kss from e)
    obtain ⟨ks, eks, rfl⟩ := Option.map_eq_some_iff.mp e
    obtain ⟨h1, h2⟩ := keysD_some eks
    have ho : keyOr sh d = k := by unfold keyOr; rw [ek]; rfl
    refine ⟨by rw [List.map_cons, ho, h1], fun x hx => ?_⟩
    rcases List.mem_cons.mp hx with rfl | hx
    · rw [ho]; exact ek
    · exact h2 x hx
theorem dens_zip : ∀ {vs : List V} {ds : List D}, Dens K ca F vs ds → ∀ z ∈ vs.zip ds, Den K ca F z.1 z.2
  | _, _, .nil, z, hz => by cases hz
  | _, _, .cons r t, z, hz => by
    rcases List.mem_cons.mp hz with rfl | hz
    · exact r
    · exact dens_zip t z hz
theorem dens_of_zip : ∀ (zs : List (V × D)), (∀ z ∈ zs, Den K ca F z.1 z.2) → Dens K ca F (zs.map (·.1)) (zs.map (·.2))
  | [], _ => .nil
  | z :: zs, h => .cons (h z List.mem_cons_self) (dens_of_zip zs fun y hy => h y (List.mem_cons_of_mem _ hy))
theorem zip_inj2 {α β : Type} : ∀ {xs ys : List α} {us vs : List β}, xs.length = us.length → ys.length = vs.length → xs.zip us = ys.zip vs → xs = ys ∧ us = vs := by
  intro xs ys us vs h1 h2 e
  have a := zip_fs2 xs us h1
  have b := zip_fs2 ys vs h2
  rw [e] at a
  exact ⟨a.2.symm.trans b.2, a.1.symm.trans b.1⟩
theorem cd_sortK {sh : List Bool} : CallD K ca (rSortedK K sh) (cSortK (false :: sh)) := by
  intro B Hs F H vs xs z Q s hr e q
  obtain ⟨r, rfl, e2⟩ := one_of e
  cases hr with
  | cons h hs =>
    cases hs
    unfold sortKR at e2
    split at e2
    · rename_i ds ed
      obtain ⟨kss, ek, e2⟩ := Option.bind_eq_some_iff.mp e2
      split at e2
      · rename_i hc
        cases e2
        obtain ⟨a, us, rfl, r1, d1⟩ := RV.lst s h ed
        obtain ⟨h1, h2⟩ := keysD_some ek
        have hul := d1.length
        refine ⟨a, us, kss, (ds.map tlen).headD 0, rfl, rd_l r1, by rw [h1, List.length_map]; exact hul, fun i x ks hx hks => ?_, hc.1, fun xs' kss' p hl hp hsrt hn => ?_⟩
        · obtain ⟨d, hd, hden⟩ := d1.getD hx
          have hdm := List.mem_of_getElem? hd
          rw [h1, List.getElem?_map, hd] at hks
          cases hks
          rw [← hc.2 d hdm]
          exact keyD_v s hden (h2 d hdm)
        · rw [h1, zip_map_r] at hp
          obtain ⟨zs, hz1, hz2⟩ := perm_lift (fun z : V × D => (z.1, keyOr (false :: sh) z.2)) hp (us.zip ds) rfl
          have hD := dens_of_zip (K := K) (ca := ca) (F := F) zs fun z hz => dens_zip d1 z (hz1.subset hz)
          have hxs : zs.map (·.1) = xs' ∧ zs.map (fun z => keyOr (false :: sh) z.2) = kss' := by
            have hzz : (zs.map (·.1)).zip (zs.map fun z => keyOr (false :: sh) z.2) = xs'.zip kss' := by
              rw [List.zip_map']
              exact hz2
            exact zip_inj2 (by rw [List.length_map, List.length_map]) hl hzz
          have hds : zs.map (·.2) = sortBy (keyOr (false :: sh)) ds := by
            refine sortBy_uniq ?_ ?_ (by rw [← h1]; exact hc.1)
            · have := hz1.map (·.2)
              rw [(zip_fs2 us ds hul).1] at this
              exact this
            · rw [← hxs.2] at hsrt
              rw [List.pairwise_map] at hsrt ⊢
              exact hsrt
          rw [hxs.1, hds] at hD
          exact q _ _ F (Ext.newO s _ hn) ⟨p, _, rfl, noT_none hn, s.free hn, upd_same, hD⟩
      · cases e2
    · cases e2
end
section
variable {α β γ δ : Type}
theorem key_il {e3 : γ → D} (x : Int × List Int × γ) : keyD [false, true] (eP3 D.int (eL D.int) e3 x) = some [[x.1], x.2.1] := by
  show keyC [false, true] [D.int x.1, .lst (x.2.1.map D.int), e3 x.2.2] = _
  rw [keyC, show compD (D.int x.1) = some (false, [x.1]) from rfl, Option.bind_some, if_pos rfl, keyC, show compD (.lst (x.2.1.map D.int)) = some (true, x.2.1) from by
    show (intsO (x.2.1.map D.int)).map _ = _
    rw [intsO_map]
    rfl, Option.bind_some, if_pos rfl]
  rfl
theorem keysD_map {sh : List Bool} {e : α → D} {kx : α → List (List Int)} : ∀ {xs : List α}, (∀ x ∈ xs, keyD sh (e x) = some (kx x)) → keysD sh (xs.map e) = some (xs.map kx)
  | [], _ => rfl
  | x :: xs, h => by
    show (keyD sh (e x)).bind _ = _
    rw [h x List.mem_cons_self, Option.bind_some, keysD_map fun y hy => h y (List.mem_cons_of_mem _ hy)]
    rfl
theorem f_sortK {sh : List Bool} {e : α → D} {kx : α → List (List Int)} {r : R} {xs : List α} (N : Nat) (hr : r.d = .lst (xs.map e)) (hk : ∀ x : α, keyD sh (e x) = some (kx x)) (hN : ∀ x : α, tlen (e x) = N) (hn : (xs.map kx).Nodup) : cSortK sh [r] = some (.tm ((sortBy kx xs).map e)) := by
  show sortKR sh r = _
  unfold sortKR
  rw [hr]
  dsimp only
  rw [keysD_map fun x _ => hk x, Option.bind_some, if_pos, sortBy_map (fun x _ => by unfold keyOr; rw [hk]; rfl) hn]
  refine ⟨hn, fun d hd => ?_⟩
  obtain ⟨x, hx, rfl⟩ := List.mem_map.mp hd
  rw [hN, List.map_map]
  cases xs with
  | nil => cases hx
  | cons y ys => exact (hN y).symm
end
end BK
namespace BK
open PySem PySem.Spec L2
set_option autoImplicit false
section
variable {X : Cx} {ca : Nat → Addr} {st : Stmt} {rest : List Stmt} {m n : Gm → Option Out}
/-- a block whose first statement alone raises -/
theorem x0U_oneN (h1 : X0 X ca st (exn m)) (hn : NoEx n) : X0s X ca (st :: rest) (exn (sCons m n)) := x0s_imp (x0_one h1) fun g x z => by
  obtain ⟨o, eo, z⟩ := Option.bind_eq_some_iff.mp (exn_some z)
  cases o with
  | nx g' => exact absurd z (hn g' x)
  | rt r => cases z
  | bk g' => cases z
  | ct g' => cases z
  | ex y => cases z; exact exn_of eo
end
theorem noex_appL {i : Nat} {k m : Gm → Option R} : NoEx (sAppL i k m) := fun g x h => by
  unfold sAppL at h
  split at h
  · obtain ⟨p, ep, h⟩ := Option.bind_eq_some_iff.mp h
    obtain ⟨r, er, h⟩ := Option.bind_eq_some_iff.mp h
    split at h
    · split at h
      · obtain ⟨r2, er2, h⟩ := Option.bind_eq_some_iff.mp h
        split at h
        · split at h
          · cases h
          · cases h
        · cases h
      · cases h
    · cases h
  · cases h
theorem noex_appT {i : Nat} {m : Gm → Option R} : NoEx (sAppT i m) := fun g x h => by
  unfold sAppT at h
  split at h
  · obtain ⟨r, er, h⟩ := Option.bind_eq_some_iff.mp h
    split at h
    · obtain ⟨us, eu, h⟩ := Option.map_eq_some_iff.mp h
      cases h
    · cases h
  · cases h
end BK
namespace G
open PySem PySem.Spec L2 BK
set_option autoImplicit false
structure Blt (mg : Str → Option Value) : Prop where
  z_ValueError : mg "ValueError" = none
  z_all : mg "all" = none
  z_bool : mg "bool" = none
  z_enumerate : mg "enumerate" = none
  z_int : mg "int" = none
  z_isinstance : mg "isinstance" = none
  z_len : mg "len" = none
  z_list : mg "list" = none
  z_max : mg "max" = none
  z_min : mg "min" = none
  z_range : mg "range" = none
  z_sorted : mg "sorted" = none
  z_str : mg "str" = none
  z_sum : mg "sum" = none
  z_tuple : mg "tuple" = none
  z_zip : mg "zip" = none
theorem scI_Piece : FnScope ["self", "length"] ["self", "length"] (defScope sI_Piece) := ⟨rfl, rfl, rfl, by decide +kernel, rfl, by decide +kernel, by decide +kernel⟩
def ini_Piece : List (Gm → Option R) := [eV 1]
theorem okI_Piece {P : Program} {w : World} {K : PySem.W.Frag} {mg : Str → Option Value} {base : Heap} {ca : Nat → Addr} {f : Addr} {fd : FuncData} (c : Nat) (kl : Kls K (ca c) c) (hc : ∀ f ∈ (["length"] : List Str), f ∈ fldsOf c) (F : Fun K "__init__" "Piece.__init__" sI_Piece f fd) : FnOk P w K mg base CX0 1 f fd ["self", "length"] (spIni K ca c 1 ["length"] ini_Piece) :=
  ini_ok F scI_Piece rfl rfl (by decide) (by decide) (fun cdv A outer s H E hr => jvs0_of (jvs_one (jv_fld kl (hc _ (by decide)) (pv 0) (ev_var (pv 1)) rfl)))
theorem scI_Bridge : FnScope ["self", "name", "length", "bears", "wide", "most"] ["self", "name", "length", "bears", "wide", "most"] (defScope sI_Bridge) := ⟨rfl, rfl, rfl, by decide +kernel, rfl, by decide +kernel, by decide +kernel⟩
def ini_Bridge : List (Gm → Option R) := [eV 2, eV 1, eV 3, eV 4, eV 5]
theorem okI_Bridge {P : Program} {w : World} {K : PySem.W.Frag} {mg : Str → Option Value} {base : Heap} {ca : Nat → Addr} {f fP CP : Addr} {fd fdP : FuncData} (kl : Kls K (ca 1) 1) (GP : FnOk P w K mg base CX0 1 fP fdP ["self", "length"] (spIni K ca 1 1 ["length"] [eV 1])) (mP : mg "Piece" = some (.ref CP)) (rd : PySem.W.readsIn K CP (.type "type") = true) (ga : PySem.W.specialIn K (.ref CP) "__getattribute__" = some (some (.builtin "type.__getattribute__"))) (fc : PySem.W.findCls K (.ref CP) (.type "type") "__init__" = some (.val (.ref fP))) (kP : PySem.W.keepIn K (.ref fP) = true) (bP : Binds K fdP ["self", "length"] []) (F : Fun K "__init__" "Bridge.__init__" sI_Bridge f fd) : FnOk P w K mg base CX0 2 f fd ["self", "name", "length", "bears", "wide", "most"] (spIni K ca 1 5 ["length", "name", "bears", "wide", "most"] ini_Bridge) :=
  ini_ok F scI_Bridge rfl rfl (by decide) (by decide) (fun cdv A outer s H E hr => jvs0_base GP hr rfl mP rd ga fc kP bP (pv 0) (pv 2) (jvs_cons (jv_fld kl (by decide) (pv 0) (ev_var (pv 1)) rfl) (jvs_cons (jv_fld kl (by decide) (pv 0) (ev_var (pv 3)) rfl) (jvs_cons (jv_fld kl (by decide) (pv 0) (ev_var (pv 4)) rfl) (jvs_one (jv_fld kl (by decide) (pv 0) (ev_var (pv 5)) rfl))))))
theorem scI_Road : FnScope ["self", "pieces", "rounds", "shuts"] ["self", "pieces", "rounds", "shuts"] (defScope sI_Road) := ⟨rfl, rfl, rfl, by decide +kernel, rfl, by decide +kernel, by decide +kernel⟩
def ini_Road : List (Gm → Option R) := [eA cList (aC (eV 1) aN), eA cList (aC (eV 2) aN), eA cList (aC (eV 3) aN)]
theorem okI_Road {P : Program} {w : World} {K : PySem.W.Frag} {mg : Str → Option Value} {base : Heap} {ca : Nat → Addr} {f : Addr} {fd : FuncData} (Z : Blt mg) (c : Nat) (kl : Kls K (ca c) c) (hc : ∀ f ∈ (["pieces", "rounds", "shuts"] : List Str), f ∈ fldsOf c) (F : Fun K "__init__" "Road.__init__" sI_Road f fd) : FnOk P w K mg base CX0 1 f fd ["self", "pieces", "rounds", "shuts"] (spIni K ca c 3 ["pieces", "rounds", "shuts"] ini_Road) :=
  ini_ok F scI_Road rfl rfl (by decide) (by decide) (fun cdv A outer s H E hr => jvs0_of (jvs_cons (jv_fld kl (hc _ (by decide)) (pv 0) (ev_callT call_list_of cd_list rfl Z.z_list b_list (av_cons (ev_var (pv 1)) av_nil)) rfl) (jvs_cons (jv_fld kl (hc _ (by decide)) (pv 0) (ev_callT call_list_of cd_list rfl Z.z_list b_list (av_cons (ev_var (pv 2)) av_nil)) rfl) (jvs_one (jv_fld kl (hc _ (by decide)) (pv 0) (ev_callT call_list_of cd_list rfl Z.z_list b_list (av_cons (ev_var (pv 3)) av_nil)) rfl)))))
theorem scI_Cart : FnScope ["self", "name", "speed", "wheels"] ["self", "name", "speed", "wheels"] (defScope sI_Cart) := ⟨rfl, rfl, rfl, by decide +kernel, rfl, by decide +kernel, by decide +kernel⟩
def ini_Cart : List (Gm → Option R) := [eV 1, eV 2, eA cList (aC (eV 3) aN)]
theorem okI_Cart {P : Program} {w : World} {K : PySem.W.Frag} {mg : Str → Option Value} {base : Heap} {ca : Nat → Addr} {f : Addr} {fd : FuncData} (Z : Blt mg) (c : Nat) (kl : Kls K (ca c) c) (hc : ∀ f ∈ (["name", "speed", "wheels"] : List Str), f ∈ fldsOf c) (F : Fun K "__init__" "Cart.__init__" sI_Cart f fd) : FnOk P w K mg base CX0 1 f fd ["self", "name", "speed", "wheels"] (spIni K ca c 3 ["name", "speed", "wheels"] ini_Cart) :=
  ini_ok F scI_Cart rfl rfl (by decide) (by decide) (fun cdv A outer s H E hr => jvs0_of (jvs_cons (jv_fld kl (hc _ (by decide)) (pv 0) (ev_var (pv 1)) rfl) (jvs_cons (jv_fld kl (hc _ (by decide)) (pv 0) (ev_var (pv 2)) rfl) (jvs_one (jv_fld kl (hc _ (by decide)) (pv 0) (ev_callT call_list_of cd_list rfl Z.z_list b_list (av_cons (ev_var (pv 3)) av_nil)) rfl)))))
abbrev ini_Open := ini_Piece
theorem scM_Piece : FnScope ["self"] ["self"] (defScope sM_Piece_is_bridge) := ⟨rfl, rfl, rfl, by decide +kernel, rfl, by decide +kernel, by decide +kernel⟩
def φ_Piece_is_bridge : Phi := phi (sCons (sRet (eC (.bl false))) sNil) 1 1
theorem okM_Piece {P : Program} {w : World} {K : PySem.W.Frag} {mg : Str → Option Value} {base : Heap} {ca : Nat → Addr} {f : Addr} {fd : FuncData} (F : FunA K "is_bridge" "Piece.is_bridge" sM_Piece_is_bridge f fd) : FnOk P w K mg base CX0 1 f fd ["self"] (spOf K ca φ_Piece_is_bridge) :=
  fn_ok F scM_Piece rfl rfl rfl (fun cdv A outer s H E hr => (svs_cons (sv_ret (ev_c pe_bl fun _ => .bl _)) svs_nil))
theorem scM_Bridge : FnScope ["self"] ["self"] (defScope sM_Bridge_is_bridge) := ⟨rfl, rfl, rfl, by decide +kernel, rfl, by decide +kernel, by decide +kernel⟩
def φ_Bridge_is_bridge : Phi := phi (sCons (sRet (eC (.bl true))) sNil) 1 1
theorem okM_Bridge {P : Program} {w : World} {K : PySem.W.Frag} {mg : Str → Option Value} {base : Heap} {ca : Nat → Addr} {f : Addr} {fd : FuncData} (F : FunA K "is_bridge" "Bridge.is_bridge" sM_Bridge_is_bridge f fd) : FnOk P w K mg base CX0 1 f fd ["self"] (spOf K ca φ_Bridge_is_bridge) :=
  fn_ok F scM_Bridge rfl rfl rfl (fun cdv A outer s H E hr => (svs_cons (sv_ret (ev_c pe_bl fun _ => .bl _)) svs_nil))
theorem scI_Blocked : FnScope ["self", "bridge", "wheel"] ["self", "bridge", "wheel"] (defScope sI_Blocked) := ⟨rfl, rfl, rfl, by decide +kernel, rfl, by decide +kernel, by decide +kernel⟩
theorem okI_Blocked {P : Program} {w : World} {K : PySem.W.Frag} {mg : Str → Option Value} {base : Heap} {f C CW : Addr} {fd : FuncData} (mW : mg "WayError" = some (.ref CW)) (rd : PySem.W.readsIn K CW (.type "type") = true) (ga : PySem.W.specialIn K (.ref CW) "__getattribute__" = some (some (.builtin "type.__getattribute__"))) (fc : PySem.W.findCls K (.ref CW) (.type "type") "__init__" = some (.val (.builtin "ValueError.__init__"))) (no_bridge : PySem.W.findIn K (.ref C) "bridge" = some none) (no_wheel : PySem.W.findIn K (.ref C) "wheel" = some none) (F : FunA K "__init__" "Blocked.__init__" sI_Blocked f fd) (T : OexC K C) : FnOk P w K mg base CX0 1 f fd ["self", "bridge", "wheel"] (spXI C ["bridge", "wheel"]) :=
  xi_two T no_bridge no_wheel F scI_Blocked rfl rfl (fun cdv A outer s H E => ⟨_, pe_winit rfl mW rd ga fc (pa_cons (pv 0) (pa_cons pe_str pa_nil)), (fun _ _ _ ⟨a, h, q⟩ => ⟨_, h, q⟩), (pv 0), (pv 1), (pv 0), (pv 2), rfl, rfl, rfl⟩)
theorem sc_offsets_of : FnScope ["wheels", "offsets", "far", "place", "wheel"] ["wheels"] (defScope s_offsets_of) := ⟨rfl, rfl, rfl, by decide +kernel, rfl, by decide +kernel, by decide +kernel⟩
def m_offsets_of : Gm → Option Out := sCons (sSet 1 (eA oLst (aN))) (sCons (sSet 2 (eC (.int 0))) (sCons (sFor (iA enR (aC (eV 0) (aN))) (gT (gC (gN 3) (gC (gN 4) (gE)))) (sCons (sIf (bE (e2 oGt (eV 3) (eC (.int 0)))) (sCons (sAug 2 oIAdd (e2 oIx (eV 4) (eC (.int 0)))) (sNil)) (sNil)) (sCons (sApp 1 (eV 2)) (sNil))) [3, 4, 2, 1]) (sCons (sRet (eV 1)) (sNil))))
def φ_offsets_of : Phi := phi m_offsets_of 5 1
set_option maxHeartbeats 4000000 in
theorem ok_offsets_of {P : Program} {w : World} {K : PySem.W.Frag} {mg : Str → Option Value} {base : Heap} {ca : Nat → Addr} {f : Addr} {fd : FuncData} (Z : Blt mg) (F : FunA K "offsets_of" "offsets_of" s_offsets_of f fd) : FnOk P w K mg base CX0 (0 + 1) f fd ["wheels"] (spOf K ca φ_offsets_of) :=
  fn_ok F sc_offsets_of rfl rfl rfl (fun cdv A outer s H E hr => (svs_cons (sv_set (i := 1) sc_offsets_of.nd rfl (.inl rfl) (ev_lst av_nil)) (svs_cons (sv_set (i := 2) sc_offsets_of.nd rfl (.inl rfl) (ev_c pe_int fun _ => .int _)) (svs_cons (sv_for PassesOwn.never rfl (iv_enum rfl Z.z_enumerate (av_cons (ev_var (pv 0)) av_nil)) (gv_tup rfl (gvs_cons (gv_name sc_offsets_of.nd rfl (.inl rfl)) (gvs_cons (gv_name sc_offsets_of.nd rfl (.inl rfl)) gvs_nil)) (gC_le (gC_le gE_le))) (svs_cons (sv_if (tv_cmp op_gt od_cmp (ev_var (pv 3)) (ev_c pe_int fun _ => .int _) (nomark _)) (svs_cons (sv_aug (i := 2) sc_offsets_of.nd rfl (.inl rfl) (ev_ix ix_seq od_ix (ev_var (pv 4)) (ev_c pe_int fun _ => .int _) (fun _ _ => rfl)) ip_addA od_iadd) svs_nil) svs_nil) (svs_cons (sv_app (i := 1) (pv 1) (ev_var (pv 2)) rfl (pe_bm PySem.F.plainAttrs_list PySem.F.slot_list_append PySem.F.type_list_append mt_append (pv 1) (pa_cons (ev_var (pv 2)) pa_nil))) svs_nil)) rfl) (svs_cons (sv_ret (ev_var (pv 1))) svs_nil)))))
theorem sc_greatest_close : FnScope ["offsets", "weights", "width", "greatest", "first", "near", "total", "place"] ["offsets", "weights", "width"] (defScope s_greatest_close) := ⟨rfl, rfl, rfl, by decide +kernel, rfl, by decide +kernel, by decide +kernel⟩
def m_greatest_close : Gm → Option Out := sCons (sSet 3 (eC (.int 0))) (sCons (sFor (iA enR (aC (eV 0) (aN))) (gT (gC (gN 4) (gC (gN 5) (gE)))) (sCons (sSet 6 (eC (.int 0))) (sCons (sFor (iA rg2R (aC (eV 4) (aC (eA cLen (aC (eV 0) (aN))) (aN)))) (gN 7) (sCons (sIf (bE (e2 oLt (e2 oSub (e2 oIx (eV 0) (eV 7)) (eV 5)) (eV 2))) (sCons (sAug 6 oIAdd (e2 oIx (eV 1) (eV 7))) (sNil)) (sNil)) (sNil)) [7, 6]) (sCons (sSet 3 (eA cMax2 (aC (eV 3) (aC (eV 6) (aN))))) (sNil)))) [4, 5, 6, 7, 6, 3]) (sCons (sRet (eV 3)) (sNil)))
def φ_greatest_close : Phi := phi m_greatest_close 8 3
set_option maxHeartbeats 4000000 in
theorem ok_greatest_close {P : Program} {w : World} {K : PySem.W.Frag} {mg : Str → Option Value} {base : Heap} {ca : Nat → Addr} {f : Addr} {fd : FuncData} (Z : Blt mg) (F : FunA K "greatest_close" "greatest_close" s_greatest_close f fd) : FnOk P w K mg base CX0 (0 + 1) f fd ["offsets", "weights", "width"] (spOf K ca φ_greatest_close) :=
  fn_ok F sc_greatest_close rfl rfl rfl (fun cdv A outer s H E hr => (svs_cons (sv_set (i := 3) sc_greatest_close.nd rfl (.inl rfl) (ev_c pe_int fun _ => .int _)) (svs_cons (sv_for PassesOwn.never rfl (iv_enum rfl Z.z_enumerate (av_cons (ev_var (pv 0)) av_nil)) (gv_tup rfl (gvs_cons (gv_name sc_greatest_close.nd rfl (.inl rfl)) (gvs_cons (gv_name sc_greatest_close.nd rfl (.inl rfl)) gvs_nil)) (gC_le (gC_le gE_le))) (svs_cons (sv_set (i := 6) sc_greatest_close.nd rfl (.inl rfl) (ev_c pe_int fun _ => .int _)) (svs_cons (sv_for PassesOwn.never rfl (iv_rg2 rfl Z.z_range (av_cons (ev_var (pv 4)) (av_cons (ev_callB call_lenA cd_len rfl Z.z_len b_len (av_cons (ev_var (pv 0)) av_nil)) av_nil))) (gv_name sc_greatest_close.nd rfl (.inl rfl)) (svs_cons (sv_if (tv_cmp op_lt od_cmp (ev_op op_sub od_sub (ev_ix ix_seq od_ix (ev_var (pv 0)) (ev_var (pv 7)) (fun _ _ => rfl)) (ev_var (pv 5))) (ev_var (pv 2)) (nomark _)) (svs_cons (sv_aug (i := 6) sc_greatest_close.nd rfl (.inl rfl) (ev_ix ix_seq od_ix (ev_var (pv 1)) (ev_var (pv 7)) (fun _ _ => rfl)) ip_addA od_iadd) svs_nil) svs_nil) svs_nil) rfl) (svs_cons (sv_set (i := 3) sc_greatest_close.nd rfl (.inl rfl) (ev_callB (call_max2 rfl) cd_max2 rfl Z.z_max b_max (av_cons (ev_var (pv 3)) (av_cons (ev_var (pv 6)) av_nil)))) svs_nil))) rfl) (svs_cons (sv_ret (ev_var (pv 3))) svs_nil))))
theorem sc_heaviest : FnScope ["wheels", "width", "gap", "low", "high"] ["wheels", "width"] (defScope s_heaviest) := ⟨rfl, rfl, rfl, by decide +kernel, rfl, by decide +kernel, by decide +kernel⟩
def m_heaviest : Gm → Option Out := sCons (sRet (eA (callR φ_greatest_close []) (aC (eA (callR φ_offsets_of []) (aC (eV 0) (aN))) (aC (eLc (iSeq (eV 0)) (gT (gC (gN 2) (gC (gN 3) (gC (gN 4) (gE))))) (bY) (eV 4) [2, 3, 4]) (aC (eV 1) (aN)))))) (sNil)
def φ_heaviest : Phi := phi m_heaviest 5 2
set_option maxHeartbeats 4000000 in
theorem ok_heaviest {P : Program} {w : World} {K : PySem.W.Frag} {mg : Str → Option Value} {base : Heap} {ca : Nat → Addr} {f : Addr} {fd : FuncData} (Z : Blt mg) (C_greatest_close : Callee P w K mg base ca 1 "greatest_close" φ_greatest_close []) (C_offsets_of : Callee P w K mg base ca 1 "offsets_of" φ_offsets_of []) (F : FunA K "heaviest" "heaviest" s_heaviest f fd) : FnOk P w K mg base CX0 (1 + 1) f fd ["wheels", "width"] (spOf K ca φ_heaviest) :=
  fn_ok F sc_heaviest rfl rfl rfl (fun cdv A outer s H E hr => (svs_cons (sv_ret (ev_fn C_greatest_close (hr.mono (by decide)) rfl (av_cons (ev_fn C_offsets_of (hr.mono (by decide)) rfl (av_cons (ev_var (pv 0)) av_nil)) (av_cons (ev_lc rfl sc_heaviest.nd (iv_seq (ev_var (pv 0))) (blk_by (own := [("gap", 2), ("low", 3), ("high", 4)]) (N := ["wheels", "width", "gap", "low", "high"]) (sc := defScope s_heaviest) rfl rfl (by decide +kernel)) rfl (fun _ _ _ _ _ => (gv_tup rfl (gvs_cons (gv_name sc_heaviest.nd rfl (.inl rfl)) (gvs_cons (gv_name sc_heaviest.nd rfl (.inl rfl)) (gvs_cons (gv_name sc_heaviest.nd rfl (.inl rfl)) gvs_nil))) (gC_le (gC_le (gC_le gE_le))))) (fun _ _ _ _ _ => cv_nil) (fun _ _ _ _ _ => (ev_var (pv 4))) (by decide) (gT_ln (gC_ln gN_ln (gC_ln gN_ln (gC_ln gN_ln gE_ln))))) (av_cons (ev_var (pv 1)) av_nil))))) svs_nil))
theorem sc_fits : FnScope ["bridge", "wheels"] ["bridge", "wheels"] (defScope s_fits) := ⟨rfl, rfl, rfl, by decide +kernel, rfl, by decide +kernel, by decide +kernel⟩
def m_fits : Gm → Option Out := sCons (sRet (eAnd (e2 oLe (eA (callR φ_heaviest []) (aC (eV 1) (aC (e1 (oFld "length") (eV 0)) (aN)))) (e1 (oFld "bears") (eV 0))) (e2 oLe (eA (callR φ_heaviest []) (aC (eV 1) (aC (e1 (oFld "wide") (eV 0)) (aN)))) (e1 (oFld "most") (eV 0))))) (sNil)
def φ_fits : Phi := phi m_fits 2 2
set_option maxHeartbeats 4000000 in
theorem ok_fits {P : Program} {w : World} {K : PySem.W.Frag} {mg : Str → Option Value} {base : Heap} {ca : Nat → Addr} {f : Addr} {fd : FuncData} (Z : Blt mg) (C_heaviest : Callee P w K mg base ca 2 "heaviest" φ_heaviest []) (F : FunA K "fits" "fits" s_fits f fd) : FnOk P w K mg base CX0 (2 + 1) f fd ["bridge", "wheels"] (spOf K ca φ_fits) :=
  fn_ok F sc_fits rfl rfl rfl (fun cdv A outer s H E hr => (svs_cons (sv_ret (ev_and (ev_cmp op_le od_cmp (ev_fn C_heaviest (hr.mono (by decide)) rfl (av_cons (ev_var (pv 1)) (av_cons (ev_fld (ev_var (pv 0)) rfl) av_nil))) (ev_fld (ev_var (pv 0)) rfl) (nomark _)) (ev_one (ev_cmp op_le od_cmp (ev_fn C_heaviest (hr.mono (by decide)) rfl (av_cons (ev_var (pv 1)) (av_cons (ev_fld (ev_var (pv 0)) rfl) av_nil))) (ev_fld (ev_var (pv 0)) rfl) (nomark _))))) svs_nil))
theorem sc_bridges_of : FnScope ["road", "piece"] ["road"] (defScope s_bridges_of) := ⟨rfl, rfl, rfl, by decide +kernel, rfl, by decide +kernel, by decide +kernel⟩
def m_bridges_of : Gm → Option Out := sCons (sRet (eLc (iSeq (e1 (oFld "pieces") (eV 0))) (gN 1) (bE (e1 cIsB (eV 1))) (eV 1) [1])) (sNil)
def φ_bridges_of : Phi := phi m_bridges_of 2 1
set_option maxHeartbeats 4000000 in
theorem ok_bridges_of {P : Program} {w : World} {K : PySem.W.Frag} {mg : Str → Option Value} {base : Heap} {ca : Nat → Addr} {f : Addr} {fd : FuncData} (Z : Blt mg) (M_0 : MCallee P w K mg base ca 1 0 "is_bridge" φ_Piece_is_bridge) (M_1 : MCallee P w K mg base ca 1 1 "is_bridge" φ_Bridge_is_bridge) (F : FunA K "bridges_of" "bridges_of" s_bridges_of f fd) : FnOk P w K mg base CX0 (1 + 1) f fd ["road"] (spOf K ca φ_bridges_of) :=
  fn_ok F sc_bridges_of rfl rfl rfl (fun cdv A outer s H E hr => (svs_cons (sv_ret (ev_lc rfl sc_bridges_of.nd (iv_seq (ev_fld (ev_var (pv 0)) rfl)) (blk_by (own := [("piece", 1)]) (N := ["road", "piece"]) (sc := defScope s_bridges_of) rfl rfl (by decide +kernel)) rfl (fun _ _ _ _ _ => (gv_name sc_bridges_of.nd rfl (.inl rfl))) (fun _ _ _ _ _ => (cv_one (tv_val (ev_isb (fun _ => rfl) (fun _ => rfl) M_0 M_1 (hr.mono (by decide)) (ev_var (pv 1)))))) (fun _ _ _ _ _ => (ev_var (pv 1))) (by decide) gN_ln)) svs_nil))
theorem sc_round_of : FnScope ["road", "name", "called", "length"] ["road", "name"] (defScope s_round_of) := ⟨rfl, rfl, rfl, by decide +kernel, rfl, by decide +kernel, by decide +kernel⟩
def m_round_of : Gm → Option Out := sCons (sFor (iSeq (e1 (oFld "rounds") (eV 0))) (gT (gC (gN 2) (gC (gN 3) (gE)))) (sCons (sIf (bE (e2 oEq (eV 2) (eV 1))) (sCons (sRet (eV 3)) (sNil)) (sNil)) (sNil)) [2, 3]) (sCons (sRet (eC .non)) (sNil))
def φ_round_of : Phi := phi m_round_of 4 2
set_option maxHeartbeats 4000000 in
theorem ok_round_of {P : Program} {w : World} {K : PySem.W.Frag} {mg : Str → Option Value} {base : Heap} {ca : Nat → Addr} {f : Addr} {fd : FuncData} (Z : Blt mg) (F : FunA K "round_of" "round_of" s_round_of f fd) : FnOk P w K mg base CX0 (0 + 1) f fd ["road", "name"] (spOf K ca φ_round_of) :=
  fn_ok F sc_round_of rfl rfl rfl (fun cdv A outer s H E hr => (svs_cons (sv_for PassesOwn.never rfl (iv_seq (ev_fld (ev_var (pv 0)) rfl)) (gv_tup rfl (gvs_cons (gv_name sc_round_of.nd rfl (.inl rfl)) (gvs_cons (gv_name sc_round_of.nd rfl (.inl rfl)) gvs_nil)) (gC_le (gC_le gE_le))) (svs_cons (sv_if (tv_cmp (op_eqA hr.units) od_eq (ev_var (pv 2)) (ev_var (pv 1)) (nomark _)) (svs_cons (sv_ret (ev_var (pv 3))) svs_nil) svs_nil) svs_nil) rfl) (svs_cons (sv_ret (ev_c pe_non fun _ => .non)) svs_nil)))
theorem sc_ways_of : FnScope ["road", "ways", "bridge", "choices", "longer", "way", "choice"] ["road"] (defScope s_ways_of) := ⟨rfl, rfl, rfl, by decide +kernel, rfl, by decide +kernel, by decide +kernel⟩
def m_ways_of : Gm → Option Out := sCons (sSet 1 (eA oLst (aC (eA oTup (aN)) (aN)))) (sCons (sFor (iSeq (eA (callR φ_bridges_of []) (aC (eV 0) (aN)))) (gN 2) (sCons (sSet 3 (eA oLst (aC (eC (.bl true)) (aN)))) (sCons (sIf (bE (e2 oIsN (eA (callR φ_round_of []) (aC (eV 0) (aC (e1 (oFld "name") (eV 2)) (aN)))) (eC .non))) (sCons (sSet 3 (eA oLst (aC (eC (.bl true)) (aC (eC (.bl false)) (aN))))) (sNil)) (sNil)) (sCons (sSet 4 (eA oLst (aN))) (sCons (sFor (iSeq (eV 1)) (gN 5) (sCons (sExt 4 (eLc (iSeq (eV 3)) (gN 6) (bY) (e2 oAdd (eV 5) (eA oTup (aC (eV 6) (aN)))) [6])) (sNil)) [5, 4]) (sCons (sMv 1 4) (sNil)))))) [2, 3, 3, 4, 5, 4, 4, 1]) (sCons (sRet (eV 1)) (sNil)))
def φ_ways_of : Phi := phi m_ways_of 7 1
set_option maxHeartbeats 4000000 in
theorem ok_ways_of {P : Program} {w : World} {K : PySem.W.Frag} {mg : Str → Option Value} {base : Heap} {ca : Nat → Addr} {f : Addr} {fd : FuncData} (Z : Blt mg) (C_bridges_of : Callee P w K mg base ca 2 "bridges_of" φ_bridges_of []) (C_round_of : Callee P w K mg base ca 1 "round_of" φ_round_of []) (F : FunA K "ways_of" "ways_of" s_ways_of f fd) : FnOk P w K mg base CX0 (2 + 1) f fd ["road"] (spOf K ca φ_ways_of) :=
  fn_ok F sc_ways_of rfl rfl rfl (fun cdv A outer s H E hr => (svs_cons (sv_set (i := 1) sc_ways_of.nd rfl (.inl rfl) (ev_lst (av_cons (ev_tup av_nil) av_nil))) (svs_cons (sv_for PassesOwn.never rfl (iv_seq (ev_fn C_bridges_of (hr.mono (by decide)) rfl (av_cons (ev_var (pv 0)) av_nil))) (gv_name sc_ways_of.nd rfl (.inl rfl)) (svs_cons (sv_set (i := 3) sc_ways_of.nd rfl (.inl rfl) (ev_lst (av_cons (ev_c pe_bl fun _ => .bl _) av_nil))) (svs_cons (sv_if (tv_cmp op_notN od_isn (ev_fn C_round_of (hr.mono (by decide)) rfl (av_cons (ev_var (pv 0)) (av_cons (ev_fld (ev_var (pv 2)) rfl) av_nil))) (ev_c pe_non fun _ => .non) (nomark _)) (svs_cons (sv_set (i := 3) sc_ways_of.nd rfl (.inl rfl) (ev_lst (av_cons (ev_c pe_bl fun _ => .bl _) (av_cons (ev_c pe_bl fun _ => .bl _) av_nil)))) svs_nil) svs_nil) (svs_cons (sv_set (i := 4) sc_ways_of.nd rfl (.inl rfl) (ev_lst av_nil)) (svs_cons (sv_for PassesOwn.never rfl (iv_seq (ev_var (pv 1))) (gv_name sc_ways_of.nd rfl (.inr rfl)) (svs_cons (sv_ext (i := 4) sc_ways_of.nd rfl (.inl rfl) (ev_lc rfl sc_ways_of.nd (iv_seq (ev_var (pv 3))) (blk_by (own := [("choice", 6)]) (N := ["road", "ways", "bridge", "choices", "longer", "way", "choice"]) (sc := defScope s_ways_of) rfl rfl (by decide +kernel)) rfl (fun _ _ _ _ _ => (gv_name sc_ways_of.nd rfl (.inl rfl))) (fun _ _ _ _ _ => cv_nil) (fun _ _ _ _ _ => (ev_op op_addA od_add (ev_var (pv 5)) (ev_tup (av_cons (ev_var (pv 6)) av_nil)))) (by decide) gN_ln)) svs_nil) rfl) (svs_cons (sv_mv (i := 1) (j := 4) sc_ways_of.nd rfl (.inl rfl) (pv 4)) svs_nil))))) rfl) (svs_cons (sv_ret (ev_var (pv 1))) svs_nil))))
theorem sc_step_along : FnScope ["road", "piece", "over"] ["road", "piece", "over"] (defScope s_step_along) := ⟨rfl, rfl, rfl, by decide +kernel, rfl, by decide +kernel, by decide +kernel⟩
def m_step_along : Gm → Option Out := sCons (sIf (bE (eV 2)) (sCons (sRet (e1 (oFld "length") (eV 1))) (sNil)) (sNil)) (sCons (sRet (eA (callR φ_round_of []) (aC (eV 0) (aC (e1 (oFld "name") (eV 1)) (aN))))) (sNil))
def φ_step_along : Phi := phi m_step_along 3 3
set_option maxHeartbeats 4000000 in
theorem ok_step_along {P : Program} {w : World} {K : PySem.W.Frag} {mg : Str → Option Value} {base : Heap} {ca : Nat → Addr} {f : Addr} {fd : FuncData} (Z : Blt mg) (C_round_of : Callee P w K mg base ca 1 "round_of" φ_round_of []) (F : FunA K "step_along" "step_along" s_step_along f fd) : FnOk P w K mg base CX0 (1 + 1) f fd ["road", "piece", "over"] (spOf K ca φ_step_along) :=
  fn_ok F sc_step_along rfl rfl rfl (fun cdv A outer s H E hr => (svs_cons (sv_if (tv_val (ev_var (pv 2))) (svs_cons (sv_ret (ev_fld (ev_var (pv 1)) rfl)) svs_nil) svs_nil) (svs_cons (sv_ret (ev_fn C_round_of (hr.mono (by decide)) rfl (av_cons (ev_var (pv 0)) (av_cons (ev_fld (ev_var (pv 1)) rfl) av_nil)))) svs_nil)))
theorem sc_walked : FnScope ["road", "way", "legs", "place", "left", "piece", "over"] ["road", "way"] (defScope s_walked) := ⟨rfl, rfl, rfl, by decide +kernel, rfl, by decide +kernel, by decide +kernel⟩
def m_walked : Gm → Option Out := sCons (sSet 2 (eA oLst (aN))) (sCons (sSet 3 (eC (.int 0))) (sCons (sSet 4 (eA cList (aC (eV 1) (aN)))) (sCons (sFor (iSeq (e1 (oFld "pieces") (eV 0))) (gN 5) (sCons (sSet 6 (eC (.bl true))) (sCons (sIf (bE (e1 cIsB (eV 5))) (sCons (sPopS 6 4 (eC (.int 0))) (sCons (sIf (bE (eV 6)) (sCons (sApp 2 (eA oTup (aC (eV 5) (aC (eV 3) (aN))))) (sNil)) (sNil)) (sNil))) (sNil)) (sCons (sAug 3 oIAdd (eA (callR φ_step_along []) (aC (eV 0) (aC (eV 5) (aC (eV 6) (aN)))))) (sNil)))) [5, 6, 4, 6, 2, 3]) (sCons (sFz 2 (sRet (eA oTup (aC (eV 2) (aC (eV 3) (aN)))))) (sNil)))))
def φ_walked : Phi := phi m_walked 7 2
set_option maxHeartbeats 4000000 in
theorem ok_walked {P : Program} {w : World} {K : PySem.W.Frag} {mg : Str → Option Value} {base : Heap} {ca : Nat → Addr} {f : Addr} {fd : FuncData} (Z : Blt mg) (C_step_along : Callee P w K mg base ca 2 "step_along" φ_step_along []) (M_0 : MCallee P w K mg base ca 1 0 "is_bridge" φ_Piece_is_bridge) (M_1 : MCallee P w K mg base ca 1 1 "is_bridge" φ_Bridge_is_bridge) (F : FunA K "walked" "walked" s_walked f fd) : FnOk P w K mg base CX0 (2 + 1) f fd ["road", "way"] (spOf K ca φ_walked) :=
  fn_ok F sc_walked rfl rfl rfl (fun cdv A outer s H E hr => (svs_cons (sv_set (i := 2) sc_walked.nd rfl (.inl rfl) (ev_lst av_nil)) (svs_cons (sv_set (i := 3) sc_walked.nd rfl (.inl rfl) (ev_c pe_int fun _ => .int _)) (svs_cons (sv_set (i := 4) sc_walked.nd rfl (.inl rfl) (ev_callT call_list_of cd_list rfl Z.z_list b_list (av_cons (ev_var (pv 1)) av_nil))) (svs_cons (sv_for PassesOwn.never rfl (iv_seq (ev_fld (ev_var (pv 0)) rfl)) (gv_name sc_walked.nd rfl (.inl rfl)) (svs_cons (sv_set (i := 6) sc_walked.nd rfl (.inl rfl) (ev_c pe_bl fun _ => .bl _)) (svs_cons (sv_if (tv_val (ev_isb (fun _ => rfl) (fun _ => rfl) M_0 M_1 (hr.mono (by decide)) (ev_var (pv 5)))) (svs_cons (sv_popS (i := 4) (j := 6) sc_walked.nd rfl (.inl rfl) (pv 4) (ev_c pe_int fun _ => .int _) rfl (pe_bm PySem.F.plainAttrs_list PySem.F.slot_list_pop PySem.F.type_list_pop mt_popAt (pv 4) (pa_cons (ev_c pe_int fun _ => .int _) pa_nil))) (svs_cons (sv_if (tv_val (ev_var (pv 6))) (svs_cons (sv_app (i := 2) (pv 2) (ev_tup (av_cons (ev_var (pv 5)) (av_cons (ev_var (pv 3)) av_nil))) rfl (pe_bm PySem.F.plainAttrs_list PySem.F.slot_list_append PySem.F.type_list_append mt_append (pv 2) (pa_cons (ev_tup (av_cons (ev_var (pv 5)) (av_cons (ev_var (pv 3)) av_nil))) pa_nil))) svs_nil) svs_nil) svs_nil)) svs_nil) (svs_cons (sv_aug (i := 3) sc_walked.nd rfl (.inl rfl) (ev_fn C_step_along (hr.mono (by decide)) rfl (av_cons (ev_var (pv 0)) (av_cons (ev_var (pv 5)) (av_cons (ev_var (pv 6)) av_nil)))) ip_addA od_iadd) svs_nil))) rfl) (svs_cons (sv_fz (i := 2) (sv_ret (ev_tup (av_cons (ev_var (pv 2)) (av_cons (ev_var (pv 3)) av_nil))))) svs_nil))))))
theorem sc_legs_of : FnScope ["road", "way"] ["road", "way"] (defScope s_legs_of) := ⟨rfl, rfl, rfl, by decide +kernel, rfl, by decide +kernel, by decide +kernel⟩
def m_legs_of : Gm → Option Out := sCons (sRet (e2 oIx (eA (callR φ_walked []) (aC (eV 0) (aC (eV 1) (aN)))) (eC (.int 0)))) (sNil)
def φ_legs_of : Phi := phi m_legs_of 2 2
set_option maxHeartbeats 4000000 in
theorem ok_legs_of {P : Program} {w : World} {K : PySem.W.Frag} {mg : Str → Option Value} {base : Heap} {ca : Nat → Addr} {f : Addr} {fd : FuncData} (Z : Blt mg) (C_walked : Callee P w K mg base ca 3 "walked" φ_walked []) (F : FunA K "legs_of" "legs_of" s_legs_of f fd) : FnOk P w K mg base CX0 (3 + 1) f fd ["road", "way"] (spOf K ca φ_legs_of) :=
  fn_ok F sc_legs_of rfl rfl rfl (fun cdv A outer s H E hr => (svs_cons (sv_ret (ev_ix ix_seq od_ix (ev_fn C_walked (hr.mono (by decide)) rfl (av_cons (ev_var (pv 0)) (av_cons (ev_var (pv 1)) av_nil))) (ev_c pe_int fun _ => .int _) (fun _ _ => rfl))) svs_nil))
theorem sc_first_unfit : FnScope ["road", "way", "wheels", "bridge", "place"] ["road", "way", "wheels"] (defScope s_first_unfit) := ⟨rfl, rfl, rfl, by decide +kernel, rfl, by decide +kernel, by decide +kernel⟩
def m_first_unfit : Gm → Option Out := sCons (sFor (iSeq (eA (callR φ_legs_of []) (aC (eV 0) (aC (eV 1) (aN))))) (gT (gC (gN 3) (gC (gN 4) (gE)))) (sCons (sIf (bNot (bE (eA (callR φ_fits []) (aC (eV 3) (aC (eV 2) (aN)))))) (sCons (sRet (eV 3)) (sNil)) (sNil)) (sNil)) [3, 4]) (sCons (sRet (eC .non)) (sNil))
def φ_first_unfit : Phi := phi m_first_unfit 5 3
set_option maxHeartbeats 4000000 in
theorem ok_first_unfit {P : Program} {w : World} {K : PySem.W.Frag} {mg : Str → Option Value} {base : Heap} {ca : Nat → Addr} {f : Addr} {fd : FuncData} (Z : Blt mg) (C_legs_of : Callee P w K mg base ca 4 "legs_of" φ_legs_of []) (C_fits : Callee P w K mg base ca 3 "fits" φ_fits []) (F : FunA K "first_unfit" "first_unfit" s_first_unfit f fd) : FnOk P w K mg base CX0 (4 + 1) f fd ["road", "way", "wheels"] (spOf K ca φ_first_unfit) :=
  fn_ok F sc_first_unfit rfl rfl rfl (fun cdv A outer s H E hr => (svs_cons (sv_for PassesOwn.never rfl (iv_seq (ev_fn C_legs_of (hr.mono (by decide)) rfl (av_cons (ev_var (pv 0)) (av_cons (ev_var (pv 1)) av_nil)))) (gv_tup rfl (gvs_cons (gv_name sc_first_unfit.nd rfl (.inl rfl)) (gvs_cons (gv_name sc_first_unfit.nd rfl (.inl rfl)) gvs_nil)) (gC_le (gC_le gE_le))) (svs_cons (sv_if (tv_not (tv_val (ev_fn C_fits (hr.mono (by decide)) rfl (av_cons (ev_var (pv 3)) (av_cons (ev_var (pv 2)) av_nil))))) (svs_cons (sv_ret (ev_var (pv 3))) svs_nil) svs_nil) svs_nil) rfl) (svs_cons (sv_ret (ev_c pe_non fun _ => .non)) svs_nil)))
theorem sc_parted : FnScope ["road", "cart", "way", "runs", "place", "wheel", "alone", "run"] ["road", "cart", "way"] (defScope s_parted) := ⟨rfl, rfl, rfl, by decide +kernel, rfl, by decide +kernel, by decide +kernel⟩
def m_parted : Gm → Option Out := sCons (sSet 3 (eA oLst (aN))) (sCons (sOT 3 (sFor (iA enR (aC (e1 (oFld "wheels") (eV 1)) (aN))) (gT (gC (gN 4) (gC (gN 5) (gE)))) (sCons (sSet 6 (eA (callR φ_first_unfit []) (aC (eV 0) (aC (eV 2) (aC (eA oLst (aC (eV 5) (aN))) (aN)))))) (sCons (sIf (bE (e2 oIsN (eV 6) (eC .non))) (sCons (sRs (xRaise 7 (aC (e1 (oFld "name") (eV 6)) (aC (eV 4) (aN))))) (sNil)) (sNil)) (sCons (sIf (bTh 3 (bAnd (bE (e2 oNe (eV 3) (eA oLst (aN)))) (bE (e2 oIs (eA (callR φ_first_unfit []) (aC (eV 0) (aC (eV 2) (aC (e2 oAdd (e2 oIx (eV 3) (e1 uNeg (eC (.int 1)))) (eA oLst (aC (eV 5) (aN)))) (aN))))) (eC .non))))) (sCons (sAppL 3 (e1 uNeg (eC (.int 1))) (eV 5)) (sNil)) (sCons (sAppT 3 (eA oLst (aC (eV 5) (aN)))) (sNil))) (sNil)))) [4, 5, 6, 3, 3])) (sCons (sFzT 3 (sRet (eLc (iSeq (eV 3)) (gN 7) (bY) (eA (cMkN 3 3 ini_Cart) (aC (e1 (oFld "name") (eV 1)) (aC (e1 (oFld "speed") (eV 1)) (aC (eV 7) (aN))))) [7]))) (sNil)))
def φ_parted : Phi := phi m_parted 8 3
set_option maxHeartbeats 4000000 in
theorem ok_parted {P : Program} {w : World} {K : PySem.W.Frag} {mg : Str → Option Value} {base : Heap} {ca : Nat → Addr} {f : Addr} {fd : FuncData} (Z : Blt mg) (C_first_unfit : Callee P w K mg base ca 5 "first_unfit" φ_first_unfit []) (W_Cart : Maker P w K mg base ca 1 3 3 "Cart" ini_Cart) (XR_Blocked : Raiser P w K mg base ca 1 7 "Blocked") (F : FunA K "parted" "parted" s_parted f fd) : FnOk P w K mg base CX0 (5 + 1) f fd ["road", "cart", "way"] (spOf K ca φ_parted) :=
  fn_ok F sc_parted rfl rfl rfl (fun cdv A outer s H E hr => (svs_cons (sv_set (i := 3) sc_parted.nd rfl (.inl rfl) (ev_lst av_nil)) (svs_cons (sv_oT (i := 3) (sv_for PassesOwn.never rfl (iv_enum rfl Z.z_enumerate (av_cons (ev_fld (ev_var (pv 1)) rfl) av_nil)) (gv_tup rfl (gvs_cons (gv_name sc_parted.nd rfl (.inl rfl)) (gvs_cons (gv_name sc_parted.nd rfl (.inl rfl)) gvs_nil)) (gC_le (gC_le gE_le))) (svs_cons (sv_set (i := 6) sc_parted.nd rfl (.inl rfl) (ev_fn C_first_unfit (hr.mono (by decide)) rfl (av_cons (ev_var (pv 0)) (av_cons (ev_var (pv 2)) (av_cons (ev_lst (av_cons (ev_var (pv 5)) av_nil)) av_nil))))) (svs_cons (sv_if (tv_cmp op_notN od_isn (ev_var (pv 6)) (ev_c pe_non fun _ => .non) (nomark _)) (svs_cons svU_raise svs_nil) svs_nil) (svs_cons (sv_if (tv_th (i := 3) (tv_w (wv_and (tv_cmp (op_neA hr.units) od_ne (ev_var (pv 3)) (ev_lst av_nil) (nomark _)) (wv_one (tv_cmp op_isP od_is (ev_fn C_first_unfit (hr.mono (by decide)) rfl (av_cons (ev_var (pv 0)) (av_cons (ev_var (pv 2)) (av_cons (ev_op op_addA od_add (ev_ix ix_seq od_ix (ev_var (pv 3)) (ev_un un_neg ud_neg (ev_c pe_int fun _ => .int _)) (fun _ _ => rfl)) (ev_lst (av_cons (ev_var (pv 5)) av_nil))) av_nil)))) (ev_c pe_non fun _ => .non) (nomark _)))))) (svs_cons (sv_appL (i := 3) (pe_bm PySem.F.plainAttrs_list PySem.F.slot_list_append PySem.F.type_list_append mt_append (pe_ix ix_seq (pv 3) (ev_un un_neg ud_neg (ev_c pe_int fun _ => .int _)) (fun _ _ => rfl)) (pa_cons (ev_var (pv 5)) pa_nil))) svs_nil) (svs_cons (sv_appT (i := 3) (pe_bm PySem.F.plainAttrs_list PySem.F.slot_list_append PySem.F.type_list_append mt_append (pv 3) (pa_cons (ev_lst (av_cons (ev_var (pv 5)) av_nil)) pa_nil))) svs_nil)) svs_nil))) rfl)) (svs_cons (sv_fzT (i := 3) (sv_ret (ev_lc rfl sc_parted.nd (iv_seq (ev_var (pv 3))) (blk_by (own := [("run", 7)]) (N := ["road", "cart", "way", "runs", "place", "wheel", "alone", "run"]) (sc := defScope s_parted) rfl rfl (by decide +kernel)) rfl (fun _ _ _ _ _ => (gv_name sc_parted.nd rfl (.inl rfl))) (fun _ _ _ _ _ => cv_nil) (fun _ _ _ _ _ => (ev_make W_Cart (hr.mono (by decide)) rfl (av_cons (ev_fld (ev_var (pv 1)) rfl) (av_cons (ev_fld (ev_var (pv 1)) rfl) (av_cons (ev_var (pv 7)) av_nil))))) (by decide) gN_ln))) svs_nil))))
def υ_parted : List D → Option (R ⊕ Exc) := ups m_parted 8 3
def ψ_parted : List D → Option Exc := psi (exn m_parted) 8 3
set_option maxHeartbeats 4000000 in
theorem okx_parted {P : Program} {w : World} {K : PySem.W.Frag} {mg : Str → Option Value} {base : Heap} {ca : Nat → Addr} {f : Addr} {fd : FuncData} (Z : Blt mg) (C_first_unfit : Callee P w K mg base ca 5 "first_unfit" φ_first_unfit []) (W_Cart : Maker P w K mg base ca 1 3 3 "Cart" ini_Cart) (XR_Blocked : Raiser P w K mg base ca 1 7 "Blocked") (F : FunA K "parted" "parted" s_parted f fd) : FnOk P w K mg base (L2.CX P w) (5 + 1) f fd ["road", "cart", "way"] (spX K ca ψ_parted) :=
  fnx_ok F sc_parted rfl rfl rfl (fun cdv A outer s H E hr => (xsU_tail (sv_set (i := 3) sc_parted.nd rfl (.inl rfl) (ev_lst av_nil)) (by repeat' (first | exact noex_nil | apply noex_cons | apply noex_if | apply noex_for | apply noex_wh | apply noex_fz | apply noex_oT | apply noex_fzT | exact noex_set | exact noex_asg | exact noex_ret | exact noex_retN | exact noex_nv | exact noex_bk | exact noex_ct | exact noex_exp | exact noex_app | exact noex_ext | exact noex_aug | exact noex_mv | exact noex_appL | exact noex_appT)) (xsU_head (xsU_oT (i := 3) (xsU_for (passes_of rfl) rfl (iv_enum rfl Z.z_enumerate (av_cons (ev_fld (ev_var (pv 1)) rfl) av_nil)) (gv_tup rfl (gvs_cons (gv_name sc_parted.nd rfl (.inl rfl)) (gvs_cons (gv_name sc_parted.nd rfl (.inl rfl)) gvs_nil)) (gC_le (gC_le gE_le))) (svs_cons (sv_set (i := 6) sc_parted.nd rfl (.inl rfl) (ev_fn C_first_unfit (hr.mono (by decide)) rfl (av_cons (ev_var (pv 0)) (av_cons (ev_var (pv 2)) (av_cons (ev_lst (av_cons (ev_var (pv 5)) av_nil)) av_nil))))) (svs_cons (sv_if (tv_cmp op_notN od_isn (ev_var (pv 6)) (ev_c pe_non fun _ => .non) (nomark _)) (svs_cons svU_raise svs_nil) svs_nil) (svs_cons (sv_if (tv_th (i := 3) (tv_w (wv_and (tv_cmp (op_neA hr.units) od_ne (ev_var (pv 3)) (ev_lst av_nil) (nomark _)) (wv_one (tv_cmp op_isP od_is (ev_fn C_first_unfit (hr.mono (by decide)) rfl (av_cons (ev_var (pv 0)) (av_cons (ev_var (pv 2)) (av_cons (ev_op op_addA od_add (ev_ix ix_seq od_ix (ev_var (pv 3)) (ev_un un_neg ud_neg (ev_c pe_int fun _ => .int _)) (fun _ _ => rfl)) (ev_lst (av_cons (ev_var (pv 5)) av_nil))) av_nil)))) (ev_c pe_non fun _ => .non) (nomark _)))))) (svs_cons (sv_appL (i := 3) (pe_bm PySem.F.plainAttrs_list PySem.F.slot_list_append PySem.F.type_list_append mt_append (pe_ix ix_seq (pv 3) (ev_un un_neg ud_neg (ev_c pe_int fun _ => .int _)) (fun _ _ => rfl)) (pa_cons (ev_var (pv 5)) pa_nil))) svs_nil) (svs_cons (sv_appT (i := 3) (pe_bm PySem.F.plainAttrs_list PySem.F.slot_list_append PySem.F.type_list_append mt_append (pv 3) (pa_cons (ev_lst (av_cons (ev_var (pv 5)) av_nil)) pa_nil))) svs_nil)) svs_nil))) (xsU_tail (sv_set (i := 6) sc_parted.nd rfl (.inl rfl) (ev_fn C_first_unfit (hr.mono (by decide)) rfl (av_cons (ev_var (pv 0)) (av_cons (ev_var (pv 2)) (av_cons (ev_lst (av_cons (ev_var (pv 5)) av_nil)) av_nil))))) (by repeat' (first | exact noex_nil | apply noex_cons | apply noex_if | apply noex_for | apply noex_wh | apply noex_fz | apply noex_oT | apply noex_fzT | exact noex_set | exact noex_asg | exact noex_ret | exact noex_retN | exact noex_nv | exact noex_bk | exact noex_ct | exact noex_exp | exact noex_app | exact noex_ext | exact noex_aug | exact noex_mv | exact noex_appL | exact noex_appT)) (xsU_head (xsU_if (tv_cmp op_notN od_isn (ev_var (pv 6)) (ev_c pe_non fun _ => .non) (nomark _)) (xsU_head (X0.xs (x0U_raise (x0_raise XR_Blocked rfl (hr.mono (by decide)) rfl (av_cons (ev_fld (ev_var (pv 6)) rfl) (av_cons (ev_var (pv 4)) av_nil))))) (by repeat' (first | exact noex_nil | apply noex_cons | apply noex_if | apply noex_for | apply noex_wh | apply noex_fz | apply noex_oT | apply noex_fzT | exact noex_set | exact noex_asg | exact noex_ret | exact noex_retN | exact noex_nv | exact noex_bk | exact noex_ct | exact noex_exp | exact noex_app | exact noex_ext | exact noex_aug | exact noex_mv | exact noex_appL | exact noex_appT))) (xsU_no (by repeat' (first | exact noex_nil | apply noex_cons | apply noex_if | apply noex_for | apply noex_wh | apply noex_fz | apply noex_oT | apply noex_fzT | exact noex_set | exact noex_asg | exact noex_ret | exact noex_retN | exact noex_nv | exact noex_bk | exact noex_ct | exact noex_exp | exact noex_app | exact noex_ext | exact noex_aug | exact noex_mv | exact noex_appL | exact noex_appT)))) (by repeat' (first | exact noex_nil | apply noex_cons | apply noex_if | apply noex_for | apply noex_wh | apply noex_fz | apply noex_oT | apply noex_fzT | exact noex_set | exact noex_asg | exact noex_ret | exact noex_retN | exact noex_nv | exact noex_bk | exact noex_ct | exact noex_exp | exact noex_app | exact noex_ext | exact noex_aug | exact noex_mv | exact noex_appL | exact noex_appT)))) rfl)) (by repeat' (first | exact noex_nil | apply noex_cons | apply noex_if | apply noex_for | apply noex_wh | apply noex_fz | apply noex_oT | apply noex_fzT | exact noex_set | exact noex_asg | exact noex_ret | exact noex_retN | exact noex_nv | exact noex_bk | exact noex_ct | exact noex_exp | exact noex_app | exact noex_ext | exact noex_aug | exact noex_mv | exact noex_appL | exact noex_appT)))))
theorem sc__law_cell : FnScope ["_law_script", "_law_k"] ["_law_script", "_law_k"] (defScope s__law_cell) := ⟨rfl, rfl, rfl, by decide +kernel, rfl, by decide +kernel, by decide +kernel⟩
def m__law_cell : Gm → Option Out := sCons (sIf (bE (e2 oLt (eV 1) (eA cLen (aC (eV 0) (aN))))) (sCons (sRet (e2 oIx (eV 0) (eV 1))) (sNil)) (sNil)) (sCons (sRet (eC (.int 0))) (sNil))
def φ__law_cell : Phi := phi m__law_cell 2 2
set_option maxHeartbeats 4000000 in
theorem ok__law_cell {P : Program} {w : World} {K : PySem.W.Frag} {mg : Str → Option Value} {base : Heap} {ca : Nat → Addr} {f : Addr} {fd : FuncData} (Z : Blt mg) (F : FunA K "_law_cell" "_law_cell" s__law_cell f fd) : FnOk P w K mg base CX0 (0 + 1) f fd ["_law_script", "_law_k"] (spOf K ca φ__law_cell) :=
  fn_ok F sc__law_cell rfl rfl rfl (fun cdv A outer s H E hr => (svs_cons (sv_if (tv_cmp op_lt od_cmp (ev_var (pv 1)) (ev_callB call_lenA cd_len rfl Z.z_len b_len (av_cons (ev_var (pv 0)) av_nil)) (nomark _)) (svs_cons (sv_ret (ev_ix ix_seq od_ix (ev_var (pv 0)) (ev_var (pv 1)) (fun _ _ => rfl))) svs_nil) svs_nil) (svs_cons (sv_ret (ev_c pe_int fun _ => .int _)) svs_nil)))
theorem sc__law_mix : FnScope ["_law_cell_here", "_law_one", "_law_prime", "_law_drawn"] ["_law_cell_here", "_law_one", "_law_prime"] (defScope s__law_mix) := ⟨rfl, rfl, rfl, by decide +kernel, rfl, by decide +kernel, by decide +kernel⟩
def m__law_mix : Gm → Option Out := sCons (sSet 3 (e2 oMod (e2 oMulA (e2 oAdd (e2 oAdd (e2 oAdd (e2 oMod (eV 0) (eV 2)) (eC (.int 12345))) (e2 oMulA (e2 oMulA (eC (.int 31)) (eV 1)) (eV 1))) (eV 1)) (eC (.int 48271))) (eV 2))) (sCons (sRet (e2 oDiv (e2 oMod (e2 oMulA (eV 3) (eV 3)) (eC (.int 998244353))) (eC (.int 3)))) (sNil))
def φ__law_mix : Phi := phi m__law_mix 4 3
set_option maxHeartbeats 4000000 in
theorem ok__law_mix {P : Program} {w : World} {K : PySem.W.Frag} {mg : Str → Option Value} {base : Heap} {ca : Nat → Addr} {f : Addr} {fd : FuncData} (Z : Blt mg) (F : FunA K "_law_mix" "_law_mix" s__law_mix f fd) : FnOk P w K mg base CX0 (0 + 1) f fd ["_law_cell_here", "_law_one", "_law_prime"] (spOf K ca φ__law_mix) :=
  fn_ok F sc__law_mix rfl rfl rfl (fun cdv A outer s H E hr => (svs_cons (sv_set (i := 3) sc__law_mix.nd rfl (.inl rfl) (ev_op op_modN od_mod (ev_op op_mulA od_mul (ev_op op_addA od_add (ev_op op_addA od_add (ev_op op_addA od_add (ev_op op_modN od_mod (ev_var (pv 0)) (ev_var (pv 2))) (ev_c pe_int fun _ => .int _)) (ev_op op_mulA od_mul (ev_op op_mulA od_mul (ev_c pe_int fun _ => .int _) (ev_var (pv 1))) (ev_var (pv 1)))) (ev_var (pv 1))) (ev_c pe_int fun _ => .int _)) (ev_var (pv 2)))) (svs_cons (sv_ret (ev_op op_fdivB od_div (ev_op op_modN od_mod (ev_op op_mulA od_mul (ev_var (pv 3)) (ev_var (pv 3))) (ev_c pe_int fun _ => .int _)) (ev_c pe_int fun _ => .int _))) svs_nil)))
theorem sc__law_wheels : FnScope ["_law_cell_here", "_law_many", "_law_wheels_here", "_law_left", "_law_k", "_law_drawn", "_law_most", "_law_gap", "_law_high", "_law_low"] ["_law_cell_here", "_law_many"] (defScope s__law_wheels) := ⟨rfl, rfl, rfl, by decide +kernel, rfl, by decide +kernel, by decide +kernel⟩
def m__law_wheels : Gm → Option Out := sCons (sSet 2 (eA oLst (aN))) (sCons (sSet 3 (eC (.int 200))) (sCons (sFor (iA rg1R (aC (eV 1) (aN))) (gN 4) (sCons (sSet 5 (eA (callR φ__law_mix []) (aC (eV 0) (aC (e2 oAdd (eC (.int 80)) (eV 4)) (aC (eC (.int 1000003)) (aN)))))) (sCons (sSet 6 (eA cMin2 (aC (eC (.int 100)) (aC (e2 oSub (eV 3) (e2 oSub (e2 oSub (eV 1) (eC (.int 1))) (eV 4))) (aN))))) (sCons (sSet 7 (e2 oIx (eA oLst (aC (eC (.int 1)) (aC (eV 6) (aC (e2 oAdd (eC (.int 1)) (e2 oMod (e2 oDiv (eV 5) (eC (.int 4))) (eV 6))) (aC (e2 oAdd (eC (.int 1)) (e2 oMod (e2 oDiv (eV 5) (eC (.int 4))) (eA cMin2 (aC (eV 6) (aC (eC (.int 30)) (aN)))))) (aN)))))) (e2 oMod (eV 5) (eC (.int 4))))) (sCons (sSet 8 (e2 oIx (eA oLst (aC (e2 oMod (e2 oDiv (eV 5) (eC (.int 16))) (eC (.int 10))) (aC (e2 oMod (e2 oDiv (eV 5) (eC (.int 16))) (eC (.int 1000))) (aC (eC (.int 1000000)) (aC (e2 oMod (e2 oAdd (eV 0) (eV 5)) (eC (.int 1000001))) (aN)))))) (e2 oMod (e2 oDiv (eV 5) (eC (.int 4))) (eC (.int 4))))) (sCons (sSet 9 (e2 oIx (eA oLst (aC (eV 8) (aC (eC (.int 0)) (aC (e2 oMod (e2 oDiv (eV 5) (eC (.int 64))) (e2 oAdd (eV 8) (eC (.int 1)))) (aN))))) (e2 oMod (e2 oDiv (eV 5) (eC (.int 32))) (eC (.int 3))))) (sCons (sApp 2 (eA oTup (aC (eV 7) (aC (eV 9) (aC (eV 8) (aN)))))) (sCons (sIf (bE (e2 oGt (eV 4) (eC (.int 0)))) (sCons (sSet 3 (e2 oSub (eV 3) (eV 7))) (sNil)) (sNil)) (sNil)))))))) [4, 5, 6, 7, 8, 9, 2, 3]) (sCons (sRet (eV 2)) (sNil))))
def φ__law_wheels : Phi := phi m__law_wheels 10 2
set_option maxHeartbeats 4000000 in
theorem ok__law_wheels {P : Program} {w : World} {K : PySem.W.Frag} {mg : Str → Option Value} {base : Heap} {ca : Nat → Addr} {f : Addr} {fd : FuncData} (Z : Blt mg) (C__law_mix : Callee P w K mg base ca 1 "_law_mix" φ__law_mix []) (F : FunA K "_law_wheels" "_law_wheels" s__law_wheels f fd) : FnOk P w K mg base CX0 (1 + 1) f fd ["_law_cell_here", "_law_many"] (spOf K ca φ__law_wheels) :=
  fn_ok F sc__law_wheels rfl rfl rfl (fun cdv A outer s H E hr => (svs_cons (sv_set (i := 2) sc__law_wheels.nd rfl (.inl rfl) (ev_lst av_nil)) (svs_cons (sv_set (i := 3) sc__law_wheels.nd rfl (.inl rfl) (ev_c pe_int fun _ => .int _)) (svs_cons (sv_for PassesOwn.never rfl (iv_rg1 rfl Z.z_range (av_cons (ev_var (pv 1)) av_nil)) (gv_name sc__law_wheels.nd rfl (.inl rfl)) (svs_cons (sv_set (i := 5) sc__law_wheels.nd rfl (.inl rfl) (ev_fn C__law_mix (hr.mono (by decide)) rfl (av_cons (ev_var (pv 0)) (av_cons (ev_op op_addA od_add (ev_c pe_int fun _ => .int _) (ev_var (pv 4))) (av_cons (ev_c pe_int fun _ => .int _) av_nil))))) (svs_cons (sv_set (i := 6) sc__law_wheels.nd rfl (.inl rfl) (ev_callB (call_min2 rfl) cd_min2 rfl Z.z_min b_min (av_cons (ev_c pe_int fun _ => .int _) (av_cons (ev_op op_sub od_sub (ev_var (pv 3)) (ev_op op_sub od_sub (ev_op op_sub od_sub (ev_var (pv 1)) (ev_c pe_int fun _ => .int _)) (ev_var (pv 4)))) av_nil)))) (svs_cons (sv_set (i := 7) sc__law_wheels.nd rfl (.inl rfl) (ev_ix ix_seq od_ix (ev_lst (av_cons (ev_c pe_int fun _ => .int _) (av_cons (ev_var (pv 6)) (av_cons (ev_op op_addA od_add (ev_c pe_int fun _ => .int _) (ev_op op_modN od_mod (ev_op op_fdivB od_div (ev_var (pv 5)) (ev_c pe_int fun _ => .int _)) (ev_var (pv 6)))) (av_cons (ev_op op_addA od_add (ev_c pe_int fun _ => .int _) (ev_op op_modN od_mod (ev_op op_fdivB od_div (ev_var (pv 5)) (ev_c pe_int fun _ => .int _)) (ev_callB (call_min2 rfl) cd_min2 rfl Z.z_min b_min (av_cons (ev_var (pv 6)) (av_cons (ev_c pe_int fun _ => .int _) av_nil))))) av_nil))))) (ev_op op_modN od_mod (ev_var (pv 5)) (ev_c pe_int fun _ => .int _)) (fun _ _ => rfl))) (svs_cons (sv_set (i := 8) sc__law_wheels.nd rfl (.inl rfl) (ev_ix ix_seq od_ix (ev_lst (av_cons (ev_op op_modN od_mod (ev_op op_fdivB od_div (ev_var (pv 5)) (ev_c pe_int fun _ => .int _)) (ev_c pe_int fun _ => .int _)) (av_cons (ev_op op_modN od_mod (ev_op op_fdivB od_div (ev_var (pv 5)) (ev_c pe_int fun _ => .int _)) (ev_c pe_int fun _ => .int _)) (av_cons (ev_c pe_int fun _ => .int _) (av_cons (ev_op op_modN od_mod (ev_op op_addA od_add (ev_var (pv 0)) (ev_var (pv 5))) (ev_c pe_int fun _ => .int _)) av_nil))))) (ev_op op_modN od_mod (ev_op op_fdivB od_div (ev_var (pv 5)) (ev_c pe_int fun _ => .int _)) (ev_c pe_int fun _ => .int _)) (fun _ _ => rfl))) (svs_cons (sv_set (i := 9) sc__law_wheels.nd rfl (.inl rfl) (ev_ix ix_seq od_ix (ev_lst (av_cons (ev_var (pv 8)) (av_cons (ev_c pe_int fun _ => .int _) (av_cons (ev_op op_modN od_mod (ev_op op_fdivB od_div (ev_var (pv 5)) (ev_c pe_int fun _ => .int _)) (ev_op op_addA od_add (ev_var (pv 8)) (ev_c pe_int fun _ => .int _))) av_nil)))) (ev_op op_modN od_mod (ev_op op_fdivB od_div (ev_var (pv 5)) (ev_c pe_int fun _ => .int _)) (ev_c pe_int fun _ => .int _)) (fun _ _ => rfl))) (svs_cons (sv_app (i := 2) (pv 2) (ev_tup (av_cons (ev_var (pv 7)) (av_cons (ev_var (pv 9)) (av_cons (ev_var (pv 8)) av_nil)))) rfl (pe_bm PySem.F.plainAttrs_list PySem.F.slot_list_append PySem.F.type_list_append mt_append (pv 2) (pa_cons (ev_tup (av_cons (ev_var (pv 7)) (av_cons (ev_var (pv 9)) (av_cons (ev_var (pv 8)) av_nil)))) pa_nil))) (svs_cons (sv_if (tv_cmp op_gt od_cmp (ev_var (pv 4)) (ev_c pe_int fun _ => .int _) (nomark _)) (svs_cons (sv_set (i := 3) sc__law_wheels.nd rfl (.inl rfl) (ev_op op_sub od_sub (ev_var (pv 3)) (ev_var (pv 7)))) svs_nil) svs_nil) svs_nil))))))) rfl) (svs_cons (sv_ret (ev_var (pv 2))) svs_nil)))))
theorem sc__law_places : FnScope ["_law_wheels_here", "_law_k", "_law_wheel"] ["_law_wheels_here"] (defScope s__law_places) := ⟨rfl, rfl, rfl, by decide +kernel, rfl, by decide +kernel, by decide +kernel⟩
def m__law_places : Gm → Option Out := sCons (sRet (eLc (iA rg1R (aC (eA cLen (aC (eV 0) (aN))) (aN))) (gN 1) (bY) (eA cSum (aC (eLc (iSeq (eSl (eV 0) (pS (eC (.int 1))) (pS (e2 oAdd (eV 1) (eC (.int 1)))))) (gN 2) (bY) (e2 oIx (eV 2) (eC (.int 0))) [2]) (aN))) [1])) (sNil)
def φ__law_places : Phi := phi m__law_places 3 1
set_option maxHeartbeats 4000000 in
theorem ok__law_places {P : Program} {w : World} {K : PySem.W.Frag} {mg : Str → Option Value} {base : Heap} {ca : Nat → Addr} {f : Addr} {fd : FuncData} (Z : Blt mg) (F : FunA K "_law_places" "_law_places" s__law_places f fd) : FnOk P w K mg base CX0 (0 + 1) f fd ["_law_wheels_here"] (spOf K ca φ__law_places) :=
  fn_ok F sc__law_places rfl rfl rfl (fun cdv A outer s H E hr => (svs_cons (sv_ret (ev_lc rfl sc__law_places.nd (iv_rg1 rfl Z.z_range (av_cons (ev_callB call_lenA cd_len rfl Z.z_len b_len (av_cons (ev_var (pv 0)) av_nil)) av_nil)) (blk_by (own := [("_law_k", 1)]) (N := ["_law_wheels_here", "_law_k", "_law_wheel"]) (sc := defScope s__law_places) rfl rfl (by decide +kernel)) rfl (fun _ _ _ _ _ => (gv_name sc__law_places.nd rfl (.inl rfl))) (fun _ _ _ _ _ => cv_nil) (fun _ _ _ _ _ => (ev_callB (cr_sum rfl) cd_sum rfl Z.z_sum b_sum (av_cons (ev_lc rfl sc__law_places.nd (iv_seq (ev_slice (ev_var (pv 0)) (ov_some (ev_c pe_int fun _ => .int _)) (ov_some (ev_op op_addA od_add (ev_var (pv 1)) (ev_c pe_int fun _ => .int _))))) (blk_by2 (own := [("_law_wheel", 2)]) (N := ["_law_wheels_here", "_law_k", "_law_wheel"]) (sf := defScope s__law_places) rfl rfl (by decide +kernel)) rfl (fun _ _ _ _ _ => (gv_name sc__law_places.nd rfl (.inl rfl))) (fun _ _ _ _ _ => cv_nil) (fun _ _ _ _ _ => (ev_ix ix_seq od_ix (ev_var (pv 2)) (ev_c pe_int fun _ => .int _) (fun _ _ => rfl))) (by decide) gN_ln) av_nil))) (by decide) gN_ln)) svs_nil))
theorem sc__law_close : FnScope ["_law_wheels_here", "_law_width", "_law_which", "_law_places_here", "_law_most", "_law_k", "_law_near", "_law_j"] ["_law_wheels_here", "_law_width", "_law_which"] (defScope s__law_close) := ⟨rfl, rfl, rfl, by decide +kernel, rfl, by decide +kernel, by decide +kernel⟩
def m__law_close : Gm → Option Out := sCons (sSet 3 (eA (callR φ__law_places []) (aC (eV 0) (aN)))) (sCons (sSet 4 (eC (.int 0))) (sCons (sFor (iA rg1R (aC (eA cLen (aC (eV 0) (aN))) (aN))) (gN 5) (sCons (sSet 6 (eLc (iA rg2R (aC (eV 5) (aC (eA cLen (aC (eV 0) (aN))) (aN)))) (gN 7) (bE (e2 oLt (e2 oIx (eV 3) (eV 7)) (e2 oAdd (e2 oIx (eV 3) (eV 5)) (eV 1)))) (e2 oIx (e2 oIx (eV 0) (eV 7)) (eV 2)) [7])) (sCons (sSet 4 (eA cMax2 (aC (eV 4) (aC (eA cSum (aC (eV 6) (aN))) (aN))))) (sNil))) [5, 6, 4]) (sCons (sRet (eV 4)) (sNil))))
def φ__law_close : Phi := phi m__law_close 8 3
set_option maxHeartbeats 4000000 in
theorem ok__law_close {P : Program} {w : World} {K : PySem.W.Frag} {mg : Str → Option Value} {base : Heap} {ca : Nat → Addr} {f : Addr} {fd : FuncData} (Z : Blt mg) (C__law_places : Callee P w K mg base ca 1 "_law_places" φ__law_places []) (F : FunA K "_law_close" "_law_close" s__law_close f fd) : FnOk P w K mg base CX0 (1 + 1) f fd ["_law_wheels_here", "_law_width", "_law_which"] (spOf K ca φ__law_close) :=
  fn_ok F sc__law_close rfl rfl rfl (fun cdv A outer s H E hr => (svs_cons (sv_set (i := 3) sc__law_close.nd rfl (.inr rfl) (ev_fn C__law_places (hr.mono (by decide)) rfl (av_cons (ev_var (pv 0)) av_nil))) (svs_cons (sv_set (i := 4) sc__law_close.nd rfl (.inl rfl) (ev_c pe_int fun _ => .int _)) (svs_cons (sv_for PassesOwn.never rfl (iv_rg1 rfl Z.z_range (av_cons (ev_callB call_lenA cd_len rfl Z.z_len b_len (av_cons (ev_var (pv 0)) av_nil)) av_nil)) (gv_name sc__law_close.nd rfl (.inr rfl)) (svs_cons (sv_setLc (i := 6) rfl sc__law_close.nd rfl rfl (sw_true rfl rfl rfl (by decide +kernel)) (iv_rg2 rfl Z.z_range (av_cons (ev_var (pv 5)) (av_cons (ev_callB call_lenA cd_len rfl Z.z_len b_len (av_cons (ev_var (pv 0)) av_nil)) av_nil))) (blk_by (own := [("_law_j", 7)]) (N := ["_law_wheels_here", "_law_width", "_law_which", "_law_places_here", "_law_most", "_law_k", "_law_near", "_law_j"]) (sc := defScope s__law_close) rfl rfl (by decide +kernel)) rfl (fun _ _ _ _ _ => (gv_name sc__law_close.nd rfl (.inl rfl))) (fun _ _ _ _ _ => (cv_one (tv_cmp op_lt od_cmp (ev_ix ix_seq od_ix (ev_var (pv 3)) (ev_var (pv 7)) (fun _ _ => rfl)) (ev_op op_addA od_add (ev_ix ix_seq od_ix (ev_var (pv 3)) (ev_var (pv 5)) (fun _ _ => rfl)) (ev_var (pv 1))) (nomark _)))) (fun _ _ _ _ _ => (ev_ix ix_seq od_ix (ev_ix ix_seq od_ix (ev_var (pv 0)) (ev_var (pv 7)) (fun _ _ => rfl)) (ev_var (pv 2)) (fun _ _ => rfl))) (by decide) gN_ln) (svs_cons (sv_set (i := 4) sc__law_close.nd rfl (.inl rfl) (ev_callB (call_max2 rfl) cd_max2 rfl Z.z_max b_max (av_cons (ev_var (pv 4)) (av_cons (ev_callB (cr_sum rfl) cd_sum rfl Z.z_sum b_sum (av_cons (ev_var (pv 6)) av_nil)) av_nil)))) svs_nil)) rfl) (svs_cons (sv_ret (ev_var (pv 4))) svs_nil)))))
theorem sc__law_pieces : FnScope ["_law_pieces_here", "_law_found", "_law_piece"] ["_law_pieces_here"] (defScope s__law_pieces) := ⟨rfl, rfl, rfl, by decide +kernel, rfl, by decide +kernel, by decide +kernel⟩
def m__law_pieces : Gm → Option Out := sCons (sSet 1 (eA oLst (aN))) (sCons (sFor (iSeq (eV 0)) (gN 2) (sCons (sIf (bE (e2 oEq (e2 oIx (eV 2) (eC (.int 0))) (eC (.str "open")))) (sCons (sApp 1 (eA (cMkN 0 1 ini_Open) (aC (e2 oIx (eV 2) (eC (.int 1))) (aN)))) (sNil)) (sCons (sApp 1 (eA (cMkN 1 5 ini_Bridge) (aC (e2 oIx (eV 2) (eC (.int 1))) (aC (e2 oIx (eV 2) (eC (.int 2))) (aC (e2 oIx (eV 2) (eC (.int 3))) (aC (e2 oIx (eV 2) (eC (.int 4))) (aC (e2 oIx (eV 2) (eC (.int 5))) (aN)))))))) (sNil))) (sNil)) [2, 1, 1]) (sCons (sRet (eV 1)) (sNil)))
def φ__law_pieces : Phi := phi m__law_pieces 3 1
set_option maxHeartbeats 4000000 in
theorem ok__law_pieces {P : Program} {w : World} {K : PySem.W.Frag} {mg : Str → Option Value} {base : Heap} {ca : Nat → Addr} {f : Addr} {fd : FuncData} (Z : Blt mg) (W_Bridge : Maker P w K mg base ca 2 1 5 "Bridge" ini_Bridge) (W_Open : Maker P w K mg base ca 1 0 1 "Open" ini_Open) (F : FunA K "_law_pieces" "_law_pieces" s__law_pieces f fd) : FnOk P w K mg base CX0 (3 + 1) f fd ["_law_pieces_here"] (spOf K ca φ__law_pieces) :=
  fn_ok F sc__law_pieces rfl rfl rfl (fun cdv A outer s H E hr => (svs_cons (sv_set (i := 1) sc__law_pieces.nd rfl (.inl rfl) (ev_lst av_nil)) (svs_cons (sv_for PassesOwn.never rfl (iv_seq (ev_var (pv 0))) (gv_name sc__law_pieces.nd rfl (.inl rfl)) (svs_cons (sv_if (tv_cmp (op_eqA hr.units) od_eq (ev_ix ix_seq od_ix (ev_var (pv 2)) (ev_c pe_int fun _ => .int _) (fun _ _ => rfl)) (ev_c pe_str fun _ => .str _) (nomark _)) (svs_cons (sv_app (i := 1) (pv 1) (ev_make W_Open (hr.mono (by decide)) rfl (av_cons (ev_ix ix_seq od_ix (ev_var (pv 2)) (ev_c pe_int fun _ => .int _) (fun _ _ => rfl)) av_nil)) rfl (pe_bm PySem.F.plainAttrs_list PySem.F.slot_list_append PySem.F.type_list_append mt_append (pv 1) (pa_cons (ev_make W_Open (hr.mono (by decide)) rfl (av_cons (ev_ix ix_seq od_ix (ev_var (pv 2)) (ev_c pe_int fun _ => .int _) (fun _ _ => rfl)) av_nil)) pa_nil))) svs_nil) (svs_cons (sv_app (i := 1) (pv 1) (ev_make W_Bridge (hr.mono (by decide)) rfl (av_cons (ev_ix ix_seq od_ix (ev_var (pv 2)) (ev_c pe_int fun _ => .int _) (fun _ _ => rfl)) (av_cons (ev_ix ix_seq od_ix (ev_var (pv 2)) (ev_c pe_int fun _ => .int _) (fun _ _ => rfl)) (av_cons (ev_ix ix_seq od_ix (ev_var (pv 2)) (ev_c pe_int fun _ => .int _) (fun _ _ => rfl)) (av_cons (ev_ix ix_seq od_ix (ev_var (pv 2)) (ev_c pe_int fun _ => .int _) (fun _ _ => rfl)) (av_cons (ev_ix ix_seq od_ix (ev_var (pv 2)) (ev_c pe_int fun _ => .int _) (fun _ _ => rfl)) av_nil)))))) rfl (pe_bm PySem.F.plainAttrs_list PySem.F.slot_list_append PySem.F.type_list_append mt_append (pv 1) (pa_cons (ev_make W_Bridge (hr.mono (by decide)) rfl (av_cons (ev_ix ix_seq od_ix (ev_var (pv 2)) (ev_c pe_int fun _ => .int _) (fun _ _ => rfl)) (av_cons (ev_ix ix_seq od_ix (ev_var (pv 2)) (ev_c pe_int fun _ => .int _) (fun _ _ => rfl)) (av_cons (ev_ix ix_seq od_ix (ev_var (pv 2)) (ev_c pe_int fun _ => .int _) (fun _ _ => rfl)) (av_cons (ev_ix ix_seq od_ix (ev_var (pv 2)) (ev_c pe_int fun _ => .int _) (fun _ _ => rfl)) (av_cons (ev_ix ix_seq od_ix (ev_var (pv 2)) (ev_c pe_int fun _ => .int _) (fun _ _ => rfl)) av_nil)))))) pa_nil))) svs_nil)) svs_nil) rfl) (svs_cons (sv_ret (ev_var (pv 1))) svs_nil))))
theorem sc__law_alike : FnScope ["_law_found", "_law_due", "_law_one", "_law_other"] ["_law_found", "_law_due"] (defScope s__law_alike) := ⟨rfl, rfl, rfl, by decide +kernel, rfl, by decide +kernel, by decide +kernel⟩
theorem sc__law_same : FnScope ["_law_found", "_law_due"] ["_law_found", "_law_due"] (defScope s__law_same) := ⟨rfl, rfl, rfl, by decide +kernel, rfl, by decide +kernel, by decide +kernel⟩
def mo__law_same (φ__law_alike : Phi) : Gm → Option Out := sCons (sIf (bE (e2 oIs (eV 1) (eC .non))) (sCons (sRet (e2 oIs (eV 0) (eC .non))) (sNil)) (sNil)) (sCons (sIf (bE (eIs2 .list .tuple (eV 1))) (sCons (sRet (eAnd (eIs2 .list .tuple (eV 0)) (eA (callR φ__law_alike []) (aC (eV 0) (aC (eV 1) (aN)))))) (sNil)) (sNil)) (sCons (sIf (bE (eIs .str (eV 1))) (sCons (sRet (eAnd (eIs .str (eV 0)) (e2 oEq (eV 0) (eV 1)))) (sNil)) (sNil)) (sCons (sRet (eAnd (eIs .int (eV 0)) (eAnd (e2 oEq (eIs .bool (eV 0)) (eIs .bool (eV 1))) (e2 oEq (eV 0) (eV 1))))) (sNil))))
def φo__law_same (φ__law_alike : Phi) : Phi := phi (mo__law_same φ__law_alike) 2 2
set_option maxHeartbeats 4000000 in
theorem okp__law_same {lv : Nat} {φ__law_alike : Phi} (hlv : 0 ≤ lv) {P : Program} {w : World} {K : PySem.W.Frag} {mg : Str → Option Value} {base : Heap} {ca : Nat → Addr} {f : Addr} {fd : FuncData} (Z : Blt mg) (C__law_alike : Callee P w K mg base ca lv "_law_alike" φ__law_alike []) (F : FunA K "_law_same" "_law_same" s__law_same f fd) : FnOk P w K mg base CX0 (lv + 1) f fd ["_law_found", "_law_due"] (spOf K ca (φo__law_same φ__law_alike)) :=
  fn_ok F sc__law_same rfl rfl rfl (fun cdv A outer s H E hr => (svs_cons (sv_if (tv_cmp op_isP od_is (ev_var (pv 1)) (ev_c pe_non fun _ => .non) (nomark _)) (svs_cons (sv_ret (ev_cmp op_isP od_is (ev_var (pv 0)) (ev_c pe_non fun _ => .non) (nomark _))) svs_nil) svs_nil) (svs_cons (sv_if (tv_val (ev_isi2 (T := .list) (U := .tuple) rfl Z.z_isinstance b_isinstance (ev_var (pv 1)) (pe_ty rfl Z.z_list b_list) (pe_ty rfl Z.z_tuple b_tuple))) (svs_cons (sv_ret (ev_and (ev_isi2 (T := .list) (U := .tuple) rfl Z.z_isinstance b_isinstance (ev_var (pv 0)) (pe_ty rfl Z.z_list b_list) (pe_ty rfl Z.z_tuple b_tuple)) (ev_one (ev_fn C__law_alike (hr.mono (by omega)) rfl (av_cons (ev_var (pv 0)) (av_cons (ev_var (pv 1)) av_nil)))))) svs_nil) svs_nil) (svs_cons (sv_if (tv_val (ev_isi (T := .str) rfl Z.z_isinstance b_isinstance (ev_var (pv 1)) (pe_ty rfl Z.z_str b_str))) (svs_cons (sv_ret (ev_and (ev_isi (T := .str) rfl Z.z_isinstance b_isinstance (ev_var (pv 0)) (pe_ty rfl Z.z_str b_str)) (ev_one (ev_cmp (op_eqA hr.units) od_eq (ev_var (pv 0)) (ev_var (pv 1)) (nomark _))))) svs_nil) svs_nil) (svs_cons (sv_ret (ev_and (ev_isi (T := .int) rfl Z.z_isinstance b_isinstance (ev_var (pv 0)) (pe_ty rfl Z.z_int b_int)) (ev_and (ev_cmp (op_eqA hr.units) od_eq (ev_isi (T := .bool) rfl Z.z_isinstance b_isinstance (ev_var (pv 0)) (pe_ty rfl Z.z_bool b_bool)) (ev_isi (T := .bool) rfl Z.z_isinstance b_isinstance (ev_var (pv 1)) (pe_ty rfl Z.z_bool b_bool)) (nomark _)) (ev_one (ev_cmp (op_eqA hr.units) od_eq (ev_var (pv 0)) (ev_var (pv 1)) (nomark _)))))) svs_nil)))))
def mr__law_alike (φ__law_alike : Phi) : Gm → Option Out := sCons (sIf (bAnd (bE (eIs .list (eV 1))) (bNot (bE (eIs .list (eV 0))))) (sCons (sRet (eC (.bl false))) (sNil)) (sNil)) (sCons (sIf (bAnd (bE (eIs .tuple (eV 1))) (bNot (bE (eIs .tuple (eV 0))))) (sCons (sRet (eC (.bl false))) (sNil)) (sNil)) (sCons (sIf (bE (e2 oNe (eA cLen (aC (eV 0) (aN))) (eA cLen (aC (eV 1) (aN))))) (sCons (sRet (eC (.bl false))) (sNil)) (sNil)) (sCons (sRet (eA cAll (aC (eLc (iA zpR (aC (eV 0) (aC (eV 1) (aN)))) (gT (gC (gN 2) (gC (gN 3) (gE)))) (bY) (eA (callR (φo__law_same φ__law_alike) []) (aC (eV 2) (aC (eV 3) (aN)))) [2, 3]) (aN)))) (sNil))))
def φr__law_alike : Nat → Phi
  | 0 => fun _ => none
  | n + 1 => phi (mr__law_alike (φr__law_alike n)) 4 2
set_option maxHeartbeats 4000000 in
theorem okr__law_alike {P : Program} {w : World} {K : PySem.W.Frag} {mg : Str → Option Value} {base : Heap} {ca : Nat → Addr} {f : Addr} {fd : FuncData} (Z : Blt mg) (F : FunA K "_law_alike" "_law_alike" s__law_alike f fd) (hm : mg "_law_alike" = some (.ref f)) (hb : Binds K fd ["_law_found", "_law_due"] []) {fo : Addr} {fdo : FuncData} (Fo : FunA K "_law_same" "_law_same" s__law_same fo fdo) (hmo : mg "_law_same" = some (.ref fo)) (hbo : Binds K fdo ["_law_found", "_law_due"] []) : ∀ n : Nat, FnOk P w K mg base CX0 (0 + 2 * n + 2) f fd ["_law_found", "_law_due"] (spOf K ca (φr__law_alike n))
  | 0 => fn_none
  | n + 1 => by
    have C__law_alike : Callee P w K mg base ca (0 + 2 * n + 2) "_law_alike" (φr__law_alike n) [] := fn_callee F (okr__law_alike Z F hm hb Fo hmo hbo n) hm hb .nil fun _ => .nil
    have G__law_same : FnOk P w K mg base CX0 (0 + 2 * n + 2 + 1) fo fdo _ (spOf K ca (φo__law_same (φr__law_alike n))) := okp__law_same (by omega) Z C__law_alike Fo
    have C__law_same : Callee P w K mg base ca (0 + 2 * n + 2 + 1) "_law_same" (φo__law_same (φr__law_alike n)) [] := fn_callee Fo G__law_same hmo hbo .nil fun _ => .nil
    exact fn_ok (k := 0 + 2 * n + 3) F sc__law_alike rfl rfl rfl (fun cdv A outer s H E hr => (svs_cons (sv_if (tv_w (wv_and (tv_val (ev_isi (T := .list) rfl Z.z_isinstance b_isinstance (ev_var (pv 1)) (pe_ty rfl Z.z_list b_list))) (wv_one (tv_not (tv_val (ev_isi (T := .list) rfl Z.z_isinstance b_isinstance (ev_var (pv 0)) (pe_ty rfl Z.z_list b_list))))))) (svs_cons (sv_ret (ev_c pe_bl fun _ => .bl _)) svs_nil) svs_nil) (svs_cons (sv_if (tv_w (wv_and (tv_val (ev_isi (T := .tuple) rfl Z.z_isinstance b_isinstance (ev_var (pv 1)) (pe_ty rfl Z.z_tuple b_tuple))) (wv_one (tv_not (tv_val (ev_isi (T := .tuple) rfl Z.z_isinstance b_isinstance (ev_var (pv 0)) (pe_ty rfl Z.z_tuple b_tuple))))))) (svs_cons (sv_ret (ev_c pe_bl fun _ => .bl _)) svs_nil) svs_nil) (svs_cons (sv_if (tv_cmp (op_neA hr.units) od_ne (ev_callB call_lenA cd_len rfl Z.z_len b_len (av_cons (ev_var (pv 0)) av_nil)) (ev_callB call_lenA cd_len rfl Z.z_len b_len (av_cons (ev_var (pv 1)) av_nil)) (nomark _)) (svs_cons (sv_ret (ev_c pe_bl fun _ => .bl _)) svs_nil) svs_nil) (svs_cons (sv_ret (ev_callB (cr_all rfl) cd_all rfl Z.z_all b_all (av_cons (ev_lc rfl sc__law_alike.nd (iv_zip rfl Z.z_zip (av_cons (ev_var (pv 0)) (av_cons (ev_var (pv 1)) av_nil))) (blk_by (own := [("_law_one", 2), ("_law_other", 3)]) (N := ["_law_found", "_law_due", "_law_one", "_law_other"]) (sc := defScope s__law_alike) rfl rfl (by decide +kernel)) rfl (fun _ _ _ _ _ => (gv_tup rfl (gvs_cons (gv_name sc__law_alike.nd rfl (.inl rfl)) (gvs_cons (gv_name sc__law_alike.nd rfl (.inl rfl)) gvs_nil)) (gC_le (gC_le gE_le)))) (fun _ _ _ _ _ => cv_nil) (fun _ _ _ _ _ => (ev_fn C__law_same (hr.mono (by omega)) rfl (av_cons (ev_var (pv 2)) (av_cons (ev_var (pv 3)) av_nil)))) (by decide) (gT_ln (gC_ln gN_ln (gC_ln gN_ln gE_ln)))) av_nil))) svs_nil)))))
abbrev φ__law_alike : Phi := φr__law_alike 10
abbrev φ__law_same : Phi := φo__law_same φ__law_alike
theorem sc__law_run : FnScope ["_law_wheels_here", "_law_drawn", "_law_first"] ["_law_wheels_here", "_law_drawn"] (defScope s__law_run) := ⟨rfl, rfl, rfl, by decide +kernel, rfl, by decide +kernel, by decide +kernel⟩
def m__law_run : Gm → Option Out := sCons (sSet 2 (e2 oMod (eV 1) (eA cLen (aC (eV 0) (aN))))) (sCons (sRet (eSl (eV 0) (pS (eV 2)) (pS (e2 oAdd (e2 oAdd (eV 2) (eC (.int 1))) (e2 oMod (e2 oDiv (eV 1) (eC (.int 8))) (e2 oSub (eA cLen (aC (eV 0) (aN))) (eV 2))))))) (sNil))
def φ__law_run : Phi := phi m__law_run 3 2
set_option maxHeartbeats 4000000 in
theorem ok__law_run {P : Program} {w : World} {K : PySem.W.Frag} {mg : Str → Option Value} {base : Heap} {ca : Nat → Addr} {f : Addr} {fd : FuncData} (Z : Blt mg) (F : FunA K "_law_run" "_law_run" s__law_run f fd) : FnOk P w K mg base CX0 (0 + 1) f fd ["_law_wheels_here", "_law_drawn"] (spOf K ca φ__law_run) :=
  fn_ok F sc__law_run rfl rfl rfl (fun cdv A outer s H E hr => (svs_cons (sv_set (i := 2) sc__law_run.nd rfl (.inl rfl) (ev_op op_modN od_mod (ev_var (pv 1)) (ev_callB call_lenA cd_len rfl Z.z_len b_len (av_cons (ev_var (pv 0)) av_nil)))) (svs_cons (sv_ret (ev_slice (ev_var (pv 0)) (ov_some (ev_var (pv 2))) (ov_some (ev_op op_addA od_add (ev_op op_addA od_add (ev_var (pv 2)) (ev_c pe_int fun _ => .int _)) (ev_op op_modN od_mod (ev_op op_fdivB od_div (ev_var (pv 1)) (ev_c pe_int fun _ => .int _)) (ev_op op_sub od_sub (ev_callB call_lenA cd_len rfl Z.z_len b_len (av_cons (ev_var (pv 0)) av_nil)) (ev_var (pv 2)))))))) svs_nil)))
theorem sc__law_narrow : FnScope ["_law_cell_here", "_law_wheels_here", "_law_name", "_law_drawn", "_law_part", "_law_length", "_law_wide", "_law_single", "_law_bears", "_law_most", "_law_wheel"] ["_law_cell_here", "_law_wheels_here", "_law_name"] (defScope s__law_narrow) := ⟨rfl, rfl, rfl, by decide +kernel, rfl, by decide +kernel, by decide +kernel⟩
def m__law_narrow : Gm → Option Out := sCons (sSet 3 (eA (callR φ__law_mix []) (aC (eV 0) (aC (eC (.int 100)) (aC (eC (.int 1000037)) (aN)))))) (sCons (sSet 4 (eA (callR φ__law_run []) (aC (eV 1) (aC (e2 oDiv (eV 3) (eC (.int 5))) (aN))))) (sCons (sSet 5 (e2 oIx (eA oLst (aC (eC (.int 1)) (aC (eC (.int 1000)) (aC (e2 oAdd (eC (.int 1)) (e2 oIx (eA (callR φ__law_places []) (aC (eV 1) (aN))) (e1 uNeg (eC (.int 1))))) (aC (e2 oAdd (eC (.int 1)) (e2 oMod (e2 oDiv (eV 3) (eC (.int 300))) (eC (.int 100)))) (aC (e2 oAdd (eC (.int 1)) (e2 oMod (e2 oDiv (eV 3) (eC (.int 300))) (eC (.int 220)))) (aN))))))) (e2 oMod (eV 3) (eC (.int 5))))) (sCons (sSet 6 (e2 oIx (eA oLst (aC (eC (.int 1)) (aC (eC (.int 200)) (aC (e2 oAdd (eC (.int 1)) (e2 oMod (e2 oDiv (eV 3) (eC (.int 300))) (eC (.int 60)))) (aC (eC (.int 200)) (aN)))))) (e2 oMod (e2 oDiv (eV 3) (eC (.int 70000))) (eC (.int 4))))) (sCons (sSet 7 (eA cMax1 (aC (eLc (iSeq (eV 1)) (gN 10) (bY) (e2 oIx (eV 10) (eC (.int 2))) [10]) (aN)))) (sCons (sFz 4 (sSet 8 (eA (callR φ__law_close []) (aC (eV 4) (aC (eV 5) (aC (eC (.int 2)) (aN))))))) (sCons (sIf (bE (e2 oGt (e2 oMod (e2 oDiv (eV 3) (eC (.int 280))) (eC (.int 4))) (eC (.int 0)))) (sCons (sSet 8 (eA cMax2 (aC (eV 7) (aC (eV 8) (aN))))) (sNil)) (sNil)) (sCons (sSet 9 (e2 oSub (e2 oAdd (eA cMax2 (aC (eV 7) (aC (eA (callR φ__law_close []) (aC (eA (callR φ__law_run []) (aC (eV 1) (aC (e2 oDiv (eV 3) (eC (.int 400))) (aN)))) (aC (eV 6) (aC (eC (.int 2)) (aN))))) (aN)))) (e2 oMod (e2 oDiv (eV 3) (eC (.int 9))) (eC (.int 3)))) (eC (.int 1)))) (sCons (sRet (eA oTup (aC (eC (.str "bridge")) (aC (eV 2) (aC (eV 5) (aC (eA cMax2 (aC (eC (.int 1)) (aC (eA cMin2 (aC (e2 oPow (eC (.int 10)) (eC (.int 7))) (aC (eV 8) (aN)))) (aN)))) (aC (eV 6) (aC (eA cMax2 (aC (eC (.int 1)) (aC (eA cMin2 (aC (e2 oPow (eC (.int 10)) (eC (.int 7))) (aC (eV 9) (aN)))) (aN)))) (aN))))))))) (sNil)))))))))
def φ__law_narrow : Phi := phi m__law_narrow 11 3
set_option maxHeartbeats 4000000 in
theorem ok__law_narrow {P : Program} {w : World} {K : PySem.W.Frag} {mg : Str → Option Value} {base : Heap} {ca : Nat → Addr} {f : Addr} {fd : FuncData} (Z : Blt mg) (C__law_mix : Callee P w K mg base ca 1 "_law_mix" φ__law_mix []) (C__law_run : Callee P w K mg base ca 1 "_law_run" φ__law_run []) (C__law_places : Callee P w K mg base ca 1 "_law_places" φ__law_places []) (C__law_close : Callee P w K mg base ca 2 "_law_close" φ__law_close []) (F : FunA K "_law_narrow" "_law_narrow" s__law_narrow f fd) : FnOk P w K mg base CX0 (2 + 1) f fd ["_law_cell_here", "_law_wheels_here", "_law_name"] (spOf K ca φ__law_narrow) :=
  fn_ok F sc__law_narrow rfl rfl rfl (fun cdv A outer s H E hr => (svs_cons (sv_set (i := 3) sc__law_narrow.nd rfl (.inl rfl) (ev_fn C__law_mix (hr.mono (by decide)) rfl (av_cons (ev_var (pv 0)) (av_cons (ev_c pe_int fun _ => .int _) (av_cons (ev_c pe_int fun _ => .int _) av_nil))))) (svs_cons (sv_set (i := 4) sc__law_narrow.nd rfl (.inl rfl) (ev_fn C__law_run (hr.mono (by decide)) rfl (av_cons (ev_var (pv 1)) (av_cons (ev_op op_fdivB od_div (ev_var (pv 3)) (ev_c pe_int fun _ => .int _)) av_nil)))) (svs_cons (sv_set (i := 5) sc__law_narrow.nd rfl (.inl rfl) (ev_ix ix_seq od_ix (ev_lst (av_cons (ev_c pe_int fun _ => .int _) (av_cons (ev_c pe_int fun _ => .int _) (av_cons (ev_op op_addA od_add (ev_c pe_int fun _ => .int _) (ev_ix ix_seq od_ix (ev_fn C__law_places (hr.mono (by decide)) rfl (av_cons (ev_var (pv 1)) av_nil)) (ev_un un_neg ud_neg (ev_c pe_int fun _ => .int _)) (fun _ _ => rfl))) (av_cons (ev_op op_addA od_add (ev_c pe_int fun _ => .int _) (ev_op op_modN od_mod (ev_op op_fdivB od_div (ev_var (pv 3)) (ev_c pe_int fun _ => .int _)) (ev_c pe_int fun _ => .int _))) (av_cons (ev_op op_addA od_add (ev_c pe_int fun _ => .int _) (ev_op op_modN od_mod (ev_op op_fdivB od_div (ev_var (pv 3)) (ev_c pe_int fun _ => .int _)) (ev_c pe_int fun _ => .int _))) av_nil)))))) (ev_op op_modN od_mod (ev_var (pv 3)) (ev_c pe_int fun _ => .int _)) (fun _ _ => rfl))) (svs_cons (sv_set (i := 6) sc__law_narrow.nd rfl (.inl rfl) (ev_ix ix_seq od_ix (ev_lst (av_cons (ev_c pe_int fun _ => .int _) (av_cons (ev_c pe_int fun _ => .int _) (av_cons (ev_op op_addA od_add (ev_c pe_int fun _ => .int _) (ev_op op_modN od_mod (ev_op op_fdivB od_div (ev_var (pv 3)) (ev_c pe_int fun _ => .int _)) (ev_c pe_int fun _ => .int _))) (av_cons (ev_c pe_int fun _ => .int _) av_nil))))) (ev_op op_modN od_mod (ev_op op_fdivB od_div (ev_var (pv 3)) (ev_c pe_int fun _ => .int _)) (ev_c pe_int fun _ => .int _)) (fun _ _ => rfl))) (svs_cons (sv_set (i := 7) sc__law_narrow.nd rfl (.inl rfl) (ev_callB (cr_max rfl) cd_max1 rfl Z.z_max b_max (av_cons (ev_lc rfl sc__law_narrow.nd (iv_seq (ev_var (pv 1))) (blk_by (own := [("_law_wheel", 10)]) (N := ["_law_cell_here", "_law_wheels_here", "_law_name", "_law_drawn", "_law_part", "_law_length", "_law_wide", "_law_single", "_law_bears", "_law_most", "_law_wheel"]) (sc := defScope s__law_narrow) rfl rfl (by decide +kernel)) rfl (fun _ _ _ _ _ => (gv_name sc__law_narrow.nd rfl (.inl rfl))) (fun _ _ _ _ _ => cv_nil) (fun _ _ _ _ _ => (ev_ix ix_seq od_ix (ev_var (pv 10)) (ev_c pe_int fun _ => .int _) (fun _ _ => rfl))) (by decide) gN_ln) av_nil))) (svs_cons (sv_fz (i := 4) (sv_set (i := 8) sc__law_narrow.nd rfl (.inl rfl) (ev_fn C__law_close (hr.mono (by decide)) rfl (av_cons (ev_var (pv 4)) (av_cons (ev_var (pv 5)) (av_cons (ev_c pe_int fun _ => .int _) av_nil)))))) (svs_cons (sv_if (tv_cmp op_gt od_cmp (ev_op op_modN od_mod (ev_op op_fdivB od_div (ev_var (pv 3)) (ev_c pe_int fun _ => .int _)) (ev_c pe_int fun _ => .int _)) (ev_c pe_int fun _ => .int _) (nomark _)) (svs_cons (sv_set (i := 8) sc__law_narrow.nd rfl (.inl rfl) (ev_callB (call_max2 rfl) cd_max2 rfl Z.z_max b_max (av_cons (ev_var (pv 7)) (av_cons (ev_var (pv 8)) av_nil)))) svs_nil) svs_nil) (svs_cons (sv_set (i := 9) sc__law_narrow.nd rfl (.inl rfl) (ev_op op_sub od_sub (ev_op op_addA od_add (ev_callB (call_max2 rfl) cd_max2 rfl Z.z_max b_max (av_cons (ev_var (pv 7)) (av_cons (ev_fn C__law_close (hr.mono (by decide)) rfl (av_cons (ev_fn C__law_run (hr.mono (by decide)) rfl (av_cons (ev_var (pv 1)) (av_cons (ev_op op_fdivB od_div (ev_var (pv 3)) (ev_c pe_int fun _ => .int _)) av_nil))) (av_cons (ev_var (pv 6)) (av_cons (ev_c pe_int fun _ => .int _) av_nil)))) av_nil))) (ev_op op_modN od_mod (ev_op op_fdivB od_div (ev_var (pv 3)) (ev_c pe_int fun _ => .int _)) (ev_c pe_int fun _ => .int _))) (ev_c pe_int fun _ => .int _))) (svs_cons (sv_ret (ev_tup (av_cons (ev_c pe_str fun _ => .str _) (av_cons (ev_var (pv 2)) (av_cons (ev_var (pv 5)) (av_cons (ev_callB (call_max2 rfl) cd_max2 rfl Z.z_max b_max (av_cons (ev_c pe_int fun _ => .int _) (av_cons (ev_callB (call_min2 rfl) cd_min2 rfl Z.z_min b_min (av_cons (ev_op op_pow od_pow (ev_c pe_int fun _ => .int _) (ev_c pe_int fun _ => .int _)) (av_cons (ev_var (pv 8)) av_nil))) av_nil))) (av_cons (ev_var (pv 6)) (av_cons (ev_callB (call_max2 rfl) cd_max2 rfl Z.z_max b_max (av_cons (ev_c pe_int fun _ => .int _) (av_cons (ev_callB (call_min2 rfl) cd_min2 rfl Z.z_min b_min (av_cons (ev_op op_pow od_pow (ev_c pe_int fun _ => .int _) (ev_c pe_int fun _ => .int _)) (av_cons (ev_var (pv 9)) av_nil))) av_nil))) av_nil)))))))) svs_nil))))))))))
theorem sc__law_fits : FnScope ["_law_bridges", "_law_wheels_here", "_law_piece"] ["_law_bridges", "_law_wheels_here"] (defScope s__law_fits) := ⟨rfl, rfl, rfl, by decide +kernel, rfl, by decide +kernel, by decide +kernel⟩
def m__law_fits : Gm → Option Out := sCons (sFor (iSeq (eV 0)) (gN 2) (sCons (sIf (bOr (bE (e2 oGt (eA (callR φ__law_close []) (aC (eV 1) (aC (e2 oIx (eV 2) (eC (.int 2))) (aC (eC (.int 2)) (aN))))) (e2 oIx (eV 2) (eC (.int 3))))) (bE (e2 oGt (eA (callR φ__law_close []) (aC (eV 1) (aC (e2 oIx (eV 2) (eC (.int 4))) (aC (eC (.int 2)) (aN))))) (e2 oIx (eV 2) (eC (.int 5)))))) (sCons (sRet (eC (.bl false))) (sNil)) (sNil)) (sNil)) [2]) (sCons (sRet (eC (.bl true))) (sNil))
def φ__law_fits : Phi := phi m__law_fits 3 2
set_option maxHeartbeats 4000000 in
theorem ok__law_fits {P : Program} {w : World} {K : PySem.W.Frag} {mg : Str → Option Value} {base : Heap} {ca : Nat → Addr} {f : Addr} {fd : FuncData} (Z : Blt mg) (C__law_close : Callee P w K mg base ca 2 "_law_close" φ__law_close []) (F : FunA K "_law_fits" "_law_fits" s__law_fits f fd) : FnOk P w K mg base CX0 (2 + 1) f fd ["_law_bridges", "_law_wheels_here"] (spOf K ca φ__law_fits) :=
  fn_ok F sc__law_fits rfl rfl rfl (fun cdv A outer s H E hr => (svs_cons (sv_for PassesOwn.never rfl (iv_seq (ev_var (pv 0))) (gv_name sc__law_fits.nd rfl (.inl rfl)) (svs_cons (sv_if (tv_w (wv_or (tv_cmp op_gt od_cmp (ev_fn C__law_close (hr.mono (by decide)) rfl (av_cons (ev_var (pv 1)) (av_cons (ev_ix ix_seq od_ix (ev_var (pv 2)) (ev_c pe_int fun _ => .int _) (fun _ _ => rfl)) (av_cons (ev_c pe_int fun _ => .int _) av_nil)))) (ev_ix ix_seq od_ix (ev_var (pv 2)) (ev_c pe_int fun _ => .int _) (fun _ _ => rfl)) (nomark _)) (wv_one' (tv_cmp op_gt od_cmp (ev_fn C__law_close (hr.mono (by decide)) rfl (av_cons (ev_var (pv 1)) (av_cons (ev_ix ix_seq od_ix (ev_var (pv 2)) (ev_c pe_int fun _ => .int _) (fun _ _ => rfl)) (av_cons (ev_c pe_int fun _ => .int _) av_nil)))) (ev_ix ix_seq od_ix (ev_var (pv 2)) (ev_c pe_int fun _ => .int _) (fun _ _ => rfl)) (nomark _))))) (svs_cons (sv_ret (ev_c pe_bl fun _ => .bl _)) svs_nil) svs_nil) svs_nil) rfl) (svs_cons (sv_ret (ev_c pe_bl fun _ => .bl _)) svs_nil)))
theorem sc__law_cuts : FnScope ["_law_bridges", "_law_wheels_here", "_law_found", "_law_bits", "_law_cut", "_law_k", "_law_part"] ["_law_bridges", "_law_wheels_here"] (defScope s__law_cuts) := ⟨rfl, rfl, rfl, by decide +kernel, rfl, by decide +kernel, by decide +kernel⟩
def m__law_cuts : Gm → Option Out := sCons (sSet 2 (eA oLst (aN))) (sCons (sFor (iA rg1R (aC (e2 oShl (eC (.int 1)) (e2 oSub (eA cLen (aC (eV 1) (aN))) (eC (.int 1)))) (aN))) (gN 3) (sCons (sSetT 4 (kLs (ksC (kTm (eA oLst (aC (e2 oIx (eV 1) (eC (.int 0))) (aN)))) (ksN)))) (sCons (sFor (iA rg2R (aC (eC (.int 1)) (aC (eA cLen (aC (eV 1) (aN))) (aN)))) (gN 5) (sCons (sIf (bE (e2 oEq (e2 oAndB (e2 oShr (eV 3) (e2 oSub (eV 5) (eC (.int 1)))) (eC (.int 1))) (eC (.int 1)))) (sCons (sAppT 4 (eA oLst (aN))) (sNil)) (sNil)) (sCons (sAppL 4 (e1 uNeg (eC (.int 1))) (e2 oIx (eV 1) (eV 5))) (sNil))) [5, 4, 4]) (sCons (sIf (bTh 4 (bE (eA cAll (aC (eLc (iSeq (eV 4)) (gN 6) (bY) (eA (callR φ__law_fits []) (aC (eV 0) (aC (eV 6) (aN)))) [6]) (aN))))) (sCons (sFzT 4 (sApp 2 (eA oTup (aC (eA cLen (aC (eV 4) (aN))) (aC (eLc (iSeq (eV 4)) (gN 6) (bY) (e1 uNeg (eA cLen (aC (eV 6) (aN)))) [6]) (aC (eV 4) (aN))))))) (sNil)) (sNil)) (sNil)))) [3, 4, 5, 4, 4, 4, 2]) (sCons (sRet (eA (cSortK (false :: [true])) (aC (eV 2) (aN)))) (sNil)))
def φ__law_cuts : Phi := phi m__law_cuts 7 2
set_option maxHeartbeats 4000000 in
theorem ok__law_cuts {P : Program} {w : World} {K : PySem.W.Frag} {mg : Str → Option Value} {base : Heap} {ca : Nat → Addr} {f : Addr} {fd : FuncData} (Z : Blt mg) (C__law_fits : Callee P w K mg base ca 3 "_law_fits" φ__law_fits []) (F : FunA K "_law_cuts" "_law_cuts" s__law_cuts f fd) : FnOk P w K mg base CX0 (3 + 1) f fd ["_law_bridges", "_law_wheels_here"] (spOf K ca φ__law_cuts) :=
  fn_ok F sc__law_cuts rfl rfl rfl (fun cdv A outer s H E hr => (svs_cons (sv_set (i := 2) sc__law_cuts.nd rfl (.inl rfl) (ev_lst av_nil)) (svs_cons (sv_for PassesOwn.never rfl (iv_rg1 rfl Z.z_range (av_cons (ev_op op_shl od_shl (ev_c pe_int fun _ => .int _) (ev_op op_sub od_sub (ev_callB call_lenA cd_len rfl Z.z_len b_len (av_cons (ev_var (pv 1)) av_nil)) (ev_c pe_int fun _ => .int _))) av_nil)) (gv_name sc__law_cuts.nd rfl (.inl rfl)) (svs_cons (sv_setT (i := 4) sc__law_cuts.nd rfl (.inl rfl) (tr_lst (trs_cons (tr_ev (ev_lst (av_cons (ev_ix ix_seq od_ix (ev_var (pv 1)) (ev_c pe_int fun _ => .int _) (fun _ _ => rfl)) av_nil))) trs_nil))) (svs_cons (sv_for PassesOwn.never rfl (iv_rg2 rfl Z.z_range (av_cons (ev_c pe_int fun _ => .int _) (av_cons (ev_callB call_lenA cd_len rfl Z.z_len b_len (av_cons (ev_var (pv 1)) av_nil)) av_nil))) (gv_name sc__law_cuts.nd rfl (.inl rfl)) (svs_cons (sv_if (tv_cmp (op_eqA hr.units) od_eq (ev_op op_and od_and (ev_op op_shr od_shr (ev_var (pv 3)) (ev_op op_sub od_sub (ev_var (pv 5)) (ev_c pe_int fun _ => .int _))) (ev_c pe_int fun _ => .int _)) (ev_c pe_int fun _ => .int _) (nomark _)) (svs_cons (sv_appT (i := 4) (pe_bm PySem.F.plainAttrs_list PySem.F.slot_list_append PySem.F.type_list_append mt_append (pv 4) (pa_cons (ev_lst av_nil) pa_nil))) svs_nil) svs_nil) (svs_cons (sv_appL (i := 4) (pe_bm PySem.F.plainAttrs_list PySem.F.slot_list_append PySem.F.type_list_append mt_append (pe_ix ix_seq (pv 4) (ev_un un_neg ud_neg (ev_c pe_int fun _ => .int _)) (fun _ _ => rfl)) (pa_cons (ev_ix ix_seq od_ix (ev_var (pv 1)) (ev_var (pv 5)) (fun _ _ => rfl)) pa_nil))) svs_nil)) rfl) (svs_cons (sv_if (tv_th (i := 4) (tv_val (ev_callB (cr_all rfl) cd_all rfl Z.z_all b_all (av_cons (ev_lc rfl sc__law_cuts.nd (iv_seq (ev_var (pv 4))) (blk_by (own := [("_law_part", 6)]) (N := ["_law_bridges", "_law_wheels_here", "_law_found", "_law_bits", "_law_cut", "_law_k", "_law_part"]) (sc := defScope s__law_cuts) rfl rfl (by decide +kernel)) rfl (fun _ _ _ _ _ => (gv_name sc__law_cuts.nd rfl (.inl rfl))) (fun _ _ _ _ _ => cv_nil) (fun _ _ _ _ _ => (ev_fn C__law_fits (hr.mono (by decide)) rfl (av_cons (ev_var (pv 0)) (av_cons (ev_var (pv 6)) av_nil)))) (by decide) gN_ln) av_nil)))) (svs_cons (sv_fzT (i := 4) (sv_app (i := 2) (pv 2) (ev_tup (av_cons (ev_callB call_lenA cd_len rfl Z.z_len b_len (av_cons (ev_var (pv 4)) av_nil)) (av_cons (ev_lc rfl sc__law_cuts.nd (iv_seq (ev_var (pv 4))) (blk_by (own := [("_law_part", 6)]) (N := ["_law_bridges", "_law_wheels_here", "_law_found", "_law_bits", "_law_cut", "_law_k", "_law_part"]) (sc := defScope s__law_cuts) rfl rfl (by decide +kernel)) rfl (fun _ _ _ _ _ => (gv_name sc__law_cuts.nd rfl (.inl rfl))) (fun _ _ _ _ _ => cv_nil) (fun _ _ _ _ _ => (ev_un un_neg ud_neg (ev_callB call_lenA cd_len rfl Z.z_len b_len (av_cons (ev_var (pv 6)) av_nil)))) (by decide) gN_ln) (av_cons (ev_var (pv 4)) av_nil)))) rfl (pe_bm PySem.F.plainAttrs_list PySem.F.slot_list_append PySem.F.type_list_append mt_append (pv 2) (pa_cons (ev_tup (av_cons (ev_callB call_lenA cd_len rfl Z.z_len b_len (av_cons (ev_var (pv 4)) av_nil)) (av_cons (ev_lc rfl sc__law_cuts.nd (iv_seq (ev_var (pv 4))) (blk_by (own := [("_law_part", 6)]) (N := ["_law_bridges", "_law_wheels_here", "_law_found", "_law_bits", "_law_cut", "_law_k", "_law_part"]) (sc := defScope s__law_cuts) rfl rfl (by decide +kernel)) rfl (fun _ _ _ _ _ => (gv_name sc__law_cuts.nd rfl (.inl rfl))) (fun _ _ _ _ _ => cv_nil) (fun _ _ _ _ _ => (ev_un un_neg ud_neg (ev_callB call_lenA cd_len rfl Z.z_len b_len (av_cons (ev_var (pv 6)) av_nil)))) (by decide) gN_ln) (av_cons (ev_var (pv 4)) av_nil)))) pa_nil)))) svs_nil) svs_nil) svs_nil))) rfl) (svs_cons (sv_ret (ev_callB (cr_sortedK (Nat.lt_of_succ_lt (room65 hr))) cd_sortK rfl Z.z_sorted b_sorted (av_cons (ev_var (pv 2)) av_nil))) svs_nil))))
theorem sc__law_blocked : FnScope ["_law_bridges", "_law_wheels_here", "_law_k", "_law_piece"] ["_law_bridges", "_law_wheels_here"] (defScope s__law_blocked) := ⟨rfl, rfl, rfl, by decide +kernel, rfl, by decide +kernel, by decide +kernel⟩
def m__law_blocked : Gm → Option Out := sCons (sFor (iA rg1R (aC (eA cLen (aC (eV 1) (aN))) (aN))) (gN 2) (sCons (sFor (iSeq (eV 0)) (gN 3) (sCons (sIf (bNot (bE (eA (callR φ__law_fits []) (aC (eA oLst (aC (eV 3) (aN))) (aC (eA oLst (aC (e2 oIx (eV 1) (eV 2)) (aN))) (aN)))))) (sCons (sRet (eA oTup (aC (e2 oIx (eV 3) (eC (.int 1))) (aC (eV 2) (aN))))) (sNil)) (sNil)) (sNil)) [3]) (sNil)) [2, 3]) (sCons (sRet (eC .non)) (sNil))
def φ__law_blocked : Phi := phi m__law_blocked 4 2
set_option maxHeartbeats 4000000 in
theorem ok__law_blocked {P : Program} {w : World} {K : PySem.W.Frag} {mg : Str → Option Value} {base : Heap} {ca : Nat → Addr} {f : Addr} {fd : FuncData} (Z : Blt mg) (C__law_fits : Callee P w K mg base ca 3 "_law_fits" φ__law_fits []) (F : FunA K "_law_blocked" "_law_blocked" s__law_blocked f fd) : FnOk P w K mg base CX0 (3 + 1) f fd ["_law_bridges", "_law_wheels_here"] (spOf K ca φ__law_blocked) :=
  fn_ok F sc__law_blocked rfl rfl rfl (fun cdv A outer s H E hr => (svs_cons (sv_for PassesOwn.never rfl (iv_rg1 rfl Z.z_range (av_cons (ev_callB call_lenA cd_len rfl Z.z_len b_len (av_cons (ev_var (pv 1)) av_nil)) av_nil)) (gv_name sc__law_blocked.nd rfl (.inl rfl)) (svs_cons (sv_for PassesOwn.never rfl (iv_seq (ev_var (pv 0))) (gv_name sc__law_blocked.nd rfl (.inl rfl)) (svs_cons (sv_if (tv_not (tv_val (ev_fn C__law_fits (hr.mono (by decide)) rfl (av_cons (ev_lst (av_cons (ev_var (pv 3)) av_nil)) (av_cons (ev_lst (av_cons (ev_ix ix_seq od_ix (ev_var (pv 1)) (ev_var (pv 2)) (fun _ _ => rfl)) av_nil)) av_nil))))) (svs_cons (sv_ret (ev_tup (av_cons (ev_ix ix_seq od_ix (ev_var (pv 3)) (ev_c pe_int fun _ => .int _) (fun _ _ => rfl)) (av_cons (ev_var (pv 2)) av_nil)))) svs_nil) svs_nil) svs_nil) rfl) svs_nil) rfl) (svs_cons (sv_ret (ev_c pe_non fun _ => .non)) svs_nil)))
theorem sc__law_asked : FnScope ["_law_road", "_law_cart", "_law_way", "_law_bridges", "_law_told", "_law_caught", "e", "_law_forbids", "_law_cut", "_law_due", "_law_part", "_law_one"] ["_law_road", "_law_cart", "_law_way", "_law_bridges"] (defScope s__law_asked) := ⟨rfl, rfl, rfl, by decide +kernel, rfl, by decide +kernel, by decide +kernel⟩
def m__law_asked : Gm → Option Out := sCons (sSet 4 (eC .non)) (sCons (sSet 5 (eC .non)) (sCons (sTry (sCons (sU (uC υ_parted (aC (eV 0) (aC (eV 1) (aC (eV 2) (aN))))) (kSet 4)) (sFz 4 (sNil))) 6 5 [7]) (sCons (sSet 7 (eA (callR φ__law_blocked []) (aC (eV 3) (aC (e1 (oFld "wheels") (eV 1)) (aN))))) (sCons (sIf (bE (e2 oIsN (eV 7) (eC .non))) (sCons (sIf (bOr (bNot (bE (e1 (cIsX [7] (fun c => xsub c 7)) (eV 5)))) (bOr (bE (e1 (cIsX [7] fun c => List.any [(fun c => xsub c 8), (fun c => xsub c 9)] fun tb => tb c) (eV 5))) (bE (e2 oIsN (eV 4) (eC .non))))) (sCons (sRet (eC (.bl false))) (sNil)) (sNil)) (sCons (sRet (eAnd (e1 (cIsX [7] (fun _ => true)) (eV 5)) (eA (callR φ__law_same []) (aC (eA oTup (aC (e1 (xFld [7] "bridge") (eV 5)) (aC (e1 (xFld [7] "wheel") (eV 5)) (aN)))) (aC (eV 7) (aN)))))) (sNil))) (sNil)) (sCons (sIf (bOr (bE (e2 oIsN (eV 5) (eC .non))) (bNot (bE (eIs .list (eV 4))))) (sCons (sRet (eC (.bl false))) (sNil)) (sNil)) (sCons (sSet 8 (e2 oIx (e2 oIx (eA (callR φ__law_cuts []) (aC (eV 3) (aC (e1 (oFld "wheels") (eV 1)) (aN)))) (eC (.int 0))) (eC (.int 2)))) (sCons (sIf (bOr (bE (e2 oNe (eA cLen (aC (eV 4) (aN))) (eA cLen (aC (eV 8) (aN))))) (bNot (bE (eA cAll (aC (eLc (iSeq (eV 4)) (gN 11) (bY) (e1 (cIsC [0, 1, 2, 3] 3) (eV 11)) [11]) (aN)))))) (sCons (sRet (eC (.bl false))) (sNil)) (sNil)) (sCons (sSet 9 (eLc (iSeq (eV 8)) (gN 10) (bY) (eA oTup (aC (e1 (oFld "name") (eV 1)) (aC (e1 (oFld "speed") (eV 1)) (aC (eV 10) (aN))))) [10])) (sCons (sFz 9 (sRet (eA (callR φ__law_same []) (aC (eLc (iSeq (eV 4)) (gN 11) (bY) (eA oTup (aC (e1 (oFld "name") (eV 11)) (aC (e1 (oFld "speed") (eV 11)) (aC (e1 (oFld "wheels") (eV 11)) (aN))))) [11]) (aC (eV 9) (aN)))))) (sNil))))))))))
def φ__law_asked : Phi := phi m__law_asked 12 4
set_option maxHeartbeats 4000000 in
theorem ok__law_asked {P : Program} {w : World} {K : PySem.W.Frag} {mg : Str → Option Value} {base : Heap} {ca : Nat → Addr} {f : Addr} {fd : FuncData} (Z : Blt mg) (C_parted : Callee P w K mg base ca 6 "parted" φ_parted []) (C__law_blocked : Callee P w K mg base ca 4 "_law_blocked" φ__law_blocked []) (C__law_same : Callee P w K mg base ca 23 "_law_same" φ__law_same []) (C__law_cuts : Callee P w K mg base ca 4 "_law_cuts" φ__law_cuts []) (N_Cart : mg "Cart" = some (.ref (ca 3))) (I_Cart : IsiK K ca [0, 1, 2, 3] 3) (X_parted : CalleeX P w K mg base ca 6 "parted" ψ_parted) (NX_Blocked : mg "Blocked" = some (.ref (ca 7))) (NX_NoWay : mg "NoWay" = some (.ref (ca 8))) (NX_TextError : mg "TextError" = some (.ref (ca 9))) (NX_WayError : mg "WayError" = some (.ref (ca 6))) (XT_WayError : ∀ c ∈ ([7] : List Nat), PySem.W.exmOne K (.ref (ca c)) (.ref (ca 6)) = some true) (XE : ∀ c ∈ ([7] : List Nat), ExcC K (ca c)) (XI_Blocked : IsX K ca [7] (.ref (ca 7)) (fun c => xsub c 7)) (XI_NoWay : IsX K ca [7] (.ref (ca 8)) (fun c => xsub c 8)) (XI_TextError : IsX K ca [7] (.ref (ca 9)) (fun c => xsub c 9)) (XI_ValueError : IsX K ca [7] (.type "ValueError") (fun _ => true)) (XF_bridge : XfS K ca [7] "bridge") (XF_wheel : XfS K ca [7] "wheel") (F : FunA K "_law_asked" "_law_asked" s__law_asked f fd) : FnOk P w K mg base CX0 (23 + 1) f fd ["_law_road", "_law_cart", "_law_way", "_law_bridges"] (spOf K ca φ__law_asked) :=
  fn_ok F sc__law_asked rfl rfl rfl (fun cdv A outer s H E hr => (svs_cons (sv_set (i := 4) sc__law_asked.nd rfl (.inl rfl) (ev_c pe_non fun _ => .non)) (svs_cons (sv_set (i := 5) sc__law_asked.nd rfl (.inl rfl) (ev_c pe_non fun _ => .non)) (svs_cons (sv_try (ie := 6) (i := 5) rfl rfl sc__law_asked.nd rfl rfl rfl rfl rfl NX_WayError XT_WayError (svs_cons (svU_set (i := 4) sc__law_asked.nd rfl (.inl rfl) (uv_call C_parted X_parted (fun _ _ => ups_n) (fun _ _ => ups_x) (hr.mono (by decide)) rfl (av_cons (ev_var (pv 0)) (av_cons (ev_var (pv 1)) (av_cons (ev_var (pv 2)) av_nil))))) (svs_fz (i := 4) svs_nil)) (fun _ _ => (x0U_oneN (x0U_set (i := 4) sc__law_asked.nd rfl (.inl rfl) (uv_call C_parted X_parted (fun _ _ => ups_n) (fun _ _ => ups_x) (hr.mono (by decide)) rfl (av_cons (ev_var (pv 0)) (av_cons (ev_var (pv 1)) (av_cons (ev_var (pv 2)) av_nil))))) (by repeat' (first | exact noex_nil | apply noex_cons | apply noex_if | apply noex_for | apply noex_wh | apply noex_fz | apply noex_oT | apply noex_fzT | exact noex_set | exact noex_asg | exact noex_ret | exact noex_retN | exact noex_nv | exact noex_bk | exact noex_ct | exact noex_exp | exact noex_app | exact noex_ext | exact noex_aug | exact noex_mv | exact noex_appL | exact noex_appT))))) (svs_cons (sv_set (i := 7) sc__law_asked.nd rfl (.inl rfl) (ev_fn C__law_blocked (hr.mono (by decide)) rfl (av_cons (ev_var (pv 3)) (av_cons (ev_fld (ev_var (pv 1)) rfl) av_nil)))) (svs_cons (sv_if (tv_cmp op_notN od_isn (ev_var (pv 7)) (ev_c pe_non fun _ => .non) (nomark _)) (svs_cons (sv_if (tv_w (wv_or (tv_not (tv_val (ev_isx rfl Z.z_isinstance b_isinstance (ev_var (pv 5)) (pe_glob (v := .ref (ca 7)) rfl NX_Blocked rfl) (.own _) XI_Blocked))) (wv_or (tv_val (ev_isxT (tbs := [(fun c => xsub c 8), (fun c => xsub c 9)]) rfl Z.z_isinstance b_isinstance (ev_var (pv 5)) XE (.cons (.own _) (.cons (.own _) .nil)) (.cons XI_NoWay (.cons XI_TextError .nil)) (by simp) (pa_cons (pe_glob (v := .ref (ca 8)) rfl NX_NoWay rfl) (pa_cons (pe_glob (v := .ref (ca 9)) rfl NX_TextError rfl) pa_nil)) (fun _ _ _ q => q))) (wv_one' (tv_cmp op_notN od_isn (ev_var (pv 4)) (ev_c pe_non fun _ => .non) (nomark _)))))) (svs_cons (sv_ret (ev_c pe_bl fun _ => .bl _)) svs_nil) svs_nil) (svs_cons (sv_ret (ev_and (ev_isx rfl Z.z_isinstance b_isinstance (ev_var (pv 5)) (pe_ty rfl Z.z_ValueError b_ValueError) (.ty _) XI_ValueError) (ev_one (ev_fn C__law_same (hr.mono (by decide)) rfl (av_cons (ev_tup (av_cons (ev_xfld XF_bridge (ev_var (pv 5))) (av_cons (ev_xfld XF_wheel (ev_var (pv 5))) av_nil))) (av_cons (ev_var (pv 7)) av_nil)))))) svs_nil)) svs_nil) (svs_cons (sv_if (tv_w (wv_or (tv_cmp op_notN od_isn (ev_var (pv 5)) (ev_c pe_non fun _ => .non) (nomark _)) (wv_one' (tv_not (tv_val (ev_isi (T := .list) rfl Z.z_isinstance b_isinstance (ev_var (pv 4)) (pe_ty rfl Z.z_list b_list))))))) (svs_cons (sv_ret (ev_c pe_bl fun _ => .bl _)) svs_nil) svs_nil) (svs_cons (sv_set (i := 8) sc__law_asked.nd rfl (.inl rfl) (ev_ix ix_seq od_ix (ev_ix ix_seq od_ix (ev_fn C__law_cuts (hr.mono (by decide)) rfl (av_cons (ev_var (pv 3)) (av_cons (ev_fld (ev_var (pv 1)) rfl) av_nil))) (ev_c pe_int fun _ => .int _) (fun _ _ => rfl)) (ev_c pe_int fun _ => .int _) (fun _ _ => rfl))) (svs_cons (sv_if (tv_w (wv_or (tv_cmp (op_neA hr.units) od_ne (ev_callB call_lenA cd_len rfl Z.z_len b_len (av_cons (ev_var (pv 4)) av_nil)) (ev_callB call_lenA cd_len rfl Z.z_len b_len (av_cons (ev_var (pv 8)) av_nil)) (nomark _)) (wv_one' (tv_not (tv_val (ev_callB (cr_all rfl) cd_all rfl Z.z_all b_all (av_cons (ev_lc rfl sc__law_asked.nd (iv_seq (ev_var (pv 4))) (blk_by (own := [("_law_one", 11)]) (N := ["_law_road", "_law_cart", "_law_way", "_law_bridges", "_law_told", "_law_caught", "e", "_law_forbids", "_law_cut", "_law_due", "_law_part", "_law_one"]) (sc := defScope s__law_asked) rfl rfl (by decide +kernel)) rfl (fun _ _ _ _ _ => (gv_name sc__law_asked.nd rfl (.inl rfl))) (fun _ _ _ _ _ => cv_nil) (fun _ _ _ _ _ => (ev_isc (cs := [0, 1, 2, 3]) rfl Z.z_isinstance b_isinstance (ev_var (pv 11)) rfl N_Cart I_Cart)) (by decide) gN_ln) av_nil))))))) (svs_cons (sv_ret (ev_c pe_bl fun _ => .bl _)) svs_nil) svs_nil) (svs_cons (sv_setLc (i := 9) rfl sc__law_asked.nd rfl rfl (sw_true rfl rfl rfl (by decide +kernel)) (iv_seq (ev_var (pv 8))) (blk_by (own := [("_law_part", 10)]) (N := ["_law_road", "_law_cart", "_law_way", "_law_bridges", "_law_told", "_law_caught", "e", "_law_forbids", "_law_cut", "_law_due", "_law_part", "_law_one"]) (sc := defScope s__law_asked) rfl rfl (by decide +kernel)) rfl (fun _ _ _ _ _ => (gv_name sc__law_asked.nd rfl (.inl rfl))) (fun _ _ _ _ _ => cv_nil) (fun _ _ _ _ _ => (ev_tup (av_cons (ev_fld (ev_var (pv 1)) rfl) (av_cons (ev_fld (ev_var (pv 1)) rfl) (av_cons (ev_var (pv 10)) av_nil))))) (by decide) gN_ln) (svs_cons (sv_fz (i := 9) (sv_ret (ev_fn C__law_same (hr.mono (by decide)) rfl (av_cons (ev_lc rfl sc__law_asked.nd (iv_seq (ev_var (pv 4))) (blk_by (own := [("_law_one", 11)]) (N := ["_law_road", "_law_cart", "_law_way", "_law_bridges", "_law_told", "_law_caught", "e", "_law_forbids", "_law_cut", "_law_due", "_law_part", "_law_one"]) (sc := defScope s__law_asked) rfl rfl (by decide +kernel)) rfl (fun _ _ _ _ _ => (gv_name sc__law_asked.nd rfl (.inl rfl))) (fun _ _ _ _ _ => cv_nil) (fun _ _ _ _ _ => (ev_tup (av_cons (ev_fld (ev_var (pv 11)) rfl) (av_cons (ev_fld (ev_var (pv 11)) rfl) (av_cons (ev_fld (ev_var (pv 11)) rfl) av_nil))))) (by decide) gN_ln) (av_cons (ev_var (pv 9)) av_nil))))) svs_nil)))))))))))
theorem sc_law : FnScope ["_law_script", "_law_cell_here", "_law_drawn", "_law_wheels_here", "_law_bridges", "_law_rounds", "_law_pieces_here", "_law_k", "_law_road", "_law_cart", "_law_way", "_law_one", "_law_other"] ["_law_script"] (defScope s_law) := ⟨rfl, rfl, rfl, by decide +kernel, rfl, by decide +kernel, by decide +kernel⟩
def m_law : Gm → Option Out := sCons (sSet 1 (e2 oAdd (eA (callR φ__law_cell []) (aC (eV 0) (aC (eC (.int 0)) (aN)))) (eA cLen (aC (eV 0) (aN))))) (sCons (sSet 2 (eA (callR φ__law_mix []) (aC (eV 1) (aC (eC (.int 101)) (aC (eC (.int 1000039)) (aN)))))) (sCons (sSet 3 (eA (callR φ__law_wheels []) (aC (eV 1) (aC (e2 oAdd (eC (.int 1)) (e2 oMod (eV 2) (eC (.int 6)))) (aN))))) (sCons (sSet 4 (eA oLst (aN))) (sCons (sSet 5 (eA oLst (aN))) (sCons (sSet 6 (eA oLst (aC (eA oTup (aC (eC (.str "open")) (aC (eC (.int 200)) (aN)))) (aN)))) (sCons (sFz 3 (sFor (iA rg1R (aC (e2 oAdd (eC (.int 1)) (e2 oMod (e2 oDiv (eV 2) (eC (.int 6))) (eC (.int 3)))) (aN))) (gN 7) (sCons (sSet 11 (e2 oAdd (eA (callR φ__law_cell []) (aC (eV 0) (aC (e2 oAdd (eC (.int 1)) (eV 7)) (aN)))) (e2 oMulA (eC (.int 65537)) (eV 7)))) (sCons (sApp 4 (eA (callR φ__law_narrow []) (aC (eV 11) (aC (eV 3) (aC (e2 oMulA (e2 oIx (eC (.str "abc")) (eV 7)) (e2 oAdd (eC (.int 1)) (e2 oMod (e2 oDiv (eV 2) (eC (.int 24))) (eC (.int 9))))) (aN)))))) (sCons (sSet 6 (e2 oAdd (eV 6) (eA oLst (aC (e2 oIx (eV 4) (eV 7)) (aC (eA oTup (aC (eC (.str "open")) (aC (eC (.int 300)) (aN)))) (aN)))))) (sCons (sIf (bE (e2 oEq (e2 oMod (eA (callR φ__law_mix []) (aC (eV 11) (aC (eC (.int 102)) (aC (eC (.int 1000081)) (aN))))) (eC (.int 3))) (eC (.int 0)))) (sCons (sApp 5 (eA oTup (aC (e2 oIx (e2 oIx (eV 4) (eV 7)) (eC (.int 1))) (aC (eC (.int 77)) (aN))))) (sNil)) (sNil)) (sNil))))) [7, 11, 4, 6, 5])) (sCons (sFz 6 (sFz 5 (sSet 8 (eA (cMkN 2 3 ini_Road) (aC (eA (callR φ__law_pieces []) (aC (eV 6) (aN))) (aC (eV 5) (aC (eA oLst (aN)) (aN)))))))) (sCons (sFz 3 (sSet 9 (eA (cMkN 3 3 ini_Cart) (aC (eC (.str "load")) (aC (e2 oAdd (eC (.int 1)) (e2 oMod (e2 oDiv (eV 2) (eC (.int 200))) (eC (.int 12)))) (aC (eV 3) (aN))))))) (sCons (sFor (iSeq (eA (callR φ_ways_of []) (aC (eV 8) (aN)))) (gN 10) (sCons (sIf (bNot (bE (eA (callR φ__law_asked []) (aC (eV 8) (aC (eV 9) (aC (eV 10) (aC (eLc (iA rg1R (aC (eA cLen (aC (eV 4) (aN))) (aN))) (gN 7) (bE (e2 oIx (eV 10) (eV 7))) (e2 oIx (eV 4) (eV 7)) [7]) (aN)))))))) (sCons (sRet (eC (.bl false))) (sNil)) (sNil)) (sNil)) [10]) (sCons (sFz 4 (sFor (iSeq (eSl (eV 0) (pS (eC (.int 4))) (pS (eC (.int 6))))) (gN 11) (sCons (sSet 12 (eA (callR φ__law_wheels []) (aC (eV 11) (aC (e2 oAdd (eC (.int 1)) (e2 oMod (eA (callR φ__law_mix []) (aC (eV 11) (aC (eC (.int 105)) (aC (eC (.int 1000003)) (aN))))) (eC (.int 5)))) (aN))))) (sCons (sFz 12 (sIf (bNot (bE (eA (callR φ__law_asked []) (aC (eV 8) (aC (eA (cMkN 3 3 ini_Cart) (aC (eC (.str "other")) (aC (eC (.int 3)) (aC (eV 12) (aN))))) (aC (e2 oIx (eA (callR φ_ways_of []) (aC (eV 8) (aN))) (eC (.int 0))) (aC (eV 4) (aN)))))))) (sCons (sRet (eC (.bl false))) (sNil)) (sNil))) (sNil))) [11, 12, 12])) (sCons (sRet (e2 oEq (e1 (oFld "wheels") (eV 9)) (eV 3))) (sNil))))))))))))
def φ_law : Phi := phi m_law 13 1
set_option maxHeartbeats 4000000 in
theorem ok_law {P : Program} {w : World} {K : PySem.W.Frag} {mg : Str → Option Value} {base : Heap} {ca : Nat → Addr} {f : Addr} {fd : FuncData} (Z : Blt mg) (C__law_cell : Callee P w K mg base ca 1 "_law_cell" φ__law_cell []) (C__law_mix : Callee P w K mg base ca 1 "_law_mix" φ__law_mix []) (C__law_wheels : Callee P w K mg base ca 2 "_law_wheels" φ__law_wheels []) (C__law_narrow : Callee P w K mg base ca 3 "_law_narrow" φ__law_narrow []) (C__law_pieces : Callee P w K mg base ca 4 "_law_pieces" φ__law_pieces []) (C_ways_of : Callee P w K mg base ca 3 "ways_of" φ_ways_of []) (C__law_asked : Callee P w K mg base ca 24 "_law_asked" φ__law_asked []) (W_Cart : Maker P w K mg base ca 1 3 3 "Cart" ini_Cart) (W_Road : Maker P w K mg base ca 1 2 3 "Road" ini_Road) (F : FunA K "law" "law" s_law f fd) : FnOk P w K mg base CX0 (24 + 1) f fd ["_law_script"] (spOf K ca φ_law) :=
  fn_ok F sc_law rfl rfl rfl (fun cdv A outer s H E hr => (svs_cons (sv_set (i := 1) sc_law.nd rfl (.inl rfl) (ev_op op_addA od_add (ev_fn C__law_cell (hr.mono (by decide)) rfl (av_cons (ev_var (pv 0)) (av_cons (ev_c pe_int fun _ => .int _) av_nil))) (ev_callB call_lenA cd_len rfl Z.z_len b_len (av_cons (ev_var (pv 0)) av_nil)))) (svs_cons (sv_set (i := 2) sc_law.nd rfl (.inl rfl) (ev_fn C__law_mix (hr.mono (by decide)) rfl (av_cons (ev_var (pv 1)) (av_cons (ev_c pe_int fun _ => .int _) (av_cons (ev_c pe_int fun _ => .int _) av_nil))))) (svs_cons (sv_set (i := 3) sc_law.nd rfl (.inl rfl) (ev_fn C__law_wheels (hr.mono (by decide)) rfl (av_cons (ev_var (pv 1)) (av_cons (ev_op op_addA od_add (ev_c pe_int fun _ => .int _) (ev_op op_modN od_mod (ev_var (pv 2)) (ev_c pe_int fun _ => .int _))) av_nil)))) (svs_cons (sv_set (i := 4) sc_law.nd rfl (.inr rfl) (ev_lst av_nil)) (svs_cons (sv_set (i := 5) sc_law.nd rfl (.inl rfl) (ev_lst av_nil)) (svs_cons (sv_set (i := 6) sc_law.nd rfl (.inl rfl) (ev_lst (av_cons (ev_tup (av_cons (ev_c pe_str fun _ => .str _) (av_cons (ev_c pe_int fun _ => .int _) av_nil))) av_nil))) (svs_cons (sv_fz (i := 3) (sv_for PassesOwn.never rfl (iv_rg1 rfl Z.z_range (av_cons (ev_op op_addA od_add (ev_c pe_int fun _ => .int _) (ev_op op_modN od_mod (ev_op op_fdivB od_div (ev_var (pv 2)) (ev_c pe_int fun _ => .int _)) (ev_c pe_int fun _ => .int _))) av_nil)) (gv_name sc_law.nd rfl (.inl rfl)) (svs_cons (sv_set (i := 11) sc_law.nd rfl (.inl rfl) (ev_op op_addA od_add (ev_fn C__law_cell (hr.mono (by decide)) rfl (av_cons (ev_var (pv 0)) (av_cons (ev_op op_addA od_add (ev_c pe_int fun _ => .int _) (ev_var (pv 7))) av_nil))) (ev_op op_mulA od_mul (ev_c pe_int fun _ => .int _) (ev_var (pv 7))))) (svs_cons (sv_app (i := 4) (pv 4) (ev_fn C__law_narrow (hr.mono (by decide)) rfl (av_cons (ev_var (pv 11)) (av_cons (ev_var (pv 3)) (av_cons (ev_op op_mulA od_mul (ev_ix ix_seq od_ix (ev_c pe_str fun _ => .str _) (ev_var (pv 7)) (fun _ _ => rfl)) (ev_op op_addA od_add (ev_c pe_int fun _ => .int _) (ev_op op_modN od_mod (ev_op op_fdivB od_div (ev_var (pv 2)) (ev_c pe_int fun _ => .int _)) (ev_c pe_int fun _ => .int _)))) av_nil)))) rfl (pe_bm PySem.F.plainAttrs_list PySem.F.slot_list_append PySem.F.type_list_append mt_append (pv 4) (pa_cons (ev_fn C__law_narrow (hr.mono (by decide)) rfl (av_cons (ev_var (pv 11)) (av_cons (ev_var (pv 3)) (av_cons (ev_op op_mulA od_mul (ev_ix ix_seq od_ix (ev_c pe_str fun _ => .str _) (ev_var (pv 7)) (fun _ _ => rfl)) (ev_op op_addA od_add (ev_c pe_int fun _ => .int _) (ev_op op_modN od_mod (ev_op op_fdivB od_div (ev_var (pv 2)) (ev_c pe_int fun _ => .int _)) (ev_c pe_int fun _ => .int _)))) av_nil)))) pa_nil))) (svs_cons (sv_set (i := 6) sc_law.nd rfl (.inl rfl) (ev_op op_addA od_add (ev_var (pv 6)) (ev_lst (av_cons (ev_ix ix_seq od_ix (ev_var (pv 4)) (ev_var (pv 7)) (fun _ _ => rfl)) (av_cons (ev_tup (av_cons (ev_c pe_str fun _ => .str _) (av_cons (ev_c pe_int fun _ => .int _) av_nil))) av_nil))))) (svs_cons (sv_if (tv_cmp (op_eqA hr.units) od_eq (ev_op op_modN od_mod (ev_fn C__law_mix (hr.mono (by decide)) rfl (av_cons (ev_var (pv 11)) (av_cons (ev_c pe_int fun _ => .int _) (av_cons (ev_c pe_int fun _ => .int _) av_nil)))) (ev_c pe_int fun _ => .int _)) (ev_c pe_int fun _ => .int _) (nomark _)) (svs_cons (sv_app (i := 5) (pv 5) (ev_tup (av_cons (ev_ix ix_seq od_ix (ev_ix ix_seq od_ix (ev_var (pv 4)) (ev_var (pv 7)) (fun _ _ => rfl)) (ev_c pe_int fun _ => .int _) (fun _ _ => rfl)) (av_cons (ev_c pe_int fun _ => .int _) av_nil))) rfl (pe_bm PySem.F.plainAttrs_list PySem.F.slot_list_append PySem.F.type_list_append mt_append (pv 5) (pa_cons (ev_tup (av_cons (ev_ix ix_seq od_ix (ev_ix ix_seq od_ix (ev_var (pv 4)) (ev_var (pv 7)) (fun _ _ => rfl)) (ev_c pe_int fun _ => .int _) (fun _ _ => rfl)) (av_cons (ev_c pe_int fun _ => .int _) av_nil))) pa_nil))) svs_nil) svs_nil) svs_nil)))) rfl)) (svs_cons (sv_fz (i := 6) (sv_fz (i := 5) (sv_set (i := 8) sc_law.nd rfl (.inl rfl) (ev_make W_Road (hr.mono (by decide)) rfl (av_cons (ev_fn C__law_pieces (hr.mono (by decide)) rfl (av_cons (ev_var (pv 6)) av_nil)) (av_cons (ev_var (pv 5)) (av_cons (ev_lst av_nil) av_nil))))))) (svs_cons (sv_fz (i := 3) (sv_set (i := 9) sc_law.nd rfl (.inl rfl) (ev_make W_Cart (hr.mono (by decide)) rfl (av_cons (ev_c pe_str fun _ => .str _) (av_cons (ev_op op_addA od_add (ev_c pe_int fun _ => .int _) (ev_op op_modN od_mod (ev_op op_fdivB od_div (ev_var (pv 2)) (ev_c pe_int fun _ => .int _)) (ev_c pe_int fun _ => .int _))) (av_cons (ev_var (pv 3)) av_nil)))))) (svs_cons (sv_for PassesOwn.never rfl (iv_seq (ev_fn C_ways_of (hr.mono (by decide)) rfl (av_cons (ev_var (pv 8)) av_nil))) (gv_name sc_law.nd rfl (.inr rfl)) (svs_cons (sv_if (tv_not (tv_val (ev_fn C__law_asked (hr.mono (by decide)) rfl (av_cons (ev_var (pv 8)) (av_cons (ev_var (pv 9)) (av_cons (ev_var (pv 10)) (av_cons (ev_lc rfl sc_law.nd (iv_rg1 rfl Z.z_range (av_cons (ev_callB call_lenA cd_len rfl Z.z_len b_len (av_cons (ev_var (pv 4)) av_nil)) av_nil)) (blk_by (own := [("_law_k", 7)]) (N := ["_law_script", "_law_cell_here", "_law_drawn", "_law_wheels_here", "_law_bridges", "_law_rounds", "_law_pieces_here", "_law_k", "_law_road", "_law_cart", "_law_way", "_law_one", "_law_other"]) (sc := defScope s_law) rfl rfl (by decide +kernel)) rfl (fun _ _ _ _ _ => (gv_name sc_law.nd rfl (.inl rfl))) (fun _ _ _ _ _ => (cv_one (tv_val (ev_ix ix_seq od_ix (ev_var (pv 10)) (ev_var (pv 7)) (fun _ _ => rfl))))) (fun _ _ _ _ _ => (ev_ix ix_seq od_ix (ev_var (pv 4)) (ev_var (pv 7)) (fun _ _ => rfl))) (by decide) gN_ln) av_nil))))))) (svs_cons (sv_ret (ev_c pe_bl fun _ => .bl _)) svs_nil) svs_nil) svs_nil) rfl) (svs_cons (sv_fz (i := 4) (sv_for PassesOwn.never rfl (iv_seq (ev_slice (ev_var (pv 0)) (ov_some (ev_c pe_int fun _ => .int _)) (ov_some (ev_c pe_int fun _ => .int _)))) (gv_name sc_law.nd rfl (.inl rfl)) (svs_cons (sv_set (i := 12) sc_law.nd rfl (.inl rfl) (ev_fn C__law_wheels (hr.mono (by decide)) rfl (av_cons (ev_var (pv 11)) (av_cons (ev_op op_addA od_add (ev_c pe_int fun _ => .int _) (ev_op op_modN od_mod (ev_fn C__law_mix (hr.mono (by decide)) rfl (av_cons (ev_var (pv 11)) (av_cons (ev_c pe_int fun _ => .int _) (av_cons (ev_c pe_int fun _ => .int _) av_nil)))) (ev_c pe_int fun _ => .int _))) av_nil)))) (svs_cons (sv_fz (i := 12) (sv_if (tv_not (tv_val (ev_fn C__law_asked (hr.mono (by decide)) rfl (av_cons (ev_var (pv 8)) (av_cons (ev_make W_Cart (hr.mono (by decide)) rfl (av_cons (ev_c pe_str fun _ => .str _) (av_cons (ev_c pe_int fun _ => .int _) (av_cons (ev_var (pv 12)) av_nil)))) (av_cons (ev_ix ix_seq od_ix (ev_fn C_ways_of (hr.mono (by decide)) rfl (av_cons (ev_var (pv 8)) av_nil)) (ev_c pe_int fun _ => .int _) (fun _ _ => rfl)) (av_cons (ev_var (pv 4)) av_nil))))))) (svs_cons (sv_ret (ev_c pe_bl fun _ => .bl _)) svs_nil) svs_nil)) svs_nil)) rfl)) (svs_cons (sv_ret (ev_cmp (op_eqA hr.units) od_eq (ev_fld (ev_var (pv 9)) rfl) (ev_var (pv 3)) (nomark _))) svs_nil)))))))))))))
end G
namespace G
open PySem L2 BK
set_option autoImplicit false
noncomputable def sh_offsets_of (wheels : (List (Int × Int × Int))) : Option (List Int) :=
  b1 (forO (fun (e3 : (Int × (Int × Int × Int))) (st3 : Int × (List Int)) =>
      b1 (if (decide ((0 : Int) < e3.1)) = true then
          lt (st3.1 + e3.2.1) fun (far' : Int) =>
          some far'
        else
          some st3.1) fun far'2 =>
      grd (List.length st3.2 < 16777216) <|
      lt (st3.2 ++ [far'2]) fun (offsets' : (List Int)) =>
      some (far'2, offsets')) (enI wheels) ((0 : Int), [])) fun u1 =>
  some u1.2
set_option maxHeartbeats 2000000 in
theorem sim_offsets_of {wheels : (List (Int × Int × Int))} {r : (List Int)} (e : sh_offsets_of wheels = some r) : φ_offsets_of [(eL (eP3 D.int D.int D.int)) wheels] = some ((fun v => R.tm (List.map D.int v)) r) := by
  refine sim_phi (m := m_offsets_of) (N := 5) (n := 1) (ds := [(eL (eP3 D.int D.int D.int)) wheels]) (s := sh_offsets_of wheels) (k := (fun v => R.tm (List.map D.int v))) rfl ?_ e
  show J m_offsets_of nxt [.va ((eL (eP3 D.int D.int D.int)) wheels), .un, .un, .un, .un] (sh_offsets_of wheels) (PF (fun v => R.tm (List.map D.int v)))
  unfold m_offsets_of sh_offsets_of
  refine j_setTN (i := 1) (g1 := [.va ((eL (eP3 D.int D.int D.int)) wheels), .ow (List.map D.int []), .un, .un, .un]) (xA xaN (f_lst rfl rfl rfl)) rfl ?_
  refine j_setN (i := 2) (g1 := [.va ((eL (eP3 D.int D.int D.int)) wheels), .ow (List.map D.int []), .va (D.int (0 : Int)), .un, .un]) rfl rfl ?_
  refine j_for (eP2 D.int (eP3 D.int D.int D.int)) (fun (st : Int × (List Int)) (g : Gm) => ∃ s1 s2 : Slot, g = [.va ((eL (eP3 D.int D.int D.int)) wheels), .ow (List.map D.int st.2), .va (D.int st.1), s1, s2]) (i_A (xaC (xV rfl) xaN) (f_en (e := (eP3 D.int D.int D.int)) (xs := wheels) rfl)) rfl ⟨_, _, rfl⟩ ?_ ?_
  · rintro e3 hx st3 g ⟨s1, s2, rfl⟩
    refine ⟨[.va ((eL (eP3 D.int D.int D.int)) wheels), .ow (List.map D.int st3.2), .va (D.int st3.1), .va (D.int e3.1), .va ((eP3 D.int D.int D.int) e3.2)], rfl, ?_⟩
    refine j_joinB (St := fun (st : Int) (g : Gm) => g = [.va ((eL (eP3 D.int D.int D.int)) wheels), .ow (List.map D.int st3.2), .va (D.int st), .va (D.int e3.1), .va ((eP3 D.int D.int D.int) e3.2)]) (t_val (x2 (xV rfl) rfl (oGt_def _ _))) (fun hc => ?_) (fun hc => ?_) ?_
    · refine j_aug (g1 := [.va ((eL (eP3 D.int D.int D.int)) wheels), .ow (List.map D.int st3.2), .va (D.int (st3.1 + e3.2.1)), .va (D.int e3.1), .va ((eP3 D.int D.int D.int) e3.2)]) (xV rfl) (x2 (xV rfl) rfl (f_ixC 0 rfl)) (oIAdd_int _ _) rfl ?_
      refine j_lt (fun (far' : Int) => [.va ((eL (eP3 D.int D.int D.int)) wheels), .ow (List.map D.int st3.2), .va (D.int far'), .va (D.int e3.1), .va ((eP3 D.int D.int D.int) e3.2)]) fun far' => ?_
      exact jn_end rfl
    · exact jn_end rfl
    rintro far'2 g rfl
    refine j_grd fun h1 => ?_
    refine j_appE (i := 1) (g1 := [.va ((eL (eP3 D.int D.int D.int)) wheels), .ow (List.map D.int (st3.2 ++ [far'2])), .va (D.int far'2), .va (D.int e3.1), .va ((eP3 D.int D.int D.int) e3.2)]) D.int st3.2 far'2 rfl (xV rfl) rfl rfl h1 rfl ?_
    refine j_lt (fun (offsets' : (List Int)) => [.va ((eL (eP3 D.int D.int D.int)) wheels), .ow (List.map D.int offsets'), .va (D.int far'2), .va (D.int e3.1), .va ((eP3 D.int D.int D.int) e3.2)]) fun offsets' => ?_
    exact jt_end ⟨_, _, rfl⟩
  rintro u1 g ⟨s1, s2, rfl⟩
  exact j_ret (xW rfl) rfl
noncomputable def sh_greatest_close (offsets : (List Int)) (weights : (List Int)) (width : Int) : Option Int :=
  b1 (forO (fun (e5 : (Int × Int)) (st5 : Int) =>
      grd ((-4611686018427387904 ≤ e5.1 ∧ e5.1 < 4611686018427387904) ∧ -4611686018427387904 ≤ (List.length offsets : Int) ∧ (List.length offsets : Int) < 4611686018427387904) <|
      b1 (forO (fun (e7 : Int) (st7 : Int) =>
          b1 (atI offsets e7) fun t1 =>
          b1 (if (decide ((t1 - e5.2) < width)) = true then
              b1 (atI weights e7) fun t2 =>
              lt (st7 + t2) fun (total' : Int) =>
              some total'
            else
              some st7) fun total'2 =>
          some total'2) (rgI e5.1 (List.length offsets : Int)) (0 : Int)) fun total'3 =>
      lt (Max.max st5 total'3) fun (greatest' : Int) =>
      some greatest') (enI offsets) (0 : Int)) fun greatest'2 =>
  some greatest'2
set_option maxHeartbeats 2000000 in
theorem sim_greatest_close {offsets : (List Int)} {weights : (List Int)} {width : Int} {r : Int} (e : sh_greatest_close offsets weights width = some r) : φ_greatest_close [(eL D.int) offsets, (eL D.int) weights, D.int width] = some ((fun v => R.va (D.int v)) r) := by
  refine sim_phi (m := m_greatest_close) (N := 8) (n := 3) (ds := [(eL D.int) offsets, (eL D.int) weights, D.int width]) (s := sh_greatest_close offsets weights width) (k := (fun v => R.va (D.int v))) rfl ?_ e
  show J m_greatest_close nxt [.va ((eL D.int) offsets), .va ((eL D.int) weights), .va (D.int width), .un, .un, .un, .un, .un] (sh_greatest_close offsets weights width) (PF (fun v => R.va (D.int v)))
  unfold m_greatest_close sh_greatest_close
  refine j_setN (i := 3) (g1 := [.va ((eL D.int) offsets), .va ((eL D.int) weights), .va (D.int width), .va (D.int (0 : Int)), .un, .un, .un, .un]) rfl rfl ?_
  refine j_for (eP2 D.int D.int) (fun (st : Int) (g : Gm) => ∃ s1 s2 s3 s4 : Slot, g = [.va ((eL D.int) offsets), .va ((eL D.int) weights), .va (D.int width), .va (D.int st), s3, s4, s1, s2]) (i_A (xaC (xV rfl) xaN) (f_en (e := D.int) (xs := offsets) rfl)) rfl ⟨_, _, _, _, rfl⟩ ?_ ?_
  · rintro e5 hx st5 g ⟨s1, s2, s3, s4, rfl⟩
    refine ⟨[.va ((eL D.int) offsets), .va ((eL D.int) weights), .va (D.int width), .va (D.int st5), .va (D.int e5.1), .va (D.int e5.2), s1, s2], rfl, ?_⟩
    refine j_setN (i := 6) (g1 := [.va ((eL D.int) offsets), .va ((eL D.int) weights), .va (D.int width), .va (D.int st5), .va (D.int e5.1), .va (D.int e5.2), .va (D.int (0 : Int)), s2]) rfl rfl ?_
    refine j_grd fun h1 => ?_
    refine j_for D.int (fun (st : Int) (g : Gm) => ∃ s6 : Slot, g = [.va ((eL D.int) offsets), .va ((eL D.int) weights), .va (D.int width), .va (D.int st5), .va (D.int e5.1), .va (D.int e5.2), .va (D.int st), s6]) (i_A (xaC (xV rfl) (xaC (xA (xaC (xV rfl) xaN) (f_lenL (e := D.int) (xs := offsets) rfl)) xaN)) (f_rg2 h1)) rfl ⟨_, rfl⟩ ?_ ?_
    · rintro e7 hx st7 g ⟨s6, rfl⟩
      refine ⟨[.va ((eL D.int) offsets), .va ((eL D.int) weights), .va (D.int width), .va (D.int st5), .va (D.int e5.1), .va (D.int e5.2), .va (D.int st7), .va (D.int e7)], rfl, ?_⟩
      refine j_b1 fun t1 h2 => ?_
      refine j_joinB (St := fun (st : Int) (g : Gm) => g = [.va ((eL D.int) offsets), .va ((eL D.int) weights), .va (D.int width), .va (D.int st5), .va (D.int e5.1), .va (D.int e5.2), .va (D.int st), .va (D.int e7)]) (t_val (x2 (x2 (x2 (xV rfl) (xV rfl) (f_ixL (e := D.int) (xs := offsets) rfl h2)) (xV rfl) (oSub_def _ _)) (xV rfl) (oLt_def _ _))) (fun hc => ?_) (fun hc => ?_) ?_
      · refine j_b1 fun t2 h3 => ?_
        refine j_aug (g1 := [.va ((eL D.int) offsets), .va ((eL D.int) weights), .va (D.int width), .va (D.int st5), .va (D.int e5.1), .va (D.int e5.2), .va (D.int (st7 + t2)), .va (D.int e7)]) (xV rfl) (x2 (xV rfl) (xV rfl) (f_ixL (e := D.int) (xs := weights) rfl h3)) (oIAdd_int _ _) rfl ?_
        refine j_lt (fun (total' : Int) => [.va ((eL D.int) offsets), .va ((eL D.int) weights), .va (D.int width), .va (D.int st5), .va (D.int e5.1), .va (D.int e5.2), .va (D.int total'), .va (D.int e7)]) fun total' => ?_
        exact jn_end rfl
      · exact jn_end rfl
      rintro total'2 g rfl
      exact jt_end ⟨_, rfl⟩
    rintro total'3 g ⟨s6, rfl⟩
    refine j_setN (i := 3) (g1 := [.va ((eL D.int) offsets), .va ((eL D.int) weights), .va (D.int width), .va (D.int (Max.max st5 total'3)), .va (D.int e5.1), .va (D.int e5.2), .va (D.int total'3), s6]) (xA (xaC (xV rfl) (xaC (xV rfl) xaN)) (cMax2_def _ _)) rfl ?_
    refine j_lt (fun (greatest' : Int) => [.va ((eL D.int) offsets), .va ((eL D.int) weights), .va (D.int width), .va (D.int greatest'), .va (D.int e5.1), .va (D.int e5.2), .va (D.int total'3), s6]) fun greatest' => ?_
    exact jt_end ⟨_, _, _, _, rfl⟩
  rintro greatest'2 g ⟨s1, s2, s3, s4, rfl⟩
  exact j_ret (xV rfl) rfl
noncomputable def sh_heaviest (wheels : (List (Int × Int × Int))) (width : Int) : Option Int :=
  b1 (sh_offsets_of wheels) fun t1 =>
  grd (List.length wheels ≤ 16777216) <|
  b1 (sh_greatest_close t1 (List.map (fun e1 : (Int × Int × Int) => e1.2.2) wheels) width) fun t2 =>
  some t2
set_option maxHeartbeats 2000000 in
theorem sim_heaviest {wheels : (List (Int × Int × Int))} {width : Int} {r : Int} (e : sh_heaviest wheels width = some r) : φ_heaviest [(eL (eP3 D.int D.int D.int)) wheels, D.int width] = some ((fun v => R.va (D.int v)) r) := by
  refine sim_phi (m := m_heaviest) (N := 5) (n := 2) (ds := [(eL (eP3 D.int D.int D.int)) wheels, D.int width]) (s := sh_heaviest wheels width) (k := (fun v => R.va (D.int v))) rfl ?_ e
  show J m_heaviest nxt [.va ((eL (eP3 D.int D.int D.int)) wheels), .va (D.int width), .un, .un, .un] (sh_heaviest wheels width) (PF (fun v => R.va (D.int v)))
  unfold m_heaviest sh_heaviest
  refine j_b1 fun t1 h1 => ?_
  refine j_grd fun h2 => ?_
  refine j_b1 fun t2 h3 => ?_
  exact j_ret (xA (xaC (xA (xaC (xV rfl) xaN) (f_call (@sim_offsets_of wheels _ h1) rfl (.inl rfl))) (xaC (x_lc (e := (eP3 D.int D.int D.int)) (e' := D.int) (xs := wheels) (v := fun e1 => e1.2.2) (fun e1 => R.va (D.int e1.2.2)) (i_seq (xV rfl) rfl) h2 (fun e1 _ => ⟨[.va ((eL (eP3 D.int D.int D.int)) wheels), .va (D.int width), .va (D.int e1.1), .va (D.int e1.2.1), .va (D.int e1.2.2)], rfl, (xV rfl)⟩)) (xaC (xV rfl) xaN))) (f_call (@sim_greatest_close t1 (List.map (fun e1 : (Int × Int × Int) => e1.2.2) wheels) width _ h3) rfl (.inl rfl))) rfl
noncomputable def sh_fits (bridge : Bg) (wheels : (List (Int × Int × Int))) : Option Bool :=
  b1 (sh_heaviest wheels bridge.length) fun t1 =>
  b1 (if (decide (t1 ≤ bridge.bears)) = true then b1 (sh_heaviest wheels bridge.wide) fun t2 => some (decide (t2 ≤ bridge.most)) else some false) fun t3 =>
  some t3
set_option maxHeartbeats 2000000 in
theorem sim_fits {bridge : Bg} {wheels : (List (Int × Int × Int))} {r : Bool} (e : sh_fits bridge wheels = some r) : φ_fits [insB bridge, (eL (eP3 D.int D.int D.int)) wheels] = some ((fun v => R.va (D.bl v)) r) := by
  refine sim_phi (m := m_fits) (N := 2) (n := 2) (ds := [insB bridge, (eL (eP3 D.int D.int D.int)) wheels]) (s := sh_fits bridge wheels) (k := (fun v => R.va (D.bl v))) rfl ?_ e
  show J m_fits nxt [.va (insB bridge), .va ((eL (eP3 D.int D.int D.int)) wheels)] (sh_fits bridge wheels) (PF (fun v => R.va (D.bl v)))
  unfold m_fits sh_fits
  refine j_b1 fun t1 h1 => ?_
  refine j_b1 fun t3 h3 => ?_
  exact j_ret (v_andP (x2 (xA (xaC (xV rfl) (xaC (x1 (xV rfl) (f_fld rfl)) xaN)) (f_call (@sim_heaviest wheels bridge.length _ h1) rfl (.inl rfl))) (x1 (xV rfl) (f_fld rfl)) (oLe_def _ _)) (fun _ => (sm_b1 fun t2 h2 => (sm_ret (x2 (xA (xaC (xV rfl) (xaC (x1 (xV rfl) (f_fld rfl)) xaN)) (f_call (@sim_heaviest wheels bridge.wide _ h2) rfl (.inl rfl))) (x1 (xV rfl) (f_fld rfl)) (oLe_def _ _)) rfl))) h3) rfl
def brs (ps : List Pc) : List Bg := ps.filterMap pcBr
theorem brs_filter (ps : List Pc) : (ps.filter isBr).map insP = (brs ps).map insB := by
  induction ps with
  | nil => rfl
  | cons p ps ih =>
    cases p with
    | inl n => exact ih
    | inr b => exact congrArg (insB b :: ·) ih
noncomputable def sh_bridges_of (road : Rd') : Option (List Bg) := grd (road.pieces.length ≤ 16777216) (some (brs road.pieces))
theorem sim_bridges_of {road : Rd'} {r : List Bg} (e : sh_bridges_of road = some r) : φ_bridges_of [eRo road] = some (.tm (r.map insB)) := by
  unfold sh_bridges_of grd at e
  split at e
  · rename_i hl2
    cases e
    rw [← brs_filter]
    have h := compL_filter (gN 1) (bE (e1 cIsB (eV 1))) (eV 1) [.va (eRo road), .un] insP insP isBr road.pieces (by
      intro x hx rest
      cases x <;> simp [insP, isBr])
    simp [φ_bridges_of, m_bridges_of, phi_def, h, hl2]
  · cases e
noncomputable def sh_round_of (road : Rd') (name : Str) : Option (Option Int) :=
  b1 (forC (fun (e3 : (Str × Int)) (st3 : Unit) =>
      if (decide (e3.1 = name)) = true then
          some (.rt (some e3.2))
      else
        some (.nx ())) road.rounds ()) fun c => ctl c (fun u1 =>
  some none) fun r => some r
set_option maxHeartbeats 2000000 in
theorem sim_round_of {road : Rd'} {name : Str} {r : (Option Int)} (e : sh_round_of road name = some r) : φ_round_of [eRo road, D.str name] = some ((fun v => R.va ((eO D.int) v)) r) := by
  refine sim_phi (m := m_round_of) (N := 4) (n := 2) (ds := [eRo road, D.str name]) (s := sh_round_of road name) (k := (fun v => R.va ((eO D.int) v))) rfl ?_ e
  show J m_round_of nxt [.va (eRo road), .va (D.str name), .un, .un] (sh_round_of road name) (PF (fun v => R.va ((eO D.int) v)))
  unfold m_round_of sh_round_of
  refine j_forC (eP2 D.str D.int) (fun (st : Unit) (g : Gm) => ∃ s1 s2 : Slot, g = [.va (eRo road), .va (D.str name), s1, s2]) (fun v => R.va ((eO D.int) v)) (i_seq (x1 (xV rfl) (f_fld rfl)) rfl) rfl ⟨_, _, rfl⟩ ?_ ?_ ?_
  · rintro e3 hx st3 g ⟨s1, s2, rfl⟩
    refine ⟨[.va (eRo road), .va (D.str name), .va (D.str e3.1), .va (D.int e3.2)], rfl, ?_⟩
    refine j_if (t_val (x2 (xV rfl) (xV rfl) (f_eq eqR_str))) (fun hc => ?_) (fun hc => ?_)
    · exact jc_ret (xV rfl) rfl
    · refine j_nilC ?_
      exact jc_end ⟨_, _, rfl⟩
  · rintro ⟨⟩ g ⟨s1, s2, rfl⟩
    exact j_ret rfl rfl
  · exact fun r => sm_ret rfl rfl
noncomputable def sh_ways_of (road : Rd') : Option (List (List Bool)) :=
  lt ([[]]) fun (ways : (List (List Bool))) =>
  b1 (sh_bridges_of road) fun t1 =>
  b1 (forO (fun (e5 : Bg) (st5 : (List (List Bool))) =>
      lt ([true]) fun (choices : (List Bool)) =>
      b1 (sh_round_of road e5.name) fun t2 =>
      b1 (if (Option.isSome t2) = true then
          lt ([true, false]) fun (choices' : (List Bool)) =>
          some choices'
        else
          some choices) fun choices'2 =>
      b1 (forO (fun (e7 : (List Bool)) (st7 : (List (List Bool))) =>
          grd (List.length choices'2 ≤ 16777216) <|
          b1 (mapO (fun e8 : Bool => grd (List.length e7 + List.length ([e8] : List Bool) ≤ 16777216) <| some (e7 ++ [e8])) choices'2) fun t3 =>
          grd (List.length st7 + List.length t3 ≤ 16777216) <|
          lt (st7 ++ t3) fun (longer' : (List (List Bool))) =>
          some longer') st5 []) fun longer'2 =>
      some longer'2) t1 ways) fun ways' =>
  some ways'
set_option maxHeartbeats 2000000 in
theorem sim_ways_of {road : Rd'} {r : (List (List Bool))} (e : sh_ways_of road = some r) : φ_ways_of [eRo road] = some ((fun v => R.tm (List.map (eT D.bl) v)) r) := by
  refine sim_phi (m := m_ways_of) (N := 7) (n := 1) (ds := [eRo road]) (s := sh_ways_of road) (k := (fun v => R.tm (List.map (eT D.bl) v))) rfl ?_ e
  show J m_ways_of nxt [.va (eRo road), .un, .un, .un, .un, .un, .un] (sh_ways_of road) (PF (fun v => R.tm (List.map (eT D.bl) v)))
  unfold m_ways_of sh_ways_of
  refine j_setTN (i := 1) (g1 := [.va (eRo road), .ow (List.map (eT D.bl) [[]]), .un, .un, .un, .un, .un]) (xA (xaC (xA xaN (f_tup rfl rfl rfl)) xaN) (f_lst rfl rfl rfl)) rfl ?_
  refine j_lt (fun (ways : (List (List Bool))) => [.va (eRo road), .ow (List.map (eT D.bl) ways), .un, .un, .un, .un, .un]) fun ways => ?_
  refine j_b1 fun t1 h1 => ?_
  refine j_for insB (fun (st : (List (List Bool))) (g : Gm) => ∃ s1 s2 s3 s4 : Slot, g = [.va (eRo road), .ow (List.map (eT D.bl) st), s4, s1, s2, s3, .un]) (i_seq (xA (xaC (xV rfl) xaN) (f_call (@sim_bridges_of road _ h1) rfl (.inl rfl))) rfl) rfl ⟨_, _, _, _, rfl⟩ ?_ ?_
  · rintro e5 hx st5 g ⟨s1, s2, s3, s4, rfl⟩
    refine ⟨[.va (eRo road), .ow (List.map (eT D.bl) st5), .va (insB e5), s1, s2, s3, .un], rfl, ?_⟩
    refine j_setTN (i := 3) (g1 := [.va (eRo road), .ow (List.map (eT D.bl) st5), .va (insB e5), .ow (List.map D.bl [true]), s2, s3, .un]) (xA (xaC rfl xaN) (f_lst rfl rfl rfl)) rfl ?_
    refine j_lt (fun (choices : (List Bool)) => [.va (eRo road), .ow (List.map (eT D.bl) st5), .va (insB e5), .ow (List.map D.bl choices), s2, s3, .un]) fun choices => ?_
    refine j_b1 fun t2 h2 => ?_
    refine j_joinB (St := fun (st : (List Bool)) (g : Gm) => g = [.va (eRo road), .ow (List.map (eT D.bl) st5), .va (insB e5), .ow (List.map D.bl st), s2, s3, .un]) (t_val (x2 (xA (xaC (xV rfl) (xaC (x1 (xV rfl) (f_fld rfl)) xaN)) (f_call (@sim_round_of road e5.name _ h2) rfl (.inl rfl))) rfl (f_isNO (fun _ => rfl) _))) (fun hc => ?_) (fun hc => ?_) ?_
    · refine j_setTN (i := 3) (g1 := [.va (eRo road), .ow (List.map (eT D.bl) st5), .va (insB e5), .ow (List.map D.bl [true, false]), s2, s3, .un]) (xA (xaC rfl (xaC rfl xaN)) (f_lst rfl rfl rfl)) rfl ?_
      refine j_lt (fun (choices' : (List Bool)) => [.va (eRo road), .ow (List.map (eT D.bl) st5), .va (insB e5), .ow (List.map D.bl choices'), s2, s3, .un]) fun choices' => ?_
      exact jn_end rfl
    · exact jn_end rfl
    rintro choices'2 g rfl
    refine j_setTN (i := 4) (g1 := [.va (eRo road), .ow (List.map (eT D.bl) st5), .va (insB e5), .ow (List.map D.bl choices'2), .ow (List.map (eT D.bl) []), s3, .un]) (xA xaN (f_lst rfl rfl rfl)) rfl ?_
    refine j_for (eT D.bl) (fun (st : (List (List Bool))) (g : Gm) => ∃ s6 : Slot, g = [.va (eRo road), .ow (List.map (eT D.bl) st5), .va (insB e5), .ow (List.map D.bl choices'2), .ow (List.map (eT D.bl) st), s6, .un]) (i_seq (xW rfl) rfl) rfl ⟨_, rfl⟩ ?_ ?_
    · rintro e7 hx st7 g ⟨s6, rfl⟩
      refine ⟨[.va (eRo road), .ow (List.map (eT D.bl) st5), .va (insB e5), .ow (List.map D.bl choices'2), .ow (List.map (eT D.bl) st7), .va ((eT D.bl) e7), .un], rfl, ?_⟩
      refine j_grd fun h3 => ?_
      refine j_b1 fun t3 h5 => ?_
      refine j_grd fun h6 => ?_
      refine j_ext (i := 4) (g1 := [.va (eRo road), .ow (List.map (eT D.bl) st5), .va (insB e5), .ow (List.map D.bl choices'2), .ow (List.map (eT D.bl) (st7 ++ t3)), .va ((eT D.bl) e7), .un]) rfl (x_lcO (e := D.bl) (e' := (eT D.bl)) (xs := choices'2) (fun y8 => R.va ((eT D.bl) y8)) (i_seq (xW rfl) rfl) h3 (fun e8 _ => ⟨[.va (eRo road), .ow (List.map (eT D.bl) st5), .va (insB e5), .ow (List.map D.bl choices'2), .ow (List.map (eT D.bl) st7), .va ((eT D.bl) e7), .va (D.bl e8)], rfl, (sm_grd fun h4 => (sm_ret (x2 (xV rfl) (xA (xaC (xV rfl) xaN) (f_tup rfl rfl rfl)) (f_addT (e := D.bl) (xs := e7) (ys := [e8]) rfl rfl h4)) rfl))⟩) h5) rfl (by simpa only [List.length_map] using h6) (by simp only [← List.map_append]; rfl) ?_
      refine j_lt (fun (longer' : (List (List Bool))) => [.va (eRo road), .ow (List.map (eT D.bl) st5), .va (insB e5), .ow (List.map D.bl choices'2), .ow (List.map (eT D.bl) longer'), .va ((eT D.bl) e7), .un]) fun longer' => ?_
      exact jt_end ⟨_, rfl⟩
    rintro longer'2 g ⟨s6, rfl⟩
    refine j_mvO (g1 := [.va (eRo road), .ow (List.map (eT D.bl) longer'2), .va (insB e5), .ow (List.map D.bl choices'2), .un, s6, .un]) rfl rfl rfl ?_
    exact jt_end ⟨_, _, _, _, rfl⟩
  rintro ways' g ⟨s1, s2, s3, s4, rfl⟩
  exact j_ret (xW rfl) rfl
noncomputable def sh_step_along (road : Rd') (piece : Pc) (over_v : Bool) : Option (Option Int) :=
  if over_v = true then
      some (some (pcLen piece))
  else
    b1 (pcBr piece) fun t1 =>
    b1 (sh_round_of road t1.name) fun t2 =>
    some t2
set_option maxHeartbeats 2000000 in
theorem sim_step_along {road : Rd'} {piece : Pc} {over_v : Bool} {r : (Option Int)} (e : sh_step_along road piece over_v = some r) : φ_step_along [eRo road, insP piece, D.bl over_v] = some ((fun v => R.va ((eO D.int) v)) r) := by
  refine sim_phi (m := m_step_along) (N := 3) (n := 3) (ds := [eRo road, insP piece, D.bl over_v]) (s := sh_step_along road piece over_v) (k := (fun v => R.va ((eO D.int) v))) rfl ?_ e
  show J m_step_along nxt [.va (eRo road), .va (insP piece), .va (D.bl over_v)] (sh_step_along road piece over_v) (PF (fun v => R.va ((eO D.int) v)))
  unfold m_step_along sh_step_along
  refine j_if (t_val (xV rfl)) (fun hc => ?_) (fun hc => ?_)
  · exact j_ret (x1 (xV rfl) (f_pcLen _)) rfl
  · refine j_nilC ?_
    refine j_b1 fun t1 h1 => ?_
    refine j_b1 fun t2 h2 => ?_
    exact j_ret (xA (xaC (xV rfl) (xaC (x1 (x_br (xV rfl) h1) (f_fld rfl)) xaN)) (f_call (@sim_round_of road t1.name _ h2) rfl (.inl rfl))) rfl
noncomputable def sh_walked (road : Rd') (way : (List Bool)) : Option ((List (Bg × Int)) × Int) :=
  b1 (forO (fun (e3 : Pc) (st3 : (List Bool) × (List (Bg × Int)) × Int) =>
      b1 (if (isBr e3) = true then
          b1 (popI st3.1 (0 : Int)) fun q1 =>
          b1 (if q1.1 = true then
              b1 (pcBr e3) fun t2 =>
              grd (List.length st3.2.1 < 16777216) <|
              lt (st3.2.1 ++ [(t2, st3.2.2)]) fun (legs' : (List (Bg × Int))) =>
              some legs'
            else
              some st3.2.1) fun legs'2 =>
          some (q1.1, q1.2, legs'2)
        else
          some (true, st3.1, st3.2.1)) fun u3 =>
      b1 (sh_step_along road e3 u3.1) fun t4 =>
      b1 (t4) fun t5 =>
      lt (st3.2.2 + t5) fun (place' : Int) =>
      some (u3.2.1, u3.2.2, place')) road.pieces (way, [], (0 : Int))) fun u6 =>
  some (u6.2.1, u6.2.2)
set_option maxHeartbeats 2000000 in
theorem sim_walked {road : Rd'} {way : (List Bool)} {r : ((List (Bg × Int)) × Int)} (e : sh_walked road way = some r) : φ_walked [eRo road, (eT D.bl) way] = some ((fun v => R.va ((eP2 (eL (eP2 insB D.int)) D.int) v)) r) := by
  refine sim_phi (m := m_walked) (N := 7) (n := 2) (ds := [eRo road, (eT D.bl) way]) (s := sh_walked road way) (k := (fun v => R.va ((eP2 (eL (eP2 insB D.int)) D.int) v))) rfl ?_ e
  show J m_walked nxt [.va (eRo road), .va ((eT D.bl) way), .un, .un, .un, .un, .un] (sh_walked road way) (PF (fun v => R.va ((eP2 (eL (eP2 insB D.int)) D.int) v)))
  unfold m_walked sh_walked
  refine j_setTN (i := 2) (g1 := [.va (eRo road), .va ((eT D.bl) way), .ow (List.map (eP2 insB D.int) []), .un, .un, .un, .un]) (xA xaN (f_lst rfl rfl rfl)) rfl ?_
  refine j_setN (i := 3) (g1 := [.va (eRo road), .va ((eT D.bl) way), .ow (List.map (eP2 insB D.int) []), .va (D.int (0 : Int)), .un, .un, .un]) rfl rfl ?_
  refine j_setTN (i := 4) (g1 := [.va (eRo road), .va ((eT D.bl) way), .ow (List.map (eP2 insB D.int) []), .va (D.int (0 : Int)), .ow (List.map D.bl way), .un, .un]) (xA (xaC (xV rfl) xaN) (f_list (.inr rfl))) rfl ?_
  refine j_for insP (fun (st : (List Bool) × (List (Bg × Int)) × Int) (g : Gm) => ∃ s1 s2 : Slot, g = [.va (eRo road), .va ((eT D.bl) way), .ow (List.map (eP2 insB D.int) st.2.1), .va (D.int st.2.2), .ow (List.map D.bl st.1), s2, s1]) (i_seq (x1 (xV rfl) (f_fld rfl)) rfl) rfl ⟨_, _, rfl⟩ ?_ ?_
  · rintro e3 hx st3 g ⟨s1, s2, rfl⟩
    refine ⟨[.va (eRo road), .va ((eT D.bl) way), .ow (List.map (eP2 insB D.int) st3.2.1), .va (D.int st3.2.2), .ow (List.map D.bl st3.1), .va (insP e3), s1], rfl, ?_⟩
    refine j_setN (i := 6) (g1 := [.va (eRo road), .va ((eT D.bl) way), .ow (List.map (eP2 insB D.int) st3.2.1), .va (D.int st3.2.2), .ow (List.map D.bl st3.1), .va (insP e3), .va (D.bl true)]) rfl rfl ?_
    refine j_joinB (St := fun (st : Bool × (List Bool) × (List (Bg × Int))) (g : Gm) => g = [.va (eRo road), .va ((eT D.bl) way), .ow (List.map (eP2 insB D.int) st.2.2), .va (D.int st3.2.2), .ow (List.map D.bl st.2.1), .va (insP e3), .va (D.bl st.1)]) (t_val (x1 (xV rfl) (f_isb _))) (fun hc => ?_) (fun hc => ?_) ?_
    · refine j_b1 fun q1 h1 => ?_
      refine j_popS (i := 4) (j := 6) (e := D.bl) (xs := st3.1) (g1 := [.va (eRo road), .va ((eT D.bl) way), .ow (List.map (eP2 insB D.int) st3.2.1), .va (D.int st3.2.2), .ow (List.map D.bl q1.2), .va (insP e3), .va (D.bl q1.1)]) rfl rfl h1 rfl ?_
      refine j_joinB (St := fun (st : (List (Bg × Int))) (g : Gm) => g = [.va (eRo road), .va ((eT D.bl) way), .ow (List.map (eP2 insB D.int) st), .va (D.int st3.2.2), .ow (List.map D.bl q1.2), .va (insP e3), .va (D.bl q1.1)]) (t_val (xV rfl)) (fun hc => ?_) (fun hc => ?_) ?_
      · refine j_b1 fun t2 h2 => ?_
        refine j_grd fun h3 => ?_
        refine j_appE (i := 2) (g1 := [.va (eRo road), .va ((eT D.bl) way), .ow (List.map (eP2 insB D.int) (st3.2.1 ++ [(t2, st3.2.2)])), .va (D.int st3.2.2), .ow (List.map D.bl q1.2), .va (insP e3), .va (D.bl q1.1)]) (eP2 insB D.int) st3.2.1 (t2, st3.2.2) rfl (xA (xaC (x_br (xV rfl) h2) (xaC (xV rfl) xaN)) (f_tup rfl rfl rfl)) rfl rfl h3 rfl ?_
        refine j_lt (fun (legs' : (List (Bg × Int))) => [.va (eRo road), .va ((eT D.bl) way), .ow (List.map (eP2 insB D.int) legs'), .va (D.int st3.2.2), .ow (List.map D.bl q1.2), .va (insP e3), .va (D.bl q1.1)]) fun legs' => ?_
        exact jn_end rfl
      · exact jn_end rfl
      rintro legs'2 g rfl
      exact jn_end rfl
    · exact jn_end rfl
    rintro u3 g rfl
    refine j_b1 fun t4 h4 => ?_
    refine j_b1 fun t5 h5 => ?_
    refine j_aug (g1 := [.va (eRo road), .va ((eT D.bl) way), .ow (List.map (eP2 insB D.int) u3.2.2), .va (D.int (st3.2.2 + t5)), .ow (List.map D.bl u3.2.1), .va (insP e3), .va (D.bl u3.1)]) (xV rfl) (x_get (xA (xaC (xV rfl) (xaC (xV rfl) (xaC (xV rfl) xaN))) (f_call (@sim_step_along road e3 u3.1 _ h4) rfl (.inl rfl))) h5) (oIAdd_int _ _) rfl ?_
    refine j_lt (fun (place' : Int) => [.va (eRo road), .va ((eT D.bl) way), .ow (List.map (eP2 insB D.int) u3.2.2), .va (D.int place'), .ow (List.map D.bl u3.2.1), .va (insP e3), .va (D.bl u3.1)]) fun place' => ?_
    exact jt_end ⟨_, _, rfl⟩
  rintro u6 g ⟨s1, s2, rfl⟩
  refine j_fzO (g1 := [.va (eRo road), .va ((eT D.bl) way), .va ((eL (eP2 insB D.int)) u6.2.1), .va (D.int u6.2.2), .ow (List.map D.bl u6.1), s2, s1]) rfl rfl ?_
  exact j_ret (xA (xaC (xV rfl) (xaC (xV rfl) xaN)) (f_tup rfl rfl rfl)) rfl
noncomputable def sh_legs_of (road : Rd') (way : (List Bool)) : Option (List (Bg × Int)) :=
  b1 (sh_walked road way) fun t1 =>
  some t1.1
set_option maxHeartbeats 2000000 in
theorem sim_legs_of {road : Rd'} {way : (List Bool)} {r : (List (Bg × Int))} (e : sh_legs_of road way = some r) : φ_legs_of [eRo road, (eT D.bl) way] = some ((fun v => R.va ((eL (eP2 insB D.int)) v)) r) := by
  refine sim_phi (m := m_legs_of) (N := 2) (n := 2) (ds := [eRo road, (eT D.bl) way]) (s := sh_legs_of road way) (k := (fun v => R.va ((eL (eP2 insB D.int)) v))) rfl ?_ e
  show J m_legs_of nxt [.va (eRo road), .va ((eT D.bl) way)] (sh_legs_of road way) (PF (fun v => R.va ((eL (eP2 insB D.int)) v)))
  unfold m_legs_of sh_legs_of
  refine j_b1 fun t1 h1 => ?_
  exact j_ret (x2 (xA (xaC (xV rfl) (xaC (xV rfl) xaN)) (f_call (@sim_walked road way _ h1) rfl (.inl rfl))) rfl (f_ixC 0 rfl)) rfl
noncomputable def sh_first_unfit (road : Rd') (way : (List Bool)) (wheels : (List (Int × Int × Int))) : Option (Option Bg) :=
  b1 (sh_legs_of road way) fun t1 =>
  b1 (forC (fun (e3 : (Bg × Int)) (st3 : Unit) =>
      b1 (sh_fits e3.1 wheels) fun t2 =>
      if (!t2) = true then
          some (.rt (some e3.1))
      else
        some (.nx ())) t1 ()) fun c => ctl c (fun u3 =>
  some none) fun r => some r
set_option maxHeartbeats 2000000 in
theorem sim_first_unfit {road : Rd'} {way : (List Bool)} {wheels : (List (Int × Int × Int))} {r : (Option Bg)} (e : sh_first_unfit road way wheels = some r) : φ_first_unfit [eRo road, (eT D.bl) way, (eL (eP3 D.int D.int D.int)) wheels] = some ((fun v => R.va ((eO insB) v)) r) := by
  refine sim_phi (m := m_first_unfit) (N := 5) (n := 3) (ds := [eRo road, (eT D.bl) way, (eL (eP3 D.int D.int D.int)) wheels]) (s := sh_first_unfit road way wheels) (k := (fun v => R.va ((eO insB) v))) rfl ?_ e
  show J m_first_unfit nxt [.va (eRo road), .va ((eT D.bl) way), .va ((eL (eP3 D.int D.int D.int)) wheels), .un, .un] (sh_first_unfit road way wheels) (PF (fun v => R.va ((eO insB) v)))
  unfold m_first_unfit sh_first_unfit
  refine j_b1 fun t1 h1 => ?_
  refine j_forC (eP2 insB D.int) (fun (st : Unit) (g : Gm) => ∃ s1 s2 : Slot, g = [.va (eRo road), .va ((eT D.bl) way), .va ((eL (eP3 D.int D.int D.int)) wheels), s1, s2]) (fun v => R.va ((eO insB) v)) (i_seq (xA (xaC (xV rfl) (xaC (xV rfl) xaN)) (f_call (@sim_legs_of road way _ h1) rfl (.inl rfl))) rfl) rfl ⟨_, _, rfl⟩ ?_ ?_ ?_
  · rintro e3 hx st3 g ⟨s1, s2, rfl⟩
    refine ⟨[.va (eRo road), .va ((eT D.bl) way), .va ((eL (eP3 D.int D.int D.int)) wheels), .va (insB e3.1), .va (D.int e3.2)], rfl, ?_⟩
    refine j_b1 fun t2 h2 => ?_
    refine j_if (t_not (t_val (xA (xaC (xV rfl) (xaC (xV rfl) xaN)) (f_call (@sim_fits e3.1 wheels _ h2) rfl (.inl rfl))))) (fun hc => ?_) (fun hc => ?_)
    · exact jc_ret (xV rfl) rfl
    · refine j_nilC ?_
      exact jc_end ⟨_, _, rfl⟩
  · rintro ⟨⟩ g ⟨s1, s2, rfl⟩
    exact j_ret rfl rfl
  · exact fun r => sm_ret rfl rfl
noncomputable def shu_parted (road : Rd') (cart : Ct) (way : (List Bool)) : Option ((List Ct) ⊕ Exc) :=
  b1 (forC (fun (e4 : (Int × (Int × Int × Int))) (st4 : (List (List (Int × Int × Int)))) =>
      b1 (sh_first_unfit road way [e4.2]) fun alone =>
      if (Option.isSome alone) = true then
          b1 (alone) fun t2 =>
          some (.rt (.inr ⟨7, [.inl e4.1, .inr t2.name]⟩))
      else
        b1 (if (!decide (st4 = ([] : (List (List (Int × Int × Int)))))) = true then b1 (atI st4 (-(1 : Int))) fun t3 => grd (List.length t3 + List.length ([e4.2] : List (Int × Int × Int)) ≤ 16777216) <| b1 (sh_first_unfit road way (t3 ++ [e4.2])) fun t4 => some (Option.isNone t4) else some false) fun t5 =>
        b1 (if t5 = true then
            b1 (appL st4 e4.2) fun t6 =>
            some t6
          else
            grd (List.length st4 < 16777216) <|
            lt (st4 ++ [[e4.2]]) fun (runs' : (List (List (Int × Int × Int)))) =>
            some runs') fun runs'2 =>
        some (.nx runs'2)) (enI cart.wheels) []) fun c => ctl c (fun runs'3 =>
  grd (List.length runs'3 ≤ 16777216) <|
  some (.inl (List.map (fun e5 : (List (Int × Int × Int)) => (Ct.mk cart.name cart.speed e5)) runs'3))) fun r => some r
set_option maxHeartbeats 2000000 in
theorem simK_parted {road : Rd'} {cart : Ct} {way : (List Bool)} : J m_parted nxt [.va (eRo road), .va (eCt cart), .va ((eT D.bl) way), .un, .un, .un, .un, .un] (shu_parted road cart way) (PU (fun v => R.tm (List.map eCt v))) := by
  unfold m_parted shu_parted
  refine j_setTN (i := 3) (g1 := [.va (eRo road), .va (eCt cart), .va ((eT D.bl) way), .ow (List.map (eL (eP3 D.int D.int D.int)) []), .un, .un, .un, .un]) (xA xaN (f_lst rfl rfl rfl)) rfl ?_
  refine j_oT (g1 := [.va (eRo road), .va (eCt cart), .va ((eT D.bl) way), .ot (tL2 (eP3 D.int D.int D.int) []), .un, .un, .un, .un]) rfl rfl ?_
  refine j_forCO (eP2 D.int (eP3 D.int D.int D.int)) (fun (st : (List (List (Int × Int × Int)))) (g : Gm) => ∃ s1 s2 s3 : Slot, g = [.va (eRo road), .va (eCt cart), .va ((eT D.bl) way), .ot (tL2 (eP3 D.int D.int D.int) st), s2, s3, s1, .un]) (KO (fun v => R.tm (List.map eCt v))) (KO_fin _) (i_A (xaC (x1 (xV rfl) (f_fld rfl)) xaN) (f_en (e := (eP3 D.int D.int D.int)) (xs := cart.wheels) rfl)) rfl ⟨_, _, _, rfl⟩ ?_ ?_ ?_
  · rintro e4 hx st4 g ⟨s1, s2, s3, rfl⟩
    refine ⟨[.va (eRo road), .va (eCt cart), .va ((eT D.bl) way), .ot (tL2 (eP3 D.int D.int D.int) st4), .va (D.int e4.1), .va ((eP3 D.int D.int D.int) e4.2), s1, .un], rfl, ?_⟩
    refine j_b1 fun alone h1 => ?_
    refine j_setN (i := 6) (g1 := [.va (eRo road), .va (eCt cart), .va ((eT D.bl) way), .ot (tL2 (eP3 D.int D.int D.int) st4), .va (D.int e4.1), .va ((eP3 D.int D.int D.int) e4.2), .va ((eO insB) alone), .un]) (xA (xaC (xV rfl) (xaC (xV rfl) (xaC (xA (xaC (xV rfl) xaN) (f_lst rfl rfl rfl)) xaN))) (f_call (@sim_first_unfit road way [e4.2] _ h1) rfl (.inl rfl))) rfl ?_
    refine j_if (t_val (x2 (xV rfl) rfl (f_isNO (fun _ => rfl) _))) (fun hc => ?_) (fun hc => ?_)
    · refine j_b1 fun t2 h2 => ?_
      exact j_rs (x_rs (xaC (x1 (x_get (xV rfl) h2) (f_fld rfl)) (xaC (xV rfl) xaN)) rfl rfl) rfl
    · refine j_nilC ?_
      refine j_b1 fun t5 h6 => ?_
      refine j_joinB (St := fun (st : (List (List (Int × Int × Int)))) (g : Gm) => g = [.va (eRo road), .va (eCt cart), .va ((eT D.bl) way), .ot (tL2 (eP3 D.int D.int D.int) st), .va (D.int e4.1), .va ((eP3 D.int D.int D.int) e4.2), .va ((eO insB) alone), .un]) (x_bTh (i := 3) (g1 := [.va (eRo road), .va (eCt cart), .va ((eT D.bl) way), .va ((eL (eL (eP3 D.int D.int D.int))) st4), .va (D.int e4.1), .va ((eP3 D.int D.int D.int) e4.2), .va ((eO insB) alone), .un]) rfl (d_tL2 (eP3 D.int D.int D.int) st4) rfl (t_andP (t_val (x2 (xV rfl) (xA xaN (f_lst rfl rfl rfl)) (f_ne (eqR_K (x := st4) (y := ([] : (List (List (Int × Int × Int))))) (EQ_L (EQ_L (EQ_P3 (EQ_int 5) (EQ_int 5) (EQ_int 5)))) (OK_L (OK_L (OK_P3 (OK_int 5) (OK_int 5) (OK_int 5)))) rfl rfl)))) (fun _ => (sm_b1 fun t3 h3 => (sm_grd fun h4 => (sm_b1 fun t4 h5 => (sm_ret (t_val (x2 (xA (xaC (xV rfl) (xaC (xV rfl) (xaC (x2 (x2 (xV rfl) (x1 rfl (uNeg_def _)) (f_ixL (e := (eL (eP3 D.int D.int D.int))) (xs := st4) rfl h3)) (xA (xaC (xV rfl) xaN) (f_lst rfl rfl rfl)) (f_addL (e := (eP3 D.int D.int D.int)) (xs := t3) (ys := [e4.2]) rfl rfl h4)) xaN))) (f_call (@sim_first_unfit road way (t3 ++ [e4.2]) _ h5) rfl (.inl rfl))) rfl (f_isO (fun _ => rfl) _))) rfl))))) h6)) (fun hc => ?_) (fun hc => ?_) ?_
      · refine j_b1 fun t6 h7 => ?_
        refine j_appL (i := 3) (e := (eP3 D.int D.int D.int)) (xs := st4) (y := e4.2) (g1 := [.va (eRo road), .va (eCt cart), .va ((eT D.bl) way), .ot (tL2 (eP3 D.int D.int D.int) t6), .va (D.int e4.1), .va ((eP3 D.int D.int D.int) e4.2), .va ((eO insB) alone), .un]) rfl (x1 rfl (uNeg_def _)) (xV rfl) h7 rfl ?_
        exact jn_end rfl
      · refine j_grd fun h8 => ?_
        refine j_appT (i := 3) (e := (eP3 D.int D.int D.int)) (xs := st4) (ys := [e4.2]) (g1 := [.va (eRo road), .va (eCt cart), .va ((eT D.bl) way), .ot (tL2 (eP3 D.int D.int D.int) (st4 ++ [[e4.2]])), .va (D.int e4.1), .va ((eP3 D.int D.int D.int) e4.2), .va ((eO insB) alone), .un]) rfl (xA (xaC (xV rfl) xaN) (f_lst rfl rfl rfl)) h8 rfl ?_
        refine j_lt (fun (runs' : (List (List (Int × Int × Int)))) => [.va (eRo road), .va (eCt cart), .va ((eT D.bl) way), .ot (tL2 (eP3 D.int D.int D.int) runs'), .va (D.int e4.1), .va ((eP3 D.int D.int D.int) e4.2), .va ((eO insB) alone), .un]) fun runs' => ?_
        exact jn_end rfl
      rintro runs'2 g rfl
      exact jcu_end ⟨_, _, _, rfl⟩
  · rintro runs'3 g ⟨s1, s2, s3, rfl⟩
    refine j_fzT (g1 := [.va (eRo road), .va (eCt cart), .va ((eT D.bl) way), .va ((eL (eL (eP3 D.int D.int D.int))) runs'3), s2, s3, s1, .un]) rfl (d_tL2 (eP3 D.int D.int D.int) runs'3) rfl ?_
    refine j_grd fun h9 => ?_
    exact j_ret (x_lc (e := (eL (eP3 D.int D.int D.int))) (e' := eCt) (xs := runs'3) (v := fun e5 => (Ct.mk cart.name cart.speed e5)) (fun e5 => R.va (eCt (Ct.mk cart.name cart.speed e5))) (i_seq (xV rfl) rfl) h9 (fun e5 _ => ⟨[.va (eRo road), .va (eCt cart), .va ((eT D.bl) way), .va ((eL (eL (eP3 D.int D.int D.int))) runs'3), s2, s3, s1, .va ((eL (eP3 D.int D.int D.int)) e5)], rfl, (xA (xaC (x1 (xV rfl) (f_fld rfl)) (xaC (x1 (xV rfl) (f_fld rfl)) (xaC (xV rfl) xaN))) (f_make rfl rfl rfl))⟩)) rfl
  · exact fun r => by cases r <;> exact sm_ret rfl rfl
theorem simu_parted {road : Rd'} {cart : Ct} {way : (List Bool)} {r : (List Ct) ⊕ Exc} (e : shu_parted road cart way = some r) : υ_parted [eRo road, eCt cart, (eT D.bl) way] = some (KU (fun v => R.tm (List.map eCt v)) r) := sim_ups (m := m_parted) (N := 8) (n := 3) (ds := [eRo road, eCt cart, (eT D.bl) way]) (s := shu_parted road cart way) (k := (fun v => R.tm (List.map eCt v))) rfl simK_parted e
noncomputable def sh__law_cell (script : (List Int)) (k_v : Int) : Option Int :=
  if (decide (k_v < (List.length script : Int))) = true then
      b1 (atI script k_v) fun t1 =>
      some t1
  else
    some (0 : Int)
set_option maxHeartbeats 2000000 in
theorem sim__law_cell {script : (List Int)} {k_v : Int} {r : Int} (e : sh__law_cell script k_v = some r) : φ__law_cell [eRL script, D.int k_v] = some ((fun v => R.va (D.int v)) r) := by
  refine sim_phi (m := m__law_cell) (N := 2) (n := 2) (ds := [eRL script, D.int k_v]) (s := sh__law_cell script k_v) (k := (fun v => R.va (D.int v))) rfl ?_ e
  show J m__law_cell nxt [.va (eRL script), .va (D.int k_v)] (sh__law_cell script k_v) (PF (fun v => R.va (D.int v)))
  unfold m__law_cell sh__law_cell
  refine j_if (t_val (x2 (xV rfl) (xA (xaC (xV rfl) xaN) (f_lenR rfl)) (oLt_def _ _))) (fun hc => ?_) (fun hc => ?_)
  · refine j_b1 fun t1 h1 => ?_
    exact j_ret (x2 (xV rfl) (xV rfl) (f_ixR rfl h1)) rfl
  · refine j_nilC ?_
    exact j_ret rfl rfl
noncomputable def sh__law_mix (cell_here : Int) (one : Int) (prime : Int) : Option Int :=
  grd (prime ≠ 0) <|
  grd (CMulB (31 : Int) one) <|
  grd (CMulB ((31 : Int) * one) one) <|
  grd (CMulB ((((Int.fmod cell_here prime) + (12345 : Int)) + (((31 : Int) * one) * one)) + one) (48271 : Int)) <|
  grd (prime ≠ 0) <|
  lt (Int.fmod (((((Int.fmod cell_here prime) + (12345 : Int)) + (((31 : Int) * one) * one)) + one) * (48271 : Int)) prime) fun (drawn : Int) =>
  grd (CMulB drawn drawn) <|
  some (((drawn * drawn) % (998244353 : Int)) / (3 : Int))
set_option maxHeartbeats 2000000 in
theorem sim__law_mix {cell_here : Int} {one : Int} {prime : Int} {r : Int} (e : sh__law_mix cell_here one prime = some r) : φ__law_mix [D.int cell_here, D.int one, D.int prime] = some ((fun v => R.va (D.int v)) r) := by
  refine sim_phi (m := m__law_mix) (N := 4) (n := 3) (ds := [D.int cell_here, D.int one, D.int prime]) (s := sh__law_mix cell_here one prime) (k := (fun v => R.va (D.int v))) rfl ?_ e
  show J m__law_mix nxt [.va (D.int cell_here), .va (D.int one), .va (D.int prime), .un] (sh__law_mix cell_here one prime) (PF (fun v => R.va (D.int v)))
  unfold m__law_mix sh__law_mix
  refine j_grd fun h1 => ?_
  refine j_grd fun h2 => ?_
  refine j_grd fun h3 => ?_
  refine j_grd fun h4 => ?_
  refine j_grd fun h5 => ?_
  refine j_setN (i := 3) (g1 := [.va (D.int cell_here), .va (D.int one), .va (D.int prime), .va (D.int (Int.fmod (((((Int.fmod cell_here prime) + (12345 : Int)) + (((31 : Int) * one) * one)) + one) * (48271 : Int)) prime))]) (x2 (x2 (x2 (x2 (x2 (x2 (xV rfl) (xV rfl) (f_mod h1)) rfl (oAdd_int _ _)) (x2 (x2 rfl (xV rfl) (f_mul h2)) (xV rfl) (f_mul h3)) (oAdd_int _ _)) (xV rfl) (oAdd_int _ _)) rfl (f_mul h4)) (xV rfl) (f_mod h5)) rfl ?_
  refine j_lt (fun (drawn : Int) => [.va (D.int cell_here), .va (D.int one), .va (D.int prime), .va (D.int drawn)]) fun drawn => ?_
  refine j_grd fun h6 => ?_
  exact j_ret (x2 (x2 (x2 (xV rfl) (xV rfl) (f_mul h6)) rfl (f_modK (by decide))) rfl (f_divK (by decide))) rfl
noncomputable def sh__law_wheels (cell_here : Int) (many : Int) : Option (List (Int × Int × Int)) :=
  grd (-4611686018427387904 ≤ many ∧ many < 4611686018427387904) <|
  b1 (forO (fun (e7 : Int) (st7 : (List (Int × Int × Int)) × Int) =>
      b1 (sh__law_mix cell_here ((80 : Int) + e7) (1000003 : Int)) fun drawn =>
      lt (Min.min (100 : Int) (st7.2 - ((many - (1 : Int)) - e7))) fun (most : Int) =>
      grd (most ≠ 0) <|
      grd ((Min.min most (30 : Int)) ≠ 0) <|
      b1 (atI ([(1 : Int), most, ((1 : Int) + (Int.fmod (drawn / (4 : Int)) most)), ((1 : Int) + (Int.fmod (drawn / (4 : Int)) (Min.min most (30 : Int))))] : List Int) (drawn % (4 : Int))) fun gap =>
      b1 (atI ([((drawn / (16 : Int)) % (10 : Int)), ((drawn / (16 : Int)) % (1000 : Int)), (1000000 : Int), ((cell_here + drawn) % (1000001 : Int))] : List Int) ((drawn / (4 : Int)) % (4 : Int))) fun high =>
      grd ((high + (1 : Int)) ≠ 0) <|
      b1 (atI ([high, (0 : Int), (Int.fmod (drawn / (64 : Int)) (high + (1 : Int)))] : List Int) ((drawn / (32 : Int)) % (3 : Int))) fun low =>
      grd (List.length st7.1 < 16777216) <|
      lt (st7.1 ++ [(gap, low, high)]) fun (wheels_here' : (List (Int × Int × Int))) =>
      b1 (if (decide ((0 : Int) < e7)) = true then
          lt (st7.2 - gap) fun (left_v' : Int) =>
          some left_v'
        else
          some st7.2) fun left_v'2 =>
      some (wheels_here', left_v'2)) (rgI 0 many) ([], (200 : Int))) fun u5 =>
  some u5.1
set_option maxHeartbeats 2000000 in
theorem sim__law_wheels {cell_here : Int} {many : Int} {r : (List (Int × Int × Int))} (e : sh__law_wheels cell_here many = some r) : φ__law_wheels [D.int cell_here, D.int many] = some ((fun v => R.tm (List.map (eP3 D.int D.int D.int) v)) r) := by
  refine sim_phi (m := m__law_wheels) (N := 10) (n := 2) (ds := [D.int cell_here, D.int many]) (s := sh__law_wheels cell_here many) (k := (fun v => R.tm (List.map (eP3 D.int D.int D.int) v))) rfl ?_ e
  show J m__law_wheels nxt [.va (D.int cell_here), .va (D.int many), .un, .un, .un, .un, .un, .un, .un, .un] (sh__law_wheels cell_here many) (PF (fun v => R.tm (List.map (eP3 D.int D.int D.int) v)))
  unfold m__law_wheels sh__law_wheels
  refine j_setTN (i := 2) (g1 := [.va (D.int cell_here), .va (D.int many), .ow (List.map (eP3 D.int D.int D.int) []), .un, .un, .un, .un, .un, .un, .un]) (xA xaN (f_lst rfl rfl rfl)) rfl ?_
  refine j_setN (i := 3) (g1 := [.va (D.int cell_here), .va (D.int many), .ow (List.map (eP3 D.int D.int D.int) []), .va (D.int (200 : Int)), .un, .un, .un, .un, .un, .un]) rfl rfl ?_
  refine j_grd fun h1 => ?_
  refine j_for D.int (fun (st : (List (Int × Int × Int)) × Int) (g : Gm) => ∃ s1 s2 s3 s4 s5 s6 : Slot, g = [.va (D.int cell_here), .va (D.int many), .ow (List.map (eP3 D.int D.int D.int) st.1), .va (D.int st.2), s6, s1, s2, s3, s4, s5]) (i_A (xaC (xV rfl) xaN) (f_rg1 h1)) rfl ⟨_, _, _, _, _, _, rfl⟩ ?_ ?_
  · rintro e7 hx st7 g ⟨s1, s2, s3, s4, s5, s6, rfl⟩
    refine ⟨[.va (D.int cell_here), .va (D.int many), .ow (List.map (eP3 D.int D.int D.int) st7.1), .va (D.int st7.2), .va (D.int e7), s1, s2, s3, s4, s5], rfl, ?_⟩
    refine j_b1 fun drawn h2 => ?_
    refine j_setN (i := 5) (g1 := [.va (D.int cell_here), .va (D.int many), .ow (List.map (eP3 D.int D.int D.int) st7.1), .va (D.int st7.2), .va (D.int e7), .va (D.int drawn), s2, s3, s4, s5]) (xA (xaC (xV rfl) (xaC (x2 rfl (xV rfl) (oAdd_int _ _)) (xaC rfl xaN))) (f_call (@sim__law_mix cell_here ((80 : Int) + e7) (1000003 : Int) _ h2) rfl (.inl rfl))) rfl ?_
    refine j_setN (i := 6) (g1 := [.va (D.int cell_here), .va (D.int many), .ow (List.map (eP3 D.int D.int D.int) st7.1), .va (D.int st7.2), .va (D.int e7), .va (D.int drawn), .va (D.int (Min.min (100 : Int) (st7.2 - ((many - (1 : Int)) - e7)))), s3, s4, s5]) (xA (xaC rfl (xaC (x2 (xV rfl) (x2 (x2 (xV rfl) rfl (oSub_def _ _)) (xV rfl) (oSub_def _ _)) (oSub_def _ _)) xaN)) (cMin2_def _ _)) rfl ?_
    refine j_lt (fun (most : Int) => [.va (D.int cell_here), .va (D.int many), .ow (List.map (eP3 D.int D.int D.int) st7.1), .va (D.int st7.2), .va (D.int e7), .va (D.int drawn), .va (D.int most), s3, s4, s5]) fun most => ?_
    refine j_grd fun h3 => ?_
    refine j_grd fun h4 => ?_
    refine j_b1 fun gap h5 => ?_
    refine j_setN (i := 7) (g1 := [.va (D.int cell_here), .va (D.int many), .ow (List.map (eP3 D.int D.int D.int) st7.1), .va (D.int st7.2), .va (D.int e7), .va (D.int drawn), .va (D.int most), .va (D.int gap), s4, s5]) (x2 (xA (xaC rfl (xaC (xV rfl) (xaC (x2 rfl (x2 (x2 (xV rfl) rfl (f_divK (by decide))) (xV rfl) (f_mod h3)) (oAdd_int _ _)) (xaC (x2 rfl (x2 (x2 (xV rfl) rfl (f_divK (by decide))) (xA (xaC (xV rfl) (xaC rfl xaN)) (cMin2_def _ _)) (f_mod h4)) (oAdd_int _ _)) xaN)))) (f_lst rfl rfl rfl)) (x2 (xV rfl) rfl (f_modK (by decide))) (f_ixL (e := D.int) (xs := [(1 : Int), most, ((1 : Int) + (Int.fmod (drawn / (4 : Int)) most)), ((1 : Int) + (Int.fmod (drawn / (4 : Int)) (Min.min most (30 : Int))))]) rfl h5)) rfl ?_
    refine j_b1 fun high h6 => ?_
    refine j_setN (i := 8) (g1 := [.va (D.int cell_here), .va (D.int many), .ow (List.map (eP3 D.int D.int D.int) st7.1), .va (D.int st7.2), .va (D.int e7), .va (D.int drawn), .va (D.int most), .va (D.int gap), .va (D.int high), s5]) (x2 (xA (xaC (x2 (x2 (xV rfl) rfl (f_divK (by decide))) rfl (f_modK (by decide))) (xaC (x2 (x2 (xV rfl) rfl (f_divK (by decide))) rfl (f_modK (by decide))) (xaC rfl (xaC (x2 (x2 (xV rfl) (xV rfl) (oAdd_int _ _)) rfl (f_modK (by decide))) xaN)))) (f_lst rfl rfl rfl)) (x2 (x2 (xV rfl) rfl (f_divK (by decide))) rfl (f_modK (by decide))) (f_ixL (e := D.int) (xs := [((drawn / (16 : Int)) % (10 : Int)), ((drawn / (16 : Int)) % (1000 : Int)), (1000000 : Int), ((cell_here + drawn) % (1000001 : Int))]) rfl h6)) rfl ?_
    refine j_grd fun h7 => ?_
    refine j_b1 fun low h8 => ?_
    refine j_setN (i := 9) (g1 := [.va (D.int cell_here), .va (D.int many), .ow (List.map (eP3 D.int D.int D.int) st7.1), .va (D.int st7.2), .va (D.int e7), .va (D.int drawn), .va (D.int most), .va (D.int gap), .va (D.int high), .va (D.int low)]) (x2 (xA (xaC (xV rfl) (xaC rfl (xaC (x2 (x2 (xV rfl) rfl (f_divK (by decide))) (x2 (xV rfl) rfl (oAdd_int _ _)) (f_mod h7)) xaN))) (f_lst rfl rfl rfl)) (x2 (x2 (xV rfl) rfl (f_divK (by decide))) rfl (f_modK (by decide))) (f_ixL (e := D.int) (xs := [high, (0 : Int), (Int.fmod (drawn / (64 : Int)) (high + (1 : Int)))]) rfl h8)) rfl ?_
    refine j_grd fun h9 => ?_
    refine j_appE (i := 2) (g1 := [.va (D.int cell_here), .va (D.int many), .ow (List.map (eP3 D.int D.int D.int) (st7.1 ++ [(gap, low, high)])), .va (D.int st7.2), .va (D.int e7), .va (D.int drawn), .va (D.int most), .va (D.int gap), .va (D.int high), .va (D.int low)]) (eP3 D.int D.int D.int) st7.1 (gap, low, high) rfl (xA (xaC (xV rfl) (xaC (xV rfl) (xaC (xV rfl) xaN))) (f_tup rfl rfl rfl)) rfl rfl h9 rfl ?_
    refine j_lt (fun (wheels_here' : (List (Int × Int × Int))) => [.va (D.int cell_here), .va (D.int many), .ow (List.map (eP3 D.int D.int D.int) wheels_here'), .va (D.int st7.2), .va (D.int e7), .va (D.int drawn), .va (D.int most), .va (D.int gap), .va (D.int high), .va (D.int low)]) fun wheels_here' => ?_
    refine j_joinB (St := fun (st : Int) (g : Gm) => g = [.va (D.int cell_here), .va (D.int many), .ow (List.map (eP3 D.int D.int D.int) wheels_here'), .va (D.int st), .va (D.int e7), .va (D.int drawn), .va (D.int most), .va (D.int gap), .va (D.int high), .va (D.int low)]) (t_val (x2 (xV rfl) rfl (oGt_def _ _))) (fun hc => ?_) (fun hc => ?_) ?_
    · refine j_setN (i := 3) (g1 := [.va (D.int cell_here), .va (D.int many), .ow (List.map (eP3 D.int D.int D.int) wheels_here'), .va (D.int (st7.2 - gap)), .va (D.int e7), .va (D.int drawn), .va (D.int most), .va (D.int gap), .va (D.int high), .va (D.int low)]) (x2 (xV rfl) (xV rfl) (oSub_def _ _)) rfl ?_
      refine j_lt (fun (left_v' : Int) => [.va (D.int cell_here), .va (D.int many), .ow (List.map (eP3 D.int D.int D.int) wheels_here'), .va (D.int left_v'), .va (D.int e7), .va (D.int drawn), .va (D.int most), .va (D.int gap), .va (D.int high), .va (D.int low)]) fun left_v' => ?_
      exact jn_end rfl
    · exact jn_end rfl
    rintro left_v'2 g rfl
    exact jt_end ⟨_, _, _, _, _, _, rfl⟩
  rintro u5 g ⟨s1, s2, s3, s4, s5, s6, rfl⟩
  exact j_ret (xW rfl) rfl
noncomputable def sh__law_places (wheels_here : (List (Int × Int × Int))) : Option (List Int) :=
  grd (-4611686018427387904 ≤ (List.length wheels_here : Int) ∧ (List.length wheels_here : Int) < 4611686018427387904) <|
  grd (List.length (rgI 0 (List.length wheels_here : Int)) ≤ 16777216) <|
  b1 (mapO (fun e1 : Int => grd (List.length (cutL wheels_here (some (1 : Int)) (some (e1 + (1 : Int)))) ≤ 16777216) <| some (List.sum (List.map (fun e2 : (Int × Int × Int) => e2.1) (cutL wheels_here (some (1 : Int)) (some (e1 + (1 : Int))))))) (rgI 0 (List.length wheels_here : Int))) fun t1 =>
  some t1
set_option maxHeartbeats 2000000 in
theorem sim__law_places {wheels_here : (List (Int × Int × Int))} {r : (List Int)} (e : sh__law_places wheels_here = some r) : φ__law_places [(eL (eP3 D.int D.int D.int)) wheels_here] = some ((fun v => R.tm (List.map D.int v)) r) := by
  refine sim_phi (m := m__law_places) (N := 3) (n := 1) (ds := [(eL (eP3 D.int D.int D.int)) wheels_here]) (s := sh__law_places wheels_here) (k := (fun v => R.tm (List.map D.int v))) rfl ?_ e
  show J m__law_places nxt [.va ((eL (eP3 D.int D.int D.int)) wheels_here), .un, .un] (sh__law_places wheels_here) (PF (fun v => R.tm (List.map D.int v)))
  unfold m__law_places sh__law_places
  refine j_grd fun h1 => ?_
  refine j_grd fun h2 => ?_
  refine j_b1 fun t1 h4 => ?_
  exact j_ret (x_lcO (e := D.int) (e' := D.int) (xs := (rgI 0 (List.length wheels_here : Int))) (fun y2 => R.va (D.int y2)) (i_A (xaC (xA (xaC (xV rfl) xaN) (f_lenL (e := (eP3 D.int D.int D.int)) (xs := wheels_here) rfl)) xaN) (f_rg1 h1)) h2 (fun e1 _ => ⟨[.va ((eL (eP3 D.int D.int D.int)) wheels_here), .va (D.int e1), .un], rfl, (sm_grd fun h3 => (sm_ret (xA (xaC (x_lc (e := (eP3 D.int D.int D.int)) (e' := D.int) (xs := (cutL wheels_here (some (1 : Int)) (some (e1 + (1 : Int))))) (v := fun e2 => e2.1) (fun e2 => R.va (D.int e2.1)) (i_seq (x_sl (xV rfl) (x_pS rfl) (x_pS (x2 (xV rfl) rfl (oAdd_int _ _))) (f_slL (e := (eP3 D.int D.int D.int)) (xs := wheels_here) rfl)) rfl) h3 (fun e2 _ => ⟨[.va ((eL (eP3 D.int D.int D.int)) wheels_here), .va (D.int e1), .va ((eP3 D.int D.int D.int) e2)], rfl, (x2 (xV rfl) rfl (f_ixC 0 rfl))⟩)) xaN) (f_sum (ns := (List.map (fun e2 : (Int × Int × Int) => e2.1) (cutL wheels_here (some (1 : Int)) (some (e1 + (1 : Int)))))) rfl)) rfl))⟩) h4) rfl
noncomputable def sh__law_close (wheels_here : (List (Int × Int × Int))) (width : Int) (which : Int) : Option Int :=
  b1 (sh__law_places wheels_here) fun places_here =>
  grd (-4611686018427387904 ≤ (List.length wheels_here : Int) ∧ (List.length wheels_here : Int) < 4611686018427387904) <|
  b1 (forO (fun (e3 : Int) (st3 : Int) =>
      grd ((-4611686018427387904 ≤ e3 ∧ e3 < 4611686018427387904) ∧ -4611686018427387904 ≤ (List.length wheels_here : Int) ∧ (List.length wheels_here : Int) < 4611686018427387904) <|
      grd (List.length (rgI e3 (List.length wheels_here : Int)) ≤ 16777216) <|
      b1 (fmapO (fun e4 : Int => b1 (atI places_here e4) fun t2 => b1 (atI places_here e3) fun t3 => some (decide (t2 < (t3 + width)))) (fun e4 : Int => b1 (atI wheels_here e4) fun t4 => b1 (atI ([t4.1, t4.2.1, t4.2.2] : List Int) which) fun t5 => some t5) (rgI e3 (List.length wheels_here : Int))) fun near =>
      lt (Max.max st3 (List.sum near)) fun (most' : Int) =>
      some most') (rgI 0 (List.length wheels_here : Int)) (0 : Int)) fun most'2 =>
  some most'2
set_option maxHeartbeats 2000000 in
theorem sim__law_close {wheels_here : (List (Int × Int × Int))} {width : Int} {which : Int} {r : Int} (e : sh__law_close wheels_here width which = some r) : φ__law_close [(eL (eP3 D.int D.int D.int)) wheels_here, D.int width, D.int which] = some ((fun v => R.va (D.int v)) r) := by
  refine sim_phi (m := m__law_close) (N := 8) (n := 3) (ds := [(eL (eP3 D.int D.int D.int)) wheels_here, D.int width, D.int which]) (s := sh__law_close wheels_here width which) (k := (fun v => R.va (D.int v))) rfl ?_ e
  show J m__law_close nxt [.va ((eL (eP3 D.int D.int D.int)) wheels_here), .va (D.int width), .va (D.int which), .un, .un, .un, .un, .un] (sh__law_close wheels_here width which) (PF (fun v => R.va (D.int v)))
  unfold m__law_close sh__law_close
  refine j_b1 fun places_here h1 => ?_
  refine j_setTN (i := 3) (g1 := [.va ((eL (eP3 D.int D.int D.int)) wheels_here), .va (D.int width), .va (D.int which), .ow (List.map D.int places_here), .un, .un, .un, .un]) (xA (xaC (xV rfl) xaN) (f_call (@sim__law_places wheels_here _ h1) rfl (.inl rfl))) rfl ?_
  refine j_setN (i := 4) (g1 := [.va ((eL (eP3 D.int D.int D.int)) wheels_here), .va (D.int width), .va (D.int which), .ow (List.map D.int places_here), .va (D.int (0 : Int)), .un, .un, .un]) rfl rfl ?_
  refine j_grd fun h2 => ?_
  refine j_for D.int (fun (st : Int) (g : Gm) => ∃ s1 s2 : Slot, g = [.va ((eL (eP3 D.int D.int D.int)) wheels_here), .va (D.int width), .va (D.int which), .ow (List.map D.int places_here), .va (D.int st), s2, s1, .un]) (i_A (xaC (xA (xaC (xV rfl) xaN) (f_lenL (e := (eP3 D.int D.int D.int)) (xs := wheels_here) rfl)) xaN) (f_rg1 h2)) rfl ⟨_, _, rfl⟩ ?_ ?_
  · rintro e3 hx st3 g ⟨s1, s2, rfl⟩
    refine ⟨[.va ((eL (eP3 D.int D.int D.int)) wheels_here), .va (D.int width), .va (D.int which), .ow (List.map D.int places_here), .va (D.int st3), .va (D.int e3), s1, .un], rfl, ?_⟩
    refine j_grd fun h3 => ?_
    refine j_grd fun h4 => ?_
    refine j_b1 fun near h9 => ?_
    refine j_setTN (i := 6) (g1 := [.va ((eL (eP3 D.int D.int D.int)) wheels_here), .va (D.int width), .va (D.int which), .ow (List.map D.int places_here), .va (D.int st3), .va (D.int e3), .ow (List.map D.int near), .un]) (x_lcFO (e := D.int) (e' := D.int) (xs := (rgI e3 (List.length wheels_here : Int))) (fun y4 => R.va (D.int y4)) (i_A (xaC (xV rfl) (xaC (xA (xaC (xV rfl) xaN) (f_lenL (e := (eP3 D.int D.int D.int)) (xs := wheels_here) rfl)) xaN)) (f_rg2 h3)) h4 (fun e4 _ => ⟨[.va ((eL (eP3 D.int D.int D.int)) wheels_here), .va (D.int width), .va (D.int which), .ow (List.map D.int places_here), .va (D.int st3), .va (D.int e3), s1, .va (D.int e4)], rfl, (sm_b1 fun t2 h5 => (sm_b1 fun t3 h6 => (sm_ret (t_val (x2 (x2 (xW rfl) (xV rfl) (f_ixL (e := D.int) (xs := places_here) rfl h5)) (x2 (x2 (xW rfl) (xV rfl) (f_ixL (e := D.int) (xs := places_here) rfl h6)) (xV rfl) (oAdd_int _ _)) (oLt_def _ _))) rfl))), (sm_b1 fun t4 h7 => (sm_b1 fun t5 h8 => (sm_ret (x2 (x2 (xV rfl) (xV rfl) (f_ixL (e := (eP3 D.int D.int D.int)) (xs := wheels_here) rfl h7)) (xV rfl) (f_ixT (e := D.int) (xs := [t4.1, t4.2.1, t4.2.2]) rfl h8)) rfl)))⟩) h9) rfl ?_
    refine j_setN (i := 4) (g1 := [.va ((eL (eP3 D.int D.int D.int)) wheels_here), .va (D.int width), .va (D.int which), .ow (List.map D.int places_here), .va (D.int (Max.max st3 (List.sum near))), .va (D.int e3), .ow (List.map D.int near), .un]) (xA (xaC (xV rfl) (xaC (xA (xaC (xW rfl) xaN) (f_sum (ns := near) rfl)) xaN)) (cMax2_def _ _)) rfl ?_
    refine j_lt (fun (most' : Int) => [.va ((eL (eP3 D.int D.int D.int)) wheels_here), .va (D.int width), .va (D.int which), .ow (List.map D.int places_here), .va (D.int most'), .va (D.int e3), .ow (List.map D.int near), .un]) fun most' => ?_
    exact jt_end ⟨_, _, rfl⟩
  rintro most'2 g ⟨s1, s2, rfl⟩
  exact j_ret (xV rfl) rfl
noncomputable def sh__law_pieces (pieces_here : (List D)) : Option (List Pc) :=
  b1 (forO (fun (e2 : D) (st2 : (List Pc)) =>
      b1 (ixD' e2 (0 : Int)) fun t1 =>
      b1 (eqD t1 (D.str ("open" : Str))) fun t2 =>
      b1 (if (t2) = true then
          b1 (ixD' e2 (1 : Int)) fun t3 =>
          b1 (dInt t3) fun t4 =>
          grd (List.length st2 < 16777216) <|
          lt (st2 ++ [(Sum.inl t4)]) fun (found' : (List Pc)) =>
          some found'
        else
          b1 (ixD' e2 (1 : Int)) fun t5 =>
          b1 (dStr t5) fun t6 =>
          b1 (ixD' e2 (2 : Int)) fun t7 =>
          b1 (dInt t7) fun t8 =>
          b1 (ixD' e2 (3 : Int)) fun t9 =>
          b1 (dInt t9) fun t10 =>
          b1 (ixD' e2 (4 : Int)) fun t11 =>
          b1 (dInt t11) fun t12 =>
          b1 (ixD' e2 (5 : Int)) fun t13 =>
          b1 (dInt t13) fun t14 =>
          grd (List.length st2 < 16777216) <|
          lt (st2 ++ [(Sum.inr (Bg.mk t6 t8 t10 t12 t14))]) fun (found'2 : (List Pc)) =>
          some found'2) fun found'3 =>
      some found'3) pieces_here []) fun found'4 =>
  some found'4
set_option maxHeartbeats 2000000 in
theorem sim__law_pieces {pieces_here : (List D)} {r : (List Pc)} (e : sh__law_pieces pieces_here = some r) : φ__law_pieces [(eL eD) pieces_here] = some ((fun v => R.tm (List.map insP v)) r) := by
  refine sim_phi (m := m__law_pieces) (N := 3) (n := 1) (ds := [(eL eD) pieces_here]) (s := sh__law_pieces pieces_here) (k := (fun v => R.tm (List.map insP v))) rfl ?_ e
  show J m__law_pieces nxt [.va ((eL eD) pieces_here), .un, .un] (sh__law_pieces pieces_here) (PF (fun v => R.tm (List.map insP v)))
  unfold m__law_pieces sh__law_pieces
  refine j_setTN (i := 1) (g1 := [.va ((eL eD) pieces_here), .ow (List.map insP []), .un]) (xA xaN (f_lst rfl rfl rfl)) rfl ?_
  refine j_for eD (fun (st : (List Pc)) (g : Gm) => ∃ s1 : Slot, g = [.va ((eL eD) pieces_here), .ow (List.map insP st), s1]) (i_seq (xV rfl) rfl) rfl ⟨_, rfl⟩ ?_ ?_
  · rintro e2 hx st2 g ⟨s1, rfl⟩
    refine ⟨[.va ((eL eD) pieces_here), .ow (List.map insP st2), .va (eD e2)], rfl, ?_⟩
    refine j_b1 fun t1 h1 => ?_
    refine j_b1 fun t2 h2 => ?_
    refine j_joinB (St := fun (st : (List Pc)) (g : Gm) => g = [.va ((eL eD) pieces_here), .ow (List.map insP st), .va (eD e2)]) (t_val (x2 (x2 (xV rfl) rfl (f_ixD h1)) rfl (f_eq (eqD_R h2 rfl rfl)))) (fun hc => ?_) (fun hc => ?_) ?_
    · refine j_b1 fun t3 h3 => ?_
      refine j_b1 fun t4 h4 => ?_
      refine j_grd fun h5 => ?_
      refine j_appE (i := 1) (g1 := [.va ((eL eD) pieces_here), .ow (List.map insP (st2 ++ [(Sum.inl t4)])), .va (eD e2)]) insP st2 (Sum.inl t4) rfl (xA (xaC (x_dInt (x2 (xV rfl) rfl (f_ixD h3)) h4) xaN) (f_make rfl rfl rfl)) rfl rfl h5 rfl ?_
      refine j_lt (fun (found' : (List Pc)) => [.va ((eL eD) pieces_here), .ow (List.map insP found'), .va (eD e2)]) fun found' => ?_
      exact jn_end rfl
    · refine j_b1 fun t5 h6 => ?_
      refine j_b1 fun t6 h7 => ?_
      refine j_b1 fun t7 h8 => ?_
      refine j_b1 fun t8 h9 => ?_
      refine j_b1 fun t9 h10 => ?_
      refine j_b1 fun t10 h11 => ?_
      refine j_b1 fun t11 h12 => ?_
      refine j_b1 fun t12 h13 => ?_
      refine j_b1 fun t13 h14 => ?_
      refine j_b1 fun t14 h15 => ?_
      refine j_grd fun h16 => ?_
      refine j_appE (i := 1) (g1 := [.va ((eL eD) pieces_here), .ow (List.map insP (st2 ++ [(Sum.inr (Bg.mk t6 t8 t10 t12 t14))])), .va (eD e2)]) insP st2 (Sum.inr (Bg.mk t6 t8 t10 t12 t14)) rfl (xA (xaC (x_dStr (x2 (xV rfl) rfl (f_ixD h6)) h7) (xaC (x_dInt (x2 (xV rfl) rfl (f_ixD h8)) h9) (xaC (x_dInt (x2 (xV rfl) rfl (f_ixD h10)) h11) (xaC (x_dInt (x2 (xV rfl) rfl (f_ixD h12)) h13) (xaC (x_dInt (x2 (xV rfl) rfl (f_ixD h14)) h15) xaN))))) (f_make rfl rfl rfl)) rfl rfl h16 rfl ?_
      refine j_lt (fun (found'2 : (List Pc)) => [.va ((eL eD) pieces_here), .ow (List.map insP found'2), .va (eD e2)]) fun found'2 => ?_
      exact jn_end rfl
    rintro found'3 g rfl
    exact jt_end ⟨_, rfl⟩
  rintro found'4 g ⟨s1, rfl⟩
  exact j_ret (xW rfl) rfl
theorem zipL_same : ∀ xs : List D, zipL xs xs = xs.map fun x => .tup [x, x]
  | [] => rfl
  | x :: xs => by
    rw [List.map_cons, ← zipL_same xs]
    rfl
theorem alike_same (φ : Phi) (mk : List D → D) (xs : List D) (hm : mk = .lst ∨ mk = .tup) (hl : xs.length ≤ 1000000) (ih : ∀ x ∈ xs, φo__law_same φ [x, x] = some (.va (.bl true))) : phi (mr__law_alike φ) 4 2 [mk xs, mk xs] = some (.va (.bl true)) := by
  have hcp := compL_map (gT (gC (gN 2) (gC (gN 3) (gE)))) bY (eA (callR (φo__law_same φ) []) (aC (eV 2) (aC (eV 3) (aN)))) [.va (mk xs), .va (mk xs), .un, .un] (fun x : D => D.tup [x, x]) (fun _ => D.bl true) xs (by
    intro x hx rest
    simp [ih x hx])
  have hz := zipL_same xs
  have ha : cAll [R.va (.lst (xs.map fun _ => D.bl true))] = some (.va (.bl true)) := by
    rw [cAll_def (ns := xs.map fun _ => true) (by simp)]
    simp
  have hl2 : xs.length ≤ 16777216 := by omega
  rcases hm with rfl | rfl
  · simp [mr__law_alike, phi_def, hz, hcp, hl2, ha]
  · simp [mr__law_alike, phi_def, hz, hcp, hl2, ha]
theorem same_refl (n : Nat) : ∀ d : D, pl n d = true → φo__law_same (φr__law_alike n) [d, d] = some (.va (.bl true)) := by
  induction n with
  | zero =>
    intro d h
    cases d with
    | non => simp [φo__law_same, mo__law_same, phi_def]
    | bl b => cases b <;> simp [φo__law_same, mo__law_same, phi_def]
    | int i => simp [φo__law_same, mo__law_same, phi_def]
    | str z => simp [φo__law_same, mo__law_same, phi_def]
    | lst xs => cases h
    | tup xs => cases h
    | ins c fs => cases h
    | rol xs => cases h
    | dic ks xs => cases h
    | exc c fs => cases h
    | opq a => cases h
    | ptp xs => cases h
  | succ n ih =>
    intro d h
    have hR : φr__law_alike (n + 1) = phi (mr__law_alike (φr__law_alike n)) 4 2 := rfl
    cases d with
    | non => simp [φo__law_same, mo__law_same, phi_def]
    | bl b => cases b <;> simp [φo__law_same, mo__law_same, phi_def]
    | int i => simp [φo__law_same, mo__law_same, phi_def]
    | str z => simp [φo__law_same, mo__law_same, phi_def]
    | lst xs =>
      unfold pl at h
      rw [Bool.and_eq_true, decide_eq_true_eq, List.all_eq_true] at h
      have key := alike_same (φr__law_alike n) .lst xs (.inl rfl) h.1 fun x hx => ih x (h.2 x hx)
      rw [← hR] at key
      generalize φr__law_alike (n + 1) = φ at *
      simp [φo__law_same, mo__law_same, phi_def, key]
    | tup xs =>
      unfold pl at h
      rw [Bool.and_eq_true, decide_eq_true_eq, List.all_eq_true] at h
      have key := alike_same (φr__law_alike n) .tup xs (.inr rfl) h.1 fun x hx => ih x (h.2 x hx)
      rw [← hR] at key
      generalize φr__law_alike (n + 1) = φ at *
      simp [φo__law_same, mo__law_same, phi_def, key]
    | ins c fs => cases h
    | rol xs => cases h
    | dic ks xs => cases h
    | exc c fs => cases h
    | opq a => cases h
    | ptp xs => cases h
noncomputable def sh__law_same (a b : D) : Option Bool := sameG a b
theorem sim__law_same {a b : D} {r : Bool} (e : sh__law_same a b = some r) : φ__law_same [eD a, eD b] = some (.va (.bl r)) := by
  obtain ⟨rfl, h, rfl⟩ := sameG_inv e
  exact same_refl 10 a (pl_mono 9 a h)
noncomputable def sh__law_run (wheels_here : (List (Int × Int × Int))) (drawn : Int) : Option (List (Int × Int × Int)) :=
  grd ((List.length wheels_here : Int) ≠ 0) <|
  lt (Int.fmod drawn (List.length wheels_here : Int)) fun (first : Int) =>
  grd (((List.length wheels_here : Int) - first) ≠ 0) <|
  some (cutL wheels_here (some first) (some ((first + (1 : Int)) + (Int.fmod (drawn / (8 : Int)) ((List.length wheels_here : Int) - first)))))
set_option maxHeartbeats 2000000 in
theorem sim__law_run {wheels_here : (List (Int × Int × Int))} {drawn : Int} {r : (List (Int × Int × Int))} (e : sh__law_run wheels_here drawn = some r) : φ__law_run [(eL (eP3 D.int D.int D.int)) wheels_here, D.int drawn] = some ((fun v => R.tm (List.map (eP3 D.int D.int D.int) v)) r) := by
  refine sim_phi (m := m__law_run) (N := 3) (n := 2) (ds := [(eL (eP3 D.int D.int D.int)) wheels_here, D.int drawn]) (s := sh__law_run wheels_here drawn) (k := (fun v => R.tm (List.map (eP3 D.int D.int D.int) v))) rfl ?_ e
  show J m__law_run nxt [.va ((eL (eP3 D.int D.int D.int)) wheels_here), .va (D.int drawn), .un] (sh__law_run wheels_here drawn) (PF (fun v => R.tm (List.map (eP3 D.int D.int D.int) v)))
  unfold m__law_run sh__law_run
  refine j_grd fun h1 => ?_
  refine j_setN (i := 2) (g1 := [.va ((eL (eP3 D.int D.int D.int)) wheels_here), .va (D.int drawn), .va (D.int (Int.fmod drawn (List.length wheels_here : Int)))]) (x2 (xV rfl) (xA (xaC (xV rfl) xaN) (f_lenL (e := (eP3 D.int D.int D.int)) (xs := wheels_here) rfl)) (f_mod h1)) rfl ?_
  refine j_lt (fun (first : Int) => [.va ((eL (eP3 D.int D.int D.int)) wheels_here), .va (D.int drawn), .va (D.int first)]) fun first => ?_
  refine j_grd fun h2 => ?_
  exact j_ret (x_sl (xV rfl) (x_pS (xV rfl)) (x_pS (x2 (x2 (xV rfl) rfl (oAdd_int _ _)) (x2 (x2 (xV rfl) rfl (f_divK (by decide))) (x2 (xA (xaC (xV rfl) xaN) (f_lenL (e := (eP3 D.int D.int D.int)) (xs := wheels_here) rfl)) (xV rfl) (oSub_def _ _)) (f_mod h2)) (oAdd_int _ _))) (f_slL (e := (eP3 D.int D.int D.int)) (xs := wheels_here) rfl)) rfl
noncomputable def sh__law_narrow (cell_here : Int) (wheels_here : (List (Int × Int × Int))) (name : Str) : Option (Str × Str × Int × Int × Int × Int) :=
  b1 (sh__law_mix cell_here (100 : Int) (1000037 : Int)) fun drawn =>
  b1 (sh__law_run wheels_here (drawn / (5 : Int))) fun part =>
  b1 (sh__law_places wheels_here) fun t3 =>
  b1 (atI t3 (-(1 : Int))) fun t4 =>
  b1 (atI ([(1 : Int), (1000 : Int), ((1 : Int) + t4), ((1 : Int) + ((drawn / (300 : Int)) % (100 : Int))), ((1 : Int) + ((drawn / (300 : Int)) % (220 : Int)))] : List Int) (drawn % (5 : Int))) fun length =>
  b1 (atI ([(1 : Int), (200 : Int), ((1 : Int) + ((drawn / (300 : Int)) % (60 : Int))), (200 : Int)] : List Int) ((drawn / (70000 : Int)) % (4 : Int))) fun wide =>
  grd (List.length wheels_here ≤ 16777216) <|
  b1 (maxL (List.map (fun e1 : (Int × Int × Int) => e1.2.2) wheels_here)) fun single =>
  b1 (sh__law_close part length (2 : Int)) fun bears =>
  b1 (if (decide ((0 : Int) < ((drawn / (280 : Int)) % (4 : Int)))) = true then
      lt (Max.max single bears) fun (bears' : Int) =>
      some bears'
    else
      some bears) fun bears'2 =>
  b1 (sh__law_run wheels_here (drawn / (400 : Int))) fun t9 =>
  b1 (sh__law_close t9 wide (2 : Int)) fun t10 =>
  lt (((Max.max single t10) + ((drawn / (9 : Int)) % (3 : Int))) - (1 : Int)) fun (most : Int) =>
  some (("bridge" : Str), name, length, (Max.max (1 : Int) (Min.min (10000000 : Int) bears'2)), wide, (Max.max (1 : Int) (Min.min (10000000 : Int) most)))
set_option maxHeartbeats 2000000 in
theorem sim__law_narrow {cell_here : Int} {wheels_here : (List (Int × Int × Int))} {name : Str} {r : (Str × Str × Int × Int × Int × Int)} (e : sh__law_narrow cell_here wheels_here name = some r) : φ__law_narrow [D.int cell_here, (eL (eP3 D.int D.int D.int)) wheels_here, D.str name] = some ((fun v => R.va ((eP6 D.str D.str D.int D.int D.int D.int) v)) r) := by
  refine sim_phi (m := m__law_narrow) (N := 11) (n := 3) (ds := [D.int cell_here, (eL (eP3 D.int D.int D.int)) wheels_here, D.str name]) (s := sh__law_narrow cell_here wheels_here name) (k := (fun v => R.va ((eP6 D.str D.str D.int D.int D.int D.int) v))) rfl ?_ e
  show J m__law_narrow nxt [.va (D.int cell_here), .va ((eL (eP3 D.int D.int D.int)) wheels_here), .va (D.str name), .un, .un, .un, .un, .un, .un, .un, .un] (sh__law_narrow cell_here wheels_here name) (PF (fun v => R.va ((eP6 D.str D.str D.int D.int D.int D.int) v)))
  unfold m__law_narrow sh__law_narrow
  refine j_b1 fun drawn h1 => ?_
  refine j_setN (i := 3) (g1 := [.va (D.int cell_here), .va ((eL (eP3 D.int D.int D.int)) wheels_here), .va (D.str name), .va (D.int drawn), .un, .un, .un, .un, .un, .un, .un]) (xA (xaC (xV rfl) (xaC rfl (xaC rfl xaN))) (f_call (@sim__law_mix cell_here (100 : Int) (1000037 : Int) _ h1) rfl (.inl rfl))) rfl ?_
  refine j_b1 fun part h2 => ?_
  refine j_setTN (i := 4) (g1 := [.va (D.int cell_here), .va ((eL (eP3 D.int D.int D.int)) wheels_here), .va (D.str name), .va (D.int drawn), .ow (List.map (eP3 D.int D.int D.int) part), .un, .un, .un, .un, .un, .un]) (xA (xaC (xV rfl) (xaC (x2 (xV rfl) rfl (f_divK (by decide))) xaN)) (f_call (@sim__law_run wheels_here (drawn / (5 : Int)) _ h2) rfl (.inl rfl))) rfl ?_
  refine j_b1 fun t3 h3 => ?_
  refine j_b1 fun t4 h4 => ?_
  refine j_b1 fun length h5 => ?_
  refine j_setN (i := 5) (g1 := [.va (D.int cell_here), .va ((eL (eP3 D.int D.int D.int)) wheels_here), .va (D.str name), .va (D.int drawn), .ow (List.map (eP3 D.int D.int D.int) part), .va (D.int length), .un, .un, .un, .un, .un]) (x2 (xA (xaC rfl (xaC rfl (xaC (x2 rfl (x2 (xA (xaC (xV rfl) xaN) (f_call (@sim__law_places wheels_here _ h3) rfl (.inl rfl))) (x1 rfl (uNeg_def _)) (f_ixL (e := D.int) (xs := t3) rfl h4)) (oAdd_int _ _)) (xaC (x2 rfl (x2 (x2 (xV rfl) rfl (f_divK (by decide))) rfl (f_modK (by decide))) (oAdd_int _ _)) (xaC (x2 rfl (x2 (x2 (xV rfl) rfl (f_divK (by decide))) rfl (f_modK (by decide))) (oAdd_int _ _)) xaN))))) (f_lst rfl rfl rfl)) (x2 (xV rfl) rfl (f_modK (by decide))) (f_ixL (e := D.int) (xs := [(1 : Int), (1000 : Int), ((1 : Int) + t4), ((1 : Int) + ((drawn / (300 : Int)) % (100 : Int))), ((1 : Int) + ((drawn / (300 : Int)) % (220 : Int)))]) rfl h5)) rfl ?_
  refine j_b1 fun wide h6 => ?_
  refine j_setN (i := 6) (g1 := [.va (D.int cell_here), .va ((eL (eP3 D.int D.int D.int)) wheels_here), .va (D.str name), .va (D.int drawn), .ow (List.map (eP3 D.int D.int D.int) part), .va (D.int length), .va (D.int wide), .un, .un, .un, .un]) (x2 (xA (xaC rfl (xaC rfl (xaC (x2 rfl (x2 (x2 (xV rfl) rfl (f_divK (by decide))) rfl (f_modK (by decide))) (oAdd_int _ _)) (xaC rfl xaN)))) (f_lst rfl rfl rfl)) (x2 (x2 (xV rfl) rfl (f_divK (by decide))) rfl (f_modK (by decide))) (f_ixL (e := D.int) (xs := [(1 : Int), (200 : Int), ((1 : Int) + ((drawn / (300 : Int)) % (60 : Int))), (200 : Int)]) rfl h6)) rfl ?_
  refine j_grd fun h7 => ?_
  refine j_b1 fun single h8 => ?_
  refine j_setN (i := 7) (g1 := [.va (D.int cell_here), .va ((eL (eP3 D.int D.int D.int)) wheels_here), .va (D.str name), .va (D.int drawn), .ow (List.map (eP3 D.int D.int D.int) part), .va (D.int length), .va (D.int wide), .va (D.int single), .un, .un, .un]) (xA (xaC (x_lc (e := (eP3 D.int D.int D.int)) (e' := D.int) (xs := wheels_here) (v := fun e1 => e1.2.2) (fun e1 => R.va (D.int e1.2.2)) (i_seq (xV rfl) rfl) h7 (fun e1 _ => ⟨[.va (D.int cell_here), .va ((eL (eP3 D.int D.int D.int)) wheels_here), .va (D.str name), .va (D.int drawn), .ow (List.map (eP3 D.int D.int D.int) part), .va (D.int length), .va (D.int wide), .un, .un, .un, .va ((eP3 D.int D.int D.int) e1)], rfl, (x2 (xV rfl) rfl (f_ixC 2 rfl))⟩)) xaN) (f_max1 (ns := (List.map (fun e1 : (Int × Int × Int) => e1.2.2) wheels_here)) rfl h8)) rfl ?_
  refine j_fzO (g1 := [.va (D.int cell_here), .va ((eL (eP3 D.int D.int D.int)) wheels_here), .va (D.str name), .va (D.int drawn), .va ((eL (eP3 D.int D.int D.int)) part), .va (D.int length), .va (D.int wide), .va (D.int single), .un, .un, .un]) rfl rfl ?_
  refine j_b1 fun bears h9 => ?_
  refine j_setN (i := 8) (g1 := [.va (D.int cell_here), .va ((eL (eP3 D.int D.int D.int)) wheels_here), .va (D.str name), .va (D.int drawn), .va ((eL (eP3 D.int D.int D.int)) part), .va (D.int length), .va (D.int wide), .va (D.int single), .va (D.int bears), .un, .un]) (xA (xaC (xV rfl) (xaC (xV rfl) (xaC rfl xaN))) (f_call (@sim__law_close part length (2 : Int) _ h9) rfl (.inl rfl))) rfl ?_
  refine j_joinB (St := fun (st : Int) (g : Gm) => g = [.va (D.int cell_here), .va ((eL (eP3 D.int D.int D.int)) wheels_here), .va (D.str name), .va (D.int drawn), .va ((eL (eP3 D.int D.int D.int)) part), .va (D.int length), .va (D.int wide), .va (D.int single), .va (D.int st), .un, .un]) (t_val (x2 (x2 (x2 (xV rfl) rfl (f_divK (by decide))) rfl (f_modK (by decide))) rfl (oGt_def _ _))) (fun hc => ?_) (fun hc => ?_) ?_
  · refine j_setN (i := 8) (g1 := [.va (D.int cell_here), .va ((eL (eP3 D.int D.int D.int)) wheels_here), .va (D.str name), .va (D.int drawn), .va ((eL (eP3 D.int D.int D.int)) part), .va (D.int length), .va (D.int wide), .va (D.int single), .va (D.int (Max.max single bears)), .un, .un]) (xA (xaC (xV rfl) (xaC (xV rfl) xaN)) (cMax2_def _ _)) rfl ?_
    refine j_lt (fun (bears' : Int) => [.va (D.int cell_here), .va ((eL (eP3 D.int D.int D.int)) wheels_here), .va (D.str name), .va (D.int drawn), .va ((eL (eP3 D.int D.int D.int)) part), .va (D.int length), .va (D.int wide), .va (D.int single), .va (D.int bears'), .un, .un]) fun bears' => ?_
    exact jn_end rfl
  · exact jn_end rfl
  rintro bears'2 g rfl
  refine j_b1 fun t9 h10 => ?_
  refine j_b1 fun t10 h11 => ?_
  refine j_setN (i := 9) (g1 := [.va (D.int cell_here), .va ((eL (eP3 D.int D.int D.int)) wheels_here), .va (D.str name), .va (D.int drawn), .va ((eL (eP3 D.int D.int D.int)) part), .va (D.int length), .va (D.int wide), .va (D.int single), .va (D.int bears'2), .va (D.int (((Max.max single t10) + ((drawn / (9 : Int)) % (3 : Int))) - (1 : Int))), .un]) (x2 (x2 (xA (xaC (xV rfl) (xaC (xA (xaC (xA (xaC (xV rfl) (xaC (x2 (xV rfl) rfl (f_divK (by decide))) xaN)) (f_call (@sim__law_run wheels_here (drawn / (400 : Int)) _ h10) rfl (.inl rfl))) (xaC (xV rfl) (xaC rfl xaN))) (f_call (@sim__law_close t9 wide (2 : Int) _ h11) rfl (.inl rfl))) xaN)) (cMax2_def _ _)) (x2 (x2 (xV rfl) rfl (f_divK (by decide))) rfl (f_modK (by decide))) (oAdd_int _ _)) rfl (oSub_def _ _)) rfl ?_
  refine j_lt (fun (most : Int) => [.va (D.int cell_here), .va ((eL (eP3 D.int D.int D.int)) wheels_here), .va (D.str name), .va (D.int drawn), .va ((eL (eP3 D.int D.int D.int)) part), .va (D.int length), .va (D.int wide), .va (D.int single), .va (D.int bears'2), .va (D.int most), .un]) fun most => ?_
  exact j_ret (xA (xaC rfl (xaC (xV rfl) (xaC (xV rfl) (xaC (xA (xaC rfl (xaC (xA (xaC (x2 rfl rfl (f_powK (by decide) (by decide))) (xaC (xV rfl) xaN)) (cMin2_def _ _)) xaN)) (cMax2_def _ _)) (xaC (xV rfl) (xaC (xA (xaC rfl (xaC (xA (xaC (x2 rfl rfl (f_powK (by decide) (by decide))) (xaC (xV rfl) xaN)) (cMin2_def _ _)) xaN)) (cMax2_def _ _)) xaN)))))) (f_tup rfl rfl rfl)) rfl
noncomputable def sh__law_fits (bridges : (List (Str × Str × Int × Int × Int × Int))) (wheels_here : (List (Int × Int × Int))) : Option Bool :=
  b1 (forC (fun (e2 : (Str × Str × Int × Int × Int × Int)) (st2 : Unit) =>
      b1 (sh__law_close wheels_here e2.2.2.1 (2 : Int)) fun t1 =>
      b1 (if (decide (e2.2.2.2.1 < t1)) = true then some true else b1 (sh__law_close wheels_here e2.2.2.2.2.1 (2 : Int)) fun t2 => some (decide (e2.2.2.2.2.2 < t2))) fun t3 =>
      if t3 = true then
          some (.rt false)
      else
        some (.nx ())) bridges ()) fun c => ctl c (fun u4 =>
  some true) fun r => some r
set_option maxHeartbeats 2000000 in
theorem sim__law_fits {bridges : (List (Str × Str × Int × Int × Int × Int))} {wheels_here : (List (Int × Int × Int))} {r : Bool} (e : sh__law_fits bridges wheels_here = some r) : φ__law_fits [(eL (eP6 D.str D.str D.int D.int D.int D.int)) bridges, (eL (eP3 D.int D.int D.int)) wheels_here] = some ((fun v => R.va (D.bl v)) r) := by
  refine sim_phi (m := m__law_fits) (N := 3) (n := 2) (ds := [(eL (eP6 D.str D.str D.int D.int D.int D.int)) bridges, (eL (eP3 D.int D.int D.int)) wheels_here]) (s := sh__law_fits bridges wheels_here) (k := (fun v => R.va (D.bl v))) rfl ?_ e
  show J m__law_fits nxt [.va ((eL (eP6 D.str D.str D.int D.int D.int D.int)) bridges), .va ((eL (eP3 D.int D.int D.int)) wheels_here), .un] (sh__law_fits bridges wheels_here) (PF (fun v => R.va (D.bl v)))
  unfold m__law_fits sh__law_fits
  refine j_forC (eP6 D.str D.str D.int D.int D.int D.int) (fun (st : Unit) (g : Gm) => ∃ s1 : Slot, g = [.va ((eL (eP6 D.str D.str D.int D.int D.int D.int)) bridges), .va ((eL (eP3 D.int D.int D.int)) wheels_here), s1]) (fun v => R.va (D.bl v)) (i_seq (xV rfl) rfl) rfl ⟨_, rfl⟩ ?_ ?_ ?_
  · rintro e2 hx st2 g ⟨s1, rfl⟩
    refine ⟨[.va ((eL (eP6 D.str D.str D.int D.int D.int D.int)) bridges), .va ((eL (eP3 D.int D.int D.int)) wheels_here), .va ((eP6 D.str D.str D.int D.int D.int D.int) e2)], rfl, ?_⟩
    refine j_b1 fun t1 h1 => ?_
    refine j_b1 fun t3 h3 => ?_
    refine j_if (t_orP (t_val (x2 (xA (xaC (xV rfl) (xaC (x2 (xV rfl) rfl (f_ixC 2 rfl)) (xaC rfl xaN))) (f_call (@sim__law_close wheels_here e2.2.2.1 (2 : Int) _ h1) rfl (.inl rfl))) (x2 (xV rfl) rfl (f_ixC 3 rfl)) (oGt_def _ _))) (fun _ => (sm_b1 fun t2 h2 => (sm_ret (t_val (x2 (xA (xaC (xV rfl) (xaC (x2 (xV rfl) rfl (f_ixC 4 rfl)) (xaC rfl xaN))) (f_call (@sim__law_close wheels_here e2.2.2.2.2.1 (2 : Int) _ h2) rfl (.inl rfl))) (x2 (xV rfl) rfl (f_ixC 5 rfl)) (oGt_def _ _))) rfl))) h3) (fun hc => ?_) (fun hc => ?_)
    · exact jc_ret rfl rfl
    · refine j_nilC ?_
      exact jc_end ⟨_, rfl⟩
  · rintro ⟨⟩ g ⟨s1, rfl⟩
    exact j_ret rfl rfl
  · exact fun r => sm_ret rfl rfl
noncomputable def sh__law_cuts (bridges : (List (Str × Str × Int × Int × Int × Int))) (wheels_here : (List (Int × Int × Int))) : Option (List (Int × (List Int) × (List (List (Int × Int × Int))))) :=
  grd (CPow (1 : Int) ((List.length wheels_here : Int) - (1 : Int))) <|
  grd (-4611686018427387904 ≤ ((1 : Int) * 2 ^ Int.toNat ((List.length wheels_here : Int) - (1 : Int))) ∧ ((1 : Int) * 2 ^ Int.toNat ((List.length wheels_here : Int) - (1 : Int))) < 4611686018427387904) <|
  b1 (forO (fun (e4 : Int) (st4 : (List (Int × (List Int) × (List (List (Int × Int × Int)))))) =>
      b1 (atI wheels_here (0 : Int)) fun t1 =>
      grd ((-4611686018427387904 ≤ (1 : Int) ∧ (1 : Int) < 4611686018427387904) ∧ -4611686018427387904 ≤ (List.length wheels_here : Int) ∧ (List.length wheels_here : Int) < 4611686018427387904) <|
      b1 (forO (fun (e6 : Int) (st6 : (List (List (Int × Int × Int)))) =>
          grd (0 ≤ (e6 - (1 : Int))) <|
          b1 (if (decide ((Builtin.bitAnd (e4 / 2 ^ Int.toNat (e6 - (1 : Int))) (1 : Int)) = (1 : Int))) = true then
              grd (List.length st6 < 16777216) <|
              lt (st6 ++ [[]]) fun (cut : (List (List (Int × Int × Int)))) =>
              some cut
            else
              some st6) fun cut' =>
          b1 (atI wheels_here e6) fun t2 =>
          b1 (appL cut' t2) fun t3 =>
          some t3) (rgI (1 : Int) (List.length wheels_here : Int)) [[t1]]) fun cut'2 =>
      grd (List.length cut'2 ≤ 16777216) <|
      b1 (mapO (fun e7 : (List (Int × Int × Int)) => b1 (sh__law_fits bridges e7) fun t4 => some t4) cut'2) fun t5 =>
      b1 (if (List.all t5 id) = true then
          grd (List.length cut'2 ≤ 16777216) <|
          grd (List.length st4 < 16777216) <|
          lt (st4 ++ [((List.length cut'2 : Int), (List.map (fun e8 : (List (Int × Int × Int)) => (-(List.length e8 : Int))) cut'2), cut'2)]) fun (found' : (List (Int × (List Int) × (List (List (Int × Int × Int)))))) =>
          some found'
        else
          some st4) fun found'2 =>
      some found'2) (rgI 0 ((1 : Int) * 2 ^ Int.toNat ((List.length wheels_here : Int) - (1 : Int)))) []) fun found'3 =>
  grd ((List.map (fun x : (Int × (List Int) × (List (List (Int × Int × Int)))) => ([[x.1], x.2.1] : List (List Int))) found'3).Nodup) <|
  some (sortBy (fun x : (Int × (List Int) × (List (List (Int × Int × Int)))) => ([[x.1], x.2.1] : List (List Int))) found'3)
set_option maxHeartbeats 2000000 in
theorem sim__law_cuts {bridges : (List (Str × Str × Int × Int × Int × Int))} {wheels_here : (List (Int × Int × Int))} {r : (List (Int × (List Int) × (List (List (Int × Int × Int)))))} (e : sh__law_cuts bridges wheels_here = some r) : φ__law_cuts [(eL (eP6 D.str D.str D.int D.int D.int D.int)) bridges, (eL (eP3 D.int D.int D.int)) wheels_here] = some ((fun v => R.tm (List.map (eP3 D.int (eL D.int) (eL (eL (eP3 D.int D.int D.int)))) v)) r) := by
  refine sim_phi (m := m__law_cuts) (N := 7) (n := 2) (ds := [(eL (eP6 D.str D.str D.int D.int D.int D.int)) bridges, (eL (eP3 D.int D.int D.int)) wheels_here]) (s := sh__law_cuts bridges wheels_here) (k := (fun v => R.tm (List.map (eP3 D.int (eL D.int) (eL (eL (eP3 D.int D.int D.int)))) v))) rfl ?_ e
  show J m__law_cuts nxt [.va ((eL (eP6 D.str D.str D.int D.int D.int D.int)) bridges), .va ((eL (eP3 D.int D.int D.int)) wheels_here), .un, .un, .un, .un, .un] (sh__law_cuts bridges wheels_here) (PF (fun v => R.tm (List.map (eP3 D.int (eL D.int) (eL (eL (eP3 D.int D.int D.int)))) v)))
  unfold m__law_cuts sh__law_cuts
  refine j_setTN (i := 2) (g1 := [.va ((eL (eP6 D.str D.str D.int D.int D.int D.int)) bridges), .va ((eL (eP3 D.int D.int D.int)) wheels_here), .ow (List.map (eP3 D.int (eL D.int) (eL (eL (eP3 D.int D.int D.int)))) []), .un, .un, .un, .un]) (xA xaN (f_lst rfl rfl rfl)) rfl ?_
  refine j_grd fun h1 => ?_
  refine j_grd fun h2 => ?_
  refine j_for D.int (fun (st : (List (Int × (List Int) × (List (List (Int × Int × Int)))))) (g : Gm) => ∃ s1 s2 s3 : Slot, g = [.va ((eL (eP6 D.str D.str D.int D.int D.int D.int)) bridges), .va ((eL (eP3 D.int D.int D.int)) wheels_here), .ow (List.map (eP3 D.int (eL D.int) (eL (eL (eP3 D.int D.int D.int)))) st), s3, s1, s2, .un]) (i_A (xaC (x2 rfl (x2 (xA (xaC (xV rfl) xaN) (f_lenL (e := (eP3 D.int D.int D.int)) (xs := wheels_here) rfl)) rfl (oSub_def _ _)) (f_shl h1)) xaN) (f_rg1 h2)) rfl ⟨_, _, _, rfl⟩ ?_ ?_
  · rintro e4 hx st4 g ⟨s1, s2, s3, rfl⟩
    refine ⟨[.va ((eL (eP6 D.str D.str D.int D.int D.int D.int)) bridges), .va ((eL (eP3 D.int D.int D.int)) wheels_here), .ow (List.map (eP3 D.int (eL D.int) (eL (eL (eP3 D.int D.int D.int)))) st4), .va (D.int e4), s1, s2, .un], rfl, ?_⟩
    refine j_b1 fun t1 h3 => ?_
    refine j_setOt (i := 4) (t := tL2 (eP3 D.int D.int D.int) [[t1]]) (g1 := [.va ((eL (eP6 D.str D.str D.int D.int D.int D.int)) bridges), .va ((eL (eP3 D.int D.int D.int)) wheels_here), .ow (List.map (eP3 D.int (eL D.int) (eL (eL (eP3 D.int D.int D.int)))) st4), .va (D.int e4), .ot (tL2 (eP3 D.int D.int D.int) [[t1]]), s2, .un]) (k_kLs (k_ksC (xA (xaC (x2 (xV rfl) rfl (f_ixL (e := (eP3 D.int D.int D.int)) (xs := wheels_here) rfl h3)) xaN) (f_lst rfl rfl rfl)) k_ksN) (by simp)) (by simp) rfl ?_
    refine j_grd fun h4 => ?_
    refine j_for D.int (fun (st : (List (List (Int × Int × Int)))) (g : Gm) => ∃ s5 : Slot, g = [.va ((eL (eP6 D.str D.str D.int D.int D.int D.int)) bridges), .va ((eL (eP3 D.int D.int D.int)) wheels_here), .ow (List.map (eP3 D.int (eL D.int) (eL (eL (eP3 D.int D.int D.int)))) st4), .va (D.int e4), .ot (tL2 (eP3 D.int D.int D.int) st), s5, .un]) (i_A (xaC rfl (xaC (xA (xaC (xV rfl) xaN) (f_lenL (e := (eP3 D.int D.int D.int)) (xs := wheels_here) rfl)) xaN)) (f_rg2 h4)) rfl ⟨_, rfl⟩ ?_ ?_
    · rintro e6 hx st6 g ⟨s5, rfl⟩
      refine ⟨[.va ((eL (eP6 D.str D.str D.int D.int D.int D.int)) bridges), .va ((eL (eP3 D.int D.int D.int)) wheels_here), .ow (List.map (eP3 D.int (eL D.int) (eL (eL (eP3 D.int D.int D.int)))) st4), .va (D.int e4), .ot (tL2 (eP3 D.int D.int D.int) st6), .va (D.int e6), .un], rfl, ?_⟩
      refine j_grd fun h5 => ?_
      refine j_joinB (St := fun (st : (List (List (Int × Int × Int)))) (g : Gm) => g = [.va ((eL (eP6 D.str D.str D.int D.int D.int D.int)) bridges), .va ((eL (eP3 D.int D.int D.int)) wheels_here), .ow (List.map (eP3 D.int (eL D.int) (eL (eL (eP3 D.int D.int D.int)))) st4), .va (D.int e4), .ot (tL2 (eP3 D.int D.int D.int) st), .va (D.int e6), .un]) (t_val (x2 (x2 (x2 (xV rfl) (x2 (xV rfl) rfl (oSub_def _ _)) (f_shr h5)) rfl (oAndB_def _ _)) rfl (oEq_int _ _))) (fun hc => ?_) (fun hc => ?_) ?_
      · refine j_grd fun h6 => ?_
        refine j_appT (i := 4) (e := (eP3 D.int D.int D.int)) (xs := st6) (ys := []) (g1 := [.va ((eL (eP6 D.str D.str D.int D.int D.int D.int)) bridges), .va ((eL (eP3 D.int D.int D.int)) wheels_here), .ow (List.map (eP3 D.int (eL D.int) (eL (eL (eP3 D.int D.int D.int)))) st4), .va (D.int e4), .ot (tL2 (eP3 D.int D.int D.int) (st6 ++ [[]])), .va (D.int e6), .un]) rfl (xA xaN (f_lst rfl rfl rfl)) h6 rfl ?_
        refine j_lt (fun (cut : (List (List (Int × Int × Int)))) => [.va ((eL (eP6 D.str D.str D.int D.int D.int D.int)) bridges), .va ((eL (eP3 D.int D.int D.int)) wheels_here), .ow (List.map (eP3 D.int (eL D.int) (eL (eL (eP3 D.int D.int D.int)))) st4), .va (D.int e4), .ot (tL2 (eP3 D.int D.int D.int) cut), .va (D.int e6), .un]) fun cut => ?_
        exact jn_end rfl
      · exact jn_end rfl
      rintro cut' g rfl
      refine j_b1 fun t2 h7 => ?_
      refine j_b1 fun t3 h8 => ?_
      refine j_appL (i := 4) (e := (eP3 D.int D.int D.int)) (xs := cut') (y := t2) (g1 := [.va ((eL (eP6 D.str D.str D.int D.int D.int D.int)) bridges), .va ((eL (eP3 D.int D.int D.int)) wheels_here), .ow (List.map (eP3 D.int (eL D.int) (eL (eL (eP3 D.int D.int D.int)))) st4), .va (D.int e4), .ot (tL2 (eP3 D.int D.int D.int) t3), .va (D.int e6), .un]) rfl (x1 rfl (uNeg_def _)) (x2 (xV rfl) (xV rfl) (f_ixL (e := (eP3 D.int D.int D.int)) (xs := wheels_here) rfl h7)) h8 rfl ?_
      exact jt_end ⟨_, rfl⟩
    rintro cut'2 g ⟨s5, rfl⟩
    refine j_grd fun h9 => ?_
    refine j_b1 fun t5 h11 => ?_
    refine j_joinB (St := fun (st : (List (Int × (List Int) × (List (List (Int × Int × Int)))))) (g : Gm) => ∃ s9 : Slot, g = [.va ((eL (eP6 D.str D.str D.int D.int D.int D.int)) bridges), .va ((eL (eP3 D.int D.int D.int)) wheels_here), .ow (List.map (eP3 D.int (eL D.int) (eL (eL (eP3 D.int D.int D.int)))) st), .va (D.int e4), s9, s5, .un]) (x_bTh (i := 4) (g1 := [.va ((eL (eP6 D.str D.str D.int D.int D.int D.int)) bridges), .va ((eL (eP3 D.int D.int D.int)) wheels_here), .ow (List.map (eP3 D.int (eL D.int) (eL (eL (eP3 D.int D.int D.int)))) st4), .va (D.int e4), .va ((eL (eL (eP3 D.int D.int D.int))) cut'2), s5, .un]) rfl (d_tL2 (eP3 D.int D.int D.int) cut'2) rfl (t_val (xA (xaC (x_lcO (e := (eL (eP3 D.int D.int D.int))) (e' := D.bl) (xs := cut'2) (fun y7 => R.va (D.bl y7)) (i_seq (xV rfl) rfl) h9 (fun e7 _ => ⟨[.va ((eL (eP6 D.str D.str D.int D.int D.int D.int)) bridges), .va ((eL (eP3 D.int D.int D.int)) wheels_here), .ow (List.map (eP3 D.int (eL D.int) (eL (eL (eP3 D.int D.int D.int)))) st4), .va (D.int e4), .va ((eL (eL (eP3 D.int D.int D.int))) cut'2), s5, .va ((eL (eP3 D.int D.int D.int)) e7)], rfl, (sm_b1 fun t4 h10 => (sm_ret (xA (xaC (xV rfl) (xaC (xV rfl) xaN)) (f_call (@sim__law_fits bridges e7 _ h10) rfl (.inl rfl))) rfl))⟩) h11) xaN) (f_all (ns := t5) rfl)))) (fun hc => ?_) (fun hc => ?_) ?_
    · refine j_fzT (g1 := [.va ((eL (eP6 D.str D.str D.int D.int D.int D.int)) bridges), .va ((eL (eP3 D.int D.int D.int)) wheels_here), .ow (List.map (eP3 D.int (eL D.int) (eL (eL (eP3 D.int D.int D.int)))) st4), .va (D.int e4), .va ((eL (eL (eP3 D.int D.int D.int))) cut'2), s5, .un]) rfl (d_tL2 (eP3 D.int D.int D.int) cut'2) rfl ?_
      refine j_grd fun h12 => ?_
      refine j_grd fun h13 => ?_
      refine j_appE (i := 2) (g1 := [.va ((eL (eP6 D.str D.str D.int D.int D.int D.int)) bridges), .va ((eL (eP3 D.int D.int D.int)) wheels_here), .ow (List.map (eP3 D.int (eL D.int) (eL (eL (eP3 D.int D.int D.int)))) (st4 ++ [((List.length cut'2 : Int), (List.map (fun e8 : (List (Int × Int × Int)) => (-(List.length e8 : Int))) cut'2), cut'2)])), .va (D.int e4), .va ((eL (eL (eP3 D.int D.int D.int))) cut'2), s5, .un]) (eP3 D.int (eL D.int) (eL (eL (eP3 D.int D.int D.int)))) st4 ((List.length cut'2 : Int), (List.map (fun e8 : (List (Int × Int × Int)) => (-(List.length e8 : Int))) cut'2), cut'2) rfl (xA (xaC (xA (xaC (xV rfl) xaN) (f_lenL (e := (eL (eP3 D.int D.int D.int))) (xs := cut'2) rfl)) (xaC (x_lc (e := (eL (eP3 D.int D.int D.int))) (e' := D.int) (xs := cut'2) (v := fun e8 => (-(List.length e8 : Int))) (fun e8 => R.va (D.int (-(List.length e8 : Int)))) (i_seq (xV rfl) rfl) h12 (fun e8 _ => ⟨[.va ((eL (eP6 D.str D.str D.int D.int D.int D.int)) bridges), .va ((eL (eP3 D.int D.int D.int)) wheels_here), .ow (List.map (eP3 D.int (eL D.int) (eL (eL (eP3 D.int D.int D.int)))) st4), .va (D.int e4), .va ((eL (eL (eP3 D.int D.int D.int))) cut'2), s5, .va ((eL (eP3 D.int D.int D.int)) e8)], rfl, (x1 (xA (xaC (xV rfl) xaN) (f_lenL (e := (eP3 D.int D.int D.int)) (xs := e8) rfl)) (uNeg_def _))⟩)) (xaC (xV rfl) xaN))) (f_tup rfl rfl rfl)) rfl rfl h13 rfl ?_
      refine j_lt (fun (found' : (List (Int × (List Int) × (List (List (Int × Int × Int)))))) => [.va ((eL (eP6 D.str D.str D.int D.int D.int D.int)) bridges), .va ((eL (eP3 D.int D.int D.int)) wheels_here), .ow (List.map (eP3 D.int (eL D.int) (eL (eL (eP3 D.int D.int D.int)))) found'), .va (D.int e4), .va ((eL (eL (eP3 D.int D.int D.int))) cut'2), s5, .un]) fun found' => ?_
      exact jn_end ⟨_, rfl⟩
    · exact jn_end ⟨_, rfl⟩
    rintro found'2 g ⟨s9, rfl⟩
    exact jt_end ⟨_, _, _, rfl⟩
  rintro found'3 g ⟨s1, s2, s3, rfl⟩
  refine j_grd fun h14 => ?_
  exact j_ret (xA (xaC (xW rfl) xaN) (f_sortK (xs := found'3) (e := (eP3 D.int (eL D.int) (eL (eL (eP3 D.int D.int D.int))))) (kx := fun x : (Int × (List Int) × (List (List (Int × Int × Int)))) => ([[x.1], x.2.1] : List (List Int))) 3 rfl (fun x => key_il x) (fun _ => rfl) h14)) rfl
noncomputable def sh__law_blocked (bridges : (List (Str × Str × Int × Int × Int × Int))) (wheels_here : (List (Int × Int × Int))) : Option (Option (Str × Int)) :=
  grd (-4611686018427387904 ≤ (List.length wheels_here : Int) ∧ (List.length wheels_here : Int) < 4611686018427387904) <|
  b1 (forC (fun (e3 : Int) (st3 : Unit) =>
      b1 (forC (fun (e5 : (Str × Str × Int × Int × Int × Int)) (st5 : Unit) =>
          b1 (atI wheels_here e3) fun t1 =>
          b1 (sh__law_fits [e5] [t1]) fun t2 =>
          if (!t2) = true then
              some (.rt (some (e5.2.1, e3)))
          else
            some (.nx ())) bridges ()) fun c => ctl c (fun u3 =>
      some (.nx ())) fun r => some (.rt r)) (rgI 0 (List.length wheels_here : Int)) ()) fun c => ctl c (fun u4 =>
  some none) fun r => some r
set_option maxHeartbeats 2000000 in
theorem sim__law_blocked {bridges : (List (Str × Str × Int × Int × Int × Int))} {wheels_here : (List (Int × Int × Int))} {r : (Option (Str × Int))} (e : sh__law_blocked bridges wheels_here = some r) : φ__law_blocked [(eL (eP6 D.str D.str D.int D.int D.int D.int)) bridges, (eL (eP3 D.int D.int D.int)) wheels_here] = some ((fun v => R.va ((eO (eP2 D.str D.int)) v)) r) := by
  refine sim_phi (m := m__law_blocked) (N := 4) (n := 2) (ds := [(eL (eP6 D.str D.str D.int D.int D.int D.int)) bridges, (eL (eP3 D.int D.int D.int)) wheels_here]) (s := sh__law_blocked bridges wheels_here) (k := (fun v => R.va ((eO (eP2 D.str D.int)) v))) rfl ?_ e
  show J m__law_blocked nxt [.va ((eL (eP6 D.str D.str D.int D.int D.int D.int)) bridges), .va ((eL (eP3 D.int D.int D.int)) wheels_here), .un, .un] (sh__law_blocked bridges wheels_here) (PF (fun v => R.va ((eO (eP2 D.str D.int)) v)))
  unfold m__law_blocked sh__law_blocked
  refine j_grd fun h1 => ?_
  refine j_forC D.int (fun (st : Unit) (g : Gm) => ∃ s1 s2 : Slot, g = [.va ((eL (eP6 D.str D.str D.int D.int D.int D.int)) bridges), .va ((eL (eP3 D.int D.int D.int)) wheels_here), s2, s1]) (fun v => R.va ((eO (eP2 D.str D.int)) v)) (i_A (xaC (xA (xaC (xV rfl) xaN) (f_lenL (e := (eP3 D.int D.int D.int)) (xs := wheels_here) rfl)) xaN) (f_rg1 h1)) rfl ⟨_, _, rfl⟩ ?_ ?_ ?_
  · rintro e3 hx st3 g ⟨s1, s2, rfl⟩
    refine ⟨[.va ((eL (eP6 D.str D.str D.int D.int D.int D.int)) bridges), .va ((eL (eP3 D.int D.int D.int)) wheels_here), .va (D.int e3), s1], rfl, ?_⟩
    refine j_forC (eP6 D.str D.str D.int D.int D.int D.int) (fun (st : Unit) (g : Gm) => ∃ s4 : Slot, g = [.va ((eL (eP6 D.str D.str D.int D.int D.int D.int)) bridges), .va ((eL (eP3 D.int D.int D.int)) wheels_here), .va (D.int e3), s4]) (fun v => R.va ((eO (eP2 D.str D.int)) v)) (i_seq (xV rfl) rfl) rfl ⟨_, rfl⟩ ?_ ?_ ?_
    · rintro e5 hx st5 g ⟨s4, rfl⟩
      refine ⟨[.va ((eL (eP6 D.str D.str D.int D.int D.int D.int)) bridges), .va ((eL (eP3 D.int D.int D.int)) wheels_here), .va (D.int e3), .va ((eP6 D.str D.str D.int D.int D.int D.int) e5)], rfl, ?_⟩
      refine j_b1 fun t1 h2 => ?_
      refine j_b1 fun t2 h3 => ?_
      refine j_if (t_not (t_val (xA (xaC (xA (xaC (xV rfl) xaN) (f_lst rfl rfl rfl)) (xaC (xA (xaC (x2 (xV rfl) (xV rfl) (f_ixL (e := (eP3 D.int D.int D.int)) (xs := wheels_here) rfl h2)) xaN) (f_lst rfl rfl rfl)) xaN)) (f_call (@sim__law_fits [e5] [t1] _ h3) rfl (.inl rfl))))) (fun hc => ?_) (fun hc => ?_)
      · exact jc_ret (xA (xaC (x2 (xV rfl) rfl (f_ixC 1 rfl)) (xaC (xV rfl) xaN)) (f_tup rfl rfl rfl)) rfl
      · refine j_nilC ?_
        exact jc_end ⟨_, rfl⟩
    · rintro ⟨⟩ g ⟨s4, rfl⟩
      exact jc_end ⟨_, _, rfl⟩
    · exact fun r => sm_ret rfl rfl
  · rintro ⟨⟩ g ⟨s1, s2, rfl⟩
    exact j_ret rfl rfl
  · exact fun r => sm_ret rfl rfl
noncomputable def sh__law_asked (road : Rd') (cart : Ct) (way : (List Bool)) (bridges : (List (Str × Str × Int × Int × Int × Int))) : Option Bool :=
  b1 (tryU (
      bU Sum.inr (shu_parted road cart way) fun told' =>
      some (.inl ((some told'), none))) fun x => grd (List.contains [7] x.c = true) (some (none, (some x)))) fun u2 =>
  b1 (sh__law_blocked bridges cart.wheels) fun forbids =>
  if (Option.isSome forbids) = true then
      b1 (u2.2) fun t4 =>
      grd (List.contains [7] t4.c = true) <|
      b1 (if (!(xsub t4.c 7)) = true then some true else b1 (u2.2) fun t5 => grd (List.contains [7] t5.c = true) <| some (((xsub t5.c 8) || ((xsub t5.c 9) || false)) || (Option.isSome u2.1))) fun t6 =>
      if t6 = true then
          some false
      else
        b1 (u2.2) fun t7 =>
        grd (List.contains [7] t7.c = true) <|
        b1 (if true = true then b1 (u2.2) fun t8 => grd (List.contains [7] t8.c = true) <| b1 (xStr "bridge" t8) fun t9 => b1 (u2.2) fun t10 => grd (List.contains [7] t10.c = true) <| b1 (xInt "wheel" t10) fun t11 => b1 (sh__law_same ((eP2 D.str D.int) (t9, t11)) ((eO (eP2 D.str D.int)) forbids)) fun t12 => some t12 else some false) fun t13 =>
        some t13
  else
    b1 (if (Option.isSome u2.2) = true then some true else b1 (isB .list ((eO (eL eCt)) u2.1)) fun t14 => some (!t14)) fun t15 =>
    if t15 = true then
        some false
    else
      b1 (sh__law_cuts bridges cart.wheels) fun t16 =>
      b1 (atI t16 (0 : Int)) fun t17 =>
      lt (t17.2.2) fun (cut : (List (List (Int × Int × Int)))) =>
      b1 (u2.1) fun t18 =>
      b1 (if (!decide ((List.length t18 : Int) = (List.length cut : Int))) = true then some true else b1 (u2.1) fun t19 => grd (List.length t19 ≤ 16777216) <| some (!(List.all (List.map (fun e2 : Ct => true) t19) id))) fun t20 =>
      if t20 = true then
          some false
      else
        grd (List.length cut ≤ 16777216) <|
        lt (List.map (fun e3 : (List (Int × Int × Int)) => (cart.name, cart.speed, e3)) cut) fun (due : (List (Str × Int × (List (Int × Int × Int))))) =>
        b1 (u2.1) fun t21 =>
        grd (List.length t21 ≤ 16777216) <|
        b1 (sh__law_same ((eL (eP3 D.str D.int (eL (eP3 D.int D.int D.int)))) (List.map (fun e4 : Ct => (e4.name, e4.speed, e4.wheels)) t21)) ((eL (eP3 D.str D.int (eL (eP3 D.int D.int D.int)))) due)) fun t22 =>
        some t22
set_option maxHeartbeats 2000000 in
theorem sim__law_asked {road : Rd'} {cart : Ct} {way : (List Bool)} {bridges : (List (Str × Str × Int × Int × Int × Int))} {r : Bool} (e : sh__law_asked road cart way bridges = some r) : φ__law_asked [eRo road, eCt cart, (eT D.bl) way, (eL (eP6 D.str D.str D.int D.int D.int D.int)) bridges] = some ((fun v => R.va (D.bl v)) r) := by
  refine sim_phi (m := m__law_asked) (N := 12) (n := 4) (ds := [eRo road, eCt cart, (eT D.bl) way, (eL (eP6 D.str D.str D.int D.int D.int D.int)) bridges]) (s := sh__law_asked road cart way bridges) (k := (fun v => R.va (D.bl v))) rfl ?_ e
  show J m__law_asked nxt [.va (eRo road), .va (eCt cart), .va ((eT D.bl) way), .va ((eL (eP6 D.str D.str D.int D.int D.int D.int)) bridges), .un, .un, .un, .un, .un, .un, .un, .un] (sh__law_asked road cart way bridges) (PF (fun v => R.va (D.bl v)))
  unfold m__law_asked sh__law_asked
  refine j_setN (i := 4) (g1 := [.va (eRo road), .va (eCt cart), .va ((eT D.bl) way), .va ((eL (eP6 D.str D.str D.int D.int D.int D.int)) bridges), .va ((eO (eL eCt)) none), .un, .un, .un, .un, .un, .un, .un]) rfl rfl ?_
  refine j_setN (i := 5) (g1 := [.va (eRo road), .va (eCt cart), .va ((eT D.bl) way), .va ((eL (eP6 D.str D.str D.int D.int D.int D.int)) bridges), .va ((eO (eL eCt)) none), .va ((eO eX) none), .un, .un, .un, .un, .un, .un]) rfl rfl ?_
  refine j_try (ie := 6) (i := 5) (St := fun (st : (Option (List Ct)) × (Option Exc)) (g : Gm) => ∃ s1 : Slot, g = [.va (eRo road), .va (eCt cart), .va ((eT D.bl) way), .va ((eL (eP6 D.str D.str D.int D.int D.int D.int)) bridges), .va ((eO (eL eCt)) st.1), .va ((eO eX) st.2), s1, .un, .un, .un, .un, .un]) (hv := fun x => (none, (some x))) ?_ (by simp) (fun x _ => ⟨_, rfl⟩) ?_
  · refine j_bU (fun x hx => sU_inr (x_uC (xaC (xV rfl) (xaC (xV rfl) (xaC (xV rfl) xaN))) (f_cuX (@simu_parted road cart way _ hx) rfl))) (fun _ => rfl) fun told' h1 => ?_
    refine j_setTU (i := 4) (g1 := [.va (eRo road), .va (eCt cart), .va ((eT D.bl) way), .va ((eL (eP6 D.str D.str D.int D.int D.int D.int)) bridges), .ow (List.map eCt told'), .va ((eO eX) none), .un, .un, .un, .un, .un, .un]) (x_uC (xaC (xV rfl) (xaC (xV rfl) (xaC (xV rfl) xaN))) (f_cuN (@simu_parted road cart way _ h1) rfl (.inl rfl))) rfl ?_
    refine j_bfzO (g1 := [.va (eRo road), .va (eCt cart), .va ((eT D.bl) way), .va ((eL (eP6 D.str D.str D.int D.int D.int D.int)) bridges), .va ((eO (eL eCt)) (some told')), .va ((eO eX) none), .un, .un, .un, .un, .un, .un]) rfl rfl ?_
    exact jb_end ⟨_, rfl⟩
  rintro u2 g ⟨s1, rfl⟩
  refine j_b1 fun forbids h2 => ?_
  refine j_setN (i := 7) (g1 := [.va (eRo road), .va (eCt cart), .va ((eT D.bl) way), .va ((eL (eP6 D.str D.str D.int D.int D.int D.int)) bridges), .va ((eO (eL eCt)) u2.1), .va ((eO eX) u2.2), s1, .va ((eO (eP2 D.str D.int)) forbids), .un, .un, .un, .un]) (xA (xaC (xV rfl) (xaC (x1 (xV rfl) (f_fld rfl)) xaN)) (f_call (@sim__law_blocked bridges cart.wheels _ h2) rfl (.inl rfl))) rfl ?_
  refine j_if (t_val (x2 (xV rfl) rfl (f_isNO (fun _ => rfl) _))) (fun hc => ?_) (fun hc => ?_)
  · refine j_b1 fun t4 h3 => ?_
    refine j_grd fun h4 => ?_
    refine j_b1 fun t6 h7 => ?_
    refine j_if (t_orP (t_not (t_val (x1 (x_get (xV rfl) h3) (f_isx h4)))) (fun _ => (sm_b1 fun t5 h5 => (sm_grd fun h6 => (sm_ret (t_or (t_val (x1 (x_get (xV rfl) h5) (f_isx h6))) (t_val (x2 (xV rfl) rfl (f_isNO (fun _ => rfl) _)))) rfl)))) h7) (fun hc => ?_) (fun hc => ?_)
    · exact j_ret rfl rfl
    · refine j_nilC ?_
      refine j_b1 fun t7 h8 => ?_
      refine j_grd fun h9 => ?_
      refine j_b1 fun t13 h17 => ?_
      exact j_ret (v_andP (x1 (x_get (xV rfl) h8) (f_isx h9)) (fun _ => (sm_b1 fun t8 h10 => (sm_grd fun h11 => (sm_b1 fun t9 h12 => (sm_b1 fun t10 h13 => (sm_grd fun h14 => (sm_b1 fun t11 h15 => (sm_b1 fun t12 h16 => (sm_ret (xA (xaC (xA (xaC (x1 (x_get (xV rfl) h10) (f_xfS h11 h12)) (xaC (x1 (x_get (xV rfl) h13) (f_xfI h14 h15)) xaN)) (f_tup rfl rfl rfl)) (xaC (xV rfl) xaN)) (f_call (@sim__law_same ((eP2 D.str D.int) (t9, t11)) ((eO (eP2 D.str D.int)) forbids) _ h16) rfl (.inl rfl))) rfl))))))))) h17) rfl
  · refine j_nilC ?_
    refine j_b1 fun t15 h19 => ?_
    refine j_if (t_orP (t_val (x2 (xV rfl) rfl (f_isNO (fun _ => rfl) _))) (fun _ => (sm_b1 fun t14 h18 => (sm_ret (t_not (t_val (f_isi (xV rfl) rfl h18))) rfl))) h19) (fun hc => ?_) (fun hc => ?_)
    · exact j_ret rfl rfl
    · refine j_nilC ?_
      refine j_b1 fun t16 h20 => ?_
      refine j_b1 fun t17 h21 => ?_
      refine j_setN (i := 8) (g1 := [.va (eRo road), .va (eCt cart), .va ((eT D.bl) way), .va ((eL (eP6 D.str D.str D.int D.int D.int D.int)) bridges), .va ((eO (eL eCt)) u2.1), .va ((eO eX) u2.2), s1, .va ((eO (eP2 D.str D.int)) forbids), .va ((eL (eL (eP3 D.int D.int D.int))) t17.2.2), .un, .un, .un]) (x2 (x2 (xA (xaC (xV rfl) (xaC (x1 (xV rfl) (f_fld rfl)) xaN)) (f_call (@sim__law_cuts bridges cart.wheels _ h20) rfl (.inl rfl))) rfl (f_ixL (e := (eP3 D.int (eL D.int) (eL (eL (eP3 D.int D.int D.int))))) (xs := t16) rfl h21)) rfl (f_ixC 2 rfl)) rfl ?_
      refine j_lt (fun (cut : (List (List (Int × Int × Int)))) => [.va (eRo road), .va (eCt cart), .va ((eT D.bl) way), .va ((eL (eP6 D.str D.str D.int D.int D.int D.int)) bridges), .va ((eO (eL eCt)) u2.1), .va ((eO eX) u2.2), s1, .va ((eO (eP2 D.str D.int)) forbids), .va ((eL (eL (eP3 D.int D.int D.int))) cut), .un, .un, .un]) fun cut => ?_
      refine j_b1 fun t18 h22 => ?_
      refine j_b1 fun t20 h25 => ?_
      refine j_if (t_orP (t_val (x2 (xA (xaC (x_get (xV rfl) h22) xaN) (f_lenL (e := eCt) (xs := t18) rfl)) (xA (xaC (xV rfl) xaN) (f_lenL (e := (eL (eP3 D.int D.int D.int))) (xs := cut) rfl)) (oNe_int _ _))) (fun _ => (sm_b1 fun t19 h23 => (sm_grd fun h24 => (sm_ret (t_not (t_val (xA (xaC (x_lc (e := eCt) (e' := D.bl) (xs := t19) (v := fun e2 => true) (fun e2 => R.va (D.bl true)) (i_seq (x_get (xV rfl) h23) rfl) h24 (fun e2 _ => ⟨[.va (eRo road), .va (eCt cart), .va ((eT D.bl) way), .va ((eL (eP6 D.str D.str D.int D.int D.int D.int)) bridges), .va ((eO (eL eCt)) u2.1), .va ((eO eX) u2.2), s1, .va ((eO (eP2 D.str D.int)) forbids), .va ((eL (eL (eP3 D.int D.int D.int))) cut), .un, .un, .va (eCt e2)], rfl, (x1 (xV rfl) rfl)⟩)) xaN) (f_all (ns := (List.map (fun e2 : Ct => true) t19)) rfl)))) rfl)))) h25) (fun hc => ?_) (fun hc => ?_)
      · exact j_ret rfl rfl
      · refine j_nilC ?_
        refine j_grd fun h26 => ?_
        refine j_setTN (i := 9) (g1 := [.va (eRo road), .va (eCt cart), .va ((eT D.bl) way), .va ((eL (eP6 D.str D.str D.int D.int D.int D.int)) bridges), .va ((eO (eL eCt)) u2.1), .va ((eO eX) u2.2), s1, .va ((eO (eP2 D.str D.int)) forbids), .va ((eL (eL (eP3 D.int D.int D.int))) cut), .ow (List.map (eP3 D.str D.int (eL (eP3 D.int D.int D.int))) (List.map (fun e3 : (List (Int × Int × Int)) => (cart.name, cart.speed, e3)) cut)), .un, .un]) (x_lc (e := (eL (eP3 D.int D.int D.int))) (e' := (eP3 D.str D.int (eL (eP3 D.int D.int D.int)))) (xs := cut) (v := fun e3 => (cart.name, cart.speed, e3)) (fun e3 => R.va ((eP3 D.str D.int (eL (eP3 D.int D.int D.int))) (cart.name, cart.speed, e3))) (i_seq (xV rfl) rfl) h26 (fun e3 _ => ⟨[.va (eRo road), .va (eCt cart), .va ((eT D.bl) way), .va ((eL (eP6 D.str D.str D.int D.int D.int D.int)) bridges), .va ((eO (eL eCt)) u2.1), .va ((eO eX) u2.2), s1, .va ((eO (eP2 D.str D.int)) forbids), .va ((eL (eL (eP3 D.int D.int D.int))) cut), .un, .va ((eL (eP3 D.int D.int D.int)) e3), .un], rfl, (xA (xaC (x1 (xV rfl) (f_fld rfl)) (xaC (x1 (xV rfl) (f_fld rfl)) (xaC (xV rfl) xaN))) (f_tup rfl rfl rfl))⟩)) rfl ?_
        refine j_lt (fun (due : (List (Str × Int × (List (Int × Int × Int))))) => [.va (eRo road), .va (eCt cart), .va ((eT D.bl) way), .va ((eL (eP6 D.str D.str D.int D.int D.int D.int)) bridges), .va ((eO (eL eCt)) u2.1), .va ((eO eX) u2.2), s1, .va ((eO (eP2 D.str D.int)) forbids), .va ((eL (eL (eP3 D.int D.int D.int))) cut), .ow (List.map (eP3 D.str D.int (eL (eP3 D.int D.int D.int))) due), .un, .un]) fun due => ?_
        refine j_fzO (g1 := [.va (eRo road), .va (eCt cart), .va ((eT D.bl) way), .va ((eL (eP6 D.str D.str D.int D.int D.int D.int)) bridges), .va ((eO (eL eCt)) u2.1), .va ((eO eX) u2.2), s1, .va ((eO (eP2 D.str D.int)) forbids), .va ((eL (eL (eP3 D.int D.int D.int))) cut), .va ((eL (eP3 D.str D.int (eL (eP3 D.int D.int D.int)))) due), .un, .un]) rfl rfl ?_
        refine j_b1 fun t21 h27 => ?_
        refine j_grd fun h28 => ?_
        refine j_b1 fun t22 h29 => ?_
        exact j_ret (xA (xaC (x_lc (e := eCt) (e' := (eP3 D.str D.int (eL (eP3 D.int D.int D.int)))) (xs := t21) (v := fun e4 => (e4.name, e4.speed, e4.wheels)) (fun e4 => R.va ((eP3 D.str D.int (eL (eP3 D.int D.int D.int))) (e4.name, e4.speed, e4.wheels))) (i_seq (x_get (xV rfl) h27) rfl) h28 (fun e4 _ => ⟨[.va (eRo road), .va (eCt cart), .va ((eT D.bl) way), .va ((eL (eP6 D.str D.str D.int D.int D.int D.int)) bridges), .va ((eO (eL eCt)) u2.1), .va ((eO eX) u2.2), s1, .va ((eO (eP2 D.str D.int)) forbids), .va ((eL (eL (eP3 D.int D.int D.int))) cut), .va ((eL (eP3 D.str D.int (eL (eP3 D.int D.int D.int)))) due), .un, .va (eCt e4)], rfl, (xA (xaC (x1 (xV rfl) (f_fld rfl)) (xaC (x1 (xV rfl) (f_fld rfl)) (xaC (x1 (xV rfl) (f_fld rfl)) xaN))) (f_tup rfl rfl rfl))⟩)) (xaC (xV rfl) xaN)) (f_call (@sim__law_same ((eL (eP3 D.str D.int (eL (eP3 D.int D.int D.int)))) (List.map (fun e4 : Ct => (e4.name, e4.speed, e4.wheels)) t21)) ((eL (eP3 D.str D.int (eL (eP3 D.int D.int D.int)))) due) _ h29) rfl (.inl rfl))) rfl
noncomputable def sh_law (script : (List Int)) : Option Bool :=
  b1 (sh__law_cell script (0 : Int)) fun t1 =>
  lt (t1 + (List.length script : Int)) fun (cell_here : Int) =>
  b1 (sh__law_mix cell_here (101 : Int) (1000039 : Int)) fun drawn =>
  b1 (sh__law_wheels cell_here ((1 : Int) + (drawn % (6 : Int)))) fun wheels_here =>
  lt ([((eP2 D.str D.int) (("open" : Str), (200 : Int)))]) fun (pieces_here : (List D)) =>
  grd (-4611686018427387904 ≤ ((1 : Int) + ((drawn / (6 : Int)) % (3 : Int))) ∧ ((1 : Int) + ((drawn / (6 : Int)) % (3 : Int))) < 4611686018427387904) <|
  b1 (forO (fun (e3 : Int) (st3 : (List (Str × Str × Int × Int × Int × Int)) × (List D) × (List (Str × Int))) =>
      b1 (sh__law_cell script ((1 : Int) + e3)) fun t4 =>
      grd (CMulB (65537 : Int) e3) <|
      lt (t4 + ((65537 : Int) * e3)) fun (one : Int) =>
      grd (Str.length ("abc" : Str) ≤ 16777216) <|
      b1 (sgAt ("abc" : Str) e3) fun t5 =>
      grd (-(2 ^ 63) ≤ ((1 : Int) + ((drawn / (24 : Int)) % (9 : Int))) ∧ ((1 : Int) + ((drawn / (24 : Int)) % (9 : Int))) < 2 ^ 63 ∧ Str.length t5 * Int.toNat ((1 : Int) + ((drawn / (24 : Int)) % (9 : Int))) ≤ 16777216) <|
      b1 (sh__law_narrow one wheels_here (strRep t5 ((1 : Int) + ((drawn / (24 : Int)) % (9 : Int))))) fun t6 =>
      grd (List.length st3.1 < 16777216) <|
      lt (st3.1 ++ [t6]) fun (bridges' : (List (Str × Str × Int × Int × Int × Int))) =>
      b1 (atI bridges' e3) fun t7 =>
      grd (List.length st3.2.1 + List.length ([((eP6 D.str D.str D.int D.int D.int D.int) t7), ((eP2 D.str D.int) (("open" : Str), (300 : Int)))] : List D) ≤ 16777216) <|
      lt (st3.2.1 ++ [((eP6 D.str D.str D.int D.int D.int D.int) t7), ((eP2 D.str D.int) (("open" : Str), (300 : Int)))]) fun (pieces_here' : (List D)) =>
      b1 (sh__law_mix one (102 : Int) (1000081 : Int)) fun t8 =>
      b1 (if (decide ((t8 % (3 : Int)) = (0 : Int))) = true then
          b1 (atI bridges' e3) fun t9 =>
          grd (List.length st3.2.2 < 16777216) <|
          lt (st3.2.2 ++ [(t9.2.1, (77 : Int))]) fun (rounds' : (List (Str × Int))) =>
          some rounds'
        else
          some st3.2.2) fun rounds'2 =>
      some (bridges', pieces_here', rounds'2)) (rgI 0 ((1 : Int) + ((drawn / (6 : Int)) % (3 : Int)))) ([], pieces_here, [])) fun u10 =>
  b1 (sh__law_pieces u10.2.1) fun t11 =>
  lt (Rd'.mk t11 u10.2.2 []) fun (road : Rd') =>
  lt (Ct.mk ("load" : Str) ((1 : Int) + ((drawn / (200 : Int)) % (12 : Int))) wheels_here) fun (cart : Ct) =>
  b1 (sh_ways_of road) fun t12 =>
  b1 (forC (fun (e5 : (List Bool)) (st5 : Unit) =>
      grd (-4611686018427387904 ≤ (List.length u10.1 : Int) ∧ (List.length u10.1 : Int) < 4611686018427387904) <|
      grd (List.length (rgI 0 (List.length u10.1 : Int)) ≤ 16777216) <|
      b1 (fmapO (fun e6 : Int => b1 (atI e5 e6) fun t13 => some t13) (fun e6 : Int => b1 (atI u10.1 e6) fun t14 => some t14) (rgI 0 (List.length u10.1 : Int))) fun t15 =>
      b1 (sh__law_asked road cart e5 t15) fun t16 =>
      if (!t16) = true then
          some (.rt false)
      else
        some (.nx ())) t12 ()) fun c => ctl c (fun u17 =>
  b1 (forC (fun (e9 : Int) (st9 : Unit) =>
      b1 (sh__law_mix e9 (105 : Int) (1000003 : Int)) fun t18 =>
      b1 (sh__law_wheels e9 ((1 : Int) + (t18 % (5 : Int)))) fun other =>
      b1 (sh_ways_of road) fun t20 =>
      b1 (atI t20 (0 : Int)) fun t21 =>
      b1 (sh__law_asked road (Ct.mk ("other" : Str) (3 : Int) other) t21 u10.1) fun t22 =>
      if (!t22) = true then
          some (.rt false)
      else
        some (.nx ())) (cutL script (some (4 : Int)) (some (6 : Int))) ()) fun c => ctl c (fun u23 =>
  some (decide (cart.wheels = wheels_here))) fun r => some r) fun r => some r
set_option maxHeartbeats 2000000 in
theorem sim_law {script : (List Int)} {r : Bool} (e : sh_law script = some r) : φ_law [eRL script] = some ((fun v => R.va (D.bl v)) r) := by
  refine sim_phi (m := m_law) (N := 13) (n := 1) (ds := [eRL script]) (s := sh_law script) (k := (fun v => R.va (D.bl v))) rfl ?_ e
  show J m_law nxt [.va (eRL script), .un, .un, .un, .un, .un, .un, .un, .un, .un, .un, .un, .un] (sh_law script) (PF (fun v => R.va (D.bl v)))
  unfold m_law sh_law
  refine j_b1 fun t1 h1 => ?_
  refine j_setN (i := 1) (g1 := [.va (eRL script), .va (D.int (t1 + (List.length script : Int))), .un, .un, .un, .un, .un, .un, .un, .un, .un, .un, .un]) (x2 (xA (xaC (xV rfl) (xaC rfl xaN)) (f_call (@sim__law_cell script (0 : Int) _ h1) rfl (.inl rfl))) (xA (xaC (xV rfl) xaN) (f_lenR rfl)) (oAdd_int _ _)) rfl ?_
  refine j_lt (fun (cell_here : Int) => [.va (eRL script), .va (D.int cell_here), .un, .un, .un, .un, .un, .un, .un, .un, .un, .un, .un]) fun cell_here => ?_
  refine j_b1 fun drawn h2 => ?_
  refine j_setN (i := 2) (g1 := [.va (eRL script), .va (D.int cell_here), .va (D.int drawn), .un, .un, .un, .un, .un, .un, .un, .un, .un, .un]) (xA (xaC (xV rfl) (xaC rfl (xaC rfl xaN))) (f_call (@sim__law_mix cell_here (101 : Int) (1000039 : Int) _ h2) rfl (.inl rfl))) rfl ?_
  refine j_b1 fun wheels_here h3 => ?_
  refine j_setTN (i := 3) (g1 := [.va (eRL script), .va (D.int cell_here), .va (D.int drawn), .ow (List.map (eP3 D.int D.int D.int) wheels_here), .un, .un, .un, .un, .un, .un, .un, .un, .un]) (xA (xaC (xV rfl) (xaC (x2 rfl (x2 (xV rfl) rfl (f_modK (by decide))) (oAdd_int _ _)) xaN)) (f_call (@sim__law_wheels cell_here ((1 : Int) + (drawn % (6 : Int))) _ h3) rfl (.inl rfl))) rfl ?_
  refine j_setTN (i := 4) (g1 := [.va (eRL script), .va (D.int cell_here), .va (D.int drawn), .ow (List.map (eP3 D.int D.int D.int) wheels_here), .ow (List.map (eP6 D.str D.str D.int D.int D.int D.int) []), .un, .un, .un, .un, .un, .un, .un, .un]) (xA xaN (f_lst rfl rfl rfl)) rfl ?_
  refine j_setTN (i := 5) (g1 := [.va (eRL script), .va (D.int cell_here), .va (D.int drawn), .ow (List.map (eP3 D.int D.int D.int) wheels_here), .ow (List.map (eP6 D.str D.str D.int D.int D.int D.int) []), .ow (List.map (eP2 D.str D.int) []), .un, .un, .un, .un, .un, .un, .un]) (xA xaN (f_lst rfl rfl rfl)) rfl ?_
  refine j_setTN (i := 6) (g1 := [.va (eRL script), .va (D.int cell_here), .va (D.int drawn), .ow (List.map (eP3 D.int D.int D.int) wheels_here), .ow (List.map (eP6 D.str D.str D.int D.int D.int D.int) []), .ow (List.map (eP2 D.str D.int) []), .ow (List.map eD [((eP2 D.str D.int) (("open" : Str), (200 : Int)))]), .un, .un, .un, .un, .un, .un]) (xA (xaC (xA (xaC rfl (xaC rfl xaN)) (f_tup rfl rfl rfl)) xaN) (f_lst rfl rfl rfl)) rfl ?_
  refine j_lt (fun (pieces_here : (List D)) => [.va (eRL script), .va (D.int cell_here), .va (D.int drawn), .ow (List.map (eP3 D.int D.int D.int) wheels_here), .ow (List.map (eP6 D.str D.str D.int D.int D.int D.int) []), .ow (List.map (eP2 D.str D.int) []), .ow (List.map eD pieces_here), .un, .un, .un, .un, .un, .un]) fun pieces_here => ?_
  refine j_fzO (g1 := [.va (eRL script), .va (D.int cell_here), .va (D.int drawn), .va ((eL (eP3 D.int D.int D.int)) wheels_here), .ow (List.map (eP6 D.str D.str D.int D.int D.int D.int) []), .ow (List.map (eP2 D.str D.int) []), .ow (List.map eD pieces_here), .un, .un, .un, .un, .un, .un]) rfl rfl ?_
  refine j_grd fun h4 => ?_
  refine j_for D.int (fun (st : (List (Str × Str × Int × Int × Int × Int)) × (List D) × (List (Str × Int))) (g : Gm) => ∃ s1 s2 : Slot, g = [.va (eRL script), .va (D.int cell_here), .va (D.int drawn), .va ((eL (eP3 D.int D.int D.int)) wheels_here), .ow (List.map (eP6 D.str D.str D.int D.int D.int D.int) st.1), .ow (List.map (eP2 D.str D.int) st.2.2), .ow (List.map eD st.2.1), s2, .un, .un, .un, s1, .un]) (i_A (xaC (x2 rfl (x2 (x2 (xV rfl) rfl (f_divK (by decide))) rfl (f_modK (by decide))) (oAdd_int _ _)) xaN) (f_rg1 h4)) rfl ⟨_, _, rfl⟩ ?_ ?_
  · rintro e3 hx st3 g ⟨s1, s2, rfl⟩
    refine ⟨[.va (eRL script), .va (D.int cell_here), .va (D.int drawn), .va ((eL (eP3 D.int D.int D.int)) wheels_here), .ow (List.map (eP6 D.str D.str D.int D.int D.int D.int) st3.1), .ow (List.map (eP2 D.str D.int) st3.2.2), .ow (List.map eD st3.2.1), .va (D.int e3), .un, .un, .un, s1, .un], rfl, ?_⟩
    refine j_b1 fun t4 h5 => ?_
    refine j_grd fun h6 => ?_
    refine j_setN (i := 11) (g1 := [.va (eRL script), .va (D.int cell_here), .va (D.int drawn), .va ((eL (eP3 D.int D.int D.int)) wheels_here), .ow (List.map (eP6 D.str D.str D.int D.int D.int D.int) st3.1), .ow (List.map (eP2 D.str D.int) st3.2.2), .ow (List.map eD st3.2.1), .va (D.int e3), .un, .un, .un, .va (D.int (t4 + ((65537 : Int) * e3))), .un]) (x2 (xA (xaC (xV rfl) (xaC (x2 rfl (xV rfl) (oAdd_int _ _)) xaN)) (f_call (@sim__law_cell script ((1 : Int) + e3) _ h5) rfl (.inl rfl))) (x2 rfl (xV rfl) (f_mul h6)) (oAdd_int _ _)) rfl ?_
    refine j_lt (fun (one : Int) => [.va (eRL script), .va (D.int cell_here), .va (D.int drawn), .va ((eL (eP3 D.int D.int D.int)) wheels_here), .ow (List.map (eP6 D.str D.str D.int D.int D.int D.int) st3.1), .ow (List.map (eP2 D.str D.int) st3.2.2), .ow (List.map eD st3.2.1), .va (D.int e3), .un, .un, .un, .va (D.int one), .un]) fun one => ?_
    refine j_grd fun h7 => ?_
    refine j_b1 fun t5 h8 => ?_
    refine j_grd fun h9 => ?_
    refine j_b1 fun t6 h10 => ?_
    refine j_grd fun h11 => ?_
    refine j_appE (i := 4) (g1 := [.va (eRL script), .va (D.int cell_here), .va (D.int drawn), .va ((eL (eP3 D.int D.int D.int)) wheels_here), .ow (List.map (eP6 D.str D.str D.int D.int D.int D.int) (st3.1 ++ [t6])), .ow (List.map (eP2 D.str D.int) st3.2.2), .ow (List.map eD st3.2.1), .va (D.int e3), .un, .un, .un, .va (D.int one), .un]) (eP6 D.str D.str D.int D.int D.int D.int) st3.1 t6 rfl (xA (xaC (xV rfl) (xaC (xV rfl) (xaC (x2 (x2 rfl (xV rfl) (f_ixS h7 h8)) (x2 rfl (x2 (x2 (xV rfl) rfl (f_divK (by decide))) rfl (f_modK (by decide))) (oAdd_int _ _)) (f_mulS h9)) xaN))) (f_call (@sim__law_narrow one wheels_here (strRep t5 ((1 : Int) + ((drawn / (24 : Int)) % (9 : Int)))) _ h10) rfl (.inl rfl))) rfl rfl h11 rfl ?_
    refine j_lt (fun (bridges' : (List (Str × Str × Int × Int × Int × Int))) => [.va (eRL script), .va (D.int cell_here), .va (D.int drawn), .va ((eL (eP3 D.int D.int D.int)) wheels_here), .ow (List.map (eP6 D.str D.str D.int D.int D.int D.int) bridges'), .ow (List.map (eP2 D.str D.int) st3.2.2), .ow (List.map eD st3.2.1), .va (D.int e3), .un, .un, .un, .va (D.int one), .un]) fun bridges' => ?_
    refine j_b1 fun t7 h12 => ?_
    refine j_grd fun h13 => ?_
    refine j_setTN (i := 6) (g1 := [.va (eRL script), .va (D.int cell_here), .va (D.int drawn), .va ((eL (eP3 D.int D.int D.int)) wheels_here), .ow (List.map (eP6 D.str D.str D.int D.int D.int D.int) bridges'), .ow (List.map (eP2 D.str D.int) st3.2.2), .ow (List.map eD (st3.2.1 ++ [((eP6 D.str D.str D.int D.int D.int D.int) t7), ((eP2 D.str D.int) (("open" : Str), (300 : Int)))])), .va (D.int e3), .un, .un, .un, .va (D.int one), .un]) (x2 (xW rfl) (xA (xaC (x2 (xW rfl) (xV rfl) (f_ixL (e := (eP6 D.str D.str D.int D.int D.int D.int)) (xs := bridges') rfl h12)) (xaC (xA (xaC rfl (xaC rfl xaN)) (f_tup rfl rfl rfl)) xaN)) (f_lst rfl rfl rfl)) (f_addL (e := eD) (xs := st3.2.1) (ys := [((eP6 D.str D.str D.int D.int D.int D.int) t7), ((eP2 D.str D.int) (("open" : Str), (300 : Int)))]) rfl rfl h13)) rfl ?_
    refine j_lt (fun (pieces_here' : (List D)) => [.va (eRL script), .va (D.int cell_here), .va (D.int drawn), .va ((eL (eP3 D.int D.int D.int)) wheels_here), .ow (List.map (eP6 D.str D.str D.int D.int D.int D.int) bridges'), .ow (List.map (eP2 D.str D.int) st3.2.2), .ow (List.map eD pieces_here'), .va (D.int e3), .un, .un, .un, .va (D.int one), .un]) fun pieces_here' => ?_
    refine j_b1 fun t8 h14 => ?_
    refine j_joinB (St := fun (st : (List (Str × Int))) (g : Gm) => g = [.va (eRL script), .va (D.int cell_here), .va (D.int drawn), .va ((eL (eP3 D.int D.int D.int)) wheels_here), .ow (List.map (eP6 D.str D.str D.int D.int D.int D.int) bridges'), .ow (List.map (eP2 D.str D.int) st), .ow (List.map eD pieces_here'), .va (D.int e3), .un, .un, .un, .va (D.int one), .un]) (t_val (x2 (x2 (xA (xaC (xV rfl) (xaC rfl (xaC rfl xaN))) (f_call (@sim__law_mix one (102 : Int) (1000081 : Int) _ h14) rfl (.inl rfl))) rfl (f_modK (by decide))) rfl (oEq_int _ _))) (fun hc => ?_) (fun hc => ?_) ?_
    · refine j_b1 fun t9 h15 => ?_
      refine j_grd fun h16 => ?_
      refine j_appE (i := 5) (g1 := [.va (eRL script), .va (D.int cell_here), .va (D.int drawn), .va ((eL (eP3 D.int D.int D.int)) wheels_here), .ow (List.map (eP6 D.str D.str D.int D.int D.int D.int) bridges'), .ow (List.map (eP2 D.str D.int) (st3.2.2 ++ [(t9.2.1, (77 : Int))])), .ow (List.map eD pieces_here'), .va (D.int e3), .un, .un, .un, .va (D.int one), .un]) (eP2 D.str D.int) st3.2.2 (t9.2.1, (77 : Int)) rfl (xA (xaC (x2 (x2 (xW rfl) (xV rfl) (f_ixL (e := (eP6 D.str D.str D.int D.int D.int D.int)) (xs := bridges') rfl h15)) rfl (f_ixC 1 rfl)) (xaC rfl xaN)) (f_tup rfl rfl rfl)) rfl rfl h16 rfl ?_
      refine j_lt (fun (rounds' : (List (Str × Int))) => [.va (eRL script), .va (D.int cell_here), .va (D.int drawn), .va ((eL (eP3 D.int D.int D.int)) wheels_here), .ow (List.map (eP6 D.str D.str D.int D.int D.int D.int) bridges'), .ow (List.map (eP2 D.str D.int) rounds'), .ow (List.map eD pieces_here'), .va (D.int e3), .un, .un, .un, .va (D.int one), .un]) fun rounds' => ?_
      exact jn_end rfl
    · exact jn_end rfl
    rintro rounds'2 g rfl
    exact jt_end ⟨_, _, rfl⟩
  rintro u10 g ⟨s1, s2, rfl⟩
  refine j_fzO (g1 := [.va (eRL script), .va (D.int cell_here), .va (D.int drawn), .va ((eL (eP3 D.int D.int D.int)) wheels_here), .ow (List.map (eP6 D.str D.str D.int D.int D.int D.int) u10.1), .ow (List.map (eP2 D.str D.int) u10.2.2), .va ((eL eD) u10.2.1), s2, .un, .un, .un, s1, .un]) rfl rfl ?_
  refine j_fzO (g1 := [.va (eRL script), .va (D.int cell_here), .va (D.int drawn), .va ((eL (eP3 D.int D.int D.int)) wheels_here), .ow (List.map (eP6 D.str D.str D.int D.int D.int D.int) u10.1), .va ((eL (eP2 D.str D.int)) u10.2.2), .va ((eL eD) u10.2.1), s2, .un, .un, .un, s1, .un]) rfl rfl ?_
  refine j_b1 fun t11 h17 => ?_
  refine j_setN (i := 8) (g1 := [.va (eRL script), .va (D.int cell_here), .va (D.int drawn), .va ((eL (eP3 D.int D.int D.int)) wheels_here), .ow (List.map (eP6 D.str D.str D.int D.int D.int D.int) u10.1), .va ((eL (eP2 D.str D.int)) u10.2.2), .va ((eL eD) u10.2.1), s2, .va (eRo (Rd'.mk t11 u10.2.2 [])), .un, .un, s1, .un]) (xA (xaC (xA (xaC (xV rfl) xaN) (f_call (@sim__law_pieces u10.2.1 _ h17) rfl (.inl rfl))) (xaC (xV rfl) (xaC (xA xaN (f_lst rfl rfl rfl)) xaN))) (f_make rfl rfl rfl)) rfl ?_
  refine j_lt (fun (road : Rd') => [.va (eRL script), .va (D.int cell_here), .va (D.int drawn), .va ((eL (eP3 D.int D.int D.int)) wheels_here), .ow (List.map (eP6 D.str D.str D.int D.int D.int D.int) u10.1), .va ((eL (eP2 D.str D.int)) u10.2.2), .va ((eL eD) u10.2.1), s2, .va (eRo road), .un, .un, s1, .un]) fun road => ?_
  refine j_fzV rfl ?_
  refine j_setN (i := 9) (g1 := [.va (eRL script), .va (D.int cell_here), .va (D.int drawn), .va ((eL (eP3 D.int D.int D.int)) wheels_here), .ow (List.map (eP6 D.str D.str D.int D.int D.int D.int) u10.1), .va ((eL (eP2 D.str D.int)) u10.2.2), .va ((eL eD) u10.2.1), s2, .va (eRo road), .va (eCt (Ct.mk ("load" : Str) ((1 : Int) + ((drawn / (200 : Int)) % (12 : Int))) wheels_here)), .un, s1, .un]) (xA (xaC rfl (xaC (x2 rfl (x2 (x2 (xV rfl) rfl (f_divK (by decide))) rfl (f_modK (by decide))) (oAdd_int _ _)) (xaC (xV rfl) xaN))) (f_make rfl rfl rfl)) rfl ?_
  refine j_lt (fun (cart : Ct) => [.va (eRL script), .va (D.int cell_here), .va (D.int drawn), .va ((eL (eP3 D.int D.int D.int)) wheels_here), .ow (List.map (eP6 D.str D.str D.int D.int D.int D.int) u10.1), .va ((eL (eP2 D.str D.int)) u10.2.2), .va ((eL eD) u10.2.1), s2, .va (eRo road), .va (eCt cart), .un, s1, .un]) fun cart => ?_
  refine j_b1 fun t12 h18 => ?_
  refine j_forC (eT D.bl) (fun (st : Unit) (g : Gm) => ∃ s4 : Slot, g = [.va (eRL script), .va (D.int cell_here), .va (D.int drawn), .va ((eL (eP3 D.int D.int D.int)) wheels_here), .ow (List.map (eP6 D.str D.str D.int D.int D.int D.int) u10.1), .va ((eL (eP2 D.str D.int)) u10.2.2), .va ((eL eD) u10.2.1), s2, .va (eRo road), .va (eCt cart), s4, s1, .un]) (fun v => R.va (D.bl v)) (i_seq (xA (xaC (xV rfl) xaN) (f_call (@sim_ways_of road _ h18) rfl (.inl rfl))) rfl) rfl ⟨_, rfl⟩ ?_ ?_ ?_
  · rintro e5 hx st5 g ⟨s4, rfl⟩
    refine ⟨[.va (eRL script), .va (D.int cell_here), .va (D.int drawn), .va ((eL (eP3 D.int D.int D.int)) wheels_here), .ow (List.map (eP6 D.str D.str D.int D.int D.int D.int) u10.1), .va ((eL (eP2 D.str D.int)) u10.2.2), .va ((eL eD) u10.2.1), s2, .va (eRo road), .va (eCt cart), .va ((eT D.bl) e5), s1, .un], rfl, ?_⟩
    refine j_grd fun h19 => ?_
    refine j_grd fun h20 => ?_
    refine j_b1 fun t15 h23 => ?_
    refine j_b1 fun t16 h24 => ?_
    refine j_if (t_not (t_val (xA (xaC (xV rfl) (xaC (xV rfl) (xaC (xV rfl) (xaC (x_lcFO (e := D.int) (e' := (eP6 D.str D.str D.int D.int D.int D.int)) (xs := (rgI 0 (List.length u10.1 : Int))) (fun y6 => R.va ((eP6 D.str D.str D.int D.int D.int D.int) y6)) (i_A (xaC (xA (xaC (xW rfl) xaN) (f_lenL (e := (eP6 D.str D.str D.int D.int D.int D.int)) (xs := u10.1) rfl)) xaN) (f_rg1 h19)) h20 (fun e6 _ => ⟨[.va (eRL script), .va (D.int cell_here), .va (D.int drawn), .va ((eL (eP3 D.int D.int D.int)) wheels_here), .ow (List.map (eP6 D.str D.str D.int D.int D.int D.int) u10.1), .va ((eL (eP2 D.str D.int)) u10.2.2), .va ((eL eD) u10.2.1), .va (D.int e6), .va (eRo road), .va (eCt cart), .va ((eT D.bl) e5), s1, .un], rfl, (sm_b1 fun t13 h21 => (sm_ret (t_val (x2 (xV rfl) (xV rfl) (f_ixT (e := D.bl) (xs := e5) rfl h21))) rfl)), (sm_b1 fun t14 h22 => (sm_ret (x2 (xW rfl) (xV rfl) (f_ixL (e := (eP6 D.str D.str D.int D.int D.int D.int)) (xs := u10.1) rfl h22)) rfl))⟩) h23) xaN)))) (f_call (@sim__law_asked road cart e5 t15 _ h24) rfl (.inl rfl))))) (fun hc => ?_) (fun hc => ?_)
    · exact jc_ret rfl rfl
    · refine j_nilC ?_
      exact jc_end ⟨_, rfl⟩
  · rintro ⟨⟩ g ⟨s4, rfl⟩
    refine j_fzO (g1 := [.va (eRL script), .va (D.int cell_here), .va (D.int drawn), .va ((eL (eP3 D.int D.int D.int)) wheels_here), .va ((eL (eP6 D.str D.str D.int D.int D.int D.int)) u10.1), .va ((eL (eP2 D.str D.int)) u10.2.2), .va ((eL eD) u10.2.1), s2, .va (eRo road), .va (eCt cart), s4, s1, .un]) rfl rfl ?_
    refine j_forC D.int (fun (st : Unit) (g : Gm) => ∃ s7 s8 : Slot, g = [.va (eRL script), .va (D.int cell_here), .va (D.int drawn), .va ((eL (eP3 D.int D.int D.int)) wheels_here), .va ((eL (eP6 D.str D.str D.int D.int D.int D.int)) u10.1), .va ((eL (eP2 D.str D.int)) u10.2.2), .va ((eL eD) u10.2.1), s2, .va (eRo road), .va (eCt cart), s4, s8, s7]) (fun v => R.va (D.bl v)) (i_seq (x_sl (xV rfl) (x_pS rfl) (x_pS rfl) (f_slR rfl)) rfl) rfl ⟨_, _, rfl⟩ ?_ ?_ ?_
    · rintro e9 hx st9 g ⟨s7, s8, rfl⟩
      refine ⟨[.va (eRL script), .va (D.int cell_here), .va (D.int drawn), .va ((eL (eP3 D.int D.int D.int)) wheels_here), .va ((eL (eP6 D.str D.str D.int D.int D.int D.int)) u10.1), .va ((eL (eP2 D.str D.int)) u10.2.2), .va ((eL eD) u10.2.1), s2, .va (eRo road), .va (eCt cart), s4, .va (D.int e9), s7], rfl, ?_⟩
      refine j_b1 fun t18 h25 => ?_
      refine j_b1 fun other h26 => ?_
      refine j_setTN (i := 12) (g1 := [.va (eRL script), .va (D.int cell_here), .va (D.int drawn), .va ((eL (eP3 D.int D.int D.int)) wheels_here), .va ((eL (eP6 D.str D.str D.int D.int D.int D.int)) u10.1), .va ((eL (eP2 D.str D.int)) u10.2.2), .va ((eL eD) u10.2.1), s2, .va (eRo road), .va (eCt cart), s4, .va (D.int e9), .ow (List.map (eP3 D.int D.int D.int) other)]) (xA (xaC (xV rfl) (xaC (x2 rfl (x2 (xA (xaC (xV rfl) (xaC rfl (xaC rfl xaN))) (f_call (@sim__law_mix e9 (105 : Int) (1000003 : Int) _ h25) rfl (.inl rfl))) rfl (f_modK (by decide))) (oAdd_int _ _)) xaN)) (f_call (@sim__law_wheels e9 ((1 : Int) + (t18 % (5 : Int))) _ h26) rfl (.inl rfl))) rfl ?_
      refine j_fzO (g1 := [.va (eRL script), .va (D.int cell_here), .va (D.int drawn), .va ((eL (eP3 D.int D.int D.int)) wheels_here), .va ((eL (eP6 D.str D.str D.int D.int D.int D.int)) u10.1), .va ((eL (eP2 D.str D.int)) u10.2.2), .va ((eL eD) u10.2.1), s2, .va (eRo road), .va (eCt cart), s4, .va (D.int e9), .va ((eL (eP3 D.int D.int D.int)) other)]) rfl rfl ?_
      refine j_b1 fun t20 h27 => ?_
      refine j_b1 fun t21 h28 => ?_
      refine j_b1 fun t22 h29 => ?_
      refine j_if (t_not (t_val (xA (xaC (xV rfl) (xaC (xA (xaC rfl (xaC rfl (xaC (xV rfl) xaN))) (f_make rfl rfl rfl)) (xaC (x2 (xA (xaC (xV rfl) xaN) (f_call (@sim_ways_of road _ h27) rfl (.inl rfl))) rfl (f_ixL (e := (eT D.bl)) (xs := t20) rfl h28)) (xaC (xV rfl) xaN)))) (f_call (@sim__law_asked road (Ct.mk ("other" : Str) (3 : Int) other) t21 u10.1 _ h29) rfl (.inl rfl))))) (fun hc => ?_) (fun hc => ?_)
      · exact jc_ret rfl rfl
      · refine j_nilC ?_
        exact jc_end ⟨_, _, rfl⟩
    · rintro ⟨⟩ g ⟨s7, s8, rfl⟩
      exact j_ret (x2 (x1 (xV rfl) (f_fld rfl)) (xV rfl) (f_eq (eqR_K (x := cart.wheels) (y := wheels_here) (EQ_L (EQ_P3 (EQ_int 6) (EQ_int 6) (EQ_int 6))) (OK_L (OK_P3 (OK_int 6) (OK_int 6) (OK_int 6))) rfl rfl))) rfl
    · exact fun r => sm_ret rfl rfl
  · exact fun r => sm_ret rfl rfl
end G
namespace G
open PySem L2 BK
set_option autoImplicit false
-- offsets_of
theorem offsets_sh (ws : List Wh) (hl : ws.length ≤ 100000) : sh_offsets_of ws = some (offs ws) := by
  refine Gs.eq (gs_forO (fun pre st => st = (farW (pre.map (·.2)), offs (pre.map (·.2)))) rfl ?_ ?_)
  · rintro pre ⟨i, w⟩ st hx rfl
    obtain ⟨h1, post, h2⟩ := enI_split hx
    have h1 : i = pre.length := h1
    have hpl : pre.length < 100000 := by
      have := congrArg List.length h2
      simp at this
      omega
    have hol : (offs (pre.map (·.2))).length < 16777216 := by
      rw [offs_len, List.length_map]; omega
    have hf : (if 0 < i then farW (pre.map (·.2)) + w.1 else farW (pre.map (·.2))) = farW ((pre ++ [(i, w)]).map (·.2)) := by
      rw [List.map_append, List.map_singleton]
      cases pre with
      | nil => subst h1; simp [farW]
      | cons p pre =>
        rw [if_pos (by rw [h1, List.length_cons]; omega), farW_snoc _ _ (by simp)]
    have e1 : (if (decide ((0 : Int) < i)) = true then lt (farW (pre.map (·.2)) + w.1) fun (far' : Int) => some far' else some (farW (pre.map (·.2)))) = some (farW ((pre ++ [(i, w)]).map (·.2))) := by
      rw [← hf]
      by_cases hi : 0 < i <;> simp [hi, lt_def]
    refine gs_eq e1 (gs_grd hol (gs_lt (gs_some ?_)))
    rw [List.map_append, List.map_singleton, offs_snoc]
  · rintro st rfl
    refine gs_some ?_
    have : (enI ws).map (·.2) = ws := by
      unfold enI
      rw [List.map_map]
      exact List.zipIdx_map_fst 0 ws
    rw [this]
-- greatest_close
theorem greatest_sh (o w : List Int) (width : Int) (hw : w.length = o.length) (ho : o.length ≤ 100000) : Gs (sh_greatest_close o w width) fun r => Mx (List.range o.length) (fun _ => True) (closeW o w width) r := by
  unfold sh_greatest_close
  refine gs_forO (fun pre st => Mx (List.range pre.length) (fun _ => True) (closeW o w width) st) .nil ?_ fun st h => ?_
  · rintro pre ⟨i, x⟩ st hx hI
    obtain ⟨h1, post, h2⟩ := enI_split hx
    have h1 : i = pre.length := h1
    subst h1
    have hpl : pre.length < o.length := by
      have := congrArg List.length h2
      simp at this
      omega
    have hxv : x = atZ o pre.length := by
      have e : o[pre.length]? = some x := by
        rw [h2]
        rw [List.getElem?_append_right (by simp)]
        simp
      unfold atZ
      rw [List.getD_eq_getElem?_getD, e]
      rfl
    refine gs_grd (by dsimp only; omega) ?_
    refine gs_forO (fun p2 s2 => s2 = (p2.map fun e : Int => if atZ o e.toNat - x < width then atZ w e.toNat else 0).sum) rfl ?_ ?_
    · intro p2 e s2 he hs2
      have hm : e ∈ rgI (pre.length : Int) (o.length : Int) := by
        obtain ⟨q, hq⟩ := he
        rw [show rgI ((pre.length : Int), x).1 (o.length : Int) = rgI (pre.length : Int) (o.length : Int) from rfl] at hq
        rw [hq]; simp
      have hb := rgI_mem hm
      obtain ⟨k, rfl⟩ := Int.eq_ofNat_of_zero_le (show 0 ≤ e by omega)
      have hk : k < o.length := by omega
      rw [atZ_at hk, b1_some]
      have e3 : (p2 ++ [(k : Int)]).map (fun e : Int => if atZ o e.toNat - x < width then atZ w e.toNat else 0) = p2.map (fun e : Int => if atZ o e.toNat - x < width then atZ w e.toNat else 0) ++ [if atZ o k - x < width then atZ w k else 0] := by simp
      rw [e3, List.sum_append, ← hs2]
      by_cases c : atZ o k - x < width
      · rw [if_pos (decide_eq_true c), atZ_at (by omega), b1_some, lt_def, b1_some]
        exact gs_some (by simp [c])
      · rw [if_neg (by simpa using c), b1_some]
        exact gs_some (by simp [c])
    · intro t ht
      refine gs_lt (gs_some ?_)
      rw [List.length_append, List.length_singleton, List.range_succ]
      have e4 : t = closeW o w width pre.length := by
        rw [ht]
        unfold closeW
        rw [← sumP_from pre.length o.length (by omega) (fun p => decide (atZ o p - atZ o pre.length < width)) (atZ w)]
        show ((rgI (pre.length : Int) (o.length : Int)).map _).sum = _
        unfold rgI
        rw [List.map_map, show ((o.length : Int) - (pre.length : Int)).toNat = o.length - pre.length from by omega]
        congr 1
        apply List.map_congr_left
        intro k _
        show (if atZ o ((pre.length : Int) + (k : Int)).toNat - x < width then atZ w ((pre.length : Int) + (k : Int)).toNat else 0) = _
        rw [show ((pre.length : Int) + (k : Int)).toNat = pre.length + k from by omega, hxv]
        simp
      rw [e4]
      exact hI.yes trivial
  · rw [enI_length] at h
    exact gs_some h
-- heaviest
theorem heaviest_sh (ws : List Wh) (width : Int) (hl : ws.length ≤ 100000) : Gs (sh_heaviest ws width) fun r => Mx (List.range ws.length) (fun _ => True) (closeW (offs ws) (ws.map (·.2.2)) width) r := by
  unfold sh_heaviest
  rw [offsets_sh ws hl, b1_some]
  refine gs_grd (by omega) ?_
  have h := greatest_sh (offs ws) (ws.map (·.2.2)) width (by rw [List.length_map, offs_len]) (by rw [offs_len]; exact hl)
  rw [offs_len] at h
  exact gs_b1 h fun x hx => gs_some hx
-- fits
noncomputable def hv (ws : List Wh) (width : Int) : Int := (sh_heaviest ws width).getD 0
theorem hv_sh (ws : List Wh) (width : Int) (hl : ws.length ≤ 100000) : sh_heaviest ws width = some (hv ws width) ∧ Mx (List.range ws.length) (fun _ => True) (closeW (offs ws) (ws.map (·.2.2)) width) (hv ws width) := by
  obtain ⟨r, e, h⟩ := heaviest_sh ws width hl
  unfold hv
  rw [e]
  exact ⟨rfl, h⟩
noncomputable def fitB (b : Bg) (ws : List Wh) : Bool := decide (hv ws b.length ≤ b.bears) && decide (hv ws b.wide ≤ b.most)
theorem fits_sh (b : Bg) (ws : List Wh) (hl : ws.length ≤ 100000) : sh_fits b ws = some (fitB b ws) := by
  unfold sh_fits fitB
  rw [(hv_sh ws b.length hl).1, b1_some, (hv_sh ws b.wide hl).1]
  by_cases h : hv ws b.length ≤ b.bears
  · rw [if_pos (decide_eq_true h), b1_some, b1_some, decide_eq_true h]
    rfl
  · rw [if_neg (by simpa using h), b1_some, decide_eq_false h]
    rfl
-- bridges_of
-- round_of
theorem round_sh (road : Rd') (x : Str) : sh_round_of road x = some (roundQ road.rounds x) := by
  unfold sh_round_of
  rw [forC_find (fun r : Str × Int => decide (r.1 = x)) (fun r => some r.2)]
  · unfold roundQ
    cases road.rounds.find? (fun r => decide (r.1 = x)) <;> rfl
  · intro r _
    by_cases h : r.1 = x <;> simp [h]
-- ways_of
theorem ways_sh (road : Rd') (hl : road.pieces.length ≤ 100000) (hb : (brs road.pieces).length ≤ 20) : sh_ways_of road = some (waysL (freeQ road.rounds (brs road.pieces))) := by
  refine Gs.eq ?_
  unfold sh_ways_of
  refine gs_lt ?_
  unfold sh_bridges_of
  rw [grd_pos (by omega), b1_some]
  refine gs_forO (fun pre st => st = waysL (freeQ road.rounds pre)) rfl ?_ fun st h => gs_some h
  rintro pre b st hx rfl
  have hp := (get_split hx).2.2
  refine gs_lt ?_
  rw [round_sh, b1_some]
  refine gs_b1 (Q := fun c => c = chL (roundQ road.rounds b.name).isSome) (gs_if (fun h => gs_lt (gs_some ?_)) fun h => gs_some ?_) fun ch hch => ?_
  · rw [h]; rfl
  · rw [h]; rfl
  have hsz := waysL_size (freeQ road.rounds pre)
  have hfl : (freeQ road.rounds pre).length = pre.length := by unfold freeQ; rw [List.length_map]
  rw [hfl] at hsz
  have hp20 : (2 : Nat) ^ pre.length ≤ 2 ^ 19 := Nat.pow_le_pow_right (by omega) (by omega)
  have hcl : ch.length ≤ 2 := by rw [hch]; unfold chL; split <;> simp
  refine gs_forO (fun p2 s2 => s2 = p2.flatMap fun w => ch.map fun c => w ++ [c]) rfl ?_ ?_
  · rintro p2 w s2 hx2 rfl
    have hp2 := (get_split hx2).2.2
    refine gs_grd (by omega) ?_
    have hw : w ∈ waysL (freeQ road.rounds pre) := by
      obtain ⟨q, hq⟩ := hx2
      rw [hq]; simp
    have hwl := waysL_len _ w hw
    rw [hfl] at hwl
    have hm : mapO (fun e8 : Bool => grd (List.length w + List.length ([e8] : List Bool) ≤ 16777216) <| some (w ++ [e8])) ch = some (ch.map fun c => w ++ [c]) := mapO_eq _ fun x _ => by
      rw [grd_pos (by rw [List.length_singleton]; omega)]
    rw [hm, b1_some]
    have hfm : ∀ l : List (List Bool), (l.flatMap fun w => ch.map fun c => w ++ [c]).length ≤ 2 * l.length := by
      intro l
      induction l with
      | nil => simp
      | cons a l ih2 =>
        rw [List.flatMap_cons, List.length_append, List.length_map, List.length_cons]
        omega
    have := hfm p2
    refine gs_grd (by rw [List.length_map]; omega) ?_
    refine gs_lt (gs_some ?_)
    rw [List.flatMap_append]
    simp
  · rintro s2 rfl
    refine gs_some ?_
    have : freeQ road.rounds (pre ++ [b]) = freeQ road.rounds pre ++ [(roundQ road.rounds b.name).isSome] := by
      unfold freeQ
      rw [List.map_append, List.map_singleton]
    rw [this, waysL_snoc, hch]
-- step_along
theorem step_sh (road : Rd') (p : Pc) (c : Bool) : sh_step_along road p c = match c, p with
    | true, p => some (some (pcLen p))
    | false, .inl _ => none
    | false, .inr b => some (roundQ road.rounds b.name) := by
  unfold sh_step_along
  cases c with
  | true => rfl
  | false =>
    cases p with
    | inl n => rfl
    | inr b =>
      show b1 (some b) _ = _
      rw [b1_some, round_sh]
      rfl
-- walked
/-- a way that leaves out only what has a round -/
def wayOk (rs : List (Str × Int)) : List Bg → List Bool → Prop
  | [], _ => True
  | b :: bs, c :: w => (c = true ∨ (roundQ rs b.name).isSome = true) ∧ wayOk rs bs w
  | _ :: _, [] => False
def walkQ (rs : List (Str × Int)) : List Pc → List Bool → Int → List (Bg × Int) × Int
  | [], _, p => ([], p)
  | .inl n :: ps, w, p => walkQ rs ps w (p + n)
  | .inr b :: ps, true :: w, p => ((b, p) :: (walkQ rs ps w (p + b.length)).1, (walkQ rs ps w (p + b.length)).2)
  | .inr b :: ps, false :: w, p => walkQ rs ps w (p + (roundQ rs b.name).getD 0)
  | .inr _ :: _, [], p => ([], p)
theorem walked_sh (road : Rd') (w : List Bool) (hl : road.pieces.length ≤ 100000) (hw : wayOk road.rounds (brs road.pieces) w) : sh_walked road w = some (walkQ road.rounds road.pieces w 0) := by
  unfold sh_walked
  have key : ∀ (ps : List Pc) (w : List Bool) (legs : List (Bg × Int)) (p : Int), legs.length + ps.length ≤ 100000 → wayOk road.rounds (brs ps) w → Gs (forO (fun (e3 : Pc) (st3 : (List Bool) × (List (Bg × Int)) × Int) =>
      b1 (if (isBr e3) = true then
          b1 (popI st3.1 (0 : Int)) fun q1 =>
          b1 (if q1.1 = true then
              b1 (pcBr e3) fun t2 =>
              grd (List.length st3.2.1 < 16777216) <|
              lt (st3.2.1 ++ [(t2, st3.2.2)]) fun (legs' : (List (Bg × Int))) =>
              some legs'
            else
              some st3.2.1) fun legs'2 =>
          some (q1.1, q1.2, legs'2)
        else
          some (true, st3.1, st3.2.1)) fun u3 =>
      b1 (sh_step_along road e3 u3.1) fun t4 =>
      b1 (t4) fun t5 =>
      lt (st3.2.2 + t5) fun (place' : Int) =>
      some (u3.2.1, u3.2.2, place')) ps (w, legs, p)) fun r => r.2.1 = legs ++ (walkQ road.rounds ps w p).1 ∧ r.2.2 = (walkQ road.rounds ps w p).2 := by
    intro ps
    induction ps with
    | nil =>
      intro w legs p _ _
      exact gs_some ⟨by simp [walkQ], rfl⟩
    | cons x ps ih =>
      intro w legs p hlen hok
      rw [List.length_cons] at hlen
      unfold forO
      cases x with
      | inl n =>
        rw [if_neg (by simp [isBr]), b1_some, step_sh]
        show Gs (b1 (b1 (some (some n)) _) _) _
        rw [b1_some, b1_some, lt_def, b1_some]
        exact (ih w legs (p + n) (by omega) hok)
      | inr b =>
        rw [if_pos (by rfl)]
        cases w with
        | nil => exact absurd hok id
        | cons c w =>
          have hok2 : (c = true ∨ (roundQ road.rounds b.name).isSome = true) ∧ wayOk road.rounds (brs ps) w := hok
          show Gs (b1 (b1 (b1 (popI (c :: w) 0) _) _) _) _
          rw [popI_zero, b1_some]
          cases c with
          | true =>
            rw [if_pos rfl]
            show Gs (b1 (b1 (b1 (b1 (some b) _) _) _) _) _
            rw [b1_some, grd_pos (by dsimp only; omega), lt_def, b1_some, b1_some, step_sh]
            show Gs (b1 (b1 (some (some b.length)) _) _) _
            rw [b1_some, b1_some, lt_def, b1_some]
            refine (ih w (legs ++ [(b, p)]) (p + b.length) (by rw [List.length_append, List.length_singleton]; omega) hok2.2).mono fun r hr => ⟨?_, hr.2⟩
            rw [hr.1, List.append_assoc]
            rfl
          | false =>
            rw [if_neg (by simp), b1_some, b1_some, step_sh]
            have hs := hok2.1.resolve_left (by decide)
            obtain ⟨z, hz⟩ := Option.isSome_iff_exists.mp hs
            show Gs (b1 (b1 (some (roundQ road.rounds b.name)) _) _) _
            rw [b1_some, hz, b1_some, lt_def, b1_some]
            have e : walkQ road.rounds (.inr b :: ps) (false :: w) p = walkQ road.rounds ps w (p + z) := by
              show walkQ road.rounds ps w (p + (roundQ road.rounds b.name).getD 0) = _
              rw [hz]; rfl
            rw [e]
            exact ih w legs (p + z) (by omega) hok2.2
  obtain ⟨r, e, h1, h2⟩ := key road.pieces w [] 0 (by simpa using hl) hw
  rw [e, b1_some]
  rw [List.nil_append] at h1
  rw [h1, h2]
theorem ways_ok (rs : List (Str × Int)) : ∀ (bs : List Bg) (w : List Bool), w.length = bs.length → okW (freeQ rs bs) w = true → wayOk rs bs w
  | [], _, _, _ => trivial
  | b :: bs, [], h, _ => by cases h
  | b :: bs, c :: w, h, k => by
    have k : (((roundQ rs b.name).isSome || c) && okW (freeQ rs bs) w) = true := k
    rw [Bool.and_eq_true, Bool.or_eq_true] at k
    exact ⟨k.1.symm, ways_ok rs bs w (by simpa using h) k.2⟩
theorem waysL_ok (rs : List (Str × Int)) (bs : List Bg) : ∀ w ∈ waysL (freeQ rs bs), w.length = bs.length ∧ wayOk rs bs w := by
  intro w hw
  have hl := waysL_len _ w hw
  have hl2 : w.length = bs.length := by
    rw [hl]
    unfold freeQ
    rw [List.length_map]
  rw [← dueL_eq] at hw
  exact ⟨hl2, ways_ok rs bs w hl2 (List.mem_filter.mp hw).2⟩
-- legs_of
theorem legs_sh (road : Rd') (w : List Bool) (hl : road.pieces.length ≤ 100000) (hw : wayOk road.rounds (brs road.pieces) w) : sh_legs_of road w = some (walkQ road.rounds road.pieces w 0).1 := by
  unfold sh_legs_of
  rw [walked_sh road w hl hw, b1_some]
-- first_unfit
theorem first_unfit_sh (road : Rd') (w : List Bool) (ws : List Wh) (hl : road.pieces.length ≤ 100000) (hws : ws.length ≤ 100000) (hw : wayOk road.rounds (brs road.pieces) w) : sh_first_unfit road w ws = some (((walkQ road.rounds road.pieces w 0).1.find? fun l => !fitB l.1 ws).map (·.1)) := by
  unfold sh_first_unfit
  rw [legs_sh road w hl hw, b1_some, forC_find (fun l : Bg × Int => !fitB l.1 ws) (fun l => some l.1)]
  · cases ((walkQ road.rounds road.pieces w 0).1.find? fun l => !fitB l.1 ws) <;> rfl
  · intro l _
    rw [fits_sh l.1 ws hws, b1_some]
    cases fitB l.1 ws <;> simp
-- parted
theorem enI_snd {α : Type} : ∀ xs : List α, (enI xs).map (·.2) = xs := fun xs => by
  apply List.ext_getElem?
  intro i
  unfold enI
  simp
  cases xs[i]? <;> rfl
/-! cuts into runs that fit: the greedy one is the first of the least -/
structure Grd {α : Type} (F : List α → Bool) (st : List (List α)) : Prop where
  ne : ∀ r ∈ st, r ≠ []
  fit : ∀ r ∈ st, F r = true
  brk : ∀ q1 a b q2, st = q1 ++ a :: b :: q2 → ∃ v b', b = v :: b' ∧ F (a ++ [v]) = false
structure Clo {α : Type} (F : List α → Bool) : Prop where
  pre : ∀ a b, F (a ++ b) = true → F a = true
  suf : ∀ a b, F (a ++ b) = true → F b = true
theorem Grd.tail {α : Type} {F : List α → Bool} {g : List α} {G : List (List α)} (h : Grd F (g :: G)) : Grd F G := ⟨fun r hr => h.ne r (List.mem_cons_of_mem _ hr), fun r hr => h.fit r (List.mem_cons_of_mem _ hr), fun q1 a b q2 e => h.brk (g :: q1) a b q2 (by rw [e]; rfl)⟩
theorem gr_first {α : Type} {F : List α → Bool} (K : Clo F) {g : List α} {G : List (List α)} (h : Grd F (g :: G)) {c rest : List α} (hc : F c = true) (e : g ++ G.flatten = c ++ rest) : c.length ≤ g.length := by
  refine Classical.byContradiction fun hn => ?_
  rcases List.append_eq_append_iff.mp e with ⟨d, e1, e2⟩ | ⟨d, e1, e2⟩
  · have hd : d ≠ [] := fun z => by rw [e1, z] at hn; simp at hn
    cases G with
    | nil => rw [List.flatten_nil] at e2; exact hd (List.append_eq_nil_iff.mp e2.symm).1
    | cons b q2 =>
      obtain ⟨v, b', rfl, k⟩ := h.brk [] g b q2 rfl
      cases d with
      | nil => exact hd rfl
      | cons u d =>
        have : v = u := by
          rw [List.flatten_cons, List.cons_append, List.cons_append] at e2
          injection e2
        subst this
        have := K.pre (g ++ [v]) d (by rw [List.append_assoc]; show F (g ++ v :: d) = true; rw [← e1]; exact hc)
        rw [k] at this
        cases this
  · rw [e1, List.length_append] at hn
    omega
theorem gr_few {α : Type} {F : List α → Bool} (K : Clo F) : ∀ (C G : List (List α)) (x : List α), Grd F G → (∀ c ∈ C, F c = true) → C.flatten = x ++ G.flatten → G.length ≤ C.length
  | [], G, x, h, _, e => by
    cases G with
    | nil => exact Nat.le_refl _
    | cons g G =>
      rw [List.flatten_nil, List.flatten_cons] at e
      have := (List.append_eq_nil_iff.mp e.symm).2
      exact absurd (List.append_eq_nil_iff.mp this).1 (h.ne g List.mem_cons_self)
  | c :: C, G, x, h, hC, e => by
    rw [List.flatten_cons] at e
    rcases List.append_eq_append_iff.mp e with ⟨d, e1, e2⟩ | ⟨d, e1, e2⟩
    · have := gr_few K C G d h (fun c hc => hC c (List.mem_cons_of_mem _ hc)) e2
      rw [List.length_cons]
      omega
    · cases G with
      | nil => simp
      | cons g G =>
        rw [List.flatten_cons] at e2
        have hd : F d = true := K.suf x d (by rw [← e1]; exact hC c List.mem_cons_self)
        have hl := gr_first K h hd e2
        rcases List.append_eq_append_iff.mp e2 with ⟨y, e3, e4⟩ | ⟨y, e3, e4⟩
        · have : y = [] := by
            have := congrArg List.length e3
            rw [List.length_append] at this
            exact List.length_eq_zero_iff.mp (by omega)
          subst this
          have := gr_few K C G [] h.tail (fun c hc => hC c (List.mem_cons_of_mem _ hc)) (by rw [List.nil_append]; rw [List.nil_append] at e4; exact e4.symm)
          rw [List.length_cons, List.length_cons]
          omega
        · have := gr_few K C G y h.tail (fun c hc => hC c (List.mem_cons_of_mem _ hc)) e4
          rw [List.length_cons, List.length_cons]
          omega
abbrev lens {α : Type} (C : List (List α)) : List Int := C.map fun r => -(r.length : Int)
theorem gr_lex {α : Type} {F : List α → Bool} (K : Clo F) : ∀ (C G : List (List α)), Grd F G → (∀ c ∈ C, F c = true) → C.flatten = G.flatten → C.length = G.length → lexI (lens C) (lens G) = false
  | [], [], _, _, _, _ => rfl
  | [], _ :: _, _, _, _, e => by cases e
  | _ :: _, [], _, _, _, e => by cases e
  | c :: C, g :: G, h, hC, e, el => by
    rw [List.flatten_cons, List.flatten_cons] at e
    have hl := gr_first K h (hC c List.mem_cons_self) e.symm
    show lexG _ (-(c.length : Int) :: lens C) (-(g.length : Int) :: lens G) = false
    rw [lexG]
    by_cases z : -(c.length : Int) = -(g.length : Int)
    · rw [if_pos z]
      have := List.append_inj e (by omega)
      exact gr_lex K C G h.tail (fun c hc => hC c (List.mem_cons_of_mem _ hc)) this.2 (by simpa using el)
    · rw [if_neg z]
      exact decide_eq_false (by omega)
abbrev Ent (α : Type) := Int × List Int × List (List α)
abbrev entC {α : Type} (C : List (List α)) : Ent α := ((C.length : Int), lens C, C)
abbrev keyE {α : Type} (x : Ent α) : List (List Int) := [[x.1], x.2.1]
theorem gr_key {α : Type} {F : List α → Bool} (K : Clo F) {C G : List (List α)} (h : Grd F G) (hC : ∀ c ∈ C, F c = true) (e : C.flatten = G.flatten) : ltK (keyE (entC C)) (keyE (entC G)) = false := by
  show lexG _ [[(C.length : Int)], lens C] [[(G.length : Int)], lens G] = false
  rw [lexG]
  by_cases z : C.length = G.length
  · rw [if_pos (by rw [z]), lexG]
    split
    · rfl
    · exact gr_lex K C G h hC e z
  · have := gr_few K C G [] h hC (by rw [e]; rfl)
    rw [if_neg (by intro q; injection q; omega)]
    show lexG _ [(C.length : Int)] [(G.length : Int)] = false
    rw [lexG, if_neg (by omega)]
    exact decide_eq_false (by omega)
theorem lens_inj {α : Type} : ∀ (C D : List (List α)), C.flatten = D.flatten → lens C = lens D → C = D
  | [], [], _, _ => rfl
  | [], _ :: _, _, e => by cases e
  | _ :: _, [], _, e => by cases e
  | c :: C, d :: D, e, el => by
    have el : (-(c.length : Int)) :: lens C = (-(d.length : Int)) :: lens D := el
    injection el with e1 e2
    rw [List.flatten_cons, List.flatten_cons] at e
    have := List.append_inj e (by omega)
    rw [this.1, lens_inj C D this.2 e2]
/-! every cut by a number's bits -/
def cutS {α : Type} (b : Bool) (st : List (List α)) (v : α) : List (List α) := if b = true then st ++ [[v]] else st.dropLast ++ [st.getLastD [] ++ [v]]
def cutB {α : Type} (ws : List α) (m : Nat) : Nat → List (List α)
  | 0 => [ws.take 1]
  | k + 1 => match ws[k + 1]? with
    | some v => cutS (m.testBit k) (cutB ws m k) v
    | none => cutB ws m k
theorem cutS_last {α : Type} (q : List (List α)) (z : List α) (v : α) : cutS false (q ++ [z]) v = q ++ [z ++ [v]] := by
  unfold cutS
  rw [if_neg (by decide), List.dropLast_concat]
  simp
theorem cutB_succ {α : Type} {ws : List α} {m k : Nat} (h : k + 1 < ws.length) : cutB ws m (k + 1) = cutS (m.testBit k) (cutB ws m k) ws[k + 1] := by
  rw [cutB, List.getElem?_eq_getElem h]
theorem cutB_ok {α : Type} {ws : List α} {m : Nat} : ∀ {k : Nat}, k < ws.length → (cutB ws m k).flatten = ws.take (k + 1) ∧ (∀ r ∈ cutB ws m k, r ≠ []) ∧ ∃ q z, cutB ws m k = q ++ [z] ∧ z ≠ []
  | 0, h => by
    have e : ws.take 1 = [ws[0]] := by
      rw [List.take_succ_eq_append_getElem h]; rfl
    refine ⟨by simp [cutB], fun r hr => ?_, ⟨[], [ws[0]], by rw [cutB, e]; rfl, by simp⟩⟩
    rw [cutB, List.mem_singleton] at hr
    rw [hr, e]
    simp
  | k + 1, h => by
    obtain ⟨h1, h2, q, z, h3, h4⟩ := cutB_ok (ws := ws) (m := m) (k := k) (by omega)
    rw [cutB_succ h]
    cases m.testBit k with
    | true =>
      unfold cutS
      rw [if_pos rfl]
      refine ⟨by rw [List.flatten_append, h1, List.take_succ_eq_append_getElem (i := k + 1) h]; simp, fun r hr => ?_, ⟨_, _, rfl, by simp⟩⟩
      rw [List.mem_append, List.mem_singleton] at hr
      rcases hr with hr | rfl
      · exact h2 r hr
      · simp
    | false =>
      rw [h3, cutS_last]
      rw [h3, List.flatten_append] at h1
      refine ⟨by rw [List.flatten_append, List.take_succ_eq_append_getElem (i := k + 1) h, ← h1]; simp, fun r hr => ?_, ⟨_, _, rfl, by simp⟩⟩
      rw [List.mem_append, List.mem_singleton] at hr
      rcases hr with hr | rfl
      · exact h2 r (by rw [h3]; exact List.mem_append_left _ hr)
      · simp
theorem cutB_congr {α : Type} {ws : List α} {m1 m2 : Nat} : ∀ {k : Nat}, (∀ j, j < k → m1.testBit j = m2.testBit j) → cutB ws m1 k = cutB ws m2 k
  | 0, _ => rfl
  | k + 1, h => by
    rw [cutB, cutB, cutB_congr (k := k) fun j hj => h j (by omega), h k (by omega)]
theorem cutB_inj {α : Type} {ws : List α} {m1 m2 : Nat} : ∀ {k : Nat}, k < ws.length → cutB ws m1 k = cutB ws m2 k → ∀ j, j < k → m1.testBit j = m2.testBit j
  | 0, _, _, j, hj => by omega
  | k + 1, h, e, j, hj => by
    obtain ⟨_, _, q1, z1, a3, a4⟩ := cutB_ok (ws := ws) (m := m1) (k := k) (by omega)
    obtain ⟨_, _, q2, z2, b3, b4⟩ := cutB_ok (ws := ws) (m := m2) (k := k) (by omega)
    rw [cutB_succ h, cutB_succ h] at e
    have key : m1.testBit k = m2.testBit k ∧ cutB ws m1 k = cutB ws m2 k := by
      cases e1 : m1.testBit k <;> cases e2 : m2.testBit k <;> rw [e1, e2] at e
      · refine ⟨rfl, ?_⟩
        rw [a3, b3, cutS_last, cutS_last] at e
        have h1 := List.append_inj_left' e rfl
        have h2 := List.append_inj_right' e rfl
        injection h2 with h2
        rw [a3, b3, h1, List.append_inj_left' h2 rfl]
      · rw [a3, b3, cutS_last] at e
        have h2 := List.append_inj_right' e rfl
        injection h2 with h2
        have := congrArg List.length h2
        rw [List.length_append] at this
        exact absurd (List.length_eq_zero_iff.mp (by rw [List.length_singleton] at this; omega)) a4
      · rw [a3, b3, cutS_last] at e
        have h2 := List.append_inj_right' e rfl
        injection h2 with h2
        have := congrArg List.length h2
        rw [List.length_append] at this
        exact absurd (List.length_eq_zero_iff.mp (by rw [List.length_singleton] at this; omega)) b4
      · refine ⟨rfl, ?_⟩
        exact List.append_inj_left' e rfl
    rcases Nat.lt_or_ge j k with z | z
    · exact cutB_inj (by omega) key.2 j z
    · obtain rfl : j = k := by omega
      exact key.1
theorem cutB_all {α : Type} {ws : List α} : ∀ {k : Nat}, k < ws.length → ∀ C : List (List α), C.flatten = ws.take (k + 1) → (∀ r ∈ C, r ≠ []) → ∃ m, m < 2 ^ k ∧ cutB ws m k = C
  | 0, h, C, e, hn => by
    refine ⟨0, by decide, ?_⟩
    have e1 : ws.take 1 = [ws[0]] := by rw [List.take_succ_eq_append_getElem h]; rfl
    rw [e1] at e
    rw [cutB, e1]
    cases C with
    | nil => cases e
    | cons c C =>
      cases c with
      | nil => exact absurd rfl (hn [] List.mem_cons_self)
      | cons x c =>
        rw [List.flatten_cons, List.cons_append] at e
        injection e with e2 e3
        obtain ⟨rfl, e4⟩ := List.append_eq_nil_iff.mp e3
        cases C with
        | nil => rw [e2]
        | cons d C =>
          rw [List.flatten_cons] at e4
          exact absurd (List.append_eq_nil_iff.mp e4).1 (hn d (by simp))
  | k + 1, h, C, e, hn => by
    rw [List.take_succ_eq_append_getElem (i := k + 1) h] at e
    have hC : C ≠ [] := fun z => by
      rw [z, List.flatten_nil] at e
      cases (List.append_eq_nil_iff.mp e.symm).2
    obtain ⟨q, z, rfl⟩ : ∃ q z, C = q ++ [z] := ⟨C.dropLast, C.getLast hC, (List.dropLast_concat_getLast hC).symm⟩
    have hz : z ≠ [] := hn z (by simp)
    obtain ⟨y, v, rfl⟩ : ∃ y v, z = y ++ [v] := ⟨z.dropLast, z.getLast hz, (List.dropLast_concat_getLast hz).symm⟩
    rw [List.flatten_append, List.flatten_singleton, ← List.append_assoc] at e
    have e1 := List.append_inj_left' e rfl
    have e2 : v = ws[k + 1] := by
      have := List.append_inj_right' e rfl
      injection this
    by_cases hy : y = []
    · subst hy
      obtain ⟨m, hm, em⟩ := cutB_all (ws := ws) (k := k) (by omega) q (by simpa using e1) fun r hr => hn r (List.mem_append_left _ hr)
      refine ⟨2 ^ k + m, by rw [Nat.pow_succ]; omega, ?_⟩
      rw [cutB_succ h, Nat.testBit_two_pow_add_eq, Nat.testBit_lt_two_pow hm, cutB_congr (m2 := m) fun j hj => Nat.testBit_two_pow_add_gt hj m, em]
      show cutS true q _ = _
      unfold cutS
      rw [if_pos rfl, e2]
      rfl
    · obtain ⟨m, hm, em⟩ := cutB_all (ws := ws) (k := k) (by omega) (q ++ [y]) (by rw [List.flatten_append, List.flatten_singleton]; exact e1) fun r hr => by
        rw [List.mem_append, List.mem_singleton] at hr
        rcases hr with hr | rfl
        · exact hn r (List.mem_append_left _ hr)
        · exact hy
      refine ⟨m, by rw [Nat.pow_succ]; omega, ?_⟩
      rw [cutB_succ h, Nat.testBit_lt_two_pow hm, em, cutS_last, e2]
/-- all cuts of which every run fits -/
def fndC {α : Type} (F : List α → Bool) (ws : List α) (k n : Nat) : List (Ent α) := ((List.range n).filter fun m => (cutB ws m k).all F).map fun m => entC (cutB ws m k)
theorem fnd_nodup {α : Type} {F : List α → Bool} {ws : List α} {k : Nat} (h : k < ws.length) : ((fndC F ws k (2 ^ k)).map keyE).Nodup := by
  unfold fndC
  rw [List.map_map]
  show List.Pairwise _ _
  rw [List.pairwise_map]
  have h1 : ((List.range (2 ^ k)).filter fun m => (cutB ws m k).all F).Pairwise (fun a b => a ≠ b) := (show (List.range (2 ^ k)).Pairwise (fun a b => a ≠ b) from List.nodup_range).filter _
  refine h1.imp_of_mem fun {a b} ha hb hab hk => hab ?_
  have ha := List.mem_range.mp (List.mem_filter.mp ha).1
  have hb := List.mem_range.mp (List.mem_filter.mp hb).1
  have hk : ([[((cutB ws a k).length : Int)], lens (cutB ws a k)] : List (List Int)) = [[((cutB ws b k).length : Int)], lens (cutB ws b k)] := hk
  have hk2 : lens (cutB ws a k) = lens (cutB ws b k) := by
    injection hk with _ e2
    injection e2
  have hc := lens_inj _ _ (by rw [(cutB_ok h).1, (cutB_ok h).1]) hk2
  refine Nat.eq_of_testBit_eq fun j => ?_
  rcases Nat.lt_or_ge j k with z | z
  · exact cutB_inj h hc j z
  · rw [Nat.testBit_lt_two_pow (Nat.lt_of_lt_of_le ha (Nat.pow_le_pow_right (by decide) z)), Nat.testBit_lt_two_pow (Nat.lt_of_lt_of_le hb (Nat.pow_le_pow_right (by decide) z))]
theorem fnd_first {α : Type} {F : List α → Bool} (K : Clo F) {ws : List α} (hl : 1 ≤ ws.length) {G : List (List α)} (h : Grd F G) (e : G.flatten = ws) : ∃ tl, sortBy keyE (fndC F ws (ws.length - 1) (2 ^ (ws.length - 1))) = entC G :: tl := by
  have hk : ws.length - 1 < ws.length := by omega
  have htk : ws.take (ws.length - 1 + 1) = ws := by rw [Nat.sub_add_cancel hl, List.take_length]
  obtain ⟨m, hm, em⟩ := cutB_all hk G (by rw [e, htk]) h.ne
  have hmem : entC G ∈ fndC F ws (ws.length - 1) (2 ^ (ws.length - 1)) := by
    unfold fndC
    refine List.mem_map.mpr ⟨m, List.mem_filter.mpr ⟨List.mem_range.mpr hm, ?_⟩, by rw [em]⟩
    rw [em]
    exact List.all_eq_true.mpr h.fit
  have hp := sortBy_perm keyE (fndC F ws (ws.length - 1) (2 ^ (ws.length - 1)))
  have hs := sortBy_sorted keyE (fndC F ws (ws.length - 1) (2 ^ (ws.length - 1)))
  cases es : sortBy keyE (fndC F ws (ws.length - 1) (2 ^ (ws.length - 1))) with
  | nil => rw [es] at hp; have := hp.symm.subset hmem; cases this
  | cons f tl =>
    rw [es] at hp hs
    have hf := hp.subset List.mem_cons_self
    unfold fndC at hf
    obtain ⟨m2, hm2, ef⟩ := List.mem_map.mp hf
    obtain ⟨hm2, hfit⟩ := List.mem_filter.mp hm2
    have hfl : (cutB ws m2 (ws.length - 1)).flatten = G.flatten := by rw [(cutB_ok hk).1, htk, e]
    have h1 := gr_key K h (List.all_eq_true.mp hfit) hfl
    rcases List.mem_cons.mp (hp.symm.subset hmem) with z | z
    · exact ⟨tl, by rw [z]⟩
    · have h2 := (List.pairwise_cons.mp hs).1 _ z
      rw [← ef] at h2 ⊢
      have : keyE (entC (cutB ws m2 (ws.length - 1))) = keyE (entC G) := by
        rcases lin_K.tot (keyE (entC (cutB ws m2 (ws.length - 1)))) (keyE (entC G)) with c | c | c
        · rw [h1] at c; cases c
        · exact c
        · rw [h2] at c; cases c
      have hl2 : lens (cutB ws m2 (ws.length - 1)) = lens G := by
        have this : ([[((cutB ws m2 (ws.length - 1)).length : Int)], lens (cutB ws m2 (ws.length - 1))] : List (List Int)) = [[(G.length : Int)], lens G] := this
        injection this with _ e2
        injection e2
      exact ⟨tl, by rw [lens_inj _ _ hfl hl2]⟩
theorem atZ_app {l m : List Int} {p : Nat} (h : p < l.length) : atZ (l ++ m) p = atZ l p := by
  unfold atZ
  rw [List.getD_eq_getElem?_getD, List.getD_eq_getElem?_getD, List.getElem?_append_left h]
theorem closeW_snoc {ws : List Wh} {x : Wh} (hx : 0 ≤ x.2.2) (width : Int) {i : Nat} (hi : i < ws.length) : closeW (offs ws) (ws.map (·.2.2)) width i ≤ closeW (offs (ws ++ [x])) ((ws ++ [x]).map (·.2.2)) width i := by
  have hol : (offs ws).length = ws.length := offs_len ws
  have hx2 : atZ ((ws ++ [x]).map (·.2.2)) ws.length = x.2.2 := by
    unfold atZ
    rw [List.getD_eq_getElem?_getD, List.map_append, List.getElem?_append_right (by rw [List.length_map]; omega), List.length_map, Nat.sub_self]
    rfl
  unfold closeW
  rw [show (offs (ws ++ [x])).length = ws.length + 1 from by rw [offs_len, List.length_append]; rfl, sumP_succ, hol]
  have e1 : sumP ws.length (fun p => decide (i ≤ p) && decide (atZ (offs ws) p - atZ (offs ws) i < width)) (atZ (ws.map (·.2.2))) = sumP ws.length (fun p => decide (i ≤ p) && decide (atZ (offs (ws ++ [x])) p - atZ (offs (ws ++ [x])) i < width)) (atZ ((ws ++ [x]).map (·.2.2))) := by
    unfold sumP
    congr 1
    apply List.map_congr_left
    intro p hp
    rw [List.mem_range] at hp
    have a1 : atZ (offs ws ++ [farW (ws ++ [x])]) p = atZ (offs ws) p := atZ_app (by rw [hol]; exact hp)
    have a2 : atZ (offs ws ++ [farW (ws ++ [x])]) i = atZ (offs ws) i := atZ_app (by rw [hol]; exact hi)
    have a3 : atZ (ws.map (·.2.2) ++ [x].map (·.2.2)) p = atZ (ws.map (·.2.2)) p := atZ_app (by rw [List.length_map]; exact hp)
    rw [offs_snoc, List.map_append, a3]
    simp only [a1, a2]
  rw [e1, hx2]
  split <;> omega
theorem hv_snoc {ws : List Wh} {x : Wh} (hx : 0 ≤ x.2.2) (hl : ws.length + 1 ≤ 100000) (width : Int) : hv ws width ≤ hv (ws ++ [x]) width := by
  have h1 := (hv_sh ws width (by omega)).2
  have h2 := (hv_sh (ws ++ [x]) width (by rw [List.length_append]; exact hl)).2
  rcases h1.2.2 with h | ⟨i, hi, _, h⟩
  · rw [h]; exact h2.1
  · rw [List.mem_range] at hi
    rw [h]
    exact Int.le_trans (closeW_snoc hx width hi) (h2.2.1 i (List.mem_range.mpr (by rw [List.length_append]; exact Nat.lt_succ_of_lt hi)) trivial)
/-- a bridge that bears a run bears its beginnings -/
theorem fitB_snoc {b : Bg} {ws : List Wh} {x : Wh} (hx : 0 ≤ x.2.2) (hl : ws.length + 1 ≤ 100000) (h : fitB b (ws ++ [x]) = true) : fitB b ws = true := by
  unfold fitB at h ⊢
  rw [Bool.and_eq_true, decide_eq_true_eq, decide_eq_true_eq] at h ⊢
  exact ⟨Int.le_trans (hv_snoc hx hl _) h.1, Int.le_trans (hv_snoc hx hl _) h.2⟩
theorem fitB_pre {b : Bg} : ∀ {zs ws : List Wh}, (∀ x ∈ zs, 0 ≤ x.2.2) → (ws ++ zs).length ≤ 100000 → fitB b (ws ++ zs) = true → fitB b ws = true
  | [], ws, _, _, h => by rw [List.append_nil] at h; exact h
  | z :: zs, ws, hz, hl, h => by
    have e : ws ++ z :: zs = (ws ++ [z]) ++ zs := by rw [List.append_assoc]; rfl
    rw [e] at h hl
    have hl2 : ws.length + 1 ≤ 100000 := by
      rw [List.length_append, List.length_append, List.length_singleton] at hl
      omega
    exact fitB_snoc (hz z List.mem_cons_self) hl2 (fitB_pre (fun x hx => hz x (List.mem_cons_of_mem _ hx)) hl h)
/-! what fits, fits without its first wheels -/
theorem sumP_cons (n : Nat) (q : Nat → Bool) (w : Nat → Int) : sumP (n + 1) q w = (if q 0 = true then w 0 else 0) + sumP n (fun p => q (p + 1)) (fun p => w (p + 1)) := by
  unfold sumP
  rw [List.range_succ_eq_map, List.map_cons, List.sum_cons, List.map_map]
  rfl
theorem sumP_cg {n : Nat} {q q' : Nat → Bool} {w w' : Nat → Int} (h : ∀ p, p < n → q p = q' p ∧ w p = w' p) : sumP n q w = sumP n q' w' := by
  unfold sumP
  congr 1
  apply List.map_congr_left
  intro p hp
  rw [List.mem_range] at hp
  rw [(h p hp).1, (h p hp).2]
theorem atZ_offs {ws : List Wh} {i : Nat} (h : i < ws.length) : atZ (offs ws) i = farW (ws.take (i + 1)) := by
  unfold atZ offs
  rw [List.getD_eq_getElem?_getD, List.getElem?_map, List.getElem?_range h]
  rfl
theorem offs_cons {x w : Wh} {ws : List Wh} {i : Nat} (h : i < (w :: ws).length) : atZ (offs (x :: w :: ws)) (i + 1) = w.1 + atZ (offs (w :: ws)) i := by
  rw [atZ_offs (by rw [List.length_cons]; omega), atZ_offs h]
  unfold farW
  rw [List.take_succ_cons, List.take_succ_cons]
  simp
theorem closeW_cons {x : Wh} {ws : List Wh} (width : Int) {i : Nat} (hi : i < ws.length) : closeW (offs ws) (ws.map (·.2.2)) width i = closeW (offs (x :: ws)) ((x :: ws).map (·.2.2)) width (i + 1) := by
  cases ws with
  | nil => cases hi
  | cons w ws =>
    unfold closeW
    rw [offs_len, offs_len, show (x :: w :: ws).length = (w :: ws).length + 1 from rfl, sumP_cons]
    rw [if_neg (by simp), Int.zero_add]
    refine sumP_cg fun p hp => ⟨?_, rfl⟩
    show (decide (i ≤ p) && _) = (decide (i + 1 ≤ p + 1) && decide (atZ (offs (x :: w :: ws)) (p + 1) - atZ (offs (x :: w :: ws)) (i + 1) < width))
    rw [offs_cons hp, offs_cons hi]
    have e1 : decide (i + 1 ≤ p + 1) = decide (i ≤ p) := decide_eq_decide.mpr (by omega)
    have e2 : decide (w.1 + atZ (offs (w :: ws)) p - (w.1 + atZ (offs (w :: ws)) i) < width) = decide (atZ (offs (w :: ws)) p - atZ (offs (w :: ws)) i < width) := decide_eq_decide.mpr (by omega)
    rw [e1, e2]
theorem hv_cons {x : Wh} {ws : List Wh} (hl : ws.length + 1 ≤ 100000) (width : Int) : hv ws width ≤ hv (x :: ws) width := by
  have h1 := (hv_sh ws width (by omega)).2
  have h2 := (hv_sh (x :: ws) width (by rw [List.length_cons]; exact hl)).2
  rcases h1.2.2 with h | ⟨i, hi, _, h⟩
  · rw [h]; exact h2.1
  · rw [List.mem_range] at hi
    rw [h, closeW_cons (x := x) width hi]
    exact h2.2.1 (i + 1) (List.mem_range.mpr (by rw [List.length_cons]; omega)) trivial
theorem fitB_cons {b : Bg} {x : Wh} {ws : List Wh} (hl : ws.length + 1 ≤ 100000) (h : fitB b (x :: ws) = true) : fitB b ws = true := by
  unfold fitB at h ⊢
  rw [Bool.and_eq_true, decide_eq_true_eq, decide_eq_true_eq] at h ⊢
  exact ⟨Int.le_trans (hv_cons hl _) h.1, Int.le_trans (hv_cons hl _) h.2⟩
theorem fitB_suf {b : Bg} : ∀ {zs ws : List Wh}, (zs ++ ws).length ≤ 100000 → fitB b (zs ++ ws) = true → fitB b ws = true
  | [], _, _, h => h
  | z :: zs, ws, hl, h => by
    rw [List.cons_append, List.length_cons] at hl
    exact fitB_suf (zs := zs) (by omega) (fitB_cons hl h)
/-- a run that fits every bridge of L (of wheels that weigh no less than nothing) -/
noncomputable def fitR (L : List Bg) (r : List Wh) : Bool := decide (r.length ≤ 1000) && r.all (fun w => decide (0 ≤ w.2.2)) && L.all fun b => fitB b r
theorem fitR_iff {L : List Bg} {r : List Wh} : fitR L r = true ↔ (r.length ≤ 1000 ∧ ∀ w ∈ r, 0 ≤ w.2.2) ∧ ∀ b ∈ L, fitB b r = true := by
  unfold fitR
  rw [Bool.and_eq_true, Bool.and_eq_true, decide_eq_true_eq, List.all_eq_true, List.all_eq_true]
  constructor
  · rintro ⟨⟨h1, h2⟩, h3⟩
    exact ⟨⟨h1, fun w hw => of_decide_eq_true (h2 w hw)⟩, h3⟩
  · rintro ⟨⟨h1, h2⟩, h3⟩
    exact ⟨⟨h1, fun w hw => decide_eq_true (h2 w hw)⟩, h3⟩
theorem fitR_clo (L : List Bg) : Clo (fitR L) := by
  constructor
  · intro a b h
    rw [fitR_iff] at h ⊢
    obtain ⟨⟨h1, h2⟩, h3⟩ := h
    rw [List.length_append] at h1
    exact ⟨⟨by omega, fun w hw => h2 w (List.mem_append_left _ hw)⟩, fun l hl => fitB_pre (fun w hw => h2 w (List.mem_append_right _ hw)) (by rw [List.length_append]; omega) (h3 l hl)⟩
  · intro a b h
    rw [fitR_iff] at h ⊢
    obtain ⟨⟨h1, h2⟩, h3⟩ := h
    rw [List.length_append] at h1
    exact ⟨⟨by omega, fun w hw => h2 w (List.mem_append_right _ hw)⟩, fun l hl => fitB_suf (by rw [List.length_append]; omega) (h3 l hl)⟩
/-- where a run ends, its wheels and the next one's first do not fit -/
def Brk (L : List Bg) (st : List (List Wh)) : Prop := ∀ q1 a b q2, st = q1 ++ a :: b :: q2 → ∃ v b', b = v :: b' ∧ ∃ l ∈ L, fitB l (a ++ [v]) = false
theorem brk_new {L : List Bg} {q : List (List Wh)} {z : List Wh} {v : Wh} (h : Brk L (q ++ [z])) (hz : ∃ l ∈ L, fitB l (z ++ [v]) = false) : Brk L (q ++ [z] ++ [[v]]) := by
  intro q1 a b q2 e
  rcases List.eq_nil_or_concat q2 with rfl | ⟨q3, y, rfl⟩
  · have e2 : q ++ [z] ++ [[v]] = (q1 ++ [a]) ++ [b] := by rw [e, List.append_assoc]; rfl
    have h1 := List.append_inj_right' e2 rfl
    have h2 := List.append_inj_left' e2 rfl
    have h3 := List.append_inj_right' h2 rfl
    cases h1
    cases h3
    exact ⟨v, [], rfl, hz⟩
  · have e2 : q ++ [z] ++ [[v]] = (q1 ++ a :: b :: q3) ++ [y] := by rw [e]; simp
    exact h q1 a b q3 (List.append_inj_left' e2 rfl)
theorem brk_one {L : List Bg} {v : List Wh} : Brk L [v] := by
  intro q1 a b q2 e
  have := congrArg List.length e
  simp at this
  omega
theorem brk_ext {L : List Bg} {q : List (List Wh)} {z : List Wh} {v : Wh} (hz : z ≠ []) (h : Brk L (q ++ [z])) : Brk L (q ++ [z ++ [v]]) := by
  intro q1 a b q2 e
  rcases List.eq_nil_or_concat q2 with rfl | ⟨q3, y, rfl⟩
  · have e2 : q ++ [z ++ [v]] = (q1 ++ [a]) ++ [b] := by rw [e, List.append_assoc]; rfl
    have h1 := List.append_inj_right' e2 rfl
    have h2 := List.append_inj_left' e2 rfl
    cases h1
    obtain ⟨u, b', e3, k⟩ := h q1 a z [] (by rw [h2, List.append_assoc]; rfl)
    exact ⟨u, b' ++ [v], by rw [e3]; rfl, k⟩
  · have e2 : q ++ [z ++ [v]] = (q1 ++ a :: b :: q3) ++ [y] := by rw [e]; simp
    have h2 := List.append_inj_left' e2 rfl
    exact h q1 a b (q3 ++ [z]) (by rw [h2]; simp)
/-- the bridges that a way leads over -/
def overB (bs : List Bg) (w : List Bool) : List Bg := ((bs.zip w).filter (·.2)).map (·.1)
theorem walkQ_overB (rs : List (Str × Int)) : ∀ (ps : List Pc) (w : List Bool) (p : Int), (walkQ rs ps w p).1.map (·.1) = overB (brs ps) w
  | [], w, p => by cases w <;> rfl
  | .inl n :: ps, w, p => walkQ_overB rs ps w (p + n)
  | .inr b :: ps, true :: w, p => by
    show b :: (walkQ rs ps w (p + b.length)).1.map (·.1) = b :: overB (brs ps) w
    rw [walkQ_overB rs ps w _]
  | .inr b :: ps, false :: w, p => by
    show (walkQ rs ps w _).1.map (·.1) = overB (brs ps) w
    exact walkQ_overB rs ps w _
  | .inr b :: ps, [], p => by
    show [] = ((List.zip (b :: brs ps) []).filter (·.2)).map (·.1)
    rw [List.zip_nil_right]
    rfl
theorem gs_forCx {γ σ ρ : Type} {body : γ → σ → Option (Ctl σ ρ)} (I : List γ → σ → Prop) (bad : γ → Bool) (out : γ → ρ) : ∀ (xs pre : List γ) (st : σ), I pre st → (∀ p x st, (∃ post, pre ++ xs = p ++ x :: post) → I p st → (bad x = true → body x st = some (.rt (out x))) ∧ (bad x = false → Gs (body x st) fun c => ∃ s, c = .nx s ∧ I (p ++ [x]) s)) → Gs (forC body xs st) fun c => match xs.find? bad with | some x => c = .rt (out x) | none => ∃ s, c = .nx s ∧ I (pre ++ xs) s
  | [], pre, st, h, _ => gs_some ⟨st, rfl, by rw [List.append_nil]; exact h⟩
  | x :: xs, pre, st, h, step => by
    rw [forC]
    obtain ⟨h1, h2⟩ := step pre x st ⟨xs, rfl⟩ h
    cases e : bad x with
    | true =>
      rw [h1 e, b1_some, List.find?_cons_of_pos e]
      exact gs_some rfl
    | false =>
      obtain ⟨c, e1, s, rfl, e2⟩ := h2 e
      rw [e1, b1_some, List.find?_cons_of_neg (by rw [e]; decide)]
      have := gs_forCx I bad out xs (pre ++ [x]) s e2 fun p y st hp => step p y st (by rw [List.append_assoc] at hp; exact hp)
      rw [List.append_assoc] at this
      exact this
theorem unfit2 (road : Rd') (w : List Bool) (ws : List Wh) (hl : road.pieces.length ≤ 100000) (hws : ws.length ≤ 100000) (hw : wayOk road.rounds (brs road.pieces) w) : sh_first_unfit road w ws = some ((overB (brs road.pieces) w).find? fun b => !fitB b ws) := by
  rw [first_unfit_sh road w ws hl hws hw, ← walkQ_overB road.rounds road.pieces w 0, List.find?_map]
  rfl
/-- the first wheel that alone does not fit, and where -/
noncomputable def blkP (L : List Bg) (ws : List Wh) : Option (Int × Wh) := (enI ws).find? fun p => (L.find? fun b => !fitB b [p.2]).isSome
noncomputable def blkN (L : List Bg) (v : Wh) : Str := ((L.find? fun b => !fitB b [v]).map (·.name)).getD ""
theorem partedU_sh {road : Rd'} {c : Ct} {w : List Bool} (hl : road.pieces.length ≤ 100000) (hw : wayOk road.rounds (brs road.pieces) w) (hc : c.wheels.length ≤ 1000) (h0 : ∀ v ∈ c.wheels, 0 ≤ v.2.2) : Gs (shu_parted road c w) fun r => match blkP (overB (brs road.pieces) w) c.wheels with
    | some p => r = .inr ⟨7, [.inl p.1, .inr (blkN (overB (brs road.pieces) w) p.2)]⟩
    | none => ∃ runs : List (List Wh), r = .inl (runs.map (fun r => (⟨c.name, c.speed, r⟩ : Ct))) ∧ runs.flatten = c.wheels ∧ Grd (fitR (overB (brs road.pieces) w)) runs := by
  generalize hL : overB (brs road.pieces) w = L
  have hfu : ∀ ws : List Wh, ws.length ≤ 100000 → sh_first_unfit road w ws = some (L.find? fun b => !fitB b ws) := fun ws hws => by rw [unfit2 road w ws hl hws hw, hL]
  unfold shu_parted
  refine gs_b1 (gs_forCx (fun pre st => (st.flatten = pre.map (·.2) ∧ ∀ r ∈ st, r ≠ [] ∧ ∀ l ∈ L, fitB l r = true) ∧ Brk L st) (fun p => (L.find? fun b => !fitB b [p.2]).isSome) (fun p => (.inr ⟨7, [.inl p.1, .inr (blkN L p.2)]⟩ : List Ct ⊕ Exc)) (enI c.wheels) [] [] ⟨⟨rfl, by simp⟩, fun q1 a b q2 e => by simp at e⟩ ?_) ?_
  · rintro pre ⟨k, v⟩ st hx ⟨⟨i1, i2⟩, i3⟩
    rw [List.nil_append] at hx
    obtain ⟨_, hx2⟩ := enI_split hx
    have hv := mem_split hx2
    have hpl := (get_split hx).2.2
    rw [enI_length] at hpl
    have hfl : st.flatten.length = pre.length := by rw [i1, List.length_map]
    have hsl : st.length ≤ st.flatten.length := by
      clear i1 i3 hfl
      induction st with
      | nil => simp
      | cons r st ih =>
        have hr := (i2 r List.mem_cons_self).1
        have := List.length_pos_iff.mpr hr
        have := ih fun x hx => i2 x (List.mem_cons_of_mem _ hx)
        rw [List.flatten_cons, List.length_append, List.length_cons]
        omega
    rw [hfu [v] (by simp), b1_some]
    refine ⟨fun hb => ?_, fun hb => ?_⟩
    · have hb : (L.find? fun b => !fitB b [v]).isSome = true := hb
      rw [if_pos hb]
      obtain ⟨b, eb⟩ := Option.isSome_iff_exists.mp hb
      refine (?_ : b1 (L.find? fun b => !fitB b [v]) _ = _)
      unfold blkN
      rw [eb]
      rfl
    have hb : (L.find? fun b => !fitB b [v]).isSome = false := hb
    have h1 : ∀ l ∈ L, fitB l [v] = true := fun l hlm => by
      rw [Option.isSome_eq_false_iff, Option.isNone_iff_eq_none, List.find?_eq_none] at hb
      simpa using hb l hlm
    refine gs_ifF hb ?_
    have hnew : (st ++ [[v]]).flatten = (pre ++ [(k, v)]).map (·.2) ∧ ∀ r ∈ st ++ [[v]], r ≠ [] ∧ ∀ l ∈ L, fitB l r = true := by
      refine ⟨by rw [List.flatten_append, i1, List.map_append]; rfl, fun r hr => ?_⟩
      rw [List.mem_append, List.mem_singleton] at hr
      rcases hr with hr | rfl
      · exact i2 r hr
      · exact ⟨by simp, h1⟩
    by_cases hne : st = []
    · refine gs_eq (x := false) (by rw [if_neg (by simp [hne])]) ?_
      refine gs_b1 (gs_ifF rfl (gs_grd (by omega) (gs_lt (gs_some rfl)))) ?_
      rintro _ rfl
      exact gs_some ⟨_, rfl, hnew, by rw [hne]; exact brk_one⟩
    · obtain ⟨q, z, rfl⟩ : ∃ q z, st = q ++ [z] := ⟨st.dropLast, st.getLast hne, (List.dropLast_concat_getLast hne).symm⟩
      have hz := i2 z (by simp)
      have hzl : z.length ≤ 1000 := by
        have : z.length ≤ (q ++ [z]).flatten.length := by rw [List.flatten_append]; simp
        omega
      refine gs_eq (x := (L.find? fun b => !fitB b (z ++ [v])).isNone) (by
        rw [if_pos (by simp), atI_last', b1_some, grd_pos (by simp; omega), hfu (z ++ [v]) (by simp; omega), b1_some]) ?_
      cases hn : (L.find? fun b => !fitB b (z ++ [v])).isNone with
      | false =>
        refine gs_b1 (gs_ifF rfl (gs_grd (by omega) (gs_lt (gs_some rfl)))) ?_
        rintro _ rfl
        refine gs_some ⟨_, rfl, hnew, brk_new i3 (Classical.byContradiction fun hno => ?_)⟩
        have : (L.find? fun b => !fitB b (z ++ [v])) = none := List.find?_eq_none.mpr fun l hl2 => by
          cases hf : fitB l (z ++ [v]) with
          | true => simp
          | false => exact absurd ⟨l, hl2, hf⟩ hno
        rw [this] at hn
        cases hn
      | true =>
        have hap : appL (q ++ [z]) v = some (q ++ [z ++ [v]]) := by
          unfold appL
          rw [List.getLast?_append]
          show (if z.length < 16777216 then some ((q ++ [z]).dropLast ++ [z ++ [v]]) else none) = _
          rw [if_pos (by omega), List.dropLast_concat]
        refine gs_b1 (gs_ifT rfl (gs_eq hap (gs_some rfl))) ?_
        rintro _ rfl
        refine gs_some ⟨_, rfl, ⟨?_, fun r hr => ?_⟩, brk_ext hz.1 i3⟩
        · rw [List.map_append, ← i1, List.flatten_append, List.flatten_append]
          simp
        · rw [List.mem_append, List.mem_singleton] at hr
          rcases hr with hr | rfl
          · exact i2 r (List.mem_append_left _ hr)
          · refine ⟨by simp, fun l hlm => ?_⟩
            rw [Option.isNone_iff_eq_none, List.find?_eq_none] at hn
            simpa using hn l hlm
  · intro c2 hctl
    unfold blkP
    cases hfnd : (enI c.wheels).find? fun p => (L.find? fun b => !fitB b [p.2]).isSome with
    | some p =>
      rw [hfnd] at hctl
      have hctl : c2 = Ctl.rt (.inr ⟨7, [.inl p.1, .inr (blkN L p.2)]⟩) := hctl
      subst hctl
      exact gs_some rfl
    | none =>
      rw [hfnd] at hctl
      obtain ⟨st, rfl, ⟨i1, i2⟩, i3⟩ := hctl
      rw [List.nil_append] at i1
      have hfl : st.flatten = c.wheels := by rw [i1]; exact enI_snd c.wheels
      have hsl : st.length ≤ st.flatten.length := by
        clear i1 i3 hfl hfnd
        induction st with
        | nil => simp
        | cons r st ih =>
          have hr := (i2 r List.mem_cons_self).1
          have := List.length_pos_iff.mpr hr
          have := ih fun x hx => i2 x (List.mem_cons_of_mem _ hx)
          rw [List.flatten_cons, List.length_append, List.length_cons]
          omega
      have hsub : ∀ r ∈ st, r.length ≤ 1000 ∧ ∀ x ∈ r, 0 ≤ x.2.2 := fun r hr => by
        have hs : r.Sublist st.flatten := List.sublist_flatten_of_mem hr
        rw [hfl] at hs
        exact ⟨Nat.le_trans hs.length_le hc, fun x hx => h0 x (hs.subset hx)⟩
      refine gs_grd (by rw [hfl] at hsl; omega) (gs_some ⟨st, rfl, hfl, fun r hr => (i2 r hr).1, fun r hr => fitR_iff.mpr ⟨hsub r hr, (i2 r hr).2⟩, fun q1 a b q2 e => ?_⟩)
      obtain ⟨v, b', e1, l, hlm, k⟩ := i3 q1 a b q2 e
      refine ⟨v, b', e1, ?_⟩
      cases hf : fitR L (a ++ [v]) with
      | false => rfl
      | true =>
        rw [(fitR_iff.mp hf).2 l hlm] at k
        cases k
-- _law_cell
theorem cellB_sh (ns : List Int) (hz : ∀ z ∈ ns, Sz 1048576 z) (k : Int) (h : 0 ≤ k) : Gs (sh__law_cell ns k) fun x => Sz 1048576 x := by
  unfold sh__law_cell
  refine gs_if (fun hc => ?_) fun _ => gs_some (Sz.zero _)
  exact gs_b1 (gs_pick h (of_decide_eq_true hc)) fun x hx => gs_some (hz x hx)
-- _law_mix
theorem mixB_sh (c o p : Int) (ho : 0 ≤ o ∧ o ≤ 1000) (hp : 1000000 ≤ p ∧ p ≤ 1001000) : Gs (sh__law_mix c o p) fun x => 0 ≤ x ∧ x < 332748118 := by
  unfold sh__law_mix
  have ho2 : 0 ≤ o * o ∧ o * o ≤ 1000000 := ⟨Int.mul_nonneg ho.1 ho.1, by
    have := Int.mul_le_mul ho.2 ho.2 ho.1 (by omega)
    omega⟩
  have e1 : 31 * o * o = 31 * (o * o) := Int.mul_assoc ..
  have hm : 0 ≤ Int.fmod c p ∧ Int.fmod c p < p := by
    rw [fmod_nn (by omega)]
    exact ⟨Int.emod_nonneg _ (by omega), Int.emod_lt_of_pos _ (by omega)⟩
  refine gs_grd (by omega) ?_
  refine gs_grd (cmul_s (by omega) (by omega)) ?_
  refine gs_grd (cmul_s (by omega) (by omega)) ?_
  refine gs_grd (cmul_s (by omega) (by omega)) ?_
  refine gs_grd (by omega) ?_
  refine gs_ltE fun d hd => ?_
  rw [fmod_nn (by omega)] at hd
  have h1 := Int.emod_nonneg ((c.fmod p + 12345 + 31 * o * o + o) * 48271) (show p ≠ 0 by omega)
  have h2 := Int.emod_lt_of_pos ((c.fmod p + 12345 + 31 * o * o + o) * 48271) (show 0 < p by omega)
  rw [← hd] at h1 h2
  refine gs_grd (cmul_s (by omega) (by omega)) ?_
  refine gs_some ?_
  have h1 := Int.emod_nonneg (d * d) (show (998244353 : Int) ≠ 0 by omega)
  have h2 := Int.emod_lt_of_pos (d * d) (show (0 : Int) < 998244353 by omega)
  omega
-- _law_wheels
def WhOk (w : Wh) : Prop := 1 ≤ w.1 ∧ w.1 ≤ 100 ∧ 0 ≤ w.2.1 ∧ w.2.1 ≤ w.2.2 ∧ w.2.2 ≤ 1000000
theorem wheels200_sh (c m : Int) (n : Nat) (hm : m = n) (hn : n ≤ 100) : Gs (sh__law_wheels c m) fun ws => ws.length = n ∧ (∀ w ∈ ws, WhOk w) ∧ farW ws ≤ 200 := by
  unfold sh__law_wheels
  refine gs_grd (by omega) ?_
  refine gs_rg n (fun k st => st.1.length = k ∧ (∀ w ∈ st.1, WhOk w) ∧ (n : Int) - k ≤ st.2 ∧ st.2 ≤ 200 ∧ farW st.1 + st.2 = 200) hm ⟨rfl, by simp, by omega, by omega, rfl⟩ ?_ fun st h => gs_some ⟨h.1, h.2.1, by have := h.2.2.2.2; have := h.2.2.1; omega⟩
  rintro k ⟨l, left⟩ hk ⟨h1, h2, h3, h4, h5⟩
  have h1 : l.length = k := h1
  have h2 : ∀ w ∈ l, WhOk w := h2
  have h3 : (n : Int) - k ≤ left := h3
  have h4 : left ≤ 200 := h4
  have h5 : farW l + left = 200 := h5
  refine gs_b1 (mixB_sh c (80 + k) 1000003 (by omega) (by omega)) fun d hd => ?_
  refine gs_ltE fun most hmost => ?_
  have hmo : 1 ≤ most ∧ most ≤ 100 ∧ most ≤ left - (n - 1 - k) := by
    rw [hm] at hmost
    omega
  refine gs_grd (by omega) ?_
  refine gs_grd (by omega) ?_
  refine gs_b1 (Q := fun g => 1 ≤ g ∧ g ≤ most) ?_ fun gap hg => ?_
  · refine (gs_pick (Int.emod_nonneg _ (by omega)) (by simp; omega)).mono fun x hx => ?_
    have f1 : 0 ≤ (d / 4).fmod most ∧ (d / 4).fmod most < most := by
      rw [fmod_nn (by omega)]
      exact ⟨Int.emod_nonneg _ (by omega), Int.emod_lt_of_pos _ (by omega)⟩
    have f2 : 0 ≤ (d / 4).fmod (min most 30) ∧ (d / 4).fmod (min most 30) < min most 30 := by
      rw [fmod_nn (by omega)]
      exact ⟨Int.emod_nonneg _ (by omega), Int.emod_lt_of_pos _ (by omega)⟩
    simp only [List.mem_cons, List.not_mem_nil, or_false] at hx
    rcases hx with rfl | rfl | rfl | rfl <;> omega
  refine gs_b1 (Q := fun h => 0 ≤ h ∧ h ≤ 1000000) ?_ fun high hh => ?_
  · refine (gs_pick (Int.emod_nonneg _ (by omega)) (by simp; omega)).mono fun x hx => ?_
    simp only [List.mem_cons, List.not_mem_nil, or_false] at hx
    rcases hx with rfl | rfl | rfl | rfl
    · omega
    · omega
    · omega
    · have := Int.emod_nonneg (c + d) (show (1000001 : Int) ≠ 0 by omega)
      have := Int.emod_lt_of_pos (c + d) (show (0 : Int) < 1000001 by omega)
      omega
  refine gs_grd (by omega) ?_
  refine gs_b1 (Q := fun x => 0 ≤ x ∧ x ≤ high) ?_ fun low hlow => ?_
  · refine (gs_pick (Int.emod_nonneg _ (by omega)) (by simp; omega)).mono fun x hx => ?_
    have f1 : 0 ≤ (d / 64).fmod (high + 1) ∧ (d / 64).fmod (high + 1) < high + 1 := by
      rw [fmod_nn (by omega)]
      exact ⟨Int.emod_nonneg _ (by omega), Int.emod_lt_of_pos _ (by omega)⟩
    simp only [List.mem_cons, List.not_mem_nil, or_false] at hx
    rcases hx with rfl | rfl | rfl <;> omega
  refine gs_grd (by dsimp only; omega) ?_
  refine gs_lt ?_
  have key : ∀ x : Int, x = (if 0 < k then left - gap else left) → farW (l ++ [(gap, low, high)]) + x = 200 := by
    intro x hx
    by_cases hk0 : 0 < k
    · rw [if_pos hk0] at hx
      rw [farW_snoc _ _ (by intro z; rw [z] at h1; simp at h1; omega)]
      dsimp only
      omega
    · rw [if_neg hk0] at hx
      have hl0 : l = [] := List.eq_nil_of_length_eq_zero (by omega)
      subst hl0
      have : farW ([] : List Wh) = 0 := rfl
      have : farW ([] ++ [(gap, low, high)]) = 0 := rfl
      omega
  refine gs_b1 (Q := fun x => (n : Int) - (k + 1 : Nat) ≤ x ∧ x ≤ 200 ∧ farW (l ++ [(gap, low, high)]) + x = 200) (gs_if (fun hc => gs_lt (gs_some ⟨by dsimp only; omega, by dsimp only; omega, key _ (by rw [if_pos (by simp at hc; omega)])⟩)) fun hc => gs_some ⟨by dsimp only; simp at hc; omega, by dsimp only; omega, key _ (by rw [if_neg (by simp at hc; omega)])⟩) fun left' hl' => ?_
  refine gs_some ⟨by rw [List.length_append, h1]; rfl, ?_, hl'.1, hl'.2.1, hl'.2.2⟩
  intro w hw
  rw [List.mem_append, List.mem_singleton] at hw
  rcases hw with hw | rfl
  · exact h2 w hw
  · exact ⟨hg.1, by dsimp only; omega, hlow.1, hlow.2, hh.2⟩
theorem wheels14_sh (c m : Int) (n : Nat) (hm : m = n) (hn : n ≤ 100) : Gs (sh__law_wheels c m) fun ws => ws.length = n ∧ ∀ w ∈ ws, WhOk w := (wheels200_sh c m n hm hn).mono fun _ h => ⟨h.1, h.2.1⟩
-- _law_places
theorem lplaces_sh (ws : List Wh) (hl : ws.length ≤ 100000) : sh__law_places ws = some (offs ws) := by
  unfold sh__law_places
  rw [grd_pos (by omega), rgI_nat (n := ws.length) rfl, grd_pos (by rw [List.length_map, List.length_range]; omega)]
  rw [mapO_eq (g := fun e : Int => farW (ws.take (e.toNat + 1)))]
  · rw [b1_some, List.map_map]
    rfl
  · intro x hx
    obtain ⟨k, hk, rfl⟩ := List.mem_map.mp hx
    have hc : cutL ws (some (1 : Int)) (some ((k : Int) + 1)) = (ws.take (k + 1)).drop 1 := cut_mid ws 1 (k + 1)
    rw [hc, grd_pos (by rw [List.length_drop, List.length_take]; omega)]
    congr 1
-- _law_close
theorem lclose_sh (ws : List Wh) (width : Int) (hl : ws.length ≤ 100000) : sh__law_close ws width 2 = some (hv ws width) := by
  refine Gs.eq ?_
  unfold sh__law_close
  rw [lplaces_sh ws hl, b1_some]
  refine gs_grd (by omega) ?_
  have ho : (offs ws).length = ws.length := offs_len ws
  refine gs_rg ws.length (fun k st => Mx (List.range k) (fun _ => True) (closeW (offs ws) (ws.map (·.2.2)) width) st) rfl .nil ?_ fun st h => gs_some (Int.le_antisymm (h.le (hv_sh ws width hl).2 fun x hx _ => ⟨x, hx, trivial, Int.le_refl _⟩) ((hv_sh ws width hl).2.le h fun x hx _ => ⟨x, hx, trivial, Int.le_refl _⟩))
  intro i st hi hI
  refine gs_grd (by omega) ?_
  have er : rgI (i : Int) (ws.length : Int) = (List.range (ws.length - i)).map fun k : Nat => ((i + k : Nat) : Int) := by
    unfold rgI
    rw [show ((ws.length : Int) - (i : Int)).toNat = ws.length - i from by omega]
    apply List.map_congr_left
    intro k _
    show (i : Int) + (k : Int) = ((i + k : Nat) : Int)
    omega
  rw [er]
  refine gs_grd (by rw [List.length_map, List.length_range]; omega) ?_
  rw [fmapO_eq (k := fun e : Int => decide (atZ (offs ws) e.toNat - atZ (offs ws) i < width)) (g := fun e : Int => atZ (ws.map (·.2.2)) e.toNat)]
  rotate_left
  · intro x hx
    obtain ⟨k, hk, rfl⟩ := List.mem_map.mp hx
    have hk := List.mem_range.mp hk
    rw [atZ_at (show i + k < (offs ws).length by omega), b1_some, atZ_at (show i < (offs ws).length by omega), b1_some, Int.toNat_natCast]
    congr 1
    rw [Bool.eq_iff_iff, decide_eq_true_iff, decide_eq_true_iff]
    omega
  · intro x hx _
    obtain ⟨k, hk, rfl⟩ := List.mem_map.mp hx
    have hk := List.mem_range.mp hk
    have hk2 : i + k < ws.length := by omega
    rw [atI_nat rfl hk2, b1_some, atI_two, b1_some, Int.toNat_natCast]
    unfold atZ
    rw [List.getD_eq_getElem?_getD, List.getElem?_map, List.getElem?_eq_getElem hk2]
    rfl
  rw [b1_some]
  refine gs_lt (gs_some ?_)
  rw [List.range_succ]
  have e4 : (((List.range (ws.length - i)).map fun k : Nat => ((i + k : Nat) : Int)).filter fun e : Int => decide (atZ (offs ws) e.toNat - atZ (offs ws) i < width)).map (fun e : Int => atZ (ws.map (·.2.2)) e.toNat) = (((List.range (ws.length - i)).filter fun k => decide (atZ (offs ws) (i + k) - atZ (offs ws) i < width)).map fun k => atZ (ws.map (·.2.2)) (i + k)) := by
    rw [List.filter_map, List.map_map]
    rfl
  rw [e4, sum_filter]
  have e5 := sumP_from i ws.length (by omega) (fun p => decide (atZ (offs ws) p - atZ (offs ws) i < width)) (atZ (ws.map (·.2.2)))
  rw [e5]
  have e6 : sumP ws.length (fun p => decide (i ≤ p) && decide (atZ (offs ws) p - atZ (offs ws) i < width)) (atZ (ws.map (·.2.2))) = closeW (offs ws) (ws.map (·.2.2)) width i := by
    unfold closeW
    rw [ho]
  rw [e6]
  exact hI.yes trivial
-- _law_pieces
theorem pieces_sh (ps : List Pc) (hl : ps.length ≤ 100000) : sh__law_pieces (ps.map tellP) = some ps := by
  refine Gs.eq ?_
  unfold sh__law_pieces
  rw [forO_map]
  refine gs_forO (fun pre st => st = pre) rfl ?_ fun st h => gs_some h
  rintro pre p st hx rfl
  have hp := (get_split hx).2.2
  cases p with
  | inl n =>
    have e1 : ixD' (tellP (.inl n)) 0 = some (.str "open") := rfl
    have e2 : eqD (.str "open") (.str "open") = some true := by unfold eqD; simp [eqR, R.d, eqV]
    have e3 : ixD' (tellP (.inl n)) 1 = some (.int n) := rfl
    rw [e1, b1_some, e2, b1_some, if_pos rfl, e3, b1_some]
    show Gs (b1 (b1 (some n) _) _) _
    rw [b1_some, grd_pos (by omega), lt_def, b1_some]
    exact gs_some rfl
  | inr b =>
    have e1 : ixD' (tellP (.inr b)) 0 = some (.str "bridge") := rfl
    have e2 : eqD (.str "bridge") (.str "open") = some false := by unfold eqD; simp [eqR, R.d, eqV]; decide
    have e3 : ixD' (tellP (.inr b)) 1 = some (.str b.name) := rfl
    have e4 : ixD' (tellP (.inr b)) 2 = some (.int b.length) := rfl
    have e5 : ixD' (tellP (.inr b)) 3 = some (.int b.bears) := rfl
    have e6 : ixD' (tellP (.inr b)) 4 = some (.int b.wide) := rfl
    have e7 : ixD' (tellP (.inr b)) 5 = some (.int b.most) := rfl
    rw [e1, b1_some, e2, b1_some, if_neg (by decide), e3, b1_some]
    show Gs (b1 (b1 (some b.name) _) _) _
    rw [b1_some, e4, b1_some]
    show Gs (b1 (b1 (some b.length) _) _) _
    rw [b1_some, e5, b1_some]
    show Gs (b1 (b1 (some b.bears) _) _) _
    rw [b1_some, e6, b1_some]
    show Gs (b1 (b1 (some b.wide) _) _) _
    rw [b1_some, e7, b1_some]
    show Gs (b1 (b1 (some b.most) _) _) _
    rw [b1_some, grd_pos (by omega), lt_def, b1_some]
    exact gs_some rfl
-- _law_run
theorem fmod_ixR (m : Int) {n : Nat} (h : 1 ≤ n) : ∃ i : Nat, i < n ∧ Int.fmod m (n : Int) = i := by
  have hf := fmod_nn (a := m) (b := (n : Int)) (by omega)
  have h1 := Int.emod_nonneg m (show (n : Int) ≠ 0 by omega)
  have h2 := Int.emod_lt_of_pos m (show (0 : Int) < n by omega)
  exact ⟨(m % (n : Int)).toNat, by omega, by omega⟩
theorem run19_sh (ws : List Wh) (m : Int) (hl : 1 ≤ ws.length ∧ ws.length ≤ 1000) : Gs (sh__law_run ws m) fun r => r.length ≤ 100000 := by
  unfold sh__law_run
  refine gs_grd (by omega) ?_
  obtain ⟨i, hi, e⟩ := fmod_ixR m hl.1
  refine gs_ltE fun x hx => ?_
  rw [e] at hx
  subst hx
  refine gs_grd (by omega) (gs_some ?_)
  have := cut_len ws (some (i : Int)) (some (((i : Int) + (1 : Int)) + (Int.fmod (m / (8 : Int)) ((ws.length : Int) - i))))
  omega
-- _law_narrow
theorem foldl_max : ∀ (xs : List Int) (x : Int), xs.foldl max x ∈ x :: xs ∧ ∀ y ∈ x :: xs, y ≤ xs.foldl max x
  | [], x => ⟨by simp, by simp⟩
  | z :: xs, x => by
    obtain ⟨h1, h2⟩ := foldl_max xs (max x z)
    rw [List.foldl_cons]
    refine ⟨?_, fun y hy => ?_⟩
    · rcases List.mem_cons.mp h1 with h | h
      · rw [h]
        rcases Int.le_total x z with c | c
        · rw [Int.max_eq_right c]; simp
        · rw [Int.max_eq_left c]; simp
      · exact List.mem_cons_of_mem _ (List.mem_cons_of_mem _ h)
    · have h3 := h2 (max x z) List.mem_cons_self
      rcases List.mem_cons.mp hy with rfl | hy
      · omega
      · rcases List.mem_cons.mp hy with rfl | hy
        · omega
        · exact h2 y (List.mem_cons_of_mem _ hy)
theorem gs_maxL {xs : List Int} (h : xs ≠ []) : Gs (maxL xs) fun m => m ∈ xs ∧ ∀ y ∈ xs, y ≤ m := by
  cases xs with
  | nil => exact absurd rfl h
  | cons x xs => exact gs_some (foldl_max xs x)
theorem offs_last {ws : List Wh} (h : 1 ≤ ws.length) : ∃ z, atI (offs ws) (-(1 : Int)) = some z := by
  obtain ⟨q, z, e⟩ : ∃ q z, offs ws = q ++ [z] := by
    have hne : offs ws ≠ [] := fun e => by
      have := congrArg List.length e
      rw [offs_len] at this
      simp at this
      rw [this] at h
      simp at h
    exact ⟨(offs ws).dropLast, (offs ws).getLast hne, (List.dropLast_concat_getLast hne).symm⟩
  exact ⟨z, by rw [e, atI_last']⟩
/-- a bridge that bears about as much as a run -/
theorem narrow19_sh (c : Int) (ws : List Wh) (name : Str) (hl : 1 ≤ ws.length ∧ ws.length ≤ 1000) : Gs (sh__law_narrow c ws name) fun t => t.1 = ("bridge" : Str) ∧ t.2.1 = name := by
  have hne : ws ≠ [] := fun e => by rw [e] at hl; simp at hl
  unfold sh__law_narrow
  refine gs_b1 (mixB_sh c 100 1000037 (by omega) (by omega)) fun d hd => ?_
  refine gs_b1 (run19_sh ws _ hl) fun part hpart => ?_
  refine gs_eq (lplaces_sh ws (by omega)) ?_
  obtain ⟨z, hz⟩ := offs_last hl.1
  refine gs_eq hz ?_
  refine gs_b1 (gs_pick (Int.emod_nonneg _ (by omega)) (by simp; omega)) fun x _ => ?_
  refine gs_b1 (gs_pick (Int.emod_nonneg _ (by omega)) (by simp; omega)) fun y _ => ?_
  refine gs_grd (by omega) ?_
  refine gs_b1 (gs_maxL (xs := ws.map (·.2.2)) (by simpa using hne)) fun m hm => ?_
  refine gs_eq (lclose_sh part x hpart) ?_
  refine gs_b1 (Q := fun _ => True) (gs_if (fun _ => gs_lt (gs_some trivial)) fun _ => gs_some trivial) fun be _ => ?_
  refine gs_b1 (run19_sh ws _ hl) fun part2 hpart2 => ?_
  exact gs_eq (lclose_sh part2 y hpart2) (gs_lt (gs_some ⟨rfl, rfl⟩))
-- _law_fits
abbrev T6 := Str × Str × Int × Int × Int × Int
def bgT (t : T6) : Bg := ⟨t.2.1, t.2.2.1, t.2.2.2.1, t.2.2.2.2.1, t.2.2.2.2.2⟩
theorem fits19_sh (bs : List T6) (ws : List Wh) (hl : ws.length ≤ 100000) : sh__law_fits bs ws = some ((bs.map bgT).all fun b => fitB b ws) := by
  unfold sh__law_fits
  rw [forC_find (fun t : T6 => !fitB (bgT t) ws) (fun _ => false)]
  · rw [b1_some, List.all_map]
    have key : ∀ l : List T6, (l.all fun t => fitB (bgT t) ws) = (l.find? fun t => !fitB (bgT t) ws).isNone := by
      intro l
      induction l with
      | nil => rfl
      | cons a l ih => rw [List.all_cons, List.find?_cons]; cases fitB (bgT a) ws <;> simp [ih]
    show _ = some (bs.all fun t => fitB (bgT t) ws)
    rw [key]
    cases (bs.find? fun t => !fitB (bgT t) ws) <;> rfl
  · intro t _
    rw [lclose_sh ws _ hl, b1_some, lclose_sh ws _ hl]
    have e : fitB (bgT t) ws = (decide (hv ws t.2.2.1 ≤ t.2.2.2.1) && decide (hv ws t.2.2.2.2.1 ≤ t.2.2.2.2.2)) := rfl
    rw [e]
    by_cases c1 : t.2.2.2.1 < hv ws t.2.2.1
    · rw [if_pos (decide_eq_true c1), b1_some, if_pos rfl, decide_eq_false (show ¬ hv ws t.2.2.1 ≤ t.2.2.2.1 by omega)]
      simp
    · rw [if_neg (by simpa using c1), b1_some, b1_some, decide_eq_true (show hv ws t.2.2.1 ≤ t.2.2.2.1 by omega)]
      by_cases c2 : t.2.2.2.2.2 < hv ws t.2.2.2.2.1
      · rw [if_pos (decide_eq_true c2), decide_eq_false (show ¬ hv ws t.2.2.2.2.1 ≤ t.2.2.2.2.2 by omega)]
        simp
      · rw [if_neg (by simpa using c2), decide_eq_true (show hv ws t.2.2.2.2.1 ≤ t.2.2.2.2.2 by omega)]
        simp
-- _law_cuts
theorem rg1_map (n : Nat) : rgI (1 : Int) (n : Int) = (List.range (n - 1)).map fun i : Nat => (1 : Int) + (i : Int) := by
  unfold rgI
  rw [show ((n : Int) - 1).toNat = n - 1 from by omega]
theorem cutO_sh (ws : List Wh) (m : Nat) (hl : 1 ≤ ws.length ∧ ws.length ≤ 1000) : forO (fun (e6 : Int) (st6 : (List (List (Int × Int × Int)))) =>
          grd (0 ≤ (e6 - (1 : Int))) <|
          b1 (if (decide ((Builtin.bitAnd ((m : Int) / 2 ^ Int.toNat (e6 - (1 : Int))) (1 : Int)) = (1 : Int))) = true then
              grd (List.length st6 < 16777216) <|
              lt (st6 ++ [[]]) fun (cut : (List (List (Int × Int × Int)))) =>
              some cut
            else
              some st6) fun cut' =>
          b1 (atI ws e6) fun t2 =>
          b1 (appL cut' t2) fun t3 =>
          some t3) (rgI (1 : Int) (List.length ws : Int)) [ws.take 1] = some (cutB ws m (ws.length - 1)) := by
  refine Gs.eq ?_
  rw [rg1_map, forO_map]
  have hI : List.length (List.range (ws.length - 1)) = ws.length - 1 := List.length_range
  refine (forO_inv (fun pre st => st = cutB ws m pre.length) (List.range (ws.length - 1)) ?_ _ rfl).mono (fun x hx => by rw [hx, hI])
  rintro pre i st hx rfl
  obtain ⟨h1, h2⟩ := range_split hx
  have h3 : i = pre.length := by rw [h2, List.length_range]
  subst h3
  have hk : pre.length + 1 < ws.length := by omega
  rw [List.length_append, List.length_singleton, cutB_succ hk]
  obtain ⟨c1, c2, q, z, c3, c4⟩ := cutB_ok (ws := ws) (m := m) (k := pre.length) (by omega)
  have hfl : (cutB ws m pre.length).flatten.length ≤ 1000 := by rw [c1, List.length_take]; omega
  have hql : q.length < 1000 := by
    have hs : ∀ l : List (List Wh), (∀ r ∈ l, r ≠ []) → l.length ≤ l.flatten.length := by
      intro l
      induction l with
      | nil => intro _; simp
      | cons r l ih =>
        intro h
        have := List.length_pos_iff.mpr (h r List.mem_cons_self)
        have := ih fun x hx => h x (List.mem_cons_of_mem _ hx)
        rw [List.flatten_cons, List.length_append, List.length_cons]
        omega
    have := hs _ c2
    rw [c3, List.length_append, List.length_singleton] at this
    rw [c3] at hfl
    omega
  have hzl : z.length ≤ 1000 := by
    rw [c3, List.flatten_append, List.length_append, List.flatten_singleton] at hfl
    omega
  rw [c3]
  refine gs_grd (by omega) ?_
  have hb : decide (Builtin.bitAnd ((m : Int) / 2 ^ Int.toNat (((1 : Int) + (pre.length : Int)) - (1 : Int))) (1 : Int) = (1 : Int)) = m.testBit pre.length := by
    rw [show (((1 : Int) + (pre.length : Int)) - (1 : Int)).toNat = pre.length from by omega]
    exact bit_int m pre.length
  rw [hb]
  have hat : atI ws ((1 : Int) + (pre.length : Int)) = some ws[pre.length + 1] := atI_nat (by omega) hk
  have hap : ∀ (q : List (List Wh)) (z : List Wh), z.length ≤ 1000 → appL (q ++ [z]) ws[pre.length + 1] = some (q ++ [z ++ [ws[pre.length + 1]]]) := fun q z h => by
    unfold appL
    rw [List.getLast?_append]
    show (if z.length < 16777216 then some ((q ++ [z]).dropLast ++ [z ++ [ws[pre.length + 1]]]) else none) = _
    rw [if_pos (by omega), List.dropLast_concat]
  cases e : m.testBit pre.length with
  | true =>
    refine gs_eq (x := q ++ [z] ++ [[]]) (by rw [if_pos rfl, grd_pos (by simp; omega)]; rfl) (gs_eq hat (gs_eq (hap (q ++ [z]) [] (by simp)) (gs_some ?_)))
    unfold cutS
    rw [if_pos rfl]
    rfl
  | false =>
    refine gs_eq (x := q ++ [z]) (by rw [if_neg (by decide)]) (gs_eq hat (gs_eq (hap q z hzl) (gs_some ?_)))
    rw [cutS_last]
theorem fndC_succ {α : Type} (F : List α → Bool) (ws : List α) (k n : Nat) : fndC F ws k (n + 1) = fndC F ws k n ++ if (cutB ws n k).all F = true then [entC (cutB ws n k)] else [] := by
  unfold fndC
  rw [List.range_succ, List.filter_append, List.map_append]
  congr 1
  cases h : (cutB ws n k).all F <;> simp [h]
theorem fndC_cg {α : Type} {F F' : List α → Bool} {ws : List α} {k n : Nat} (h : ∀ m, ∀ r ∈ cutB ws m k, F r = F' r) : fndC F ws k n = fndC F' ws k n := by
  unfold fndC
  rw [List.filter_congr fun m _ => ?_]
  rw [Bool.eq_iff_iff, List.all_eq_true, List.all_eq_true]
  exact ⟨fun hh r hr => by rw [← h m r hr]; exact hh r hr, fun hh r hr => by rw [h m r hr]; exact hh r hr⟩
theorem fndC_len {α : Type} (F : List α → Bool) (ws : List α) (k n : Nat) : (fndC F ws k n).length ≤ n := by
  unfold fndC
  rw [List.length_map]
  exact Nat.le_trans (List.length_filter_le _ _) (by rw [List.length_range]; exact Nat.le_refl _)
theorem cuts_sh (bs : List T6) (ws : List Wh) (hl : 1 ≤ ws.length ∧ ws.length ≤ 16) : sh__law_cuts bs ws = some (sortBy keyE (fndC (fun r => (bs.map bgT).all fun b => fitB b r) ws (ws.length - 1) (2 ^ (ws.length - 1)))) := by
  have hp : (2 : Nat) ^ (ws.length - 1) ≤ 2 ^ 15 := Nat.pow_le_pow_right (by decide) (by omega)
  rw [show (2 : Nat) ^ 15 = 32768 from by decide] at hp
  have hN : ∀ N : Nat, N ≤ 32768 → (-4611686018427387904 ≤ (N : Int) ∧ (N : Int) < 4611686018427387904) := fun N h => by omega
  have e2 : ((1 : Int) * 2 ^ Int.toNat ((ws.length : Int) - (1 : Int))) = ((2 ^ (ws.length - 1) : Nat) : Int) := by
    rw [Int.one_mul, show ((ws.length : Int) - 1).toNat = ws.length - 1 from by omega]
    simp
  refine Gs.eq ?_
  unfold sh__law_cuts
  rw [e2]
  refine gs_grd (cpow_small (by omega) (by omega) (by omega) (by omega)) (gs_grd (hN _ hp) ?_)
  refine gs_rg (2 ^ (ws.length - 1)) (fun m st => st = fndC (fun r => (bs.map bgT).all fun b => fitB b r) ws (ws.length - 1) m) rfl rfl ?_ ?_
  · rintro m st hm rfl
    have hm2 : m < 32768 := Nat.lt_of_lt_of_le hm hp
    clear hm e2
    obtain ⟨c1, c2, q, z, c3, c4⟩ := cutB_ok (ws := ws) (m := m) (k := ws.length - 1) (by omega)
    have hcl : (cutB ws m (ws.length - 1)).length ≤ 1000 := by
      have hs : ∀ l : List (List Wh), (∀ r ∈ l, r ≠ []) → l.length ≤ l.flatten.length := by
        intro l
        induction l with
        | nil => intro _; simp
        | cons r l ih =>
          intro h
          have := List.length_pos_iff.mpr (h r List.mem_cons_self)
          have := ih fun x hx => h x (List.mem_cons_of_mem _ hx)
          rw [List.flatten_cons, List.length_append, List.length_cons]
          omega
      have := hs _ c2
      rw [c1, List.length_take] at this
      omega
    have hfl := fndC_len (fun r => (bs.map bgT).all fun b => fitB b r) ws (ws.length - 1) m
    refine gs_eq (x := ws[0]) (atI_nat (k := 0) rfl (by omega)) (gs_grd (by omega) ?_)
    have ht : ([[ws[0]]] : List (List Wh)) = [ws.take 1] := by
      rw [List.take_succ_eq_append_getElem (by omega : 0 < ws.length)]; rfl
    rw [ht]
    refine gs_eq (cutO_sh ws m (by omega)) (gs_grd (by omega) ?_)
    refine gs_eq (mapO_eq (g := fun r : List Wh => (bs.map bgT).all fun b => fitB b r) _ fun r hr => ?_) ?_
    · have hs : r.Sublist (cutB ws m (ws.length - 1)).flatten := List.sublist_flatten_of_mem hr
      have := hs.length_le
      rw [c1, List.length_take] at this
      rw [fits19_sh bs r (by omega)]
      rfl
    · rw [List.all_map, show (id ∘ fun r : List Wh => (bs.map bgT).all fun b => fitB b r) = (fun r : List Wh => (bs.map bgT).all fun b => fitB b r) from rfl, fndC_succ]
      cases (cutB ws m (ws.length - 1)).all (fun r : List Wh => (bs.map bgT).all fun b => fitB b r) with
      | true => exact gs_eq (by rw [if_pos rfl, grd_pos (by omega), grd_pos (by omega)]; rfl) (gs_some (by rw [if_pos rfl]))
      | false => exact gs_eq (by rw [if_neg (by decide)]) (gs_some (by rw [if_neg (by decide), List.append_nil]))
  · rintro st rfl
    exact gs_grd (fnd_nodup (by omega)) (gs_some rfl)
theorem cutsG_sh {bs : List T6} {ws : List Wh} {G : List (List Wh)} (hl : 1 ≤ ws.length ∧ ws.length ≤ 16) (h0 : ∀ v ∈ ws, 0 ≤ v.2.2) (h : Grd (fitR (bs.map bgT)) G) (e : G.flatten = ws) : Gs (sh__law_cuts bs ws) fun r => ∃ tl, r = entC G :: tl := by
  refine gs_of (cuts_sh bs ws hl) ?_
  rw [fndC_cg (F' := fitR (bs.map bgT)) fun m r hr => ?_]
  · exact fnd_first (fitR_clo _) hl.1 h e
  · have hs : r.Sublist (cutB ws m (ws.length - 1)).flatten := List.sublist_flatten_of_mem hr
    rw [(cutB_ok (by omega)).1] at hs
    have hs := hs.trans (List.take_sublist _ _)
    have h1 := hs.length_le
    rw [Bool.eq_iff_iff, List.all_eq_true, fitR_iff]
    exact ⟨fun hh => ⟨⟨by omega, fun w hw => h0 w (hs.subset hw)⟩, hh⟩, fun hh => hh.2⟩
-- _law_blocked
theorem rg_enI {α : Type} (xs : List α) : rgI 0 (xs.length : Int) = (enI xs).map (·.1) := by
  rw [rgI_nat rfl]
  apply List.ext_getElem?
  intro i
  unfold enI
  rw [List.map_map]
  by_cases h : i < xs.length
  · simp [h]
  · simp [h]
theorem blocked19_sh (bs : List T6) (ws : List Wh) (hl : ws.length ≤ 1000) : sh__law_blocked bs ws = some ((blkP (bs.map bgT) ws).map fun p => (blkN (bs.map bgT) p.2, p.1)) := by
  unfold sh__law_blocked
  rw [grd_pos (by omega), rg_enI, forC_map, forC_find (fun p : Int × Wh => ((bs.map bgT).find? fun b => !fitB b [p.2]).isSome) (fun p => some (blkN (bs.map bgT) p.2, p.1))]
  · unfold blkP
    cases ((enI ws).find? fun p : Int × Wh => ((bs.map bgT).find? fun b => !fitB b [p.2]).isSome) <;> rfl
  · intro p hp
    have hat : atI ws p.1 = some p.2 := by
      obtain ⟨pre, post, e⟩ := List.append_of_mem hp
      have h1 := enI_split ⟨post, e⟩
      obtain ⟨h2, post2, h3⟩ := h1
      rw [h2, h3]
      have := atI_nat (xs := pre.map (·.2) ++ p.2 :: post2) (i := (pre.length : Int)) (k := pre.length) rfl (by simp)
      rw [this]
      simp
    rw [forC_find (fun t : T6 => !fitB (bgT t) [p.2]) (fun t => some (t.2.1, p.1))]
    · have e1 : ((bs.map bgT).find? fun b => !fitB b [p.2]) = (bs.find? fun t => !fitB (bgT t) [p.2]).map bgT := by
        rw [List.find?_map]; rfl
      unfold blkN
      rw [e1]
      cases (bs.find? fun t => !fitB (bgT t) [p.2]) with
      | none => exact ⟨fun h => (by cases h), fun _ => rfl⟩
      | some t => exact ⟨fun _ => rfl, fun h => by cases h⟩
    · intro t _
      rw [hat, b1_some, fits19_sh [t] [p.2] (by simp), b1_some]
      have e : ([t].map bgT).all (fun b => fitB b [p.2]) = fitB (bgT t) [p.2] := by simp
      rw [e]
      cases fitB (bgT t) [p.2] <;> simp
-- _law_asked
theorem asked19_sh {road : Rd'} {c : Ct} {w : List Bool} {bs : List T6} (hl : road.pieces.length ≤ 100000) (hw : wayOk road.rounds (brs road.pieces) w) (hc : 1 ≤ c.wheels.length ∧ c.wheels.length ≤ 16) (h0 : ∀ v ∈ c.wheels, 0 ≤ v.2.2) (hbs : bs.map bgT = overB (brs road.pieces) w) : sh__law_asked road c w bs = some true := by
  obtain ⟨r, e1, hr⟩ := partedU_sh hl hw (by omega) h0
  have e2 := blocked19_sh bs c.wheels (by omega)
  rw [hbs] at e2
  refine Gs.eq ?_
  unfold sh__law_asked
  rw [e1, e2]
  cases hb : blkP (overB (brs road.pieces) w) c.wheels with
  | some p =>
    rw [hb] at hr
    have hr : r = .inr ⟨7, [.inl p.1, .inr (blkN (overB (brs road.pieces) w) p.2)]⟩ := hr
    subst hr
    refine gs_eq (x := (none, some ⟨7, [.inl p.1, .inr (blkN (overB (brs road.pieces) w) p.2)]⟩)) rfl ?_
    refine gs_eq (x := some (blkN (overB (brs road.pieces) w) p.2, p.1)) rfl ?_
    refine gs_ifT rfl ?_
    refine gs_eq (x := ⟨7, [.inl p.1, .inr (blkN (overB (brs road.pieces) w) p.2)]⟩) rfl (gs_grd rfl ?_)
    refine gs_eq (x := false) rfl (gs_ifF rfl ?_)
    refine gs_eq (x := ⟨7, [.inl p.1, .inr (blkN (overB (brs road.pieces) w) p.2)]⟩) rfl (gs_grd rfl ?_)
    refine gs_eq (x := true) ?_ (gs_some rfl)
    rw [if_pos rfl]
    refine Gs.eq (gs_eq (x := ⟨7, [.inl p.1, .inr (blkN (overB (brs road.pieces) w) p.2)]⟩) rfl (gs_grd rfl (gs_eq (x := blkN (overB (brs road.pieces) w) p.2) rfl (gs_eq (x := ⟨7, [.inl p.1, .inr (blkN (overB (brs road.pieces) w) p.2)]⟩) rfl (gs_grd rfl (gs_eq (x := p.1) rfl (gs_eq (x := true) (sameG_ok rfl rfl) (gs_some rfl))))))))
  | none =>
    rw [hb] at hr
    obtain ⟨G, rfl, hG1, hG2⟩ := hr
    have hgl : G.length ≤ 16 := by
      have hs : ∀ l : List (List Wh), (∀ r ∈ l, r ≠ []) → l.length ≤ l.flatten.length := by
        intro l
        induction l with
        | nil => intro _; simp
        | cons r l ih =>
          intro h
          have := List.length_pos_iff.mpr (h r List.mem_cons_self)
          have := ih fun x hx => h x (List.mem_cons_of_mem _ hx)
          rw [List.flatten_cons, List.length_append, List.length_cons]
          omega
      have := hs G hG2.ne
      rw [hG1] at this
      omega
    have hrl : ∀ r ∈ G, r.length ≤ 16 := fun r hr => by
      have := (List.sublist_flatten_of_mem hr).length_le
      rw [hG1] at this
      omega
    refine gs_eq (x := (some (G.map fun r => (⟨c.name, c.speed, r⟩ : Ct)), none)) rfl ?_
    refine gs_eq (x := none) rfl ?_
    refine gs_ifF rfl ?_
    refine gs_eq (x := false) rfl (gs_ifF rfl ?_)
    obtain ⟨cu, e3, tl, e4⟩ := cutsG_sh hc h0 (by rw [hbs]; exact hG2) hG1
    subst e4
    refine gs_eq e3 (gs_eq (atI_zero _ _) (gs_ltE fun cut hcut => ?_))
    have hcut : cut = G := hcut
    subst hcut
    refine gs_eq (x := (cut.map fun r => (⟨c.name, c.speed, r⟩ : Ct))) rfl (gs_eq (x := false) ?_ (gs_ifF rfl ?_))
    · rw [if_neg (by simp)]
      refine Gs.eq (gs_eq (x := (cut.map fun r => (⟨c.name, c.speed, r⟩ : Ct))) rfl (gs_grd (by rw [List.length_map]; omega) (gs_some ?_)))
      simp
    · refine gs_grd (by omega) (gs_ltE fun due hdue => gs_eq (x := (cut.map fun r => (⟨c.name, c.speed, r⟩ : Ct))) rfl (gs_grd (by rw [List.length_map]; omega) (gs_eq (x := true) ?_ (gs_some rfl))))
      rw [List.map_map]
      rw [show ((fun e4 : Ct => (e4.name, e4.speed, e4.wheels)) ∘ fun r => (⟨c.name, c.speed, r⟩ : Ct)) = fun e3 => (c.name, c.speed, e3) from rfl, ← hdue]
      refine sameG_ok rfl ?_
      rw [hdue]
      refine pl_L (n := 8) (by rw [List.length_map]; omega) fun x hx => ?_
      obtain ⟨r, hr, rfl⟩ := List.mem_map.mp hx
      have := hrl r hr
      show (true && (pl 7 (D.str c.name) && (pl 7 (D.int c.speed) && (pl 7 (eL (eP3 D.int D.int D.int) r) && true)))) = true
      rw [pl_L (n := 6) (by omega) fun x hx => by obtain ⟨p, q, r⟩ := x; exact rfl]
      rfl
-- k19
theorem brs_pcs (o0 : Int) (qs : List (Bg × Int)) : brs (pcs o0 qs) = qs.map (·.1) := by
  unfold pcs
  show brs (qs.flatMap fun q => [.inr q.1, .inl q.2]) = _
  induction qs with
  | nil => rfl
  | cons q qs ih => exact congrArg (q.1 :: ·) ih
theorem waysL_first (fs : List Bool) : ∃ tl, waysL fs = List.replicate fs.length true :: tl := by
  generalize hn : fs.length = n
  induction n generalizing fs with
  | zero =>
    rw [List.length_eq_zero_iff.mp hn]
    exact ⟨[], rfl⟩
  | succ n ih =>
    have hne : fs ≠ [] := by intro e; rw [e] at hn; cases hn
    obtain ⟨ini, x, rfl⟩ : ∃ ini x, fs = ini ++ [x] := ⟨fs.dropLast, fs.getLast hne, (List.dropLast_concat_getLast hne).symm⟩
    rw [List.length_append, List.length_singleton] at hn
    obtain ⟨tl, h⟩ := ih ini (by omega)
    rw [waysL_snoc, h, List.flatMap_cons, List.replicate_succ']
    cases x
    · exact ⟨_, rfl⟩
    · exact ⟨_, rfl⟩
theorem overB_true : ∀ bs : List Bg, overB bs (List.replicate bs.length true) = bs
  | [] => rfl
  | b :: bs => by
    show b :: overB bs (List.replicate bs.length true) = b :: bs
    rw [overB_true bs]
theorem sel_sh {α : Type} (d : α) (bs : List α) (w : List Bool) : ∀ n : Nat, n ≤ bs.length → n ≤ w.length → ((List.range n).filter fun i => w.getD i false).map (fun i => bs.getD i d) = (((bs.take n).zip (w.take n)).filter (·.2)).map (·.1)
  | 0, _, _ => rfl
  | n + 1, h1, h2 => by
    have e1 : bs.getD n d = bs[n] := by rw [List.getD_eq_getElem?_getD, List.getElem?_eq_getElem (by omega)]; rfl
    have e2 : w.getD n false = w[n] := by rw [List.getD_eq_getElem?_getD, List.getElem?_eq_getElem (by omega)]; rfl
    rw [List.range_succ, List.filter_append, List.map_append, sel_sh d bs w n (by omega) (by omega), List.take_succ_eq_append_getElem (i := n) (by omega), List.take_succ_eq_append_getElem (i := n) (by omega), List.zip_append (by rw [List.length_take, List.length_take]; omega), List.filter_append, List.map_append]
    congr 1
    rw [List.filter_cons, List.filter_nil, e2]
    show (if w[n] = true then [n] else []).map (fun i => bs.getD i d) = (List.filter (fun x => x.2) [(bs[n], w[n])]).map (·.1)
    rw [List.filter_cons, List.filter_nil]
    cases w[n] with
    | true => rw [if_pos rfl, if_pos rfl, List.map_singleton, List.map_singleton, e1]
    | false => rfl
theorem over_map (bs : List T6) (w : List Bool) : (((bs.zip w).filter (·.2)).map (·.1)).map bgT = overB (bs.map bgT) w := by
  induction bs generalizing w with
  | nil => rfl
  | cons b bs ih =>
    cases w with
    | nil => rfl
    | cons c w =>
      have h := ih w
      cases c
      · exact h
      · exact congrArg (bgT b :: ·) h
theorem abc_one {k : Nat} (h : k < 3) : Gs (sgAt ("abc" : Str) (k : Int)) fun x => x.length = 1 := sgAt_one _ _ (by omega) (by show (k : Int) < ((3 : Nat) : Int); omega)
theorem k19_sh (ns : List Int) (hl : ns.length ≤ 63) (hz : ∀ z ∈ ns, Sz 1048576 z) : sh_law ns = some true := by
  refine Gs.eq ?_
  unfold sh_law
  refine gs_b1 (cellB_sh ns hz 0 (by omega)) fun c hc => ?_
  refine gs_lt ?_
  refine gs_b1 (mixB_sh _ 101 1000039 (by omega) (by omega)) fun d hd => ?_
  refine gs_b1 (wheels14_sh _ (1 + d % 6) (1 + d % 6).toNat (by omega) (by omega)) fun ws hws => ?_
  obtain ⟨hwsl, hws⟩ := hws
  have hwl : 1 ≤ ws.length ∧ ws.length ≤ 6 := by omega
  refine gs_lt ?_
  have hmany : 1 ≤ 1 + d / 6 % 3 ∧ 1 + d / 6 % 3 ≤ 3 := by omega
  generalize 1 + d / 6 % 3 = many at hmany
  have hsz : 1 ≤ 1 + d / 24 % 9 ∧ 1 + d / 24 % 9 ≤ 9 := by omega
  generalize 1 + d / 24 % 9 = size at hsz
  refine gs_grd (by omega) ?_
  obtain ⟨n, rfl⟩ := Int.eq_ofNat_of_zero_le (show 0 ≤ many by omega)
  refine gs_rg n (fun k st => st.1.length = k ∧ st.2.1 = (pcs 200 (st.1.map fun t => (bgT t, 300))).map tellP ∧ st.2.2.length ≤ k) rfl ⟨rfl, rfl, by simp⟩ ?_ ?_
  · rintro k ⟨ts, P, R⟩ hk ⟨h1, h2, h4⟩
    have h1 : ts.length = k := h1
    have h2 : P = (pcs 200 (ts.map fun t => (bgT t, 300))).map tellP := h2
    have h4 : R.length ≤ k := h4
    dsimp only
    refine gs_b1 (cellB_sh ns hz _ (by omega)) fun c2 hc2 => ?_
    refine gs_grd (cmul_s (by omega) (by omega)) ?_
    refine gs_lt ?_
    refine gs_grd (by decide +kernel) ?_
    refine gs_b1 (abc_one (k := k) (by omega)) fun z hz1 => ?_
    refine gs_grd (by rw [hz1]; omega) ?_
    refine gs_b1 (narrow19_sh _ ws (strRep z size) (by omega)) fun t ht => ?_
    refine gs_grd (by omega) (gs_lt ?_)
    have hat : atI (ts ++ [t]) (k : Int) = some t := by
      rw [atI_nat (k := k) rfl (by rw [List.length_append, List.length_singleton]; omega)]
      simp [← h1]
    refine gs_eq hat ?_
    refine gs_grd (by rw [h2, List.length_map, pcs_len, List.length_map]; simp; omega) ?_
    refine gs_lt ?_
    refine gs_b1 (mixB_sh _ 102 1000081 (by omega) (by omega)) fun d2 hd2 => ?_
    refine gs_b1 (Q := fun R' => R'.length ≤ k + 1) (gs_if (fun _ => ?_) fun _ => gs_some (by omega)) fun R' hR' => ?_
    · exact gs_eq hat (gs_grd (by omega) (gs_lt (gs_some (by simp; omega))))
    · refine gs_some ⟨by rw [List.length_append, h1]; rfl, ?_, hR'⟩
      show P ++ _ = _
      rw [List.map_append, List.map_singleton, pcs_snoc, List.map_append, h2]
      congr 1
      show [_, _] = [tellB (bgT t), tellO 300]
      congr 1
      show eP6 D.str D.str D.int D.int D.int D.int t = tellB (bgT t)
      obtain ⟨a, b, c3, d3, e3, f3⟩ := t
      have : a = ("bridge" : Str) := ht.1
      subst this
      rfl
  · rintro ⟨ts, P, R⟩ ⟨h1, h2, h4⟩
    have h1 : ts.length = n := h1
    have h2 : P = (pcs 200 (ts.map fun t => (bgT t, 300))).map tellP := h2
    have h4 : R.length ≤ n := h4
    subst h2
    have hpl : (pcs 200 (ts.map fun t => (bgT t, (300 : Int)))).length ≤ 100 := by rw [pcs_len, List.length_map]; omega
    show Gs (b1 (sh__law_pieces ((pcs 200 (ts.map fun t => (bgT t, 300))).map tellP)) _) _
    rw [pieces_sh _ (by omega), b1_some]
    refine gs_ltE fun road hroad => gs_ltE fun cart hcart => ?_
    have hrp : road.pieces = pcs 200 (ts.map fun t => (bgT t, 300)) := by rw [hroad]
    have hcw : cart.wheels = ws := by rw [hcart]
    clear hroad hcart
    have hbrs : brs road.pieces = ts.map bgT := by rw [hrp, brs_pcs, List.map_map]; rfl
    have hbrl : (brs road.pieces).length = n := by rw [hbrs, List.length_map, h1]
    have hh0 : ∀ v ∈ ws, 0 ≤ v.2.2 := fun v hv => by
      have hv0 := hws v hv
      unfold WhOk at hv0
      omega
    rw [← hrp] at hpl
    have hwy := ways_sh road (by omega) (by omega)
    refine gs_eq hwy ?_
    have hok := waysL_ok road.rounds (brs road.pieces)
    dsimp only
    refine gs_forC (fun _ _ => True) trivial ?_ fun _ _ => ?_
    · rintro pre w st hx _
      obtain ⟨h5, h6⟩ := hok w (mem_split hx)
      refine gs_grd (by omega) (gs_grd (by rw [rgI_nat rfl, List.length_map, List.length_range]; omega) ?_)
      have hsel : fmapO (fun e6 : Int => b1 (atI w e6) fun t13 => some t13) (fun e6 : Int => b1 (atI ts e6) fun t14 => some t14) (rgI 0 (ts.length : Int)) = some (((ts.zip w).filter (·.2)).map (·.1)) := by
        rw [rgI_nat rfl, fmapO_eq (k := fun e : Int => w.getD e.toNat false) (g := fun e : Int => ts.getD e.toNat ("", "", 0, 0, 0, 0)) _ ?_ ?_]
        · rw [List.filter_map, List.map_map]
          have := sel_sh (("", "", 0, 0, 0, 0) : T6) ts w ts.length (Nat.le_refl _) (by omega)
          rw [List.take_length, List.take_of_length_le (by omega)] at this
          rw [← this]
          rfl
        · intro x hx
          obtain ⟨i, hi, rfl⟩ := List.mem_map.mp hx
          rw [List.mem_range] at hi
          rw [atI_nat (k := i) rfl (by omega), b1_some]
          simp [List.getElem?_eq_getElem (show i < w.length by omega)]
        · intro x hx _
          obtain ⟨i, hi, rfl⟩ := List.mem_map.mp hx
          rw [List.mem_range] at hi
          rw [atI_nat (k := i) rfl hi, b1_some]
          simp [List.getElem?_eq_getElem hi]
      refine gs_eq hsel (gs_eq (asked19_sh (by omega) h6 (by rw [hcw]; omega) (by rw [hcw]; exact hh0) (by rw [over_map, hbrs])) ?_)
      exact gs_ifF rfl (gs_some ⟨(), rfl, trivial⟩)
    · refine gs_forC (fun _ _ => True) trivial ?_ fun _ _ => ?_
      · rintro pre x st hx _
        refine gs_b1 (mixB_sh _ 105 1000003 (by omega) (by omega)) fun d3 hd3 => ?_
        refine gs_b1 (wheels14_sh _ (1 + d3 % 5) (1 + d3 % 5).toNat (by omega) (by omega)) fun os hos => ?_
        obtain ⟨tl, htl⟩ := waysL_first (freeQ road.rounds (brs road.pieces))
        have hfl : (freeQ road.rounds (brs road.pieces)).length = n := by unfold freeQ; rw [List.length_map, hbrl]
        rw [hfl] at htl
        refine gs_eq hwy (gs_eq (x := List.replicate n true) (by rw [htl, atI_zero]) ?_)
        refine gs_eq (asked19_sh (c := ⟨"other", 3, os⟩) (by omega) (hok (List.replicate n true) (by rw [htl]; exact List.mem_cons_self)).2 (by show 1 ≤ os.length ∧ os.length ≤ 16; omega) (fun v hv => ?_) (by rw [← hbrl, overB_true, hbrs])) (gs_ifF rfl (gs_some ⟨(), rfl, trivial⟩))
        have hv0 := hos.2 v hv
        unfold WhOk at hv0
        omega
      · exact gs_some (by rw [hcw]; exact decide_eq_true rfl)
end G
namespace G
open PySem L2 BK
set_option autoImplicit false
theorem law_true (ns : List Int) (hl : ns.length ≤ 63) (hb : ∀ z ∈ ns, Builtin.Int.intBits z ≤ 1048576) : φ_law [.rol (ns.map D.int)] = some (.va (.bl true)) := sim_law (k19_sh ns hl fun z h => bits_sz (hb z h))
end G
namespace G
open PySem PySem.Spec L2 BK
set_option autoImplicit false
set_option maxHeartbeats 0 in
theorem all_mkT {l : PySem.W.OpenLaw} {w : World} {K : PySem.W.Frag} {h : Heap} {mg : Str → Option Value} {fa : Addr} (X : K.In h) (Gn : h.Ns mainGlobals mg) (hfa : mg "law" = some (.ref fa)) (c : He.SaysX faL fnL [] [] exB w h K) : LamX.LawAtS l w K CX0 25 63 "_law_script" mg fa h := by
  have cD : He.SaysD faL fnL K := congrArg (fun z : He.AlT => z.1) c.t
  have a0 := He.glo_ok X Gn (cD.fact 0 rfl)
  have a1 := He.glo_ok X Gn (cD.fact 1 rfl)
  have a2 := He.glo_ok X Gn (cD.fact 2 rfl)
  have a3 := He.glo_ok X Gn (cD.fact 3 rfl)
  have a4 := He.glo_ok X Gn (cD.fact 4 rfl)
  have a5 := He.glo_ok X Gn (cD.fact 5 rfl)
  have a6 := He.glo_ok X Gn (cD.fact 6 rfl)
  have a7 := He.glo_ok X Gn (cD.fact 7 rfl)
  have a8 := He.glo_ok X Gn (cD.fact 8 rfl)
  have a9 := He.glo_ok X Gn (cD.fact 9 rfl)
  have a10 := He.glo_ok X Gn (cD.fact 10 rfl)
  have a11 := He.glo_ok X Gn (cD.fact 11 rfl)
  have a12 := He.glo_ok X Gn (cD.fact 12 rfl)
  have a13 := He.glo_ok X Gn (cD.fact 13 rfl)
  have a14 := He.glo_ok X Gn (cD.fact 14 rfl)
  have a15 := He.glo_ok X Gn (cD.fact 15 rfl)
  have a16 := He.glo_ok X Gn (cD.fact 16 rfl)
  have a17 := He.glo_ok X Gn (cD.fact 17 rfl)
  have a18 := He.glo_ok X Gn (cD.fact 18 rfl)
  have a19 := He.glo_ok X Gn (cD.fact 19 rfl)
  have a20 := He.glo_ok X Gn (cD.fact 20 rfl)
  have a21 := He.glo_ok X Gn (cD.fact 21 rfl)
  have a22 := He.glo_ok X Gn (cD.fact 22 rfl)
  have a23 := He.glo_ok X Gn (cD.fact 23 rfl)
  have a24 := He.glo_ok X Gn (cD.fact 24 rfl)
  have a25 := He.glo_ok X Gn (cD.fact 25 rfl)
  have a26 := He.glo_ok X Gn (cD.fact 26 rfl)
  have e := hfa.symm.trans a26
  cases e
  have Z : Blt mg := ⟨He.free_ok X Gn (cD.fact 27 rfl), He.free_ok X Gn (cD.fact 28 rfl), He.free_ok X Gn (cD.fact 29 rfl), He.free_ok X Gn (cD.fact 30 rfl), He.free_ok X Gn (cD.fact 31 rfl), He.free_ok X Gn (cD.fact 32 rfl), He.free_ok X Gn (cD.fact 33 rfl), He.free_ok X Gn (cD.fact 34 rfl), He.free_ok X Gn (cD.fact 35 rfl), He.free_ok X Gn (cD.fact 36 rfl), He.free_ok X Gn (cD.fact 37 rfl), He.free_ok X Gn (cD.fact 38 rfl), He.free_ok X Gn (cD.fact 39 rfl), He.free_ok X Gn (cD.fact 40 rfl), He.free_ok X Gn (cD.fact 41 rfl), He.free_ok X Gn (cD.fact 42 rfl)⟩
  obtain ⟨x_eqOpen, cm0⟩ := He.ba c.more
  obtain ⟨x_eqM, cm1⟩ := He.ba cm0
  obtain ⟨x_rdPiece, cm2⟩ := He.ba cm1
  obtain ⟨x_gaPiece, cm3⟩ := He.ba cm2
  obtain ⟨x_fcPiece, cm4⟩ := He.ba cm3
  obtain ⟨x_cgO, cm5⟩ := He.ba cm4
  obtain ⟨x_ctO, cm6⟩ := He.ba cm5
  obtain ⟨x_ccOpen, cm7⟩ := He.ba cm6
  obtain ⟨x_cmOpen, cm8⟩ := He.ba cm7
  obtain ⟨x_ccBridge, cm9⟩ := He.ba cm8
  obtain ⟨x_cmBridge, cm10⟩ := He.ba cm9
  obtain ⟨x_ccRoad, cm11⟩ := He.ba cm10
  obtain ⟨x_cmRoad, cm12⟩ := He.ba cm11
  obtain ⟨x_ccCart, cm13⟩ := He.ba cm12
  obtain ⟨x_cmCart, cm14⟩ := He.ba cm13
  obtain ⟨x_icCart, cm15⟩ := He.ba cm14
  obtain ⟨x_tyCart, cm16⟩ := He.ba cm15
  obtain ⟨x_suOpen_Cart, cm17⟩ := He.ba cm16
  obtain ⟨x_suBridge_Cart, cm18⟩ := He.ba cm17
  obtain ⟨x_suRoad_Cart, cm19⟩ := He.ba cm18
  obtain ⟨x_suCart_Cart, cm20⟩ := He.ba cm19
  obtain ⟨x_XE, cm21⟩ := He.ba cm20
  obtain ⟨x_XF_bridge, cm22⟩ := He.ba cm21
  obtain ⟨x_XF_wheel, cm23⟩ := He.ba cm22
  obtain ⟨x_XI_Blocked, cm24⟩ := He.ba cm23
  obtain ⟨x_XI_NoWay, cm25⟩ := He.ba cm24
  obtain ⟨x_XI_TextError, cm26⟩ := He.ba cm25
  obtain ⟨x_XI_ValueError, cm27⟩ := He.ba cm26
  obtain ⟨x_XT_WayError, cm28⟩ := He.ba cm27
  obtain ⟨x_raBlocked, cm29⟩ := He.ba cm28
  obtain ⟨x_noBlocked_bridge, cm30⟩ := He.ba cm29
  obtain ⟨x_noBlocked_wheel, cm31⟩ := He.ba cm30
  obtain ⟨x_rdW, cm32⟩ := He.ba cm31
  obtain ⟨x_gaW, cm33⟩ := He.ba cm32
  have x_fcW := cm33
  have kl_Open : Kls K ((caOf [He.ga K "Open", He.ga K "Bridge", He.ga K "Road", He.ga K "Cart", 0, 0, He.ga K "WayError", He.ga K "Blocked", He.ga K "NoWay", He.ga K "TextError", 0, 0, 0, 0, 0, 0, 0, 0, 0, 0, 0, 0, 0, 0]) 0) 0 := by
    refine ⟨He.cls_ok (x := "Open") (cD.fact 43 rfl), fun f hf => ?_⟩
    simp only [fldsOf, List.mem_cons, List.not_mem_nil, or_false] at hf
    rcases hf with rfl
    · exact He.noat_ok (x := "Open") (f := "length") (cD.fact 44 rfl)
  have kl_Bridge : Kls K ((caOf [He.ga K "Open", He.ga K "Bridge", He.ga K "Road", He.ga K "Cart", 0, 0, He.ga K "WayError", He.ga K "Blocked", He.ga K "NoWay", He.ga K "TextError", 0, 0, 0, 0, 0, 0, 0, 0, 0, 0, 0, 0, 0, 0]) 1) 1 := by
    refine ⟨He.cls_ok (x := "Bridge") (cD.fact 45 rfl), fun f hf => ?_⟩
    simp only [fldsOf, List.mem_cons, List.not_mem_nil, or_false] at hf
    rcases hf with rfl | rfl | rfl | rfl | rfl
    · exact He.noat_ok (x := "Bridge") (f := "length") (cD.fact 46 rfl)
    · exact He.noat_ok (x := "Bridge") (f := "name") (cD.fact 47 rfl)
    · exact He.noat_ok (x := "Bridge") (f := "bears") (cD.fact 48 rfl)
    · exact He.noat_ok (x := "Bridge") (f := "wide") (cD.fact 49 rfl)
    · exact He.noat_ok (x := "Bridge") (f := "most") (cD.fact 50 rfl)
  have kl_Road : Kls K ((caOf [He.ga K "Open", He.ga K "Bridge", He.ga K "Road", He.ga K "Cart", 0, 0, He.ga K "WayError", He.ga K "Blocked", He.ga K "NoWay", He.ga K "TextError", 0, 0, 0, 0, 0, 0, 0, 0, 0, 0, 0, 0, 0, 0]) 2) 2 := by
    refine ⟨He.cls_ok (x := "Road") (cD.fact 51 rfl), fun f hf => ?_⟩
    simp only [fldsOf, List.mem_cons, List.not_mem_nil, or_false] at hf
    rcases hf with rfl | rfl | rfl
    · exact He.noat_ok (x := "Road") (f := "pieces") (cD.fact 52 rfl)
    · exact He.noat_ok (x := "Road") (f := "rounds") (cD.fact 53 rfl)
    · exact He.noat_ok (x := "Road") (f := "shuts") (cD.fact 54 rfl)
  have kl_Cart : Kls K ((caOf [He.ga K "Open", He.ga K "Bridge", He.ga K "Road", He.ga K "Cart", 0, 0, He.ga K "WayError", He.ga K "Blocked", He.ga K "NoWay", He.ga K "TextError", 0, 0, 0, 0, 0, 0, 0, 0, 0, 0, 0, 0, 0, 0]) 3) 3 := by
    refine ⟨He.cls_ok (x := "Cart") (cD.fact 55 rfl), fun f hf => ?_⟩
    simp only [fldsOf, List.mem_cons, List.not_mem_nil, or_false] at hf
    rcases hf with rfl | rfl | rfl
    · exact He.noat_ok (x := "Cart") (f := "name") (cD.fact 56 rfl)
    · exact He.noat_ok (x := "Cart") (f := "speed") (cD.fact 57 rfl)
    · exact He.noat_ok (x := "Cart") (f := "wheels") (cD.fact 58 rfl)
  obtain ⟨fd0, D0'⟩ := cD.def_ 0 rfl
  have D0 : FunD K "offsets_of" "offsets_of" (defArgs s_offsets_of) (defBody s_offsets_of) (defScope s_offsets_of) [] [] (He.fAd K ("offsets_of", none)) fd0 := D0'
  have FA0 : FunA K "offsets_of" "offsets_of" s_offsets_of (He.ga K "offsets_of") fd0 := funA_ofD D0
  have b0 := D0.bindsN (ps := ["wheels"]) fun _ _ _ _ _ _ us hl => match us, hl with | [_], _ => rfl
  obtain ⟨fd1, D1'⟩ := cD.def_ 1 rfl
  have D1 : FunD K "greatest_close" "greatest_close" (defArgs s_greatest_close) (defBody s_greatest_close) (defScope s_greatest_close) [] [] (He.fAd K ("greatest_close", none)) fd1 := D1'
  have FA1 : FunA K "greatest_close" "greatest_close" s_greatest_close (He.ga K "greatest_close") fd1 := funA_ofD D1
  have b1 := D1.bindsN (ps := ["offsets", "weights", "width"]) fun _ _ _ _ _ _ us hl => match us, hl with | [_, _, _], _ => rfl
  obtain ⟨fd2, D2'⟩ := cD.def_ 2 rfl
  have D2 : FunD K "heaviest" "heaviest" (defArgs s_heaviest) (defBody s_heaviest) (defScope s_heaviest) [] [] (He.fAd K ("heaviest", none)) fd2 := D2'
  have FA2 : FunA K "heaviest" "heaviest" s_heaviest (He.ga K "heaviest") fd2 := funA_ofD D2
  have b2 := D2.bindsN (ps := ["wheels", "width"]) fun _ _ _ _ _ _ us hl => match us, hl with | [_, _], _ => rfl
  obtain ⟨fd3, D3'⟩ := cD.def_ 3 rfl
  have D3 : FunD K "fits" "fits" (defArgs s_fits) (defBody s_fits) (defScope s_fits) [] [] (He.fAd K ("fits", none)) fd3 := D3'
  have FA3 : FunA K "fits" "fits" s_fits (He.ga K "fits") fd3 := funA_ofD D3
  have b3 := D3.bindsN (ps := ["bridge", "wheels"]) fun _ _ _ _ _ _ us hl => match us, hl with | [_, _], _ => rfl
  obtain ⟨fd4, D4'⟩ := cD.def_ 4 rfl
  have D4 : FunD K "bridges_of" "bridges_of" (defArgs s_bridges_of) (defBody s_bridges_of) (defScope s_bridges_of) [] [] (He.fAd K ("bridges_of", none)) fd4 := D4'
  have FA4 : FunA K "bridges_of" "bridges_of" s_bridges_of (He.ga K "bridges_of") fd4 := funA_ofD D4
  have b4 := D4.bindsN (ps := ["road"]) fun _ _ _ _ _ _ us hl => match us, hl with | [_], _ => rfl
  obtain ⟨fd5, D5'⟩ := cD.def_ 5 rfl
  have D5 : FunD K "round_of" "round_of" (defArgs s_round_of) (defBody s_round_of) (defScope s_round_of) [] [] (He.fAd K ("round_of", none)) fd5 := D5'
  have FA5 : FunA K "round_of" "round_of" s_round_of (He.ga K "round_of") fd5 := funA_ofD D5
  have b5 := D5.bindsN (ps := ["road", "name"]) fun _ _ _ _ _ _ us hl => match us, hl with | [_, _], _ => rfl
  obtain ⟨fd6, D6'⟩ := cD.def_ 6 rfl
  have D6 : FunD K "ways_of" "ways_of" (defArgs s_ways_of) (defBody s_ways_of) (defScope s_ways_of) [] [] (He.fAd K ("ways_of", none)) fd6 := D6'
  have FA6 : FunA K "ways_of" "ways_of" s_ways_of (He.ga K "ways_of") fd6 := funA_ofD D6
  have b6 := D6.bindsN (ps := ["road"]) fun _ _ _ _ _ _ us hl => match us, hl with | [_], _ => rfl
  obtain ⟨fd7, D7'⟩ := cD.def_ 7 rfl
  have D7 : FunD K "step_along" "step_along" (defArgs s_step_along) (defBody s_step_along) (defScope s_step_along) [] [] (He.fAd K ("step_along", none)) fd7 := D7'
  have FA7 : FunA K "step_along" "step_along" s_step_along (He.ga K "step_along") fd7 := funA_ofD D7
  have b7 := D7.bindsN (ps := ["road", "piece", "over"]) fun _ _ _ _ _ _ us hl => match us, hl with | [_, _, _], _ => rfl
  obtain ⟨fd8, D8'⟩ := cD.def_ 8 rfl
  have D8 : FunD K "walked" "walked" (defArgs s_walked) (defBody s_walked) (defScope s_walked) [] [] (He.fAd K ("walked", none)) fd8 := D8'
  have FA8 : FunA K "walked" "walked" s_walked (He.ga K "walked") fd8 := funA_ofD D8
  have b8 := D8.bindsN (ps := ["road", "way"]) fun _ _ _ _ _ _ us hl => match us, hl with | [_, _], _ => rfl
  obtain ⟨fd9, D9'⟩ := cD.def_ 9 rfl
  have D9 : FunD K "legs_of" "legs_of" (defArgs s_legs_of) (defBody s_legs_of) (defScope s_legs_of) [] [] (He.fAd K ("legs_of", none)) fd9 := D9'
  have FA9 : FunA K "legs_of" "legs_of" s_legs_of (He.ga K "legs_of") fd9 := funA_ofD D9
  have b9 := D9.bindsN (ps := ["road", "way"]) fun _ _ _ _ _ _ us hl => match us, hl with | [_, _], _ => rfl
  obtain ⟨fd10, D10'⟩ := cD.def_ 10 rfl
  have D10 : FunD K "first_unfit" "first_unfit" (defArgs s_first_unfit) (defBody s_first_unfit) (defScope s_first_unfit) [] [] (He.fAd K ("first_unfit", none)) fd10 := D10'
  have FA10 : FunA K "first_unfit" "first_unfit" s_first_unfit (He.ga K "first_unfit") fd10 := funA_ofD D10
  have b10 := D10.bindsN (ps := ["road", "way", "wheels"]) fun _ _ _ _ _ _ us hl => match us, hl with | [_, _, _], _ => rfl
  obtain ⟨fd11, D11'⟩ := cD.def_ 11 rfl
  have D11 : FunD K "parted" "parted" (defArgs s_parted) (defBody s_parted) (defScope s_parted) [] [] (He.fAd K ("parted", none)) fd11 := D11'
  have FA11 : FunA K "parted" "parted" s_parted (He.ga K "parted") fd11 := funA_ofD D11
  have b11 := D11.bindsN (ps := ["road", "cart", "way"]) fun _ _ _ _ _ _ us hl => match us, hl with | [_, _, _], _ => rfl
  obtain ⟨fd12, D12'⟩ := cD.def_ 12 rfl
  have D12 : FunD K "_law_cell" "_law_cell" (defArgs s__law_cell) (defBody s__law_cell) (defScope s__law_cell) [] [] (He.fAd K ("_law_cell", none)) fd12 := D12'
  have FA12 : FunA K "_law_cell" "_law_cell" s__law_cell (He.ga K "_law_cell") fd12 := funA_ofD D12
  have b12 := D12.bindsN (ps := ["_law_script", "_law_k"]) fun _ _ _ _ _ _ us hl => match us, hl with | [_, _], _ => rfl
  obtain ⟨fd13, D13'⟩ := cD.def_ 13 rfl
  have D13 : FunD K "_law_mix" "_law_mix" (defArgs s__law_mix) (defBody s__law_mix) (defScope s__law_mix) [] [] (He.fAd K ("_law_mix", none)) fd13 := D13'
  have FA13 : FunA K "_law_mix" "_law_mix" s__law_mix (He.ga K "_law_mix") fd13 := funA_ofD D13
  have b13 := D13.bindsN (ps := ["_law_cell_here", "_law_one", "_law_prime"]) fun _ _ _ _ _ _ us hl => match us, hl with | [_, _, _], _ => rfl
  obtain ⟨fd14, D14'⟩ := cD.def_ 14 rfl
  have D14 : FunD K "_law_wheels" "_law_wheels" (defArgs s__law_wheels) (defBody s__law_wheels) (defScope s__law_wheels) [] [] (He.fAd K ("_law_wheels", none)) fd14 := D14'
  have FA14 : FunA K "_law_wheels" "_law_wheels" s__law_wheels (He.ga K "_law_wheels") fd14 := funA_ofD D14
  have b14 := D14.bindsN (ps := ["_law_cell_here", "_law_many"]) fun _ _ _ _ _ _ us hl => match us, hl with | [_, _], _ => rfl
  obtain ⟨fd15, D15'⟩ := cD.def_ 15 rfl
  have D15 : FunD K "_law_places" "_law_places" (defArgs s__law_places) (defBody s__law_places) (defScope s__law_places) [] [] (He.fAd K ("_law_places", none)) fd15 := D15'
  have FA15 : FunA K "_law_places" "_law_places" s__law_places (He.ga K "_law_places") fd15 := funA_ofD D15
  have b15 := D15.bindsN (ps := ["_law_wheels_here"]) fun _ _ _ _ _ _ us hl => match us, hl with | [_], _ => rfl
  obtain ⟨fd16, D16'⟩ := cD.def_ 16 rfl
  have D16 : FunD K "_law_close" "_law_close" (defArgs s__law_close) (defBody s__law_close) (defScope s__law_close) [] [] (He.fAd K ("_law_close", none)) fd16 := D16'
  have FA16 : FunA K "_law_close" "_law_close" s__law_close (He.ga K "_law_close") fd16 := funA_ofD D16
  have b16 := D16.bindsN (ps := ["_law_wheels_here", "_law_width", "_law_which"]) fun _ _ _ _ _ _ us hl => match us, hl with | [_, _, _], _ => rfl
  obtain ⟨fd17, D17'⟩ := cD.def_ 17 rfl
  have D17 : FunD K "_law_pieces" "_law_pieces" (defArgs s__law_pieces) (defBody s__law_pieces) (defScope s__law_pieces) [] [] (He.fAd K ("_law_pieces", none)) fd17 := D17'
  have FA17 : FunA K "_law_pieces" "_law_pieces" s__law_pieces (He.ga K "_law_pieces") fd17 := funA_ofD D17
  have b17 := D17.bindsN (ps := ["_law_pieces_here"]) fun _ _ _ _ _ _ us hl => match us, hl with | [_], _ => rfl
  obtain ⟨fd18, D18'⟩ := cD.def_ 18 rfl
  have D18 : FunD K "_law_alike" "_law_alike" (defArgs s__law_alike) (defBody s__law_alike) (defScope s__law_alike) [] [] (He.fAd K ("_law_alike", none)) fd18 := D18'
  have FA18 : FunA K "_law_alike" "_law_alike" s__law_alike (He.ga K "_law_alike") fd18 := funA_ofD D18
  have b18 := D18.bindsN (ps := ["_law_found", "_law_due"]) fun _ _ _ _ _ _ us hl => match us, hl with | [_, _], _ => rfl
  obtain ⟨fd19, D19'⟩ := cD.def_ 19 rfl
  have D19 : FunD K "_law_same" "_law_same" (defArgs s__law_same) (defBody s__law_same) (defScope s__law_same) [] [] (He.fAd K ("_law_same", none)) fd19 := D19'
  have FA19 : FunA K "_law_same" "_law_same" s__law_same (He.ga K "_law_same") fd19 := funA_ofD D19
  have b19 := D19.bindsN (ps := ["_law_found", "_law_due"]) fun _ _ _ _ _ _ us hl => match us, hl with | [_, _], _ => rfl
  obtain ⟨fd20, D20'⟩ := cD.def_ 20 rfl
  have D20 : FunD K "_law_run" "_law_run" (defArgs s__law_run) (defBody s__law_run) (defScope s__law_run) [] [] (He.fAd K ("_law_run", none)) fd20 := D20'
  have FA20 : FunA K "_law_run" "_law_run" s__law_run (He.ga K "_law_run") fd20 := funA_ofD D20
  have b20 := D20.bindsN (ps := ["_law_wheels_here", "_law_drawn"]) fun _ _ _ _ _ _ us hl => match us, hl with | [_, _], _ => rfl
  obtain ⟨fd21, D21'⟩ := cD.def_ 21 rfl
  have D21 : FunD K "_law_narrow" "_law_narrow" (defArgs s__law_narrow) (defBody s__law_narrow) (defScope s__law_narrow) [] [] (He.fAd K ("_law_narrow", none)) fd21 := D21'
  have FA21 : FunA K "_law_narrow" "_law_narrow" s__law_narrow (He.ga K "_law_narrow") fd21 := funA_ofD D21
  have b21 := D21.bindsN (ps := ["_law_cell_here", "_law_wheels_here", "_law_name"]) fun _ _ _ _ _ _ us hl => match us, hl with | [_, _, _], _ => rfl
  obtain ⟨fd22, D22'⟩ := cD.def_ 22 rfl
  have D22 : FunD K "_law_fits" "_law_fits" (defArgs s__law_fits) (defBody s__law_fits) (defScope s__law_fits) [] [] (He.fAd K ("_law_fits", none)) fd22 := D22'
  have FA22 : FunA K "_law_fits" "_law_fits" s__law_fits (He.ga K "_law_fits") fd22 := funA_ofD D22
  have b22 := D22.bindsN (ps := ["_law_bridges", "_law_wheels_here"]) fun _ _ _ _ _ _ us hl => match us, hl with | [_, _], _ => rfl
  obtain ⟨fd23, D23'⟩ := cD.def_ 23 rfl
  have D23 : FunD K "_law_cuts" "_law_cuts" (defArgs s__law_cuts) (defBody s__law_cuts) (defScope s__law_cuts) [] [] (He.fAd K ("_law_cuts", none)) fd23 := D23'
  have FA23 : FunA K "_law_cuts" "_law_cuts" s__law_cuts (He.ga K "_law_cuts") fd23 := funA_ofD D23
  have b23 := D23.bindsN (ps := ["_law_bridges", "_law_wheels_here"]) fun _ _ _ _ _ _ us hl => match us, hl with | [_, _], _ => rfl
  obtain ⟨fd24, D24'⟩ := cD.def_ 24 rfl
  have D24 : FunD K "_law_blocked" "_law_blocked" (defArgs s__law_blocked) (defBody s__law_blocked) (defScope s__law_blocked) [] [] (He.fAd K ("_law_blocked", none)) fd24 := D24'
  have FA24 : FunA K "_law_blocked" "_law_blocked" s__law_blocked (He.ga K "_law_blocked") fd24 := funA_ofD D24
  have b24 := D24.bindsN (ps := ["_law_bridges", "_law_wheels_here"]) fun _ _ _ _ _ _ us hl => match us, hl with | [_, _], _ => rfl
  obtain ⟨fd25, D25'⟩ := cD.def_ 25 rfl
  have D25 : FunD K "_law_asked" "_law_asked" (defArgs s__law_asked) (defBody s__law_asked) (defScope s__law_asked) [] [] (He.fAd K ("_law_asked", none)) fd25 := D25'
  have FA25 : FunA K "_law_asked" "_law_asked" s__law_asked (He.ga K "_law_asked") fd25 := funA_ofD D25
  have b25 := D25.bindsN (ps := ["_law_road", "_law_cart", "_law_way", "_law_bridges"]) fun _ _ _ _ _ _ us hl => match us, hl with | [_, _, _, _], _ => rfl
  obtain ⟨fd26, D26'⟩ := cD.def_ 26 rfl
  have D26 : FunD K "law" "law" (defArgs s_law) (defBody s_law) (defScope s_law) [] [] (He.fAd K ("law", none)) fd26 := D26'
  have FA26 : FunA K "law" "law" s_law (He.ga K "law") fd26 := funA_ofD D26
  have b26 := D26.bindsN (ps := ["_law_script"]) fun _ _ _ _ _ _ us hl => match us, hl with | [_], _ => rfl
  obtain ⟨fdIPiece, DIPiece'⟩ := cD.def_ 27 rfl
  have DIPiece : FunD K "__init__" "Piece.__init__" (defArgs sI_Piece) (defBody sI_Piece) (defScope sI_Piece) [] [] (He.fAd K ("Piece", some "__init__")) fdIPiece := DIPiece'
  have FIPiece := fun_ofD (st := sI_Piece) DIPiece
  have bIPiece := FIPiece.binds (ps := ["self", "length"]) fun _ _ _ _ _ _ us hl => match us, hl with | [_, _], _ => rfl
  obtain ⟨fdIBridge, DIBridge'⟩ := cD.def_ 28 rfl
  have DIBridge : FunD K "__init__" "Bridge.__init__" (defArgs sI_Bridge) (defBody sI_Bridge) (defScope sI_Bridge) [] [] (He.fAd K ("Bridge", some "__init__")) fdIBridge := DIBridge'
  have FIBridge := fun_ofD (st := sI_Bridge) DIBridge
  have bIBridge := FIBridge.binds (ps := ["self", "name", "length", "bears", "wide", "most"]) fun _ _ _ _ _ _ us hl => match us, hl with | [_, _, _, _, _, _], _ => rfl
  obtain ⟨fdIRoad, DIRoad'⟩ := cD.def_ 29 rfl
  have DIRoad : FunD K "__init__" "Road.__init__" (defArgs sI_Road) (defBody sI_Road) (defScope sI_Road) [] [] (He.fAd K ("Road", some "__init__")) fdIRoad := DIRoad'
  have FIRoad := fun_ofD (st := sI_Road) DIRoad
  have bIRoad := FIRoad.binds (ps := ["self", "pieces", "rounds", "shuts"]) fun _ _ _ _ _ _ us hl => match us, hl with | [_, _, _, _], _ => rfl
  obtain ⟨fdICart, DICart'⟩ := cD.def_ 30 rfl
  have DICart : FunD K "__init__" "Cart.__init__" (defArgs sI_Cart) (defBody sI_Cart) (defScope sI_Cart) [] [] (He.fAd K ("Cart", some "__init__")) fdICart := DICart'
  have FICart := fun_ofD (st := sI_Cart) DICart
  have bICart := FICart.binds (ps := ["self", "name", "speed", "wheels"]) fun _ _ _ _ _ _ us hl => match us, hl with | [_, _, _, _], _ => rfl
  have aCOpen := He.glo_ok X Gn (cD.fact 59 rfl)
  have mk_Open : Mk K (He.ga K "Open") (He.fAd K ("Piece", some "__init__")) := (of_decide_eq_true x_eqOpen) ▸ He.mkr_ok (x := "Open") (cD.fact 60 rfl)
  have aCBridge := He.glo_ok X Gn (cD.fact 61 rfl)
  have mk_Bridge : Mk K (He.ga K "Bridge") (He.fAd K ("Bridge", some "__init__")) := He.mkr_ok (x := "Bridge") (cD.fact 62 rfl)
  have aCRoad := He.glo_ok X Gn (cD.fact 63 rfl)
  have mk_Road : Mk K (He.ga K "Road") (He.fAd K ("Road", some "__init__")) := He.mkr_ok (x := "Road") (cD.fact 64 rfl)
  have aCCart := He.glo_ok X Gn (cD.fact 65 rfl)
  have mk_Cart : Mk K (He.ga K "Cart") (He.fAd K ("Cart", some "__init__")) := He.mkr_ok (x := "Cart") (cD.fact 66 rfl)
  have aBPiece := He.glo_ok X Gn (cD.fact 67 rfl)
  obtain ⟨fdMPiece, DMPiece'⟩ := cD.def_ 32 rfl
  have DMPiece : FunD K "is_bridge" "Piece.is_bridge" (defArgs sM_Piece_is_bridge) (defBody sM_Piece_is_bridge) (defScope sM_Piece_is_bridge) [] [] (He.fAd K ("Piece", some "is_bridge")) fdMPiece := DMPiece'
  have FMPiece := fun_ofD (st := sM_Piece_is_bridge) DMPiece
  have bMPiece := FMPiece.binds (ps := ["self"]) fun _ _ _ _ _ _ us hl => match us, hl with | [_], _ => rfl
  obtain ⟨fdMBridge, DMBridge'⟩ := cD.def_ 33 rfl
  have DMBridge : FunD K "is_bridge" "Bridge.is_bridge" (defArgs sM_Bridge_is_bridge) (defBody sM_Bridge_is_bridge) (defScope sM_Bridge_is_bridge) [] [] (He.fAd K ("Bridge", some "is_bridge")) fdMBridge := DMBridge'
  have FMBridge := fun_ofD (st := sM_Bridge_is_bridge) DMBridge
  have bMBridge := FMBridge.binds (ps := ["self"]) fun _ _ _ _ _ _ us hl => match us, hl with | [_], _ => rfl
  have me_Open : Meth K (He.ga K "Open") "is_bridge" (He.fAd K ("Piece", some "is_bridge")) := (of_decide_eq_true x_eqM) ▸ He.meth_ok (x := "Open") (m := "is_bridge") (cD.fact 68 rfl)
  have me_Bridge : Meth K (He.ga K "Bridge") "is_bridge" (He.fAd K ("Bridge", some "is_bridge")) := He.meth_ok (x := "Bridge") (m := "is_bridge") (cD.fact 69 rfl)
  refine ⟨fd26, [], spOf K (caOf [He.ga K "Open", He.ga K "Bridge", He.ga K "Road", He.ga K "Cart", 0, 0, He.ga K "WayError", He.ga K "Blocked", He.ga K "NoWay", He.ga K "TextError", 0, 0, 0, 0, 0, 0, 0, 0, 0, 0, 0, 0, 0, 0]) φ_law, ?_, ?_, ?_, fun s v => D26.bindsA (ps := ["_law_script"]) (fun _ _ _ _ _ _ us hl => match us, hl with | [_], _ => rfl) s [v] rfl, ?_, fun base _ _ TB => ?_⟩
  · intro p hp; cases hp
  · intro p hp; cases hp
  · intro p hp; cases hp
  · intro H a ns hl hb hT hS
    exact ⟨[.rol (ns.map D.int)], noT H, .va (.bl true), noT_same _, noT_nt _, tabsC0 rfl rfl, .cons (.rol (noT_sq hS) .ints) .nil, law_true ns hl hb, fun v H' F' _ r => by cases r; rfl⟩
  have GI_Open := okI_Piece (P := l.prog) (w := w) (mg := mg) (base := base) (ca := caOf [He.ga K "Open", He.ga K "Bridge", He.ga K "Road", He.ga K "Cart", 0, 0, He.ga K "WayError", He.ga K "Blocked", He.ga K "NoWay", He.ga K "TextError", 0, 0, 0, 0, 0, 0, 0, 0, 0, 0, 0, 0, 0, 0]) 0 kl_Open (by decide) FIPiece
  have W_Open : Maker l.prog w K mg base (caOf [He.ga K "Open", He.ga K "Bridge", He.ga K "Road", He.ga K "Cart", 0, 0, He.ga K "WayError", He.ga K "Blocked", He.ga K "NoWay", He.ga K "TextError", 0, 0, 0, 0, 0, 0, 0, 0, 0, 0, 0, 0, 0, 0]) 1 0 1 "Open" ini_Open := ⟨_, _, _, mk_Open, kl_Open, GI_Open, aCOpen, bIPiece⟩
  have GI_Bridge_Piece := okI_Piece (P := l.prog) (w := w) (mg := mg) (base := base) (ca := caOf [He.ga K "Open", He.ga K "Bridge", He.ga K "Road", He.ga K "Cart", 0, 0, He.ga K "WayError", He.ga K "Blocked", He.ga K "NoWay", He.ga K "TextError", 0, 0, 0, 0, 0, 0, 0, 0, 0, 0, 0, 0, 0, 0]) 1 kl_Bridge (by decide) FIPiece
  have GI_Bridge := okI_Bridge kl_Bridge GI_Bridge_Piece aBPiece x_rdPiece (He.eqO_ok x_gaPiece) (fcB_ok x_fcPiece) FIPiece.kp bIPiece FIBridge
  have W_Bridge : Maker l.prog w K mg base (caOf [He.ga K "Open", He.ga K "Bridge", He.ga K "Road", He.ga K "Cart", 0, 0, He.ga K "WayError", He.ga K "Blocked", He.ga K "NoWay", He.ga K "TextError", 0, 0, 0, 0, 0, 0, 0, 0, 0, 0, 0, 0, 0, 0]) 2 1 5 "Bridge" ini_Bridge := ⟨_, _, _, mk_Bridge, kl_Bridge, GI_Bridge, aCBridge, bIBridge⟩
  have GI_Road := okI_Road (P := l.prog) (w := w) (mg := mg) (base := base) (ca := caOf [He.ga K "Open", He.ga K "Bridge", He.ga K "Road", He.ga K "Cart", 0, 0, He.ga K "WayError", He.ga K "Blocked", He.ga K "NoWay", He.ga K "TextError", 0, 0, 0, 0, 0, 0, 0, 0, 0, 0, 0, 0, 0, 0]) Z 2 kl_Road (by decide) FIRoad
  have W_Road : Maker l.prog w K mg base (caOf [He.ga K "Open", He.ga K "Bridge", He.ga K "Road", He.ga K "Cart", 0, 0, He.ga K "WayError", He.ga K "Blocked", He.ga K "NoWay", He.ga K "TextError", 0, 0, 0, 0, 0, 0, 0, 0, 0, 0, 0, 0, 0, 0]) 1 2 3 "Road" ini_Road := ⟨_, _, _, mk_Road, kl_Road, GI_Road, aCRoad, bIRoad⟩
  have GI_Cart := okI_Cart (P := l.prog) (w := w) (mg := mg) (base := base) (ca := caOf [He.ga K "Open", He.ga K "Bridge", He.ga K "Road", He.ga K "Cart", 0, 0, He.ga K "WayError", He.ga K "Blocked", He.ga K "NoWay", He.ga K "TextError", 0, 0, 0, 0, 0, 0, 0, 0, 0, 0, 0, 0, 0, 0]) Z 3 kl_Cart (by decide) FICart
  have W_Cart : Maker l.prog w K mg base (caOf [He.ga K "Open", He.ga K "Bridge", He.ga K "Road", He.ga K "Cart", 0, 0, He.ga K "WayError", He.ga K "Blocked", He.ga K "NoWay", He.ga K "TextError", 0, 0, 0, 0, 0, 0, 0, 0, 0, 0, 0, 0, 0, 0]) 1 3 3 "Cart" ini_Cart := ⟨_, _, _, mk_Cart, kl_Cart, GI_Cart, aCCart, bICart⟩
  have M_0 : MCallee l.prog w K mg base (caOf [He.ga K "Open", He.ga K "Bridge", He.ga K "Road", He.ga K "Cart", 0, 0, He.ga K "WayError", He.ga K "Blocked", He.ga K "NoWay", He.ga K "TextError", 0, 0, 0, 0, 0, 0, 0, 0, 0, 0, 0, 0, 0, 0]) 1 0 "is_bridge" φ_Piece_is_bridge := ⟨_, _, _, okM_Piece FMPiece.toA, kl_Open.cl, me_Open, bMPiece⟩
  have M_1 : MCallee l.prog w K mg base (caOf [He.ga K "Open", He.ga K "Bridge", He.ga K "Road", He.ga K "Cart", 0, 0, He.ga K "WayError", He.ga K "Blocked", He.ga K "NoWay", He.ga K "TextError", 0, 0, 0, 0, 0, 0, 0, 0, 0, 0, 0, 0, 0, 0]) 1 1 "is_bridge" φ_Bridge_is_bridge := ⟨_, _, _, okM_Bridge FMBridge.toA, kl_Bridge.cl, me_Bridge, bMBridge⟩
  have N_Cart : mg "Cart" = some (.ref ((caOf [He.ga K "Open", He.ga K "Bridge", He.ga K "Road", He.ga K "Cart", 0, 0, He.ga K "WayError", He.ga K "Blocked", He.ga K "NoWay", He.ga K "TextError", 0, 0, 0, 0, 0, 0, 0, 0, 0, 0, 0, 0, 0, 0]) 3)) := He.glo_ok X Gn (cD.fact 65 rfl)
  have I_Cart : IsiK K (caOf [He.ga K "Open", He.ga K "Bridge", He.ga K "Road", He.ga K "Cart", 0, 0, He.ga K "WayError", He.ga K "Blocked", He.ga K "NoWay", He.ga K "TextError", 0, 0, 0, 0, 0, 0, 0, 0, 0, 0, 0, 0, 0, 0]) [0, 1, 2, 3] 3 := by
    intro c2 hc2
    simp only [List.mem_cons, List.not_mem_nil, or_false] at hc2
    rcases hc2 with rfl | rfl | rfl | rfl
    · exact ⟨⟨He.eqO_ok x_ccOpen, He.eqO_ok x_cgO, of_decide_eq_true x_ctO, of_decide_eq_true x_cmOpen⟩, kit_own x_icCart (of_decide_eq_true x_tyCart) (of_decide_eq_true x_suOpen_Cart) (of_decide_eq_true x_suCart_Cart)⟩
    · exact ⟨⟨He.eqO_ok x_ccBridge, He.eqO_ok x_cgO, of_decide_eq_true x_ctO, of_decide_eq_true x_cmBridge⟩, kit_own x_icCart (of_decide_eq_true x_tyCart) (of_decide_eq_true x_suBridge_Cart) (of_decide_eq_true x_suCart_Cart)⟩
    · exact ⟨⟨He.eqO_ok x_ccRoad, He.eqO_ok x_cgO, of_decide_eq_true x_ctO, of_decide_eq_true x_cmRoad⟩, kit_own x_icCart (of_decide_eq_true x_tyCart) (of_decide_eq_true x_suRoad_Cart) (of_decide_eq_true x_suCart_Cart)⟩
    · exact ⟨⟨He.eqO_ok x_ccCart, He.eqO_ok x_cgO, of_decide_eq_true x_ctO, of_decide_eq_true x_cmCart⟩, kit_own x_icCart (of_decide_eq_true x_tyCart) (of_decide_eq_true x_suCart_Cart) (of_decide_eq_true x_suCart_Cart)⟩
  have XE : ∀ c ∈ ([7] : List Nat), ExcC K ((caOf [He.ga K "Open", He.ga K "Bridge", He.ga K "Road", He.ga K "Cart", 0, 0, He.ga K "WayError", He.ga K "Blocked", He.ga K "NoWay", He.ga K "TextError", 0, 0, 0, 0, 0, 0, 0, 0, 0, 0, 0, 0, 0, 0]) c) := xe_ok (ca := caOf [He.ga K "Open", He.ga K "Bridge", He.ga K "Road", He.ga K "Cart", 0, 0, He.ga K "WayError", He.ga K "Blocked", He.ga K "NoWay", He.ga K "TextError", 0, 0, 0, 0, 0, 0, 0, 0, 0, 0, 0, 0, 0, 0]) x_XE
  have NX_Blocked : mg "Blocked" = some (.ref ((caOf [He.ga K "Open", He.ga K "Bridge", He.ga K "Road", He.ga K "Cart", 0, 0, He.ga K "WayError", He.ga K "Blocked", He.ga K "NoWay", He.ga K "TextError", 0, 0, 0, 0, 0, 0, 0, 0, 0, 0, 0, 0, 0, 0]) 7)) := He.glo_ok X Gn (cD.fact 70 rfl)
  have NX_NoWay : mg "NoWay" = some (.ref ((caOf [He.ga K "Open", He.ga K "Bridge", He.ga K "Road", He.ga K "Cart", 0, 0, He.ga K "WayError", He.ga K "Blocked", He.ga K "NoWay", He.ga K "TextError", 0, 0, 0, 0, 0, 0, 0, 0, 0, 0, 0, 0, 0, 0]) 8)) := He.glo_ok X Gn (cD.fact 71 rfl)
  have NX_TextError : mg "TextError" = some (.ref ((caOf [He.ga K "Open", He.ga K "Bridge", He.ga K "Road", He.ga K "Cart", 0, 0, He.ga K "WayError", He.ga K "Blocked", He.ga K "NoWay", He.ga K "TextError", 0, 0, 0, 0, 0, 0, 0, 0, 0, 0, 0, 0, 0, 0]) 9)) := He.glo_ok X Gn (cD.fact 72 rfl)
  have NX_WayError : mg "WayError" = some (.ref ((caOf [He.ga K "Open", He.ga K "Bridge", He.ga K "Road", He.ga K "Cart", 0, 0, He.ga K "WayError", He.ga K "Blocked", He.ga K "NoWay", He.ga K "TextError", 0, 0, 0, 0, 0, 0, 0, 0, 0, 0, 0, 0, 0, 0]) 6)) := He.glo_ok X Gn (cD.fact 73 rfl)
  have XF_bridge := xf_ok (ca := caOf [He.ga K "Open", He.ga K "Bridge", He.ga K "Road", He.ga K "Cart", 0, 0, He.ga K "WayError", He.ga K "Blocked", He.ga K "NoWay", He.ga K "TextError", 0, 0, 0, 0, 0, 0, 0, 0, 0, 0, 0, 0, 0, 0]) x_XF_bridge
  have XF_wheel := xf_ok (ca := caOf [He.ga K "Open", He.ga K "Bridge", He.ga K "Road", He.ga K "Cart", 0, 0, He.ga K "WayError", He.ga K "Blocked", He.ga K "NoWay", He.ga K "TextError", 0, 0, 0, 0, 0, 0, 0, 0, 0, 0, 0, 0, 0, 0]) x_XF_wheel
  have XI_Blocked := xi_ok (ca := caOf [He.ga K "Open", He.ga K "Bridge", He.ga K "Road", He.ga K "Cart", 0, 0, He.ga K "WayError", He.ga K "Blocked", He.ga K "NoWay", He.ga K "TextError", 0, 0, 0, 0, 0, 0, 0, 0, 0, 0, 0, 0, 0, 0]) XE x_XI_Blocked
  have XI_NoWay := xi_ok (ca := caOf [He.ga K "Open", He.ga K "Bridge", He.ga K "Road", He.ga K "Cart", 0, 0, He.ga K "WayError", He.ga K "Blocked", He.ga K "NoWay", He.ga K "TextError", 0, 0, 0, 0, 0, 0, 0, 0, 0, 0, 0, 0, 0, 0]) XE x_XI_NoWay
  have XI_TextError := xi_ok (ca := caOf [He.ga K "Open", He.ga K "Bridge", He.ga K "Road", He.ga K "Cart", 0, 0, He.ga K "WayError", He.ga K "Blocked", He.ga K "NoWay", He.ga K "TextError", 0, 0, 0, 0, 0, 0, 0, 0, 0, 0, 0, 0, 0, 0]) XE x_XI_TextError
  have XI_ValueError := xi_ok (ca := caOf [He.ga K "Open", He.ga K "Bridge", He.ga K "Road", He.ga K "Cart", 0, 0, He.ga K "WayError", He.ga K "Blocked", He.ga K "NoWay", He.ga K "TextError", 0, 0, 0, 0, 0, 0, 0, 0, 0, 0, 0, 0, 0, 0]) XE x_XI_ValueError
  have XT_WayError := xt_ok (ca := caOf [He.ga K "Open", He.ga K "Bridge", He.ga K "Road", He.ga K "Cart", 0, 0, He.ga K "WayError", He.ga K "Blocked", He.ga K "NoWay", He.ga K "TextError", 0, 0, 0, 0, 0, 0, 0, 0, 0, 0, 0, 0, 0, 0]) x_XT_WayError
  obtain ⟨fdIBlocked, DIBlocked'⟩ := cD.def_ 31 rfl
  have DIBlocked : FunD K "__init__" "Blocked.__init__" (defArgs sI_Blocked) (defBody sI_Blocked) (defScope sI_Blocked) [] [] (He.fAd K ("Blocked", some "__init__")) fdIBlocked := DIBlocked'
  have FIBlocked := fun_ofD (st := sI_Blocked) DIBlocked
  have bIBlocked := FIBlocked.binds (ps := ["self", "bridge", "wheel"]) fun _ _ _ _ _ _ us hl => match us, hl with | [_, _, _], _ => rfl
  have XR_Blocked : Raiser l.prog w K mg base (caOf [He.ga K "Open", He.ga K "Bridge", He.ga K "Road", He.ga K "Cart", 0, 0, He.ga K "WayError", He.ga K "Blocked", He.ga K "NoWay", He.ga K "TextError", 0, 0, 0, 0, 0, 0, 0, 0, 0, 0, 0, 0, 0, 0]) 1 7 "Blocked" := ra_ok x_raBlocked (fun T => okI_Blocked (He.glo_ok X Gn (cD.fact 73 rfl)) x_rdW (He.eqO_ok x_gaW) (fcvB_ok x_fcW) (He.eqO_ok x_noBlocked_bridge) (He.eqO_ok x_noBlocked_wheel) FIBlocked.toA T) bIBlocked (He.glo_ok X Gn (cD.fact 70 rfl))
  have G0 : FnOk l.prog w K mg base CX0 1 _ _ _ (spOf K (caOf [He.ga K "Open", He.ga K "Bridge", He.ga K "Road", He.ga K "Cart", 0, 0, He.ga K "WayError", He.ga K "Blocked", He.ga K "NoWay", He.ga K "TextError", 0, 0, 0, 0, 0, 0, 0, 0, 0, 0, 0, 0, 0, 0]) φ_offsets_of) := ok_offsets_of Z FA0
  have C_offsets_of : Callee l.prog w K mg base (caOf [He.ga K "Open", He.ga K "Bridge", He.ga K "Road", He.ga K "Cart", 0, 0, He.ga K "WayError", He.ga K "Blocked", He.ga K "NoWay", He.ga K "TextError", 0, 0, 0, 0, 0, 0, 0, 0, 0, 0, 0, 0, 0, 0]) 1 "offsets_of" φ_offsets_of [] := fn_callee FA0 G0 a0 b0 .nil fun _ => .nil
  have G1 : FnOk l.prog w K mg base CX0 1 _ _ _ (spOf K (caOf [He.ga K "Open", He.ga K "Bridge", He.ga K "Road", He.ga K "Cart", 0, 0, He.ga K "WayError", He.ga K "Blocked", He.ga K "NoWay", He.ga K "TextError", 0, 0, 0, 0, 0, 0, 0, 0, 0, 0, 0, 0, 0, 0]) φ_greatest_close) := ok_greatest_close Z FA1
  have C_greatest_close : Callee l.prog w K mg base (caOf [He.ga K "Open", He.ga K "Bridge", He.ga K "Road", He.ga K "Cart", 0, 0, He.ga K "WayError", He.ga K "Blocked", He.ga K "NoWay", He.ga K "TextError", 0, 0, 0, 0, 0, 0, 0, 0, 0, 0, 0, 0, 0, 0]) 1 "greatest_close" φ_greatest_close [] := fn_callee FA1 G1 a1 b1 .nil fun _ => .nil
  have G2 : FnOk l.prog w K mg base CX0 2 _ _ _ (spOf K (caOf [He.ga K "Open", He.ga K "Bridge", He.ga K "Road", He.ga K "Cart", 0, 0, He.ga K "WayError", He.ga K "Blocked", He.ga K "NoWay", He.ga K "TextError", 0, 0, 0, 0, 0, 0, 0, 0, 0, 0, 0, 0, 0, 0]) φ_heaviest) := ok_heaviest Z C_greatest_close C_offsets_of FA2
  have C_heaviest : Callee l.prog w K mg base (caOf [He.ga K "Open", He.ga K "Bridge", He.ga K "Road", He.ga K "Cart", 0, 0, He.ga K "WayError", He.ga K "Blocked", He.ga K "NoWay", He.ga K "TextError", 0, 0, 0, 0, 0, 0, 0, 0, 0, 0, 0, 0, 0, 0]) 2 "heaviest" φ_heaviest [] := fn_callee FA2 G2 a2 b2 .nil fun _ => .nil
  have G3 : FnOk l.prog w K mg base CX0 3 _ _ _ (spOf K (caOf [He.ga K "Open", He.ga K "Bridge", He.ga K "Road", He.ga K "Cart", 0, 0, He.ga K "WayError", He.ga K "Blocked", He.ga K "NoWay", He.ga K "TextError", 0, 0, 0, 0, 0, 0, 0, 0, 0, 0, 0, 0, 0, 0]) φ_fits) := ok_fits Z C_heaviest FA3
  have C_fits : Callee l.prog w K mg base (caOf [He.ga K "Open", He.ga K "Bridge", He.ga K "Road", He.ga K "Cart", 0, 0, He.ga K "WayError", He.ga K "Blocked", He.ga K "NoWay", He.ga K "TextError", 0, 0, 0, 0, 0, 0, 0, 0, 0, 0, 0, 0, 0, 0]) 3 "fits" φ_fits [] := fn_callee FA3 G3 a3 b3 .nil fun _ => .nil
  have G4 : FnOk l.prog w K mg base CX0 2 _ _ _ (spOf K (caOf [He.ga K "Open", He.ga K "Bridge", He.ga K "Road", He.ga K "Cart", 0, 0, He.ga K "WayError", He.ga K "Blocked", He.ga K "NoWay", He.ga K "TextError", 0, 0, 0, 0, 0, 0, 0, 0, 0, 0, 0, 0, 0, 0]) φ_bridges_of) := ok_bridges_of Z M_0 M_1 FA4
  have C_bridges_of : Callee l.prog w K mg base (caOf [He.ga K "Open", He.ga K "Bridge", He.ga K "Road", He.ga K "Cart", 0, 0, He.ga K "WayError", He.ga K "Blocked", He.ga K "NoWay", He.ga K "TextError", 0, 0, 0, 0, 0, 0, 0, 0, 0, 0, 0, 0, 0, 0]) 2 "bridges_of" φ_bridges_of [] := fn_callee FA4 G4 a4 b4 .nil fun _ => .nil
  have G5 : FnOk l.prog w K mg base CX0 1 _ _ _ (spOf K (caOf [He.ga K "Open", He.ga K "Bridge", He.ga K "Road", He.ga K "Cart", 0, 0, He.ga K "WayError", He.ga K "Blocked", He.ga K "NoWay", He.ga K "TextError", 0, 0, 0, 0, 0, 0, 0, 0, 0, 0, 0, 0, 0, 0]) φ_round_of) := ok_round_of Z FA5
  have C_round_of : Callee l.prog w K mg base (caOf [He.ga K "Open", He.ga K "Bridge", He.ga K "Road", He.ga K "Cart", 0, 0, He.ga K "WayError", He.ga K "Blocked", He.ga K "NoWay", He.ga K "TextError", 0, 0, 0, 0, 0, 0, 0, 0, 0, 0, 0, 0, 0, 0]) 1 "round_of" φ_round_of [] := fn_callee FA5 G5 a5 b5 .nil fun _ => .nil
  have G6 : FnOk l.prog w K mg base CX0 3 _ _ _ (spOf K (caOf [He.ga K "Open", He.ga K "Bridge", He.ga K "Road", He.ga K "Cart", 0, 0, He.ga K "WayError", He.ga K "Blocked", He.ga K "NoWay", He.ga K "TextError", 0, 0, 0, 0, 0, 0, 0, 0, 0, 0, 0, 0, 0, 0]) φ_ways_of) := ok_ways_of Z C_bridges_of C_round_of FA6
  have C_ways_of : Callee l.prog w K mg base (caOf [He.ga K "Open", He.ga K "Bridge", He.ga K "Road", He.ga K "Cart", 0, 0, He.ga K "WayError", He.ga K "Blocked", He.ga K "NoWay", He.ga K "TextError", 0, 0, 0, 0, 0, 0, 0, 0, 0, 0, 0, 0, 0, 0]) 3 "ways_of" φ_ways_of [] := fn_callee FA6 G6 a6 b6 .nil fun _ => .nil
  have G7 : FnOk l.prog w K mg base CX0 2 _ _ _ (spOf K (caOf [He.ga K "Open", He.ga K "Bridge", He.ga K "Road", He.ga K "Cart", 0, 0, He.ga K "WayError", He.ga K "Blocked", He.ga K "NoWay", He.ga K "TextError", 0, 0, 0, 0, 0, 0, 0, 0, 0, 0, 0, 0, 0, 0]) φ_step_along) := ok_step_along Z C_round_of FA7
  have C_step_along : Callee l.prog w K mg base (caOf [He.ga K "Open", He.ga K "Bridge", He.ga K "Road", He.ga K "Cart", 0, 0, He.ga K "WayError", He.ga K "Blocked", He.ga K "NoWay", He.ga K "TextError", 0, 0, 0, 0, 0, 0, 0, 0, 0, 0, 0, 0, 0, 0]) 2 "step_along" φ_step_along [] := fn_callee FA7 G7 a7 b7 .nil fun _ => .nil
  have G8 : FnOk l.prog w K mg base CX0 3 _ _ _ (spOf K (caOf [He.ga K "Open", He.ga K "Bridge", He.ga K "Road", He.ga K "Cart", 0, 0, He.ga K "WayError", He.ga K "Blocked", He.ga K "NoWay", He.ga K "TextError", 0, 0, 0, 0, 0, 0, 0, 0, 0, 0, 0, 0, 0, 0]) φ_walked) := ok_walked Z C_step_along M_0 M_1 FA8
  have C_walked : Callee l.prog w K mg base (caOf [He.ga K "Open", He.ga K "Bridge", He.ga K "Road", He.ga K "Cart", 0, 0, He.ga K "WayError", He.ga K "Blocked", He.ga K "NoWay", He.ga K "TextError", 0, 0, 0, 0, 0, 0, 0, 0, 0, 0, 0, 0, 0, 0]) 3 "walked" φ_walked [] := fn_callee FA8 G8 a8 b8 .nil fun _ => .nil
  have G9 : FnOk l.prog w K mg base CX0 4 _ _ _ (spOf K (caOf [He.ga K "Open", He.ga K "Bridge", He.ga K "Road", He.ga K "Cart", 0, 0, He.ga K "WayError", He.ga K "Blocked", He.ga K "NoWay", He.ga K "TextError", 0, 0, 0, 0, 0, 0, 0, 0, 0, 0, 0, 0, 0, 0]) φ_legs_of) := ok_legs_of Z C_walked FA9
  have C_legs_of : Callee l.prog w K mg base (caOf [He.ga K "Open", He.ga K "Bridge", He.ga K "Road", He.ga K "Cart", 0, 0, He.ga K "WayError", He.ga K "Blocked", He.ga K "NoWay", He.ga K "TextError", 0, 0, 0, 0, 0, 0, 0, 0, 0, 0, 0, 0, 0, 0]) 4 "legs_of" φ_legs_of [] := fn_callee FA9 G9 a9 b9 .nil fun _ => .nil
  have G10 : FnOk l.prog w K mg base CX0 5 _ _ _ (spOf K (caOf [He.ga K "Open", He.ga K "Bridge", He.ga K "Road", He.ga K "Cart", 0, 0, He.ga K "WayError", He.ga K "Blocked", He.ga K "NoWay", He.ga K "TextError", 0, 0, 0, 0, 0, 0, 0, 0, 0, 0, 0, 0, 0, 0]) φ_first_unfit) := ok_first_unfit Z C_legs_of C_fits FA10
  have C_first_unfit : Callee l.prog w K mg base (caOf [He.ga K "Open", He.ga K "Bridge", He.ga K "Road", He.ga K "Cart", 0, 0, He.ga K "WayError", He.ga K "Blocked", He.ga K "NoWay", He.ga K "TextError", 0, 0, 0, 0, 0, 0, 0, 0, 0, 0, 0, 0, 0, 0]) 5 "first_unfit" φ_first_unfit [] := fn_callee FA10 G10 a10 b10 .nil fun _ => .nil
  have G11 : FnOk l.prog w K mg base CX0 6 _ _ _ (spOf K (caOf [He.ga K "Open", He.ga K "Bridge", He.ga K "Road", He.ga K "Cart", 0, 0, He.ga K "WayError", He.ga K "Blocked", He.ga K "NoWay", He.ga K "TextError", 0, 0, 0, 0, 0, 0, 0, 0, 0, 0, 0, 0, 0, 0]) φ_parted) := ok_parted Z C_first_unfit W_Cart XR_Blocked FA11
  have C_parted : Callee l.prog w K mg base (caOf [He.ga K "Open", He.ga K "Bridge", He.ga K "Road", He.ga K "Cart", 0, 0, He.ga K "WayError", He.ga K "Blocked", He.ga K "NoWay", He.ga K "TextError", 0, 0, 0, 0, 0, 0, 0, 0, 0, 0, 0, 0, 0, 0]) 6 "parted" φ_parted [] := fn_callee FA11 G11 a11 b11 .nil fun _ => .nil
  have X_parted : CalleeX l.prog w K mg base (caOf [He.ga K "Open", He.ga K "Bridge", He.ga K "Road", He.ga K "Cart", 0, 0, He.ga K "WayError", He.ga K "Blocked", He.ga K "NoWay", He.ga K "TextError", 0, 0, 0, 0, 0, 0, 0, 0, 0, 0, 0, 0, 0, 0]) 6 "parted" ψ_parted := ⟨⟨_, _, _, okx_parted Z C_first_unfit W_Cart XR_Blocked FA11, a11, FA11.kp, b11⟩⟩
  have G12 : FnOk l.prog w K mg base CX0 1 _ _ _ (spOf K (caOf [He.ga K "Open", He.ga K "Bridge", He.ga K "Road", He.ga K "Cart", 0, 0, He.ga K "WayError", He.ga K "Blocked", He.ga K "NoWay", He.ga K "TextError", 0, 0, 0, 0, 0, 0, 0, 0, 0, 0, 0, 0, 0, 0]) φ__law_cell) := ok__law_cell Z FA12
  have C__law_cell : Callee l.prog w K mg base (caOf [He.ga K "Open", He.ga K "Bridge", He.ga K "Road", He.ga K "Cart", 0, 0, He.ga K "WayError", He.ga K "Blocked", He.ga K "NoWay", He.ga K "TextError", 0, 0, 0, 0, 0, 0, 0, 0, 0, 0, 0, 0, 0, 0]) 1 "_law_cell" φ__law_cell [] := fn_callee FA12 G12 a12 b12 .nil fun _ => .nil
  have G13 : FnOk l.prog w K mg base CX0 1 _ _ _ (spOf K (caOf [He.ga K "Open", He.ga K "Bridge", He.ga K "Road", He.ga K "Cart", 0, 0, He.ga K "WayError", He.ga K "Blocked", He.ga K "NoWay", He.ga K "TextError", 0, 0, 0, 0, 0, 0, 0, 0, 0, 0, 0, 0, 0, 0]) φ__law_mix) := ok__law_mix Z FA13
  have C__law_mix : Callee l.prog w K mg base (caOf [He.ga K "Open", He.ga K "Bridge", He.ga K "Road", He.ga K "Cart", 0, 0, He.ga K "WayError", He.ga K "Blocked", He.ga K "NoWay", He.ga K "TextError", 0, 0, 0, 0, 0, 0, 0, 0, 0, 0, 0, 0, 0, 0]) 1 "_law_mix" φ__law_mix [] := fn_callee FA13 G13 a13 b13 .nil fun _ => .nil
  have G14 : FnOk l.prog w K mg base CX0 2 _ _ _ (spOf K (caOf [He.ga K "Open", He.ga K "Bridge", He.ga K "Road", He.ga K "Cart", 0, 0, He.ga K "WayError", He.ga K "Blocked", He.ga K "NoWay", He.ga K "TextError", 0, 0, 0, 0, 0, 0, 0, 0, 0, 0, 0, 0, 0, 0]) φ__law_wheels) := ok__law_wheels Z C__law_mix FA14
  have C__law_wheels : Callee l.prog w K mg base (caOf [He.ga K "Open", He.ga K "Bridge", He.ga K "Road", He.ga K "Cart", 0, 0, He.ga K "WayError", He.ga K "Blocked", He.ga K "NoWay", He.ga K "TextError", 0, 0, 0, 0, 0, 0, 0, 0, 0, 0, 0, 0, 0, 0]) 2 "_law_wheels" φ__law_wheels [] := fn_callee FA14 G14 a14 b14 .nil fun _ => .nil
  have G15 : FnOk l.prog w K mg base CX0 1 _ _ _ (spOf K (caOf [He.ga K "Open", He.ga K "Bridge", He.ga K "Road", He.ga K "Cart", 0, 0, He.ga K "WayError", He.ga K "Blocked", He.ga K "NoWay", He.ga K "TextError", 0, 0, 0, 0, 0, 0, 0, 0, 0, 0, 0, 0, 0, 0]) φ__law_places) := ok__law_places Z FA15
  have C__law_places : Callee l.prog w K mg base (caOf [He.ga K "Open", He.ga K "Bridge", He.ga K "Road", He.ga K "Cart", 0, 0, He.ga K "WayError", He.ga K "Blocked", He.ga K "NoWay", He.ga K "TextError", 0, 0, 0, 0, 0, 0, 0, 0, 0, 0, 0, 0, 0, 0]) 1 "_law_places" φ__law_places [] := fn_callee FA15 G15 a15 b15 .nil fun _ => .nil
  have G16 : FnOk l.prog w K mg base CX0 2 _ _ _ (spOf K (caOf [He.ga K "Open", He.ga K "Bridge", He.ga K "Road", He.ga K "Cart", 0, 0, He.ga K "WayError", He.ga K "Blocked", He.ga K "NoWay", He.ga K "TextError", 0, 0, 0, 0, 0, 0, 0, 0, 0, 0, 0, 0, 0, 0]) φ__law_close) := ok__law_close Z C__law_places FA16
  have C__law_close : Callee l.prog w K mg base (caOf [He.ga K "Open", He.ga K "Bridge", He.ga K "Road", He.ga K "Cart", 0, 0, He.ga K "WayError", He.ga K "Blocked", He.ga K "NoWay", He.ga K "TextError", 0, 0, 0, 0, 0, 0, 0, 0, 0, 0, 0, 0, 0, 0]) 2 "_law_close" φ__law_close [] := fn_callee FA16 G16 a16 b16 .nil fun _ => .nil
  have G17 : FnOk l.prog w K mg base CX0 4 _ _ _ (spOf K (caOf [He.ga K "Open", He.ga K "Bridge", He.ga K "Road", He.ga K "Cart", 0, 0, He.ga K "WayError", He.ga K "Blocked", He.ga K "NoWay", He.ga K "TextError", 0, 0, 0, 0, 0, 0, 0, 0, 0, 0, 0, 0, 0, 0]) φ__law_pieces) := ok__law_pieces Z W_Bridge W_Open FA17
  have C__law_pieces : Callee l.prog w K mg base (caOf [He.ga K "Open", He.ga K "Bridge", He.ga K "Road", He.ga K "Cart", 0, 0, He.ga K "WayError", He.ga K "Blocked", He.ga K "NoWay", He.ga K "TextError", 0, 0, 0, 0, 0, 0, 0, 0, 0, 0, 0, 0, 0, 0]) 4 "_law_pieces" φ__law_pieces [] := fn_callee FA17 G17 a17 b17 .nil fun _ => .nil
  have G18 : FnOk l.prog w K mg base CX0 22 _ _ _ (spOf K (caOf [He.ga K "Open", He.ga K "Bridge", He.ga K "Road", He.ga K "Cart", 0, 0, He.ga K "WayError", He.ga K "Blocked", He.ga K "NoWay", He.ga K "TextError", 0, 0, 0, 0, 0, 0, 0, 0, 0, 0, 0, 0, 0, 0]) φ__law_alike) := okr__law_alike Z  FA18 a18 b18 FA19 a19 b19 10
  have C__law_alike : Callee l.prog w K mg base (caOf [He.ga K "Open", He.ga K "Bridge", He.ga K "Road", He.ga K "Cart", 0, 0, He.ga K "WayError", He.ga K "Blocked", He.ga K "NoWay", He.ga K "TextError", 0, 0, 0, 0, 0, 0, 0, 0, 0, 0, 0, 0, 0, 0]) 22 "_law_alike" φ__law_alike [] := fn_callee FA18 G18 a18 b18 .nil fun _ => .nil
  have G19 : FnOk l.prog w K mg base CX0 23 _ _ _ (spOf K (caOf [He.ga K "Open", He.ga K "Bridge", He.ga K "Road", He.ga K "Cart", 0, 0, He.ga K "WayError", He.ga K "Blocked", He.ga K "NoWay", He.ga K "TextError", 0, 0, 0, 0, 0, 0, 0, 0, 0, 0, 0, 0, 0, 0]) φ__law_same) := okp__law_same (lv := 22) (by decide) Z  C__law_alike FA19
  have C__law_same : Callee l.prog w K mg base (caOf [He.ga K "Open", He.ga K "Bridge", He.ga K "Road", He.ga K "Cart", 0, 0, He.ga K "WayError", He.ga K "Blocked", He.ga K "NoWay", He.ga K "TextError", 0, 0, 0, 0, 0, 0, 0, 0, 0, 0, 0, 0, 0, 0]) 23 "_law_same" φ__law_same [] := fn_callee FA19 G19 a19 b19 .nil fun _ => .nil
  have G20 : FnOk l.prog w K mg base CX0 1 _ _ _ (spOf K (caOf [He.ga K "Open", He.ga K "Bridge", He.ga K "Road", He.ga K "Cart", 0, 0, He.ga K "WayError", He.ga K "Blocked", He.ga K "NoWay", He.ga K "TextError", 0, 0, 0, 0, 0, 0, 0, 0, 0, 0, 0, 0, 0, 0]) φ__law_run) := ok__law_run Z FA20
  have C__law_run : Callee l.prog w K mg base (caOf [He.ga K "Open", He.ga K "Bridge", He.ga K "Road", He.ga K "Cart", 0, 0, He.ga K "WayError", He.ga K "Blocked", He.ga K "NoWay", He.ga K "TextError", 0, 0, 0, 0, 0, 0, 0, 0, 0, 0, 0, 0, 0, 0]) 1 "_law_run" φ__law_run [] := fn_callee FA20 G20 a20 b20 .nil fun _ => .nil
  have G21 : FnOk l.prog w K mg base CX0 3 _ _ _ (spOf K (caOf [He.ga K "Open", He.ga K "Bridge", He.ga K "Road", He.ga K "Cart", 0, 0, He.ga K "WayError", He.ga K "Blocked", He.ga K "NoWay", He.ga K "TextError", 0, 0, 0, 0, 0, 0, 0, 0, 0, 0, 0, 0, 0, 0]) φ__law_narrow) := ok__law_narrow Z C__law_mix C__law_run C__law_places C__law_close FA21
  have C__law_narrow : Callee l.prog w K mg base (caOf [He.ga K "Open", He.ga K "Bridge", He.ga K "Road", He.ga K "Cart", 0, 0, He.ga K "WayError", He.ga K "Blocked", He.ga K "NoWay", He.ga K "TextError", 0, 0, 0, 0, 0, 0, 0, 0, 0, 0, 0, 0, 0, 0]) 3 "_law_narrow" φ__law_narrow [] := fn_callee FA21 G21 a21 b21 .nil fun _ => .nil
  have G22 : FnOk l.prog w K mg base CX0 3 _ _ _ (spOf K (caOf [He.ga K "Open", He.ga K "Bridge", He.ga K "Road", He.ga K "Cart", 0, 0, He.ga K "WayError", He.ga K "Blocked", He.ga K "NoWay", He.ga K "TextError", 0, 0, 0, 0, 0, 0, 0, 0, 0, 0, 0, 0, 0, 0]) φ__law_fits) := ok__law_fits Z C__law_close FA22
  have C__law_fits : Callee l.prog w K mg base (caOf [He.ga K "Open", He.ga K "Bridge", He.ga K "Road", He.ga K "Cart", 0, 0, He.ga K "WayError", He.ga K "Blocked", He.ga K "NoWay", He.ga K "TextError", 0, 0, 0, 0, 0, 0, 0, 0, 0, 0, 0, 0, 0, 0]) 3 "_law_fits" φ__law_fits [] := fn_callee FA22 G22 a22 b22 .nil fun _ => .nil
  have G23 : FnOk l.prog w K mg base CX0 4 _ _ _ (spOf K (caOf [He.ga K "Open", He.ga K "Bridge", He.ga K "Road", He.ga K "Cart", 0, 0, He.ga K "WayError", He.ga K "Blocked", He.ga K "NoWay", He.ga K "TextError", 0, 0, 0, 0, 0, 0, 0, 0, 0, 0, 0, 0, 0, 0]) φ__law_cuts) := ok__law_cuts Z C__law_fits FA23
  have C__law_cuts : Callee l.prog w K mg base (caOf [He.ga K "Open", He.ga K "Bridge", He.ga K "Road", He.ga K "Cart", 0, 0, He.ga K "WayError", He.ga K "Blocked", He.ga K "NoWay", He.ga K "TextError", 0, 0, 0, 0, 0, 0, 0, 0, 0, 0, 0, 0, 0, 0]) 4 "_law_cuts" φ__law_cuts [] := fn_callee FA23 G23 a23 b23 .nil fun _ => .nil
  have G24 : FnOk l.prog w K mg base CX0 4 _ _ _ (spOf K (caOf [He.ga K "Open", He.ga K "Bridge", He.ga K "Road", He.ga K "Cart", 0, 0, He.ga K "WayError", He.ga K "Blocked", He.ga K "NoWay", He.ga K "TextError", 0, 0, 0, 0, 0, 0, 0, 0, 0, 0, 0, 0, 0, 0]) φ__law_blocked) := ok__law_blocked Z C__law_fits FA24
  have C__law_blocked : Callee l.prog w K mg base (caOf [He.ga K "Open", He.ga K "Bridge", He.ga K "Road", He.ga K "Cart", 0, 0, He.ga K "WayError", He.ga K "Blocked", He.ga K "NoWay", He.ga K "TextError", 0, 0, 0, 0, 0, 0, 0, 0, 0, 0, 0, 0, 0, 0]) 4 "_law_blocked" φ__law_blocked [] := fn_callee FA24 G24 a24 b24 .nil fun _ => .nil
  have G25 : FnOk l.prog w K mg base CX0 24 _ _ _ (spOf K (caOf [He.ga K "Open", He.ga K "Bridge", He.ga K "Road", He.ga K "Cart", 0, 0, He.ga K "WayError", He.ga K "Blocked", He.ga K "NoWay", He.ga K "TextError", 0, 0, 0, 0, 0, 0, 0, 0, 0, 0, 0, 0, 0, 0]) φ__law_asked) := ok__law_asked Z C_parted C__law_blocked C__law_same C__law_cuts N_Cart I_Cart X_parted NX_Blocked NX_NoWay NX_TextError NX_WayError XT_WayError XE XI_Blocked XI_NoWay XI_TextError XI_ValueError XF_bridge XF_wheel FA25
  have C__law_asked : Callee l.prog w K mg base (caOf [He.ga K "Open", He.ga K "Bridge", He.ga K "Road", He.ga K "Cart", 0, 0, He.ga K "WayError", He.ga K "Blocked", He.ga K "NoWay", He.ga K "TextError", 0, 0, 0, 0, 0, 0, 0, 0, 0, 0, 0, 0, 0, 0]) 24 "_law_asked" φ__law_asked [] := fn_callee FA25 G25 a25 b25 .nil fun _ => .nil
  have G26 : FnOk l.prog w K mg base CX0 25 _ _ _ (spOf K (caOf [He.ga K "Open", He.ga K "Bridge", He.ga K "Road", He.ga K "Cart", 0, 0, He.ga K "WayError", He.ga K "Blocked", He.ga K "NoWay", He.ga K "TextError", 0, 0, 0, 0, 0, 0, 0, 0, 0, 0, 0, 0, 0, 0]) φ_law) := ok_law Z C__law_cell C__law_mix C__law_wheels C__law_narrow C__law_pieces C_ways_of C__law_asked W_Cart W_Road FA26
  exact G26
end G
open PySem PySem.W PyProof.Rows
set_option maxRecDepth 100000 in
set_option maxHeartbeats 0 in
theorem PySem.Challenge.cw_ballastway_k19_fewest_carts_holds : PySem.Challenge.rw_ballastway_k19_fewest_carts.Holds := by
  w_on; o_law
  refine HandSHeadRun.head_any (r := OpenLaw.row PySem.Challenge.rw_ballastway_k19_fewest_carts) (q := view (OpenLaw.row PySem.Challenge.rw_ballastway_k19_fewest_carts).prog [41]) (H := G.hkT) (ob := G.obT) (M := 6000) (loose := G.looseL) (d := HandSHeadRun.topDef (OpenLaw.row PySem.Challenge.rw_ballastway_k19_fewest_carts).prog 41) (kwd := []) G.ob_eqT
    (by kernel_rfl) (fun s => by kernel_rfl) G.runT (by kernel_rfl) (by kernel_rfl) (by kernel_rfl) (by rfl) (by first | assumption | decide +kernel) (by decide +kernel) ⟨rfl, rfl, rfl, rfl, rfl, by decide +kernel⟩ ?hw ?hc
  case hw => w_witness2
  case hc =>
    refine LamX.walk_ofTsE (l := PySem.Challenge.rw_ballastway_k19_fewest_carts) (n := 63) (k := 25) (x := "_law_script") (CX := fun _ => L2.CX0) rfl (by decide) (by kernel_rfl) ⟨rfl, by decide, by decide⟩ ?F (fun _ _ _ _ _ z => z)
    intro w mg fa h Y G0 hmg0
    obtain ⟨K, KX, c⟩ := Y
    have hmg : mg ("law" : PySem.Str) = some (.ref fa) := by
      have e : (HandSHeadRun.topDef (OpenLaw.row PySem.Challenge.rw_ballastway_k19_fewest_carts).prog 41).name = ("law" : PySem.Str) := by kernel_rfl
      rw [← e]
      exact hmg0
    exact ⟨K, KX, G.all_mkT KX G0 hmg c⟩
