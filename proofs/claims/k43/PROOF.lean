import PyProof.Rows.All
import Wide.All
import OpenK.AllK
import Wide.FinOn
import KE.KStateDown
import Lean
import HandS.ForMost
import HandS.More
import HandS.WordsExc
import HandS.Defaults
import HandS.Head0
import HandS.Head1
import HandS.Head2
import HandS.HeadEnd
import HandS.HeadHook1
import HandS.HeadHook2
import PySem.Challenge.RW_kaleidorooms_k43_whole_letters
import HandS.Zip
import HandS.Star
import HandS.Walk
import KE.GoesEnum
import HandS.TupMul
import HandS.TupAny
import HandS.TupLen
import HandS.IsInst
import HandS.Codes
import HandS.Style
import HandS.Wide
import HandS.Conv
import OpenK.KOps
import HandS.SortOrd
import HandS.DictComp
import HandS.DictTup
import KE.SortData
import KE.KDictDisplayH
set_option Elab.async false
set_option linter.all false
set_option maxRecDepth 100000
set_option maxHeartbeats 0
namespace Kal
open PySem PySem.Spec PyProof.Rows L2
def topS (i : Nat) : Stmt := PySem.Challenge.pw_kaleidorooms_k43_whole_letters.main.body.getD i (.Pass ⟨0, 0, 0, 0⟩)
abbrev sHall : Stmt := topS 14
abbrev sDIsFrom : Stmt := topS 12
def dDIsFrom : He.DefD := ⟨("is_from", none), "is_from", "is_from", defArgs sDIsFrom, defBody sDIsFrom, defScope sDIsFrom, [], []⟩
abbrev sDArePushes : Stmt := topS 13
def dDArePushes : He.DefD := ⟨("are_pushes", none), "are_pushes", "are_pushes", defArgs sDArePushes, defBody sDArePushes, defScope sDArePushes, [], []⟩
abbrev sDNeedHall : Stmt := topS 15
def dDNeedHall : He.DefD := ⟨("need_hall", none), "need_hall", "need_hall", defArgs sDNeedHall, defBody sDNeedHall, defScope sDNeedHall, [], []⟩
abbrev sDNeighboursOf : Stmt := topS 16
def dDNeighboursOf : He.DefD := ⟨("neighbours_of", none), "neighbours_of", "neighbours_of", defArgs sDNeighboursOf, defBody sDNeighboursOf, defScope sDNeighboursOf, [], []⟩
abbrev sDJoinedTo : Stmt := topS 17
def dDJoinedTo : He.DefD := ⟨("joined_to", none), "joined_to", "joined_to", defArgs sDJoinedTo, defBody sDJoinedTo, defScope sDJoinedTo, [], []⟩
abbrev sDWingsOf : Stmt := topS 18
def dDWingsOf : He.DefD := ⟨("wings_of", none), "wings_of", "wings_of", defArgs sDWingsOf, defBody sDWingsOf, defScope sDWingsOf, [], []⟩
abbrev sDWeight : Stmt := topS 24
def dDWeight : He.DefD := ⟨("weight", none), "weight", "weight", defArgs sDWeight, defBody sDWeight, defScope sDWeight, [], []⟩
abbrev sDLeastOver : Stmt := topS 25
def dDLeastOver : He.DefD := ⟨("least_over", none), "least_over", "least_over", defArgs sDLeastOver, defBody sDLeastOver, defScope sDLeastOver, [], []⟩
abbrev sDWordofl : Stmt := topS 26
def dDWordofl : He.DefD := ⟨("word_of_loads", none), "word_of", "word_of", defArgs sDWordofl, defBody sDWordofl, defScope sDWordofl, [], []⟩
abbrev sDKindOf : Stmt := topS 28
def dDKindOf : He.DefD := ⟨("kind_of", none), "kind_of", "kind_of", defArgs sDKindOf, defBody sDKindOf, defScope sDKindOf, [], []⟩
abbrev sDAreNumbers : Stmt := topS 32
def dDAreNumbers : He.DefD := ⟨("are_numbers", none), "are_numbers", "are_numbers", defArgs sDAreNumbers, defBody sDAreNumbers, defScope sDAreNumbers, [], []⟩
abbrev sDChanged : Stmt := topS 33
def dDChanged : He.DefD := ⟨("changed", none), "changed", "changed", defArgs sDChanged, defBody sDChanged, defScope sDChanged, [], []⟩
abbrev sDAbleOf : Stmt := topS 34
def dDAbleOf : He.DefD := ⟨("able_of", none), "able_of", "able_of", defArgs sDAbleOf, defBody sDAbleOf, defScope sDAbleOf, [], []⟩
abbrev sDNeverWingOf : Stmt := topS 37
def dDNeverWingOf : He.DefD := ⟨("never_wing_of", none), "never_wing_of", "never_wing_of", defArgs sDNeverWingOf, defBody sDNeverWingOf, defScope sDNeverWingOf, [], []⟩
abbrev sDPlayed : Stmt := topS 38
def dDPlayed : He.DefD := ⟨("played", none), "played", "played", defArgs sDPlayed, defBody sDPlayed, defScope sDPlayed, [], []⟩
abbrev sDFirstOf : Stmt := topS 40
def dDFirstOf : He.DefD := ⟨("first_of", none), "first_of", "first_of", defArgs sDFirstOf, defBody sDFirstOf, defScope sDFirstOf, [], []⟩
abbrev sDIsRoomOf : Stmt := topS 41
def dDIsRoomOf : He.DefD := ⟨("is_room_of", none), "is_room_of", "is_room_of", defArgs sDIsRoomOf, defBody sDIsRoomOf, defScope sDIsRoomOf, [], []⟩
abbrev sDNeedRoom : Stmt := topS 42
def dDNeedRoom : He.DefD := ⟨("need_room", none), "need_room", "need_room", defArgs sDNeedRoom, defBody sDNeedRoom, defScope sDNeedRoom, [], []⟩
abbrev sDNeedEnding : Stmt := topS 45
def dDNeedEnding : He.DefD := ⟨("need_ending", none), "need_ending", "need_ending", defArgs sDNeedEnding, defBody sDNeedEnding, defScope sDNeedEnding, [], []⟩
abbrev sDNeedOne : Stmt := topS 46
def dDNeedOne : He.DefD := ⟨("need_one", none), "need_one", "need_one", defArgs sDNeedOne, defBody sDNeedOne, defScope sDNeedOne, [], []⟩
abbrev sDNeedTwo : Stmt := topS 47
def dDNeedTwo : He.DefD := ⟨("need_two", none), "need_two", "need_two", defArgs sDNeedTwo, defBody sDNeedTwo, defScope sDNeedTwo, [], []⟩
abbrev sDIsLampOf : Stmt := topS 48
def dDIsLampOf : He.DefD := ⟨("is_lamp_of", none), "is_lamp_of", "is_lamp_of", defArgs sDIsLampOf, defBody sDIsLampOf, defScope sDIsLampOf, [], []⟩
abbrev sDNeedWord : Stmt := topS 49
def dDNeedWord : He.DefD := ⟨("need_word", none), "need_word", "need_word", defArgs sDNeedWord, defBody sDNeedWord, defScope sDNeedWord, [], []⟩
abbrev sDGoFrom : Stmt := topS 50
def dDGoFrom : He.DefD := ⟨("go_from", none), "go_from", "go_from", defArgs sDGoFrom, defBody sDGoFrom, defScope sDGoFrom, [], []⟩
abbrev sDWordOf : Stmt := topS 51
def dDWordOf : He.DefD := ⟨("word_of_within", none), "word_of", "word_of", defArgs sDWordOf, defBody sDWordOf, defScope sDWordOf, [], []⟩
abbrev sDNearer : Stmt := topS 53
def dDNearer : He.DefD := ⟨("nearer", none), "nearer", "nearer", defArgs sDNearer, defBody sDNearer, defScope sDNearer, [], []⟩
abbrev sDFarther : Stmt := topS 54
def dDFarther : He.DefD := ⟨("farther", none), "farther", "farther", defArgs sDFarther, defBody sDFarther, defScope sDFarther, [], []⟩
abbrev sDIsUnder : Stmt := topS 55
def dDIsUnder : He.DefD := ⟨("is_under", none), "is_under", "is_under", defArgs sDIsUnder, defBody sDIsUnder, defScope sDIsUnder, [], []⟩
abbrev sDIsWithin : Stmt := topS 56
def dDIsWithin : He.DefD := ⟨("is_within", none), "is_within", "is_within", defArgs sDIsWithin, defBody sDIsWithin, defScope sDIsWithin, [], []⟩
abbrev sDGreatestOf : Stmt := topS 57
def dDGreatestOf : He.DefD := ⟨("greatest_of", none), "greatest_of", "greatest_of", defArgs sDGreatestOf, defBody sDGreatestOf, defScope sDGreatestOf, [], []⟩
abbrev sDGreatestBy : Stmt := topS 58
def dDGreatestBy : He.DefD := ⟨("greatest_by", none), "greatest_by", "greatest_by", defArgs sDGreatestBy, defBody sDGreatestBy, defScope sDGreatestBy, [], []⟩
abbrev sDLettersFor : Stmt := topS 59
def dDLettersFor : He.DefD := ⟨("letters_for", none), "letters_for", "letters_for", defArgs sDLettersFor, defBody sDLettersFor, defScope sDLettersFor, [], []⟩
abbrev sDAreLetters : Stmt := topS 60
def dDAreLetters : He.DefD := ⟨("are_letters", none), "are_letters", "are_letters", defArgs sDAreLetters, defBody sDAreLetters, defScope sDAreLetters, [], []⟩
abbrev sDLTaken : Stmt := topS 62
def dDLTaken : He.DefD := ⟨("_law_taken", none), "_law_taken", "_law_taken", defArgs sDLTaken, defBody sDLTaken, defScope sDLTaken, [], []⟩
abbrev sDLPick : Stmt := topS 63
def dDLPick : He.DefD := ⟨("_law_pick", none), "_law_pick", "_law_pick", defArgs sDLPick, defBody sDLPick, defScope sDLPick, [], []⟩
abbrev sDLAlike : Stmt := topS 64
def dDLAlike : He.DefD := ⟨("_law_alike", none), "_law_alike", "_law_alike", defArgs sDLAlike, defBody sDLAlike, defScope sDLAlike, [], []⟩
abbrev sDLNamed : Stmt := topS 65
def dDLNamed : He.DefD := ⟨("_law_named", none), "_law_named", "_law_named", defArgs sDLNamed, defBody sDLNamed, defScope sDLNamed, [], []⟩
abbrev sDLMixed : Stmt := topS 66
def dDLMixed : He.DefD := ⟨("_law_mixed", none), "_law_mixed", "_law_mixed", defArgs sDLMixed, defBody sDLMixed, defScope sDLMixed, [], []⟩
abbrev sDLBeside : Stmt := topS 67
def dDLBeside : He.DefD := ⟨("_law_beside", none), "_law_beside", "_law_beside", defArgs sDLBeside, defBody sDLBeside, defScope sDLBeside, [], []⟩
abbrev sDLPress : Stmt := topS 68
def dDLPress : He.DefD := ⟨("_law_press", none), "_law_press", "_law_press", defArgs sDLPress, defBody sDLPress, defScope sDLPress, [], []⟩
abbrev sDLGo : Stmt := topS 71
def dDLGo : He.DefD := ⟨("_law_go", none), "_law_go", "_law_go", defArgs sDLGo, defBody sDLGo, defScope sDLGo, [], []⟩
abbrev sDLSmall : Stmt := topS 72
def dDLSmall : He.DefD := ⟨("_law_small", none), "_law_small", "_law_small", defArgs sDLSmall, defBody sDLSmall, defScope sDLSmall, [], []⟩
abbrev sDLRooms : Stmt := topS 73
def dDLRooms : He.DefD := ⟨("_law_rooms", none), "_law_rooms", "_law_rooms", defArgs sDLRooms, defBody sDLRooms, defScope sDLRooms, [], []⟩
abbrev sDLPlaces : Stmt := topS 74
def dDLPlaces : He.DefD := ⟨("_law_places", none), "_law_places", "_law_places", defArgs sDLPlaces, defBody sDLPlaces, defScope sDLPlaces, [], []⟩
abbrev sDLaw : Stmt := topS 75
def dDLaw : He.DefD := ⟨("law", none), "law", "law", defArgs sDLaw, defBody sDLaw, defScope sDLaw, [], []⟩
abbrev sHInit : Stmt := inClass sHall 0
def dHInit : He.DefD := ⟨("Hall", some "__init__"), "__init__", "Hall.__init__", defArgs sHInit, defBody sHInit, defScope sHInit, [], []⟩
abbrev sHLen : Stmt := inClass sHall 2
def dHLen : He.DefD := ⟨("Hall", some "__len__"), "__len__", "Hall.__len__", defArgs sHLen, defBody sHLen, defScope sHLen, [], []⟩
def fn1 : List He.DefD := [dDIsFrom, dDArePushes, dDNeedHall, dDNeighboursOf, dDJoinedTo, dDWingsOf, dDWeight, dDLeastOver, dDWordofl, dDKindOf, dDAreNumbers, dDChanged, dDAbleOf, dDNeverWingOf, dDPlayed, dDFirstOf, dDIsRoomOf, dDNeedRoom, dDNeedEnding, dDNeedOne, dDNeedTwo, dDIsLampOf, dDNeedWord, dDGoFrom, dDWordOf, dDNearer, dDFarther, dDIsUnder, dDIsWithin, dDGreatestOf]
def fn2 : List He.DefD := [dDGreatestBy, dDLettersFor, dDAreLetters, dDLTaken, dDLPick, dDLAlike, dDLNamed, dDLMixed, dDLBeside, dDLPress, dDLGo, dDLSmall, dDLRooms, dDLPlaces, dDLaw, dHInit, dHLen]
def fn : List He.DefD := fn1 ++ fn2
def fa1 : List He.Fa := [.glo "is_from", .glo "are_pushes", .glo "need_hall", .glo "neighbours_of", .glo "joined_to", .glo "wings_of", .glo "weight", .glo "least_over", .glo "word_of_loads", .glo "kind_of", .glo "are_numbers", .glo "changed", .glo "able_of", .glo "never_wing_of", .glo "played", .glo "first_of", .glo "is_room_of", .glo "need_room", .glo "need_ending", .glo "need_one", .glo "need_two", .glo "is_lamp_of", .glo "need_word", .glo "go_from", .glo "word_of_within", .glo "nearer", .glo "farther", .glo "is_under", .glo "is_within", .glo "greatest_of", .glo "greatest_by", .glo "letters_for", .glo "are_letters", .glo "_law_taken", .glo "_law_pick"]
def fa2 : List He.Fa := [.glo "_law_alike", .glo "_law_named", .glo "_law_mixed", .glo "_law_beside", .glo "_law_press", .glo "_law_go", .glo "_law_small", .glo "_law_rooms", .glo "_law_places", .glo "law", .glo "Hall", .cls "Hall", .mkr "Hall", .noat "Hall" "told", .meth "Hall" "__len__", .int "MOST_LAMPS" 8, .int "MOST_PUSH" 4, .int "MOST_LOAD" 400, .int "MOST_PRESSES" 5000, .int "MOST_LETTERS" 60, .str "ENDING" "ending", .str "FLAT" "flat", .str "WILD" "wild", .free "isinstance", .free "int", .free "bool", .free "tuple", .free "len", .free "all", .free "enumerate", .free "range", .free "sorted", .free "sum", .free "zip", .free "max", .free "list", .free "str", .free "any"]
def fa : List He.Fa := fa1 ++ fa2
def loose1 : List PySem.Str := (["HallError", "BadPushes", "Lopsided", "BadHall", "BadRoom", "TooLong", "BadWord", "NotEnding", "MOST_LAMPS", "MOST_PUSH", "is_from", "are_pushes"] : List PySem.Str) ++ (["Hall", "need_hall", "neighbours_of", "joined_to", "wings_of", "ENDING", "FLAT", "WILD", "MOST_LOAD", "weight", "least_over", "word_of"] : List PySem.Str) ++ (["word_of_loads", "kind_of", "load_of", "MOST_PRESSES", "are_numbers", "changed", "able_of", "sum_by", "is_against", "never_wing_of", "played"] : List PySem.Str)
def loose2 : List PySem.Str := (["first_of", "is_room_of", "need_room", "MOST_LETTERS", "need_ending", "need_one", "need_two", "is_lamp_of", "need_word", "go_from", "word_of_within", "nearer"] : List PySem.Str) ++ (["farther", "is_under", "is_within", "greatest_of", "greatest_by", "letters_for", "are_letters", "_law_taken", "_law_pick", "_law_alike", "_law_named", "_law_mixed"] : List PySem.Str) ++ (["_law_beside", "_law_press", "_law_below", "_law_home", "_law_go", "_law_small", "_law_rooms", "_law_places"] : List PySem.Str)
def loose : List PySem.Str := loose1 ++ loose2
end Kal

set_option Elab.async false
set_option linter.all false
set_option maxRecDepth 100000
set_option maxHeartbeats 0
/-! KH1: the head's run, with the facts of isinstance(x, Hall). -/
namespace Kal
open PySem PySem.Spec PyProof.Rows L2
abbrev R : PySem.W.OpenRow := PySem.W.OpenLaw.row PySem.Challenge.rw_kaleidorooms_k43_whole_letters
/-- what isinstance asks of the class besides -/
def exB (K : PySem.W.Frag) : Bool := He.eqO (PySem.W.findIn K (.ref (He.ga K "Hall")) "__class__") (some (some (.builtin "object.__class__"))) && (He.eqO (PySem.W.specialIn K (.builtin "object.__class__") "__get__") (some (some (.builtin "getset_descriptor.__get__"))) &&
  (decide (PySem.W.takesIn K (.builtin "object.__class__") = some true) && (decide (PySem.W.mroIn K (He.ga K "Hall") (.type "object") = some true) && decide (PySem.W.kitOne K (.ref (He.ga K "Hall")) (.ref (He.ga K "Hall")) = some true))))
def obK (K : PySem.W.Frag) : He.AlD × Bool := (He.obsD fa fn K, exB K)
def obsX (g : Addr → Option Obj) : He.AlD × Bool := obK (He.frG g (He.asD g 4))
def hkX : PySem.W.Hook where
  α := He.AlD × Bool
  obs := fun s => obsX s.heap.get?
  val := fun _ => (He.valD fn, true)
  says := fun _ h => ∃ K : PySem.W.Frag, K.In h ∧ He.SaysD fa fn K ∧ exB K = true
  of := fun _ _ e => ⟨_, He.frG_in, congrArg Prod.fst e, congrArg Prod.snd e⟩
  keeps := fun _ _ _ ⟨K, hK, c⟩ k => ⟨K, PySem.W.Frag.In.keeps hK k, c⟩
def obX (s : PySem.W.SharedT) : He.AlD × Bool := obsX (HandSHeadRun.getT s)
theorem obX_eq (s : PySem.W.SharedT) : obX s = hkX.obs s.abs := by
  have e : HandSHeadRun.getT s = s.abs.heap.get? := funext (HandSHeadRun.getT_eq s)
  unfold obX
  rw [e]
  rfl
theorem runX (w : World) : HandSHeadRun.RunEq R (PySem.W.view R.prog [75]) hkX obX 20000 loose w := by
  intro os
  kernel_rfl
end Kal

set_option Elab.async false
set_option linter.all false
set_option maxRecDepth 100000
set_option maxHeartbeats 4000000
/-! KR1: what a for walks: zip and enumerate over lists and tuples in any mix (over the library's Draws). -/
namespace Kal
open PySem PySem.Spec PyProof.Rows L2

/-- a list (true) or a tuple (false) at a -/
def SqB (K : PySem.W.Frag) (H : Hp) (b : Bool) (a : Addr) (xs : List V) : Prop := match b with
  | true => SqL K H a xs
  | false => SqT K H a xs
/-- .. in the heap itself -/
def IsB (h : Heap) (b : Bool) (a : Addr) (its : Array Value) : Prop := match b with
  | true => h.IsList a its
  | false => h.IsTuple a its
def ItB (h : Heap) (b : Bool) (it a : Addr) (i : Nat) : Prop := match b with
  | true => h.IsListIter it a i
  | false => h.IsTupleIter it a i
def itObj (b : Bool) (a : Addr) : Obj := match b with
  | true => { cls := .type "list_iterator", data := .fields #[.ref a, .int 0 0] }
  | false => { cls := .type "tuple_iterator", data := .fields #[.ref a, .int 0 0] }
theorem IsB.lt {h : Heap} {b : Bool} {a : Addr} {its : Array Value} (p : IsB h b a its) : a < h.objs.size := by
  cases b with
  | true => obtain ⟨o, e, _⟩ := (show h.IsList a its from p); exact Heap.lt_size e
  | false => obtain ⟨o, e, _⟩ := (show h.IsTuple a its from p); exact Heap.lt_size e
theorem ItB.obj {h : Heap} {b : Bool} {it a : Addr} {i : Nat} (p : ItB h b it a i) : ∃ o, h.get? it = some o ∧ ∀ v, o.data ≠ .cell v := by
  cases b with
  | true => obtain ⟨o, e, _, d⟩ := (show h.IsListIter it a i from p); exact ⟨o, e, fun v q => by rw [d] at q; cases q⟩
  | false => obtain ⟨o, e, _, d⟩ := (show h.IsTupleIter it a i from p); exact ⟨o, e, fun v q => by rw [d] at q; cases q⟩
theorem ItB.at {h h' : Heap} {b : Bool} {it a : Addr} {i : Nat} (p : ItB h b it a i) (k : ∀ o, h.get? it = some o → h'.get? it = some o) : ItB h' b it a i := by
  cases b with
  | true => exact Heap.IsListIter.at (show h.IsListIter it a i from p) k
  | false => exact Heap.IsTupleIter.at (show h.IsTupleIter it a i from p) k
theorem ItB.lt {h : Heap} {b : Bool} {it a : Addr} {i : Nat} (p : ItB h b it a i) : it < h.objs.size := by
  obtain ⟨o, e, _⟩ := p.obj
  exact Heap.lt_size e
theorem ItB.new {h : Heap} {b : Bool} {it a : Addr} (e : h.get? it = some (itObj b a)) : ItB h b it a 0 := by
  cases b with
  | true => exact ⟨_, e, rfl, rfl⟩
  | false => exact ⟨_, e, rfl, rfl⟩
theorem beginsB (b : Bool) (a : Addr) (its : Array Value) : Begins (.ref a) (itObj b a) fun h => IsB h b a its := by
  cases b with
  | true => exact begins_list a its
  | false => exact begins_tuple a its
theorem drawsB {prog : Program} {w : World} {A : Around} (hh : A.handled = none) (b : Bool) (it a : Addr) (hne : a ≠ it) (its : Array Value) :
    Draws prog w A it [it, a] its.size (fun i v => its[i]? = some v) (fun i h => ItB h b it a i ∧ IsB h b a its) := by
  cases b with
  | true => exact Draws.list hh it a hne its
  | false => exact Draws.tuple hh it a hne its
section
variable {X : Cx} {pins : List (Addr × Obj)} {σ : L2.St} {H : Hp} {s : Shared}
theorem inv_seq (I : Inv X pins σ H s) {b : Bool} {a : Addr} {xs : List V} (h : SqB X.K H b a xs) : ∃ its : List Value, Vals xs its ∧ IsB s.heap b a its.toArray := by
  cases b with
  | true =>
    obtain ⟨its, r, p, _⟩ := I.list h
    exact ⟨its, r, p.isList⟩
  | false =>
    obtain ⟨its, r, p, _⟩ := I.tuple h
    exact ⟨its, r, show s.heap.IsTuple a its.toArray from p⟩
theorem inv_seq_inj (I : Inv X pins σ H s) {b : Bool} {a : Addr} {xs ys : List V} (h : SqB X.K H b a xs) (h' : SqB X.K H b a ys) : xs = ys := by
  cases b with
  | true => exact I.list_inj h h'
  | false => exact I.tuple_inj h h'
end

/-! ### zip -/
/-- the sequences at a and b as they stand at each turn, the items in new pairs -/
def ItzB (K : PySem.W.Frag) (b1 : Bool) (a : Addr) (b2 : Bool) (b : Addr) : It where
  go := fun i H => ∃ (xs ys : List V) (x y : V), SqB K H b1 a xs ∧ SqB K H b2 b ys ∧ xs[i]? = some x ∧ ys[i]? = some y
  yld := fun i H v H' => ∃ T x y, v = .ref T ∧ H T = none ∧ H' = upd H T (.tup [x, y]) ∧ (∀ xs, SqB K H b1 a xs → xs[i]? = some x) ∧ (∀ ys, SqB K H b2 b ys → ys[i]? = some y)
  stop := fun i H => ∃ xs ys : List V, SqB K H b1 a xs ∧ SqB K H b2 b ys ∧ xs.length = i ∧ ys.length = i
/-- the five cells of a zip that is made at N -/
def zipSt (N : Nat) (b1 : Bool) (a : Addr) (b2 : Bool) (b : Addr) (i : Nat) (h : Heap) : Prop :=
  a < N ∧ b < N ∧ IsZip h (N + 4) (N + 2) (N + 3) .none ∧ IsTupOf2 h (N + 2) (.ref N) (.ref (N + 1 : Nat)) ∧ (∃ x y, IsTupOf2 h (N + 3) x y) ∧ ItB h b1 N a i ∧ ItB h b2 (N + 1) b i
theorem five {N c : Nat} (h : c ∈ [N + 4, N + 2, N + 3, N, N + 1]) : c = N + 4 ∨ c = N + 2 ∨ c = N + 3 ∨ c = N ∨ c = N + 1 := by simpa using h
theorem sep_ab {N : Nat} {a b : Addr} (ha : a < N) (hb : b < N) : ZipSep2 (N + 4) (N + 2) (N + 3) N (N + 1) [N, a] [N + 1, b] :=
  zip_sep2 (fp1 := [a]) (fp2 := [b]) (fun c hc => by rw [List.mem_singleton.mp hc]; exact ha) (fun c hc => by rw [List.mem_singleton.mp hc]; exact hb)
theorem turn_zipB {P : Program} {w : World} {K : PySem.W.Frag} {elts : List Expr} {kk : Nat} {tpos : Pos} {N : Nat} {b1 b2 : Bool} {a b : Addr} :
    Turn P w K (.Tuple elts kk tpos) (ItzB K b1 a b2 b) [N + 4, N + 2, N + 3, N, N + 1] (N + 4 : Nat) (zipSt N b1 a b2 b) where
  mem := by simp
  obj := fun i h st c hc => by
    obtain ⟨_, _, hz, hT, ⟨x, y, hO⟩, h1, h2⟩ := st
    rcases five hc with q | q | q | q | q <;> subst q
    · exact ⟨_, hz, fun v z => nomatch z⟩
    · exact ⟨_, hT, fun v z => nomatch z⟩
    · exact ⟨_, hO, fun v z => nomatch z⟩
    · exact h1.obj
    · exact h2.obj
  keep := fun i h h' st k => by
    obtain ⟨la, lb, hz, hT, ⟨x, y, hO⟩, h1, h2⟩ := st
    exact ⟨la, lb, k _ (by simp) _ hz, k _ (by simp) _ hT, ⟨x, y, k _ (by simp) _ hO⟩, h1.at fun o => k _ (by simp) o, h2.at fun o => k _ (by simp) o⟩
  item := by
    intro X hP hw hK hc i pins s σ H E I hf st hg
    subst hP hw hK
    obtain ⟨la, lb, hz, hT, ⟨x0, y0, hO⟩, h1, h2⟩ := st
    obtain ⟨xs, ys, x, y, qa, qb, hx, hy⟩ := hg
    obtain ⟨is1, r1, p1⟩ := inv_seq I qa
    obtain ⟨is2, r2, p2⟩ := inv_seq I qb
    obtain ⟨u1, hu1, ru1⟩ := r1.get hx
    obtain ⟨u2, hu2, ru2⟩ := r2.get hy
    have lz : N + 4 < s.heap.objs.size := Heap.lt_size hz
    have hh : X.A.in1.handled = none := I.ok.hd hc
    have ne1 : a ≠ N := Nat.ne_of_lt la
    have ne2 : b ≠ N + 1 := Nat.ne_of_lt (Nat.lt_succ_of_lt lb)
    have g1 : i < is1.toArray.size := by
      obtain ⟨q, _⟩ := List.getElem?_eq_some_iff.mp hu1
      simpa using q
    have g2 : i < is2.toArray.size := by
      obtain ⟨q, _⟩ := List.getElem?_eq_some_iff.mp hu2
      simpa using q
    refine wpAny_pyNext_zipD2_item (sep_ab la lb) (drawsB hh b1 N a ne1 is1.toArray) (drawsB hh b2 (N + 1) b ne2 is2.toArray) hz hT hO ⟨h1, p1⟩ ⟨h2, p2⟩ g1 g2
      fun v1 v2 h' tk e1 e2 z' O' i1' i2' hP hsz hk => ?_
    have ev1 : v1 = u1 := Option.some.inj ((show is1.toArray[i]? = some v1 from e1).symm.trans (by simpa using hu1))
    have ev2 : v2 = u2 := Option.some.inj ((show is2.toArray[i]? = some v2 from e2).symm.trans (by simpa using hu2))
    subst ev1 ev2
    refine ⟨_, rfl, wpAny_letOwnedTupleGo_zip (s := { s with heap := h', toks := tk }) z' fun h'' z'' sb => ?_⟩
    have hP2 : h''.get? s.heap.objs.size = some { cls := .type "tuple", data := .seq #[v1, v2] } := (sb.2 _ (Nat.ne_of_gt lz)).trans hP
    have new : ObjOk X.prog X.w (upd H s.heap.objs.size (.tup [x, y])) h'' s.heap.objs.size (.tup [x, y]) :=
      ⟨by show 2 ≤ sizeLine; decide, [v1, v2], .cons ru1 (.cons ru2 .nil), ⟨_, hP2, rfl, _, rfl⟩⟩
    have kp : ∀ c o, c ∉ [N + 4, N + 2, N + 3, N, N + 1] → s.heap.get? c = some o → h''.get? c = some o := fun c o hn e =>
      (sb.2 c fun q => hn (by simp [q])).trans (hk c o (fun q => hn (by simp [q])) (fun q => hn (by simp [q])) (fun q => hn (by simp [q])) (fun q => hn (by simp [q])) e)
    have I1 : Inv X pins σ (upd H s.heap.objs.size (.tup [x, y])) { s with heap := h'', toks := tk } :=
      I.turnedNew (t' := tk) (ch := [N + 4, N + 2, N + 3, N, N + 1]) kp hf (Nat.le_refl _) new
    have d2 : (N + 2 : Nat) ≠ N + 4 ∧ (N + 2 : Nat) ≠ N + 3 ∧ (N + 2 : Nat) ≠ N ∧ (N + 2 : Nat) ≠ N + 1 ∧ (N + 3 : Nat) ≠ N + 4 ∧ (N : Nat) ≠ N + 4 ∧ (N + 1 : Nat) ≠ N + 4 := by omega
    refine ⟨.ref s.heap.objs.size, _, I1, rfl, ⟨_, x, y, rfl, I.hok.fresh (Nat.le_refl _), rfl, fun l hl => by rw [inv_seq_inj I hl qa]; exact hx, fun l hl => by rw [inv_seq_inj I hl qb]; exact hy⟩,
      ⟨la, lb, z'', (sb.2 _ d2.1).trans (hk _ _ d2.1 d2.2.1 d2.2.2.1 d2.2.2.2.1 hT), ⟨v1, v2, (sb.2 _ d2.2.2.2.2.1).trans O'⟩, i1'.1.at fun o q => (sb.2 _ d2.2.2.2.2.2.1).trans q, i2'.1.at fun o q => (sb.2 _ d2.2.2.2.2.2.2).trans q⟩, fun c hcm => ?_⟩
    have hlt : c < s.heap.objs.size := by
      have lz2 : (N + 4 : Nat) < s.heap.objs.size := lz
      rcases five hcm with q | q | q | q | q <;> (rw [q]; show (_ : Nat) < _; omega)
    rw [upd_ne (Nat.ne_of_lt hlt)]
    exact (hf c hcm).1
  done := by
    intro X hP hw hK hc i pins s σ H E I hf st hg
    subst hP hw hK
    obtain ⟨la, lb, hz, hT, ⟨x0, y0, hO⟩, h1, h2⟩ := st
    obtain ⟨xs, ys, qa, qb, l1, l2⟩ := hg
    obtain ⟨is1, r1, p1⟩ := inv_seq I qa
    obtain ⟨is2, r2, p2⟩ := inv_seq I qb
    have hh : X.A.in1.handled = none := I.ok.hd hc
    have e1 : is1.toArray.size = i := by rw [List.size_toArray, ← r1.length, l1]
    have e2 : is2.toArray.size = i := by rw [List.size_toArray, ← r2.length, l2]
    refine wpAny_pyNext_zipD2_end (sep_ab la lb) (drawsB hh b1 N a (Nat.ne_of_lt la) is1.toArray) (drawsB hh b2 (N + 1) b (Nat.ne_of_lt (Nat.lt_succ_of_lt lb)) is2.toArray) hz hT hO ⟨h1, p1⟩ ⟨h2, p2⟩
      (by omega) (by omega) (by omega) fun h' tk hk => ⟨rfl, ?_⟩
    exact I.turnedL (t' := tk) (ch := [N + 4, N + 2, N + 3, N, N + 1]) (fun c o hn q => hk c o (fun z => hn (by simp [z])) (fun z => hn (by simp [z])) (fun z => hn (by simp [z])) (fun z => hn (by simp [z])) q) hf
  self := fun A i s Q E st h => wpAny_pyIter_zip st.2.2.1 h
def iZipB (K : PySem.W.Frag) (ta : TA) : TI := fun σ H R => ta σ H fun vs H1 => ∃ b1 a xs b2 b ys, vs = [.ref a, .ref b] ∧ SqB K H1 b1 a xs ∧ SqB K H1 b2 b ys ∧ R (ItzB K b1 a b2 b) H1
theorem pi_zipB {X : Cx} {e e2 : Expr} {ta : TA} {p pos tpos : Pos} {elts : List Expr} {kk : Nat} (hg : Gl X "zip") (hm : X.mg "zip" = none) (ha : PA X [e, e2] ta)
    (hs : starEach [e, e2] X.env = (false, eval e X.env) :: starEach [e2] X.env := by rfl) (hpl : (backTo pos (starEach [e2] X.env)).any (·.1) = false := by rfl) :
    PI X (.Tuple elts kk tpos) (.Call (.Name "zip" p) [e, e2] [] pos) (iZipB X.K ta) := by
  refine ⟨fun pins s σ H R I h => ?_⟩
  refine Call_ (ld_blt I hg hm PyProof.Rows.boot_zip (PyProof.Rows.callWith_type1 (thn (ha.run pos pins s σ H _ I h) fun us s1 ⟨vs, H1, I1, r1, q1⟩ => ?_) hs hpl))
  obtain ⟨b1, a, xs, b2, b, ys, ex, qa, qb, q⟩ := q1
  subst ex
  obtain ⟨v1, v2, rfl, rv1, rv2⟩ := vals2 r1
  cases rv1
  cases rv2
  obtain ⟨is1, _, p1⟩ := inv_seq I1 qa
  obtain ⟨is2, _, p2⟩ := inv_seq I1 qb
  refine zip_begins2 (beginsB b1 a is1.toArray) (beginsB b2 b is2.toArray) p1 p2 fun h' hz hT hO e1 e2 hsz hk => wpAny_pyIter_zip hz ?_
  refine ⟨_, [s1.heap.objs.size + 4, s1.heap.objs.size + 2, s1.heap.objs.size + 3, s1.heap.objs.size, s1.heap.objs.size + 1], _, _, H1, rfl, I1.kept (t' := s1.toks) hk, turn_zipB,
    ⟨p1.lt, p2.lt, hz, hT, ⟨_, _, hO⟩, .new e1, .new e2⟩, fun c hc => ?_, q⟩
  have hle : s1.heap.objs.size ≤ c := by
    rcases five hc with z | z | z | z | z <;> (rw [z]; show (_ : Nat) ≤ _; omega)
  exact I1.fpOk hle (I1.hok.fresh hle)

theorem walk_zipB {K : PySem.W.Frag} {b1 b2 : Bool} {a b : Addr} {xs ys : List V} (hl : xs.length = ys.length) :
    Walk (ItzB K b1 a b2 b) xs.length (fun H => SqB K H b1 a xs ∧ SqB K H b2 b ys) (YPair (fun i => xs[i]?) fun i => ys[i]?) where
  goes := fun i H hi q => ⟨xs, ys, xs[i], ys[i]'(hl ▸ hi), q.1, q.2, List.getElem?_eq_getElem hi, List.getElem?_eq_getElem (hl ▸ hi)⟩
  stops := fun H q => ⟨xs, ys, q.1, q.2, rfl, hl.symm⟩
  yields := fun i H x H' _ q y => by
    obtain ⟨T, u, v, e1, e2, e3, f1, f2⟩ := y
    exact ⟨T, u, v, e1, e2, e3, f1 xs q.1, f2 ys q.2⟩

/-! ### enumerate -/
def IteB (K : PySem.W.Frag) (b : Bool) (a : Addr) : It where
  go := fun i H => ∃ (xs : List V) (x : V), SqB K H b a xs ∧ xs[i]? = some x
  yld := fun i H v H' => ∃ T x, v = .ref T ∧ H T = none ∧ H' = upd H T (.tup [.int (i : Nat), x]) ∧ ∀ xs, SqB K H b a xs → xs[i]? = some x
  stop := fun i H => ∃ xs : List V, SqB K H b a xs ∧ xs.length = i
theorem enum_newB {v : Value} {o : Obj} {HP : Heap → Prop} (B : Begins v o HP) :
    Meets (Builtin.«enumerate.__new__» ⟨[.type "enumerate", v], []⟩) (fun _ R s => HP s.heap ∧
      R (.ok (.ret (.ref (s.heap.push o).objs.size))) { s with heap := (s.heap.push o).push { cls := .type "enumerate", data := .fields #[.none, .bool false, .ref s.heap.objs.size, rawInt 0, .none, .none] } }) :=
  .of_wp fun prog w A R s h => by
    obtain ⟨hp, g, d, tk, os⟩ := s
    obtain ⟨h1, h⟩ := h
    have hsub := sub_enumerate
    have begin1 : ∀ {A' : Around} {E : Value → Shared → Prop} {Q : Value → Shared → Prop}, Q (.ref hp.objs.size) ⟨hp.push o, g, d, tk, os⟩ → wpAny (model prog w) A' (pyIter v) Q E ⟨hp, g, d, tk, os⟩ :=
      fun q => B.iter prog w _ _ _ _ h1 q
    wp_walk using begin1
    refine wpAny_stack_any fun st => wpAny_pure ?_
    split
    · rename_i c _ _ _ _ _
      cases (c == Value.type "enumerate") <;> (wp_walk using begin1; exact ⟨_, rfl, h⟩)
    · (wp_walk using begin1; exact ⟨_, rfl, h⟩)
theorem call_enumB {prog : Program} {w : World} {A : Around} {E : Value → Shared → Prop} {s : Shared} {v : Value} {o : Obj} {HP : Heap → Prop} {Q : Value → Shared → Prop} (B : Begins v o HP) (h1 : HP s.heap)
    (h : ∀ h', IsEnum h' (s.heap.objs.size + 1) s.heap.objs.size 0 .none → h'.get? s.heap.objs.size = some o → (∀ b o, s.heap.get? b = some o → h'.get? b = some o) → Q (.ref (s.heap.objs.size + 1)) { s with heap := h' }) :
    wpAny (model prog w) A (call (.type "enumerate") [v]) Q E s := by
  refine callType_new F.called_enumerate (by decide) (F.typeCall_enumerate_1 _) (F.newCall_enumerate_1 _) (fun obj => F.args_object_init_2 obj _) F.entry_enumerate_new (enum_newB B) ⟨h1, ?_⟩
  have hz : (s.heap.push o).objs.size = s.heap.objs.size + 1 := Heap.size_push ..
  show _ ∧ _
  rw [hz]
  have he : IsEnum ((s.heap.push o).push { cls := .type "enumerate", data := .fields #[.none, .bool false, .ref s.heap.objs.size, rawInt 0, .none, .none] }) (s.heap.objs.size + 1) s.heap.objs.size 0 .none := by
    have q := Heap.get?_push_size (s.heap.push o) (o := { cls := .type "enumerate", data := .fields #[.none, .bool false, .ref s.heap.objs.size, rawInt 0, .none, .none] }) rfl
    rw [hz] at q
    exact q
  exact ⟨⟨_, he, rfl⟩, h _ he (Heap.get?_push_of_some _ (Heap.get?_push_size _ B.free)) fun b o x => Heap.get?_push_of_some _ (Heap.get?_push_of_some _ x)⟩
def enumSt (N : Nat) (b : Bool) (a : Addr) (i : Nat) (h : Heap) : Prop := a < N ∧ (∃ old, IsEnum h (N + 1) N ((i : Nat) : Int) old) ∧ ItB h b N a i
theorem two {N c : Nat} (h : c ∈ [N + 1, N]) : c = N + 1 ∨ c = N := by simpa using h
theorem turn_enumB {P : Program} {w : World} {K : PySem.W.Frag} {elts : List Expr} {kk : Nat} {tpos : Pos} {N : Nat} {b : Bool} {a : Addr} :
    Turn P w K (.Tuple elts kk tpos) (IteB K b a) [N + 1, N] (N + 1 : Nat) (enumSt N b a) where
  mem := by simp
  obj := fun i h st c hc => by
    obtain ⟨_, ⟨old, he⟩, h1⟩ := st
    rcases two hc with q | q <;> subst q
    · exact ⟨_, he, fun v z => nomatch z⟩
    · exact h1.obj
  keep := fun i h h' st k => by
    obtain ⟨la, ⟨old, he⟩, h1⟩ := st
    exact ⟨la, ⟨old, k _ (by simp) _ he⟩, h1.at fun o => k _ (by simp) o⟩
  item := by
    intro X hP hw hK hc i pins s σ H E I hf st hg
    subst hP hw hK
    obtain ⟨la, ⟨old, he⟩, h1⟩ := st
    obtain ⟨xs, x, qa, hx⟩ := hg
    obtain ⟨is1, r1, p1⟩ := inv_seq I qa
    obtain ⟨u1, hu1, ru1⟩ := r1.get hx
    have le : N + 1 < s.heap.objs.size := Heap.lt_size he
    have hh : X.A.in1.handled = none := I.ok.hd hc
    have ne1 : a ≠ N := Nat.ne_of_lt la
    have g1 : i < is1.toArray.size := by
      obtain ⟨q, _⟩ := List.getElem?_eq_some_iff.mp hu1
      simpa using q
    have dif : (N + 1 : Nat) ≠ N ∧ (N : Nat) ≠ N + 1 := by omega
    have nf : (N + 1 : Nat) ∉ [N, a] := fun q => by
      have q2 : (N + 1 : Nat) = N ∨ (N + 1 : Nat) = a := by simpa using q
      rcases q2 with q2 | q2
      · exact Nat.succ_ne_self N q2
      · exact Nat.lt_irrefl _ (Nat.lt_of_lt_of_le la (by rw [← q2]; exact Nat.le_succ N))
    refine wpAny_pyNext_enum_itemD (drawsB hh b N a ne1 is1.toArray) he ⟨h1, p1⟩ g1 dif.1 nf fun v1 h' tk e1 o' s' hP hsz hk => ?_
    have ev1 : v1 = u1 := Option.some.inj ((show is1.toArray[i]? = some v1 from e1).symm.trans (by simpa using hu1))
    subst ev1
    refine ⟨_, rfl, wpAny_letOwnedTupleGo_enum (s := { s with heap := h', toks := tk + 1 }) o' fun h'' he' sb => ?_⟩
    have hP2 : h''.get? s.heap.objs.size = some { cls := .type "tuple", data := .seq #[.int i tk, v1] } := (sb.2 _ (Nat.ne_of_gt le)).trans hP
    have new : ObjOk X.prog X.w (upd H s.heap.objs.size (.tup [.int (i : Nat), x])) h'' s.heap.objs.size (.tup [.int (i : Nat), x]) :=
      ⟨by show 2 ≤ sizeLine; decide, [.int i tk, v1], .cons ⟨_, rfl⟩ (.cons ru1 .nil), ⟨_, hP2, rfl, _, rfl⟩⟩
    have kp : ∀ c o, c ∉ [N + 1, N] → s.heap.get? c = some o → h''.get? c = some o := fun c o hn e =>
      (sb.2 c fun q => hn (by simp [q])).trans (hk c o (fun q => hn (by simp [q])) (fun q => hn (by simp [q])) e)
    have I1 : Inv X pins σ (upd H s.heap.objs.size (.tup [.int (i : Nat), x])) { s with heap := h'', toks := tk + 1 } :=
      I.turnedNew (t' := tk + 1) (ch := [N + 1, N]) kp hf (Nat.le_refl _) new
    refine ⟨.ref s.heap.objs.size, _, I1, rfl, ⟨_, x, rfl, I.hok.fresh (Nat.le_refl _), rfl, fun l hl => by rw [inv_seq_inj I hl qa]; exact hx⟩, ⟨la, ⟨v1, ?_⟩, s'.1.at fun o q => (sb.2 _ dif.2).trans q⟩, fun c hcm => ?_⟩
    · have e2 : ((i + 1 : Nat) : Int) = (i : Int) + 1 := by omega
      rw [e2]
      exact he'
    · have hlt : c < s.heap.objs.size := by
        have le2 : (N + 1 : Nat) < s.heap.objs.size := le
        rcases two hcm with q | q <;> (rw [q]; show (_ : Nat) < _; omega)
      rw [upd_ne (Nat.ne_of_lt hlt)]
      exact (hf c hcm).1
  done := by
    intro X hP hw hK hc i pins s σ H E I hf st hg
    subst hP hw hK
    obtain ⟨la, ⟨old, he⟩, h1⟩ := st
    obtain ⟨xs, qa, l1⟩ := hg
    obtain ⟨is1, r1, p1⟩ := inv_seq I qa
    have hh : X.A.in1.handled = none := I.ok.hd hc
    have e1 : is1.toArray.size = i := by rw [List.size_toArray, ← r1.length, l1]
    obtain ⟨f0, f1, f2, f3, f4, f5⟩ := hf N (by simp)
    refine wpAny_pyNext_enum_endD (drawsB hh b N a (Nat.ne_of_lt la) is1.toArray) he (by rw [e1]; exact ⟨h1, p1⟩) fun h' hx => ⟨rfl, ?_⟩
    exact I.turned (t' := s.toks) (fun c o hb q => hx c o hb q) f0 f1 f3 f4 f5
  self := fun A i s Q E st h => by
    obtain ⟨_, ⟨_, he⟩, _⟩ := st
    exact wpAny_pyIter_enum he h
def iEnumB (K : PySem.W.Frag) (ta : TA) : TI := fun σ H R => ta σ H fun vs H1 => ∃ b a xs, vs = [.ref a] ∧ SqB K H1 b a xs ∧ R (IteB K b a) H1
theorem pi_enumB {X : Cx} {e : Expr} {ta : TA} {p pos tpos : Pos} {elts : List Expr} {kk : Nat} (hg : Gl X "enumerate") (hm : X.mg "enumerate" = none) (ha : PA X [e] ta) (hs : starEach [e] X.env = [(false, eval e X.env)] := by rfl) :
    PI X (.Tuple elts kk tpos) (.Call (.Name "enumerate" p) [e] [] pos) (iEnumB X.K ta) := by
  refine ⟨fun pins s σ H R I h => ?_⟩
  refine Call_ (ld_blt I hg hm boot_enumerate (PyProof.Rows.callWith_type1 (thn (ha.run pos pins s σ H _ I h) fun us s1 ⟨vs, H1, I1, r1, q1⟩ => ?_) hs rfl))
  obtain ⟨b, a, xs, ex, qa, q⟩ := q1
  subst ex
  obtain ⟨v1, rfl, rv1⟩ := vals1 r1
  cases rv1
  obtain ⟨is1, _, p1⟩ := inv_seq I1 qa
  refine call_enumB (beginsB b a is1.toArray) p1 fun h' he e1 hk => wpAny_pyIter_enum he ?_
  refine ⟨_, [s1.heap.objs.size + 1, s1.heap.objs.size], _, _, H1, rfl, I1.kept (t' := s1.toks) hk, turn_enumB, ⟨p1.lt, ⟨_, he⟩, .new e1⟩, fun c hc => ?_, q⟩
  have hle : s1.heap.objs.size ≤ c := by
    rcases two hc with z | z <;> (rw [z]; show (_ : Nat) ≤ _; omega)
  exact I1.fpOk hle (I1.hok.fresh hle)
/-- a new pair of the turn and the i-th of xs -/
def YEnum (xs : List V) : Nat → Hp → V → Hp → Prop := fun i H v H' => ∃ T x, v = .ref T ∧ H T = none ∧ H' = upd H T (.tup [.int (i : Nat), x]) ∧ xs[i]? = some x
theorem walk_enumB {K : PySem.W.Frag} {b : Bool} {a : Addr} {xs : List V} : Walk (IteB K b a) xs.length (fun H => SqB K H b a xs) (YEnum xs) where
  goes := fun i H hi q => ⟨xs, xs[i], q, List.getElem?_eq_getElem hi⟩
  stops := fun H q => ⟨xs, q, rfl⟩
  yields := fun i H x H' _ q y => by
    obtain ⟨T, u, e1, e2, e3, f1⟩ := y
    exact ⟨T, u, e1, e2, e3, f1 xs q⟩
end Kal

set_option Elab.async false
set_option linter.all false
set_option maxRecDepth 100000
set_option maxHeartbeats 4000000
/-! KR2: single rules: extend by a tuple, len of an own instance, xs[i] for xs[i] op= e, a tuple of one item told k times, t[::-1]. -/
namespace Kal
open PySem PySem.Spec PyProof.Rows L2

section
variable {X : Cx}
/-! ### xs.extend(t) -/
def rExtT : V → List V → Hp → VK → Prop := fun x vs H Q => ∃ l b xs zs, x = .ref l ∧ vs = [.ref b] ∧ H l = some (.lst xs) ∧ H b = some (.tup zs) ∧ xs.length + zs.length ≤ 1000 ∧ Q .non (upd H l (.lst (xs ++ zs)))
theorem ext_tupW (l : Addr) (items : Array Value) (n : Nat) (b : Addr) (items2 : Array Value) (n2 : Nat) (dd : Option Addr) (sl : Array (Option Value)) (hs0 : ¬(!items.isEmpty && Builtin.List.listTooLong (items.size + items2.size)) = true) (hs1 : items.size ≤ sizeLine)
    (hs2 : items.size + items2.size ≤ sizeLine + 1) :
    Meets (Builtin.«list.extend» ⟨[.ref l, .ref b], []⟩) (fun _ R s => s.heap.get? l = some { cls := .type "list", dict := none, data := .seq items n, slots := #[] } ∧
      s.heap.get? b = some { cls := .type "tuple", dict := dd, data := .seq items2 n2, slots := sl } ∧ R (.ok (.ret Value.none)) { s with heap := s.heap.update l (Obj.mapSeq fun x => x ++ items2), toks := s.toks }) :=
  .of_wp fun prog w A R s h => by
    obtain ⟨hp, g, d, tk, os⟩ := s
    obtain ⟨hl, hb, h⟩ := h
    have f1 := AutoSeq1.sub_list_tuple
    have f2 := AutoSeq1.sub_tuple_tuple
    have f3 := AutoSeq1.sub_tuple_list
    have hz' : (items ++ items2).size ≤ sizeLine + 1 := by rw [Array.size_append]; exact hs2
    wp_walk using (wpAny_updateSeq hl rfl (hz := hs1) (_hz' := hz')), AutoSeq1.wpAny_loadPart' hl, AutoSeq1.wpAny_loadPart' hb
    exact ⟨_, rfl, h⟩
theorem mt_extT : MtM X "list.extend" rExtT := by
  intro pins s σ H x vs v us Q I rx rv h
  obtain ⟨l, b, xs, zs, rfl, rfl, hH, hB, hz, q⟩ := h
  cases rx
  obtain ⟨u, rfl, ru⟩ := rv.one
  cases ru
  obtain ⟨z, its, n, r, hl, e⟩ := I.lstM hH
  obtain ⟨its2, r2, ⟨⟨cls, dd, data, sl⟩, ho, hc, n2, hd⟩, _⟩ := I.tuple (a := b) (xs := zs) (.inl (.inl hB))
  simp only at hc hd
  subst hc hd
  have l1 := r.length
  have l2 := r2.length
  have hsz : its.toArray.size + its2.toArray.size ≤ sizeLine := by rw [List.size_toArray, List.size_toArray, sizeLine_eq]; omega
  have hlong : ¬ (!its.toArray.isEmpty && Builtin.List.listTooLong (its.toArray.size + its2.toArray.size)) = true := by
    rw [notLongL hsz, Bool.and_false]
    exact Bool.false_ne_true
  refine call_meets F.slot_list_extend ⟨_, e, rfl⟩ F.entry_list_extend (F.args_list_extend_2 _ _) (ext_tupW l its.toArray n b its2.toArray n2 dd sl hlong (by omega) (by omega)) ⟨e, ho, ?_⟩
  refine ⟨.non, _, I.lset (its' := its ++ its2) hH e (by simp) (r.append r2) ?_, rfl, q⟩
  rw [List.length_append, sizeLine_eq]
  omega

/-! ### xs[i], for xs[i] op= e -/
theorem pget_list : PGet X (rIxL X.K) := by
  intro pins s σ H o i ov iv Q I ro ri h
  obtain ⟨p, xs, k, z, rfl, rfl, hq, he, q⟩ := h
  cases ro
  obtain ⟨t, rfl⟩ := ri
  obtain ⟨its, r, pl, hz⟩ := I.list hq
  obtain ⟨j, h1, h2, h3, h4, h5⟩ := atI_get he
  obtain ⟨w, ew, rw'⟩ := r.get h2
  have hl := r.length
  have hn := line63
  have fin : EP X pins σ Q w s := ⟨z, H, I, rw', q⟩
  by_cases h0 : 0 ≤ k
  · have hj : k.toNat = j := by
      rw [seqIndex_of h0 h5] at h1
      exact Option.some.inj h1
    exact wpAny_getItem_list pl.isList h0 (by omega) (by rw [hj]; simpa using ew) fin
  · have hj : (k + (its.toArray.size : Int)).toNat = j := by
      rw [seqIndex_neg (by omega) h4] at h1
      rw [List.size_toArray, ← hl]
      exact Option.some.inj h1
    exact wpAny_getItem_list_neg pl.isList (by omega) (by rw [List.size_toArray] <;> omega) (by omega) (by rw [hj]; simpa using ew) fin

/-! ### len(x), x an own instance -/
def rLenOwn (C : Addr) (sp : Sp) : List V → Hp → VK → Prop := fun xs H Q => ∃ a dx fs, xs = [V.ref a] ∧ H a = some (.ins C dx fs) ∧ sp [.ref a] H (fun z H' => ∃ n : Nat, z = .int n ∧ n ≤ 1000 ∧ Q (.int n) H') E0
theorem call_lenOwn {C f : Addr} {k : Nat} {fd : FuncData} {ps : List Str} {sp : Sp} (c : Cls X.K C) (hs : PySem.W.findIn X.K (.ref C) "__len__" = some (some (.ref f))) (hf : PySem.W.isFn X.K (.ref f) = true) (F : FnOk X.prog X.w X.K X.mg X.base CX0 k f fd ps sp) (hr : Room (k + 1) X.A)
    (hb : Binds X.K fd ps []) : CallR X (.builtin "len") (rLenOwn C sp) := by
  intro pins s σ H xs us Q I r h
  obtain ⟨a, dx, fs, rfl, ea, q⟩ := h
  obtain ⟨u, rfl, ru⟩ := vals1 r
  obtain rfl : u = Value.ref a := ru
  obtain ⟨mA, O, _, _, _, _⟩ := ins_get I.hok ea
  obtain ⟨od, J, _⟩ := O.look
  obtain ⟨m, hF⟩ := I.fr
  refine PySem.W.len_K hF I.ok.mod.kin J hs hf (wpAny_call (codeAny_mono (F.run X.A.in1 X.stack s H ⟨[.ref a], []⟩ [.ref a] [.ref a] _ _ hr.in1 I.env0.in1 (hb s [.ref a] I.kIn (F.len _ _ _ _ q).symm.symm) (.cons rfl .nil) q) fun r s' hq => ?_))
  cases r with
  | error e => exact hq.elim
  | ok fl =>
    cases fl with
    | ret u =>
      obtain ⟨v, H', I3, rv, n, e, hn, q3⟩ := I.after hq
      subst e
      obtain ⟨t, rfl⟩ := rv
      exact ⟨⟨by omega, by omega⟩, .int n, H', I3.tok _, ⟨_, rfl⟩, q3⟩
    | next => exact False.elim hq
    | brk => exact False.elim hq
    | cont => exact False.elim hq

/-! ### (v,) * k -/
theorem tuple_mul1W (l : Addr) (items : Array Value) (n : Nat) (dd : Option Addr) (sl : Array (Option Value)) (u : Tok) :
    Meets (Builtin.«tuple.__mul__» ⟨[.ref l, .int 1 u], []⟩) (fun _ R s => s.heap.get? l = some { cls := .type "tuple", dict := dd, data := .seq items n, slots := sl } ∧ R (.ok (.ret (Value.ref l))) s) :=
  .of_wp fun prog w A R s h => by
    obtain ⟨hp, g, d, tk, os⟩ := s
    obtain ⟨hl, h⟩ := h
    have f1 := AutoSeq1.idx_int
    have f2 : ((decide ((1 : Int) < -(2 ^ 63)) || decide ((1 : Int) ≥ 2 ^ 63)) = true) = False := by simp
    have f3 : (items.isEmpty || (1 : Int) == 1) = true := by simp
    wp_walk using AutoSeq1.wpAny_loadPart' hl
    repeat (first
      | (refine wpAny_ite_false (by simp) ?_; wp_walk using AutoSeq1.wpAny_loadPart' hl)
      | (refine wpAny_ite_true (by simp) ?_; wp_walk using AutoSeq1.wpAny_loadPart' hl))
    exact ⟨_, rfl, h⟩

/-- (v, ..) * k for 1 ≤ k: at 1 the tuple itself -/
def rMulT (K : PySem.W.Frag) : R2 := fun x y H Q => ∃ l k xs, x = .ref l ∧ y = .int k ∧ SqT K H l xs ∧ xs ≠ [] ∧ 1 ≤ k ∧ k ≤ 1000 ∧ xs.length ≤ 1000 ∧ (k = 1 → Q (.ref l) H) ∧ (k ≠ 1 → ∀ p, H p = none → Q (.ref p) (upd H p (.tup (List.replicate k.toNat xs).flatten)))
theorem op_mulT : OpR X (binaryOp .Mult) (rMulT X.K) := by
  intro pins s σ H x y v u Q I rx ry h
  obtain ⟨l, k, xs, rfl, rfl, hT, hne, h1, h2, hz, q1, q2⟩ := h
  by_cases hk : k = 1
  · subst hk
    cases rx
    obtain ⟨t, rfl⟩ := ry
    obtain ⟨its, r, ⟨⟨cls, dd, data, sl⟩, ho, hc, n, hd⟩, hs⟩ := I.tuple hT
    simp only at hc hd
    subst hc hd
    refine wpAny_binaryOp_repeat_ref (T := "tuple") (U := "int") (by decide) ⟨_, ho, rfl⟩ (fun s' => typeIs_int s' 1 t) noFill_tuple_mul F.fills_int_mul F.slot_int_rmul repeat_tuple F.slot_int_index.lookup
      (call_meets F.slot_int_rmul (typeIs_int s 1 t) F.entry_int_rmul (F.args_int_rmul_2 _ _) (int_rmul_tuple 1 t l its.toArray n dd sl)
        ⟨ho, rfl, ⟨_, ho, rfl⟩, call_meets F.slot_tuple_mul ⟨_, ho, rfl⟩ F.entry_tuple_mul (F.args_tuple_mul_2 _ _) (tuple_mul1W l its.toArray n dd sl t) ⟨ho, ?_⟩⟩)
    exact ⟨.ref l, H, I, rfl, q1 rfl⟩
  · exact op_repT pins s σ H _ _ v u Q I rx ry ⟨l, k, xs, rfl, rfl, hT, hne, by omega, h2, hz, q2 hk⟩

/-! ### t[::-1] -/
theorem adjust_rev (n : Nat) : Builtin.Slice.sliceAdjust none none (-1) (n : Int) = ((n : Int) - 1, -1) := by
  unfold Builtin.Slice.sliceAdjust
  simp
theorem places_rev (n : Nat) : Builtin.Slice.slicePlaces ((n : Int) - 1) (-1) (-1) = n := by
  unfold Builtin.Slice.slicePlaces
  rw [if_neg (by omega)]
  by_cases h : n = 0
  · subst h
    rfl
  · rw [if_pos (by omega)]
    have e : (((n : Int) - 1 - -1 - 1) / -(-1) + 1) = n := by
      rw [show (-(-1 : Int)) = 1 by decide, Int.ediv_one]
      omega
    rw [e]
    exact Int.toNat_natCast n
theorem fm_congr {α β : Type} {f g : α → Option β} : ∀ {l : List α}, (∀ a ∈ l, f a = g a) → l.filterMap f = l.filterMap g
  | [], _ => rfl
  | a :: r, h => by
    rw [List.filterMap_cons, List.filterMap_cons, h a List.mem_cons_self, fm_congr fun b hb => h b (List.mem_cons_of_mem _ hb)]
theorem pick_rev (xs : List Value) : ((List.range xs.length).filterMap fun (m : Nat) => xs.toArray[(((xs.length : Int) - 1) + (m : Int) * (-1)).toNat]?) = xs.reverse := by
  have e : ∀ m ∈ List.range xs.length, xs.toArray[(((xs.length : Int) - 1) + (m : Int) * (-1)).toNat]? = xs.reverse[m]? := fun m hm => by
    have hl := List.mem_range.mp hm
    rw [List.getElem?_reverse hl]
    have e2 : (((xs.length : Int) - 1) + (m : Int) * (-1)).toNat = xs.length - 1 - m := by omega
    rw [e2]
    simp
  rw [fm_congr e]
  have e3 : xs.length = xs.reverse.length := by simp
  rw [e3]
  generalize xs.reverse = ys
  clear e e3
  induction ys with
  | nil => rfl
  | cons y r ih =>
    rw [List.length_cons, List.range_succ_eq_map, List.filterMap_cons, List.filterMap_map]
    exact congrArg (y :: ·) ih
theorem slicedRev {prog : Program} {w : World} {A : Around} {E : Value → Shared → Prop} {s : Shared} {sl : Addr} {vs : Value} {n : Nat} {Q : Int × Int × Nat → Shared → Prop} (hs : s.heap.IsSliceOf sl .none .none vs) (pk : IsPart vs (some (-1)))
    (h : Q ((n : Int) - 1, -1, n) s) : wpAny (model prog w) A (Builtin.Slice.sliceApplied (.ref sl) (pure (n : Int))) Q E s := by
  obtain ⟨os, hos, hcs, hds⟩ := id hs
  unfold Builtin.Slice.sliceApplied Builtin.Slice.sliceFields
  refine wpAny_bind (wpAny_bind (wpAny_field hos hds (x := .none) rfl (wpAny_bind (wpAny_field hos hds (x := .none) rfl (wpAny_bind (wpAny_field hos hds (x := vs) rfl (wpAny_pure ?_)))))))
  refine wpAny_bind (HT.slicePart_ pk ?_)
  show wpAny _ _ (if ((-1 : Int) == 0) = true then _ else _) _ _ s
  rw [if_neg (by decide)]
  refine wpAny_bind (HT.slicePart_ .none (wpAny_bind (HT.slicePart_ .none (wpAny_bind (wpAny_pure ?_)))))
  show wpAny _ _ (match Builtin.Slice.sliceAdjust none none (-1) (n : Int) with | (lo, hi) => pure (lo, (-1 : Int), Builtin.Slice.slicePlaces lo hi (-1))) _ _ s
  rw [adjust_rev n]
  show wpAny _ _ (pure ((n : Int) - 1, (-1 : Int), Builtin.Slice.slicePlaces ((n : Int) - 1) (-1) (-1))) _ _ s
  rw [places_rev]
  exact wpAny_pure h
theorem getItem_tupRev {prog : Program} {w : World} {A : Around} {E : Value → Shared → Prop} {s : Shared} {t sl : Addr} {xs : List Value} {vs : Value} {Q : Value → Shared → Prop} (ht : IsTup s.heap t xs.toArray) (hs : s.heap.IsSliceOf sl .none .none vs) (pk : IsPart vs (some (-1)))
    (hz : xs.length ≤ sizeLine) (h : Q (.ref s.heap.objs.size) { s with heap := s.heap.push { cls := .type "tuple", data := .seq xs.reverse.toArray } }) : wpAny (model prog w) A (getItem (.ref t) (.ref sl)) Q E s := by
  obtain ⟨os, hos, hcs, hds⟩ := id hs
  have hTs : s.TypeIs (.ref sl) "slice" := ⟨os, hos, hcs⟩
  have fit : sizeOk (.seq xs.reverse.toArray) := by
    show xs.reverse.toArray.size ≤ sizeLine
    rw [List.size_toArray, List.length_reverse]
    exact hz
  unfold getItem
  try with_reducible refine wpAny_holding ?_
  first | refine wpAny_bind (wpAny_pure ?_) | skip
  refine wpAny_bind (wpAny_sequenceKey ht.typeIs (by decide) ?_)
  refine wpAny_bind (wpAny_callSpecial?_slot (name := Str.ofString "__getitem__") ht.typeIs PyProof.Rows.slot_tuple_getitem (wpAny_call_entry PyProof.Rows.slot_tuple_getitem ht.typeIs entry_tuple_getitem ?_ (args_tuple_getitem _ _)))
  show wpAny _ _ (Builtin.Tuple.tupleItemsOf (.ref t) >>= _) _ _ s
  refine wpAny_bind (tupleItemsOf_ ht ?_)
  refine wpAny_bind (wpAny_typeOf hTs ?_)
  rw [if_pos (by decide)]
  refine wpAny_bind (slicedRev hs pk ?_)
  have no : ¬ (((((xs.toArray.size : Nat) : Int) - 1) == 0 && (-1 : Int) == 1 && xs.toArray.size == xs.toArray.size) = true) := by
    rw [show ((-1 : Int) == 1) = false by decide, Bool.and_false, Bool.false_and]
    exact Bool.false_ne_true
  show wpAny _ _ (if ((((xs.toArray.size : Nat) : Int) - 1) == 0 && (-1 : Int) == 1 && xs.toArray.size == xs.toArray.size) = true then _ else _) _ _ s
  rw [if_neg no]
  have e : ((List.range xs.toArray.size).filterMap fun (m : Nat) => xs.toArray[((((xs.toArray.size : Nat) : Int) - 1) + (m : Int) * (-1)).toNat]?) = xs.reverse := by
    rw [List.size_toArray]
    exact pick_rev xs
  rw [e]
  first
    | exact wpAny_bind (m := Builtin.Tuple.tupleExact _) (wpAny_newObj_type (wpAny_pure ⟨_, rfl, wpAny_pure h⟩) fit)
    | exact wpAny_bind (wpAny_bind (m := Builtin.Tuple.tupleExact _) (wpAny_newObj_type (wpAny_pure (wpAny_pure ⟨_, rfl, wpAny_pure h⟩)) fit))
    | exact wpAny_bind (wpAny_bind (m := Builtin.Tuple.tupleExact _) (wpAny_newObj_type (wpAny_pure ⟨_, rfl, wpAny_pure h⟩) fit))
def tRevT (K : PySem.W.Frag) (te : TE) : TE := fun σ H Q => te σ H fun x H1 => ∃ a xs, x = .ref a ∧ SqT K H1 a xs ∧ ∀ p, H1 p = none → Q (.ref p) (upd H1 p (.tup xs.reverse))
theorem pe_revT {e : Expr} {te : TE} {k : Nat} {p1 p2 p3 pos : Pos} (he : PE X e te) : PE X (.Subscript e (.Slice none none (some (.UnaryOp .USub (.Constant (.int 1) k p1) p2)) p3) pos) (tRevT X.K te) := by
  refine ⟨fun pins s σ H Q I h => ?_⟩
  refine Subscript_ (thn (he.run pins s σ H _ I h) fun v s1 ⟨x, H1, I1, r1, a, xs, ex, hx, q⟩ => ?_)
  subst ex
  cases r1
  have hst : PO X (some (.UnaryOp .USub (.Constant (.int 1) k p1) p2)) (tPart (tUn (rU fun i => .int (-i)) (tC (.int 1)))) := po_some (pe_un un_neg pe_int)
  refine wpAny_Slice (thn (po_none.run pins s1 σ H1 (fun o H2 => o = none ∧ H2 = H1) I1 ⟨rfl, rfl⟩) fun vl s2 ⟨l, H2, I2, pl, el, e2⟩ => ?_)
  subst el e2
  refine thn (po_none.run pins s2 σ H2 (fun o H3 => o = none ∧ H3 = H2) I2 ⟨rfl, rfl⟩) fun vu s3 ⟨u, H3, I3, pu, eu, e3⟩ => ?_
  subst eu e3
  refine thn (hst.run pins s3 σ H3 (fun o H4 => o = some (-1) ∧ H4 = H3) I3 ⟨1, rfl, -1, rfl, rfl, rfl⟩) fun vs s4 ⟨o, H4, I4, ps, eo, e4⟩ => ?_
  subst eo e4
  cases pl
  cases pu
  have I5 : Inv X pins σ H4 { s4 with heap := s4.heap.push { cls := .type "slice", data := .fields #[.none, .none, vs] } } := I4.kept (t' := s4.toks) fun b ob q => Heap.get?_push_of_some _ q
  obtain ⟨its, r, ht, hz⟩ := I5.tuple hx
  have hlen := r.length
  refine tail_any (ops := [.ref a, .ref s4.heap.objs.size]) ht.typeIs PyProof.Rows.slot_tuple_getitem.lookup ?_ (by with_unfolding_all rfl)
  refine getItem_tupRev ht (Heap.IsSliceOf.new _ .none .none vs) ps (by omega) ?_
  refine ⟨.ref _, _, I5.laid (t' := s4.toks) (o := .tup xs.reverse) (fun b ob q => Heap.get?_push_of_some _ q) (Nat.le_refl _) ?_, rfl, q _ (I5.hok.fresh (Nat.le_refl _))⟩
  exact ⟨by rw [List.length_reverse]; exact hz, _, r.reverse, IsTup.new _ _⟩
end
end Kal

set_option Elab.async false
set_option linter.all false
set_option maxRecDepth 100000
set_option maxHeartbeats 4000000
/-! KR3: sorted of tuples of ints (any number), of a dict with such keys; dict displays and comprehensions with keys that are tuples. -/
namespace Kal
open PySem PySem.Spec PyProof.Rows L2

/-! ### the order -/
def encK (k : V → List Int) (x : V) : PyData := .tuple ((k x).map PyData.int)
/-- x not above y, by their numbers -/
def leK (k : V → List Int) (x y : V) : Bool := !decide (k y < k x)
theorem dataLe_encK (k : V → List Int) : PySem.W.dataLe false (encK k) = leK k := by
  funext x y
  show (!PySem.W.dataLt (encK k y) (encK k x)) = _
  unfold encK leK
  rw [PySem.W.dataLt_tuple]
  have q := PySem.W.dataLt_ints (k y) (k x)
  unfold PySem.W.rowLt at q
  rw [q]
theorem leK_sorted (k : V → List Int) (xs : List V) : (xs.mergeSort (leK k)).Pairwise fun x y => ¬ k y < k x := by
  have t := PySem.W.sortLe_total (PyProof.Rows.listOrd PyProof.Rows.itemOrd) false (fun x => PySem.W.keyToks (encK k x))
  have e : leK k = PySem.W.sortLe (PyProof.Rows.listOrd PyProof.Rows.itemOrd) false (fun x => PySem.W.keyToks (encK k x)) := (dataLe_encK k).symm
  have p := List.pairwise_mergeSort (le := leK k) (by rw [e]; exact t.trans) (fun a b => by
    have z := t.total a b
    rw [← e] at z
    rcases z with z | z <;> simp [z]) xs
  refine p.imp fun {x y} h => ?_
  unfold leK at h
  simpa using h
theorem each_of {R : Value → V → Prop} : ∀ {xs : List V} {us : List Value}, Vals xs us → (∀ x ∈ xs, ∀ u, RelV x u → R u x) → PySem.W.EachIs R us xs
  | _, _, .nil, _ => .nil
  | _, _, .cons r t, h => .cons (h _ List.mem_cons_self _ r) (each_of t fun x hx => h x (List.mem_cons_of_mem _ hx))
theorem of_each : ∀ {us : List Value} {xs : List V}, PySem.W.EachIs (fun u x => RelV x u) us xs → Vals xs us
  | _, _, .nil => .nil
  | _, _, .cons r t => .cons r (of_each t)
theorem dp_ints {K : PySem.W.Frag} {H : Hp} : ∀ ns : List Int, DpAll K H (ns.map V.int) (ns.map PyData.int)
  | [] => .nil
  | n :: r => .cons (.int n) (dp_ints r)
theorem depth_encK (k : V → List Int) (x : V) : (encK k x).depth ≤ 1 := by
  unfold encK
  rw [PyData.depth, PySem.W.depth_ints]
  omega
section
variable {X : Cx}
/-- what is asked of the items -/
def TupsK (H : Hp) (k : V → List Int) (xs : List V) : Prop := ∀ x ∈ xs, ∃ t, x = V.ref t ∧ H t = some (.tup ((k x).map V.int))
theorem reads_ints {h : Heap} : ∀ {ns : List Int} {us : List Value}, Vals (ns.map V.int) us → ReadsAll h us (ns.map PyData.int) []
  | [], _, .nil => .nil
  | n :: r, _, .cons q t => by
    obtain ⟨k, rfl⟩ := q
    exact ReadsAll.cons (as := []) (bs := []) (Reads.int n k) (reads_ints t)
theorem tup_reads {pins : List (Addr × Obj)} {σ : L2.St} {H : Hp} {s : Shared} {k : V → List Int} {x : V} {u : Value} {t : Addr} (I : Inv X pins σ H s) (e : x = V.ref t) (ht : H t = some (.tup ((k x).map V.int))) (r : RelV x u) :
    Reads s.heap u (encK k x) [] := by
  subst e
  cases r
  obtain ⟨its, rv, ⟨o, ho, hc, n, hd⟩, _⟩ := I.tuple (SqT.of (K := X.K) ht)
  exact Reads.tuple ho hc hd (reads_ints rv)
def rSortL (K : PySem.W.Frag) : List V → Hp → VK → Prop := fun vs H Q => ∃ (a : Addr) (xs : List V) (k : V → List Int), vs = [V.ref a] ∧ SqL K H a xs ∧ TupsK H k xs ∧ (∀ x ∈ xs, k x ≠ []) ∧
  ∀ p, H p = none → Q (.ref p) (upd H p (.lst (xs.mergeSort (leK k))))
theorem cr_sortL (hu : X.A.units + 64 < cLine) : CallR X (.builtin "sorted") (rSortL X.K) := by
  intro pins s σ H vs us Q I r h
  obtain ⟨a, xs, k, rfl, hs, hx, hne, q⟩ := h
  obtain ⟨its, rv, hl, hz⟩ := I.list hs
  obtain ⟨u, rfl, ru⟩ := vals1 r
  obtain rfl : u = Value.ref a := ru
  refine PySem.W.sorted_data (enc := encK k) (R := fun u x => RelV x u) hl.isList (each_of rv fun x _ u q => q) (each_of rv fun x m u q => ?_) (PySem.W.AllAlike.of fun b b' => ?_) (.inl fun d hd => ?_) hz (fun b _ => ?_) fun out ho eo => ?_
  · obtain ⟨t, e, ht⟩ := hx x m
    exact ⟨_, tup_reads I e ht q⟩
  · unfold encK
    rw [PySem.W.alike]
    exact PySem.W.alike_ints _ _
  · obtain ⟨x, m, rfl⟩ := List.mem_map.mp hd
    unfold encK
    have z := hne x m
    cases e : k x with
    | nil => exact absurd e z
    | cons i r => exact ⟨_, _, rfl⟩
  · have z := depth_encK k b
    omega
  · rw [dataLe_encK] at eo
    obtain ⟨c, hc⟩ := PyProof.Rows.sortedAll_at s.heap its out.toArray
    refine ⟨.ref (s.heap.objs.size + 1), _, I.laid (t' := s.toks) (o := .lst (xs.mergeSort (leK k))) (fun b o e => PyProof.Rows.sortedAll_old e) (Nat.le_succ _) ?_, rfl, q _ (I.hok.fresh (Nat.le_succ _))⟩
    exact ⟨by rw [List.length_mergeSort]; exact hz, out, c, of_each eo, hc⟩
/-- sorted of a list of at most one thing -/
def rSort1 (K : PySem.W.Frag) : List V → Hp → VK → Prop := fun vs H Q => ∃ (a : Addr) (xs : List V), vs = [V.ref a] ∧ SqL K H a xs ∧ xs.length ≤ 1 ∧ ∀ p, H p = none → Q (.ref p) (upd H p (.lst xs))
theorem cr_sort1 : CallR X (.builtin "sorted") (rSort1 X.K) := by
  intro pins s σ H vs us Q I r h
  obtain ⟨a, xs, rfl, hs, h1, q⟩ := h
  obtain ⟨its, rv, hl, hz⟩ := I.list hs
  obtain ⟨u, rfl, ru⟩ := vals1 r
  obtain rfl : u = Value.ref a := ru
  have len := rv.length
  refine SrtO.sorted_ord (ltv := fun _ _ => false) ⟨fun _ _ e => (nomatch e), fun _ _ _ _ _ => rfl⟩ hl.isList (by omega) (fun h2 => absurd h2 (by omega)) fun out _ st => ?_
  have e : out = its := by
    have z := st.cls .none
    have y : (SrtO.eqv (fun (_ _ : Value) => false) Value.none) = fun _ => true := rfl
    rw [y, List.filter_eq_self.mpr (fun _ _ => rfl), List.filter_eq_self.mpr (fun _ _ => rfl)] at z
    exact z
  subst e
  obtain ⟨c, hc⟩ := PyProof.Rows.sortedAll_at s.heap out out.toArray
  exact ⟨.ref (s.heap.objs.size + 1), _, I.laid (t' := s.toks) (o := .lst xs) (fun b o e => PyProof.Rows.sortedAll_old e) (Nat.le_succ _) ⟨hz, out, c, rv, hc⟩, rfl, q _ (I.hok.fresh (Nat.le_succ _))⟩

/-- sorted of a dict whose keys are tuples of ints, none of them empty: a new list of its keys -/
def rSortDT : List V → Hp → VK → Prop := fun vs H Q => ∃ (d : Addr) (kvs : List (List Key × V)), vs = [V.ref d] ∧ H d = some (.dT kvs) ∧ kvs.length ≤ 1000 ∧ (∀ p ∈ kvs, ∃ n r, p.1 = (n :: r).map Sum.inl) ∧
  ∀ (p : Addr) (xs : List V), H p = none → xs.length = kvs.length → (∀ x ∈ xs, ∃ t q, x = V.ref t ∧ q ∈ kvs ∧ H t = some (.tup (q.1.map kV))) → (∀ q ∈ kvs, ∃ t, V.ref t ∈ xs ∧ H t = some (.tup (q.1.map kV))) → Q (.ref p) (upd H p (.lst xs))
theorem paired_at {α β : Type} {F : α → β → Prop} : ∀ {l : List α} {m : List β}, Paired F l m → (∀ a ∈ l, ∃ b ∈ m, F a b) ∧ ∀ b ∈ m, ∃ a ∈ l, F a b
  | _, _, .nil => ⟨fun _ h => (nomatch h), fun _ h => (nomatch h)⟩
  | _, _, .cons r t => by
    obtain ⟨i1, i2⟩ := paired_at t
    refine ⟨fun a h => ?_, fun b h => ?_⟩
    · rcases List.mem_cons.mp h with e | h
      · exact ⟨_, List.mem_cons_self, e ▸ r⟩
      · obtain ⟨b, hb, f⟩ := i1 a h
        exact ⟨b, List.mem_cons_of_mem _ hb, f⟩
    · rcases List.mem_cons.mp h with e | h
      · exact ⟨_, List.mem_cons_self, e ▸ r⟩
      · obtain ⟨a, ha, f⟩ := i2 b h
        exact ⟨a, List.mem_cons_of_mem _ ha, f⟩
theorem backL (H : Hp) : ∃ k : V → List Int, ∀ (t : Addr) (ns : List Int), H t = some (.tup (ns.map V.int)) → k (.ref t) = ns := by
  classical
  refine ⟨fun x => match x with | .ref t => if h : ∃ ns : List Int, H t = some (.tup (ns.map V.int)) then h.choose else [] | _ => [], fun t ns e => ?_⟩
  have h : ∃ ns : List Int, H t = some (.tup (ns.map V.int)) := ⟨ns, e⟩
  show (if h : ∃ ns : List Int, H t = some (.tup (ns.map V.int)) then h.choose else []) = ns
  rw [dif_pos h]
  have z := h.choose_spec.symm.trans e
  have z2 : (h.choose).map V.int = ns.map V.int := by
    have z3 := Option.some.inj z
    injection z3
  exact (List.map_inj_right (fun a b q => by injection q)).mp z2
theorem cr_sortDT (hc : X.calm = true) (hu : X.A.units + 64 < cLine) : CallR X (.builtin "sorted") rSortDT := by
  intro pins s σ H vs us Q I r h
  obtain ⟨d, kvs, rfl, hd, h1000, hk, q⟩ := h
  obtain ⟨u, rfl, ru⟩ := vals1 r
  obtain rfl : u = Value.ref d := ru
  obtain ⟨z, hsys, ks, pr, o, es, ep, ho, hx, hdt, he, hn⟩ := (show ObjOk X.prog X.w H s.heap d (.dT kvs) from I.hok d _ hd)
  have l1 : es.size = ks.length := size_of_entries he
  have l2 : kvs.length = ks.length := Paired.length pr
  refine Calls.call_function_entry PyProof.Rows.kind_sorted PyProof.Rows.plain_sorted PyProof.Rows.entry_sorted (PyProof.Rows.args_sorted1 _) ?_
  unfold Builtin.«sorted»
  refine wpAny_bind (m := checkCount "sorted" 1 1 _) (wpAny_pure ?_)
  refine wpAny_bind (PySem.W.kdu_collect (A := X.A.in1) (kdl_raw hsys hx hdt) (I.ok.hd hc) ho (by rw [l1, ← l2]; exact z) fun h' tk acc hkp hacc => ?_)
  have ea : acc.toList = ks.map fun x => Value.ref x.2.1 := by
    apply List.ext_getElem?
    intro j
    rw [List.getElem?_map]
    cases hj : acc.toList[j]? with
    | none =>
      have g := List.getElem?_eq_none_iff.mp hj
      rw [Array.length_toList, hacc.1] at g
      rw [List.getElem?_eq_none (by omega)]
      rfl
    | some v =>
      obtain ⟨en, hen, hv⟩ := hacc.2 j v (by rw [← Array.getElem?_toList]; exact hj)
      have qe := entry_at he j
      rw [hen] at qe
      cases hb : ks[j]? with
      | none =>
        rw [hb] at qe
        cases qe
      | some b =>
        rw [hb] at qe
        have e2 : en = entryOfKey (tupleKind (mixKind X.prog X.w)) b := Option.some.inj qe
        rw [hv, e2]
        rfl
  have eb : acc.toList = (ks.map fun x => x.2.1).map Value.ref := by
    rw [ea, List.map_map]
    rfl
  have rv : Vals ((ks.map fun x => x.2.1).map V.ref) acc.toList := by
    rw [eb]
    exact vals_refs _
  have I1 : Inv X pins σ H { s with heap := h', toks := tk } := I.kept hkp
  have hz : acc.toList.length ≤ sizeLine := by
    rw [ea, List.length_map, ← l2]
    exact z
  have keyat : ∀ x ∈ ks, ∃ q ∈ kvs, H x.2.1 = some (.tup (q.1.map kV)) := fun x hx => by
    obtain ⟨q, hq, _, e, _⟩ := (paired_at pr).2 x hx
    exact ⟨q, hq, e⟩
  have keyto : ∀ q ∈ kvs, ∃ x ∈ ks, H x.2.1 = some (.tup (q.1.map kV)) := fun q hq => by
    obtain ⟨x, hx, _, e, _⟩ := (paired_at pr).1 q hq
    exact ⟨x, hx, e⟩
  obtain ⟨k, kOk⟩ := backL H
  have intsOf : ∀ q ∈ kvs, ∃ n r, q.1.map kV = (n :: r : List Int).map V.int := fun q hq => by
    obtain ⟨n, r, e⟩ := hk q hq
    exact ⟨n, r, by rw [e, List.map_map]; rfl⟩
  have item : ∀ x ∈ (ks.map fun x => x.2.1).map V.ref, ∃ t n r, x = V.ref t ∧ H t = some (.tup ((n :: r : List Int).map V.int)) ∧ k x = n :: r := fun x hx => by
    obtain ⟨t, ht, rfl⟩ := List.mem_map.mp hx
    obtain ⟨y, hy, rfl⟩ := List.mem_map.mp ht
    obtain ⟨q, hq, e⟩ := keyat y hy
    obtain ⟨n, r, e2⟩ := intsOf q hq
    rw [e2] at e
    exact ⟨_, n, r, rfl, e, kOk _ _ e⟩
  refine wpAny_bind (wpAny_newList ?_ hz)
  have hoL : (h'.push (seqObj "list" acc.toList.toArray 0)).get? h'.objs.size = some (seqObj "list" acc.toList.toArray 0) := Heap.get?_push_size _ rfl
  show wpAny _ _ _ _ _ { s with heap := h'.push (seqObj "list" acc.toList.toArray 0), toks := tk }
  refine wpAny_bind (wpAny_holding (PySem.W.list_sort_data (s := { s with heap := h'.push (seqObj "list" acc.toList.toArray 0), toks := tk }) (enc := encK k) (R := fun u x => RelV x u) hoL (each_of rv fun x _ u e => e)
    (each_of rv fun x m u e => ?_) (PySem.W.AllAlike.of fun b b' => ?_) (.inl fun y hy => ?_) (by rw [rv.length]; exact hz) (fun b _ => ?_) fun out lo eo => ?_))
  · obtain ⟨t, n, r, ex, ht, ek⟩ := item x m
    refine ⟨[], ?_, by simp⟩
    exact PyProof.Rows.Reads.keeps (fun b ob e2 => Heap.get?_push_of_some _ e2) (tup_reads I1 ex (by rw [ek]; exact ht) e)
  · unfold encK
    rw [PySem.W.alike]
    exact PySem.W.alike_ints _ _
  · obtain ⟨x, m, rfl⟩ := List.mem_map.mp hy
    obtain ⟨t, n, r, ex, ht, ek⟩ := item x m
    unfold encK
    rw [ek]
    exact ⟨_, _, rfl⟩
  · have w := depth_encK k b
    show X.A.units + 1 + 1 + (encK k b).depth < cLine
    omega
  · rw [dataLe_encK] at eo
    obtain ⟨c, hc2⟩ := PyProof.Rows.sortedHeap_at (vs := acc.toList) (out := out.toArray) hoL
    have mem : ∀ x, x ∈ ((ks.map fun x => x.2.1).map V.ref).mergeSort (leK k) ↔ x ∈ (ks.map fun x => x.2.1).map V.ref := fun x => (List.mergeSort_perm _ _).mem_iff
    refine wpAny_pure ⟨_, rfl, .ref h'.objs.size, upd H h'.objs.size (.lst (((ks.map fun x => x.2.1).map V.ref).mergeSort (leK k))), I1.laid (t' := tk) (fun b ob e => ?_) (Nat.le_refl _) ⟨?_, out, c, of_each eo, hc2⟩, rfl,
      q _ _ (I1.hok.fresh (Nat.le_refl _)) (by rw [List.length_mergeSort, List.length_map, List.length_map, l2]) (fun x hx => ?_) fun q hq => ?_⟩
    · have hb : b < h'.objs.size := Heap.lt_size e
      rw [PyProof.Rows.sortedHeap_old (Nat.ne_of_lt hb) (by rw [size_push']; exact Nat.lt_succ_of_lt hb)]
      exact Heap.get?_push_of_some _ e
    · rw [List.length_mergeSort, rv.length]
      exact hz
    · obtain ⟨t, ht, rfl⟩ := List.mem_map.mp ((mem x).mp hx)
      obtain ⟨y, hy, rfl⟩ := List.mem_map.mp ht
      obtain ⟨q, hq, e⟩ := keyat y hy
      exact ⟨_, q, rfl, hq, e⟩
    · obtain ⟨y, hy, e⟩ := keyto q hq
      exact ⟨y.2.1, (mem _).mpr (List.mem_map.mpr ⟨_, List.mem_map.mpr ⟨y, hy, rfl⟩, rfl⟩), e⟩

/-! ### {t: v}, t a tuple -/
def tDisp1 (tk tv : TE) : TE := fun σ H Q => ∀ p, H p = none → tk σ (upd H p (.dT [])) fun x H1 => tv σ H1 fun y H2 => H2 p = some (.dT []) ∧ ∃ (b : Addr) (k : List Key), x = .ref b ∧ H2 b = some (.tup (k.map kV)) ∧ Q (.ref p) (upd H2 p (.dT [(k, y)]))
theorem pe_disp1 {kx vx : Expr} {pos : Pos} {tk tv : TE} (hu : X.A.units < cLine) (hk : PE X kx tk) (hv : PE X vx tv)
    (hsh : (evalEachOpt [some kx] X.env).zip ((evalEach [vx] X.env).map fun v => do let x ← v; standAt pos; pure x) = (pairTrees [some kx] [vx] X.env pos).map fun p => (some p.1, p.2) := by rfl) : PE X (.Dict [some kx] [vx] pos) (tDisp1 tk tv) := by
  refine ⟨fun pins s σ H Q I h => ?_⟩
  rw [arm_eval_Dict, hsh, dictDisplay_pairs (pairTrees [some kx] [vx] X.env pos) (by intro e; cases e) (show (1 : Nat) < 17 by decide)]
  refine wpAny_bind (wpAny_standAt (wpAny_bind (wpAny_subDictH (knd := tupleKind (mixKind X.prog X.w)) (Q := fun d s' => wpAny (model X.prog X.w) X.A (pure (Value.ref d)) (EP X pins σ Q) X.xe s') hu (show (1 : Nat) ≤ 15 by decide) ?_)))
  have hn := I.hok.fresh (Nat.le_refl s.heap.objs.size)
  have I1 : Inv X pins σ (upd H s.heap.objs.size (.dT [])) { s with heap := s.heap.push { cls := .type "dict", data := .dict #[] } } :=
    I.laid (t' := s.toks) (fun _ _ q => Heap.get?_push_of_some _ q) (Nat.le_refl _) (dt_empty s.heap I.big)
  refine pairTrees_cons_walk (thn (hk.run pins _ σ _ _ I1 (h _ hn)) fun u s1 ⟨x, H1, I2, rx, q1⟩ => thn (hv.run pins s1 σ H1 _ I2 q1) fun w s2 ⟨y, H2, I3, ry, e, b, k, ex, eb, q2⟩ => pairTrees_nil_walk ?_)
  subst ex
  cases rx
  obtain ⟨z, hd, xs0, r0, dd⟩ := dt_of I3.hok e
  cases r0
  refine ⟨[(k, b, w)], ⟨rfl, rfl, key_of I3.hok eb, trivial⟩, dd, fun h' tk2 dd' hs => wpAny_pure ⟨.ref s.heap.objs.size, _, ?_, rfl, q2⟩⟩
  obtain ⟨ob, es, ep, hq, h2, h3, h4, _, h5⟩ := dd'
  refine d_write (t' := tk2) I3 (by rw [e]; exact True.intro) hs ⟨ob, hq⟩ ⟨show 1 ≤ sizeLine by decide, hd, [(k, b, w)], .cons ⟨rfl, ?_, ry⟩ .nil, ob, es, ep, hq, h2, h3, h4, by simp⟩
  rw [upd_ne (ne_of eb e (fun z => nomatch z))]
  exact eb
end
end Kal

set_option Elab.async false
set_option linter.all false
set_option maxRecDepth 100000
set_option maxHeartbeats 4000000
/-! KR4: {k: v for x in ..}, the keys tuples. -/
namespace Kal
open PySem PySem.Spec PyProof.Rows L2

/-- D[k] = v within a comprehension, k a tuple -/
theorem dictSetT {X : Cx} {pins : List (Addr × Obj)} {σ : L2.St} {H : Hp} {s : Shared} {E : Value → Shared → Prop} {D c : Addr} {kvs : List (List Key × V)} {k : List Key} {v : V} {r : Value} {Q : Unit → Shared → Prop} (hu : X.A.units < cLine) (I : Inv X pins σ H s)
    (hD : H D = some (.dT kvs)) (ec : H c = some (.tup (k.map kV))) (lt : kvs.length < sizeLine) (rv : RelV v r) (h : ∀ s', Inv X pins σ (upd H D (.dT (putK kvs k v))) s' → Q () s') : wpAny (model X.prog X.w) X.A (dictSet D (.ref c) r) Q E s := by
  obtain ⟨z, hd, xs, rel, dd⟩ := dt_of I.hok hD
  have hz : xs.length ≤ sizeLine := by
    rw [← Paired.length rel]
    exact z
  refine wpAny_dictSet_heap (knd := tupleKind (mixKind X.prog X.w)) (hsz := hz) hu (key_of I.hok ec) dd fun h' dd' hs => h _ ?_
  obtain ⟨q, es, ep, hq, h2, h3, h4, _, h5⟩ := dd'
  have le := length_putK kvs k v
  refine d_write I (by rw [hD]; exact True.intro) hs ⟨q, hq⟩ ⟨by omega, hd, _, (rel.put k ec rv).keeps fun e ys ee => ?_, q, es, ep, hq, h2, h3, h4, h5⟩
  rw [upd_ne (ne_of ee hD (fun w => nomatch w))]
  exact ee
section
variable {X : Cx}
/-- what a comprehension of a dict by tuples asks: D the new dict, W by the turn and a measure -/
def tDcT (wi : TI) (g : TG) (tk tv : TE) (vs : List Nat) : TE := fun σ H Q => wi σ H fun J H1 => ∀ D, H1 D = none → ∃ W : Nat → Nat → Hp → Prop, (∃ m, W 0 m (upd H1 D (.dT []))) ∧ ∀ i m H, W i m H →
  (J.stop i H ∧ Q (.ref D) H) ∨ (J.go i H ∧ ∃ Nx : Hp → Prop, (∀ H', Nx H' → ∃ m', m' < m ∧ W (i + 1) m' H') ∧ ∀ x H', J.yld i H x H' → g x (wipe σ vs) H' fun σ2 H2 => wipe σ2 vs = wipe σ vs ∧
    tk σ2 H2 fun y H4 => tv σ2 H4 fun z H5 => ∃ kvs k c, y = .ref c ∧ H5 c = some (.tup (k.map kV)) ∧ H5 D = some (.dT kvs) ∧ kvs.length < sizeLine ∧ Nx (upd H5 D (.dT (putK kvs k z))))
abbrev InBlk (X : Cx) (scope : Scope) (F : Cx → Prop) : Prop := ∀ (s : Shared) (H : Hp) (C : Addr) (cl : List (Str × Addr)) (fp : List Addr), F (X.blk s H scope (compEnvC scope cl C X.env) fp)
theorem pe_dcT {kx vx tg iter : Expr} {scope : Scope} {own : List (Str × Nat)} {pos : Pos} {wi : TI} {g : TG} {tk tv : TE} (hu : X.A.units < cLine) (hc : X.calm = true) (hN : X.N.Nodup) (hi : PI X tg iter wi) (ok : BlkOk X.N X.env.scope scope own)
    (hg : InBlk X scope fun B => PG B tg g) (hk : InBlk X scope fun B => PE B kx tk) (he : InBlk X scope fun B => PE B vx tv) (hs : ∀ x, foldedSetIterable iter X.env x = pure x := by intro _; rfl) :
    PE X (.DictComp kx vx [⟨tg, iter, [], 0⟩] scope pos) (tDcT wi g tk tv (own.map (·.2))) := by
  refine ⟨fun pins s σ H Q I h => ?_⟩
  have caught : ∀ y ∈ scope.names, y.2 = .free → ∃ c, X.env.cells.lookup y.1 = some c := fun y hy e => by
    rcases ok.free y hy e with k | k
    · exact I.ok.has _ (.inl k)
    · exact I.ok.has _ (.inr k)
  rw [arm_eval_DictComp]
  refine wpAny_comprehension_free (use := none) rfl hs (closure_ok caught) ok.kind (fun y hy e => by rw [ok.uniq y hy, e]) (thn (hi.run pins s σ H _ I h) fun _ s1 hx => thn hx fun _ s2 h2 => ?_)
  obtain ⟨it, fp, tn, J, H2, e, I2, T, st2, f2, q⟩ := h2
  subst e
  refine wpAny_newObj_type (newEnv_comp ?_)
  generalize hD : s2.heap.objs.size = D
  have hDn : H2 D = none := I2.hok.fresh (Nat.le_of_eq hD)
  obtain ⟨W, ⟨m0, w0⟩, turn⟩ := q D hDn
  generalize es3 : ({ s2 with heap := s2.heap.push { cls := .type "dict", data := .dict #[] } } : Shared) = s3
  have I3 : Inv X pins σ (upd H2 D (.dT [])) s3 := by
    rw [← es3]
    refine I2.laid (t' := s2.toks) (fun b o e => Heap.get?_push_of_some _ e) (Nat.le_of_eq hD) ?_
    rw [← hD]
    exact dt_empty s2.heap I2.big
  have h3 : s3.heap = s2.heap.push { cls := .type "dict", data := .dict #[] } := by rw [← es3]
  have below : ∀ b ∈ fp, b < s2.heap.objs.size := fun b hb => let ⟨_, e, _⟩ := T.obj _ _ st2 b hb; Heap.lt_size e
  have f3 : ∀ b ∈ fp, FpOk X pins (upd H2 D (.dT [])) b ∧ b < s3.heap.objs.size := fun b hb => by
    have lt := below b hb
    refine ⟨⟨?_, (f2 b hb).2⟩, by rw [h3, Heap.size_push]; exact Nat.lt_succ_of_lt lt⟩
    rw [upd_ne (by rw [← hD]; exact Nat.ne_of_lt lt)]
    exact (f2 b hb).1
  have st3 : tn 0 s3.heap := T.keep _ _ _ st2 fun b _ o e => by
    rw [h3]
    exact Heap.get?_push_of_some _ e
  have I4 := block_start I3 ok hN f3
  generalize hcl : cellsFrom (s3.heap.objs.size + 1) scope.names (cloFrom X.env.cells scope.names []) = cl at I4
  have pg := hg s3 (upd H2 D (.dT [])) s3.heap.objs.size cl fp
  have pk := hk s3 (upd H2 D (.dT [])) s3.heap.objs.size cl fp
  have pe := he s3 (upd H2 D (.dT [])) s3.heap.objs.size cl fp
  show codeAny _ _ (.compStart _ 0 (.ref it) (.ref D) (compEnvC scope cl s3.heap.objs.size X.env)) (compPost (model X.prog X.w) X.A X.xe none _ (.ref D) s3.heap.objs.size)
    { s3 with heap := pushCells (s3.heap.push { cls := .type "dict", data := .dict #[] }) scope.names }
  have nfp : ∀ b ∈ fp, (upd H2 D (.dT [])) b = none := fun b hb => (f3 b hb).1.1
  generalize hce : compEnvC scope cl s3.heap.objs.size X.env = ce at I4 pg pk pe ⊢
  have cL : ce.locals = s3.heap.objs.size := by
    subst hce
    rfl
  generalize hH3 : upd H2 D (.dT []) = H3 at I3 I4 pg pk pe w0 nfp f3
  generalize hs4 : ({ s3 with heap := pushCells (s3.heap.push { cls := .type "dict", data := .dict #[] }) scope.names } : Shared) = s4 at I4 ⊢
  have st4 : tn 0 s4.heap := T.keep _ _ _ st3 fun b _ o e => by
    rw [← hs4]
    exact pushCells_keeps _ _ _ _ (Heap.get?_push_of_some _ e)
  have stat : ∀ {σ' : L2.St} {H' : Hp} {s' : Shared}, Inv (X.blk s3 H3 scope ce fp) [] σ' H' s' → (∀ b ∈ fp, H' b = none) → ∀ b ∈ fp, FpOk (X.blk s3 H3 scope ce fp) [] H' b := fun {σ' H' s'} I' hn b hb =>
    ⟨hn b hb, (I'.ok.exf b hb).1, I'.ok.exfs b hb, .inl hb, fun x c e => (I'.ok.exf b hb).2 x c e, fun p hp => absurd (show p ∈ ([] : List (Addr × Obj)) ++ [] from hp) (by simp)⟩
  refine codeAny_compStart_dict ?loop (T.self X.A 0 _ _ _ st4 ?loop)
  refine compLoop_anyD (fun n s' => ∃ i H', Inv (X.blk s3 H3 scope ce fp) [] (wipe σ (own.map (·.2))) H' s' ∧ tn i s'.heap ∧ (∀ b ∈ fp, H' b = none) ∧ W i n H') ?_ m0 ⟨0, H3, I4, st4, nfp, w0⟩
  rintro n s5 ⟨i, H5, I5, st5, n5, w5⟩
  rcases turn i n H5 w5 with ⟨stop, qq⟩ | ⟨go, Nx, hNx, step⟩
  · refine thnF (T.done (X.blk s3 H3 scope ce fp) rfl rfl rfl hc i [] s5 _ H5 (fun _ _ => False) I5 (stat I5 n5) st5 stop) fun r s6 ⟨hr, I6⟩ => ?_
    subst hr
    have I7 : Inv X pins σ H5 s6 := I3.call' (ch := fp) I6.os I6.base I6.hok I6.bare fun b hb => ⟨(f3 b hb).1.2.2.2.1, (f3 b hb).1.2.1, (f3 b hb).1.2.2.2.2.1, (f3 b hb).1.2.2.2.2.2⟩
    have nC : H5 s3.heap.objs.size = none := by
      have z : H5 ce.locals = none := I6.free
      rwa [cL] at z
    obtain ⟨m, hn, _⟩ := I6.loc
    have hn : s6.heap.Ns ce.locals m := hn
    rw [cL] at hn
    obtain ⟨g0, g1, g2, g3, g4, g5⟩ := I3.fpOk (Nat.le_refl _) nC
    exact ⟨m, hn, fun h'' sb => ⟨.ref D, H5, I7.turned (t' := s6.toks) (fun b o hb e => (sb.2 b hb).trans e) g0 g1 g3 g4 g5, rfl, qq⟩⟩
  · refine thnF (T.item (X.blk s3 H3 scope ce fp) rfl rfl rfl hc i [] s5 _ H5 (fun _ _ => False) I5 (stat I5 n5) st5 go) fun r s6 ⟨u, hr, h6⟩ => ?_
    subst hr
    refine thnF h6 fun _ s7 ⟨x, H7, I7, r7, y7, st7, n7⟩ => ?_
    have I7' := I7.pinned (stat I7 n7) (T.obj _ _ st7)
    refine thnF (pg.run _ s7 _ H7 x u _ I7' r7 (step x H7 y7)) fun _ s8 ⟨σ8, H8, I8, hw8, q8⟩ => ?_
    refine thnF ((pts_nil (X := X.blk s3 H3 scope ce fp)).run _ s8 σ8 H8 (fun b H' => b = true ∧ H' = H8) I8 ⟨rfl, rfl⟩) fun b s9 ⟨H9, I9, eb, e9⟩ => ?_
    subst eb e9
    simp only [if_true]
    refine thnF (pk.run _ s9 σ8 _ _ I9 q8) fun z s10 ⟨yk, H10, I10, r10, q10⟩ => ?_
    refine thnF (pe.run _ s10 σ8 H10 _ I10 q10) fun z2 s11 ⟨yv, H11, I11, r11, kvs, k, c, ek, ec, hD11, hz11, nx⟩ => ?_
    subst ek
    cases r10
    refine dictSetT (X := X.blk s3 H3 scope ce fp) hu I11 hD11 ec hz11 r11 fun s' I' => ?_
    obtain ⟨m', hm, w'⟩ := hNx _ nx
    have pin' : ∀ b ∈ fp, ∀ o, s7.heap.get? b = some o → s'.heap.get? b = some o ∧ (upd H11 D (.dT (putK kvs k yv))) b = none := fun b hb o e =>
      let z := I'.pin (b, o) (List.mem_append_right _ (List.mem_append_right _ (mem_pinsAt hb e)))
      ⟨z.1, z.2.1⟩
    have hl : (wipe σ (own.map (·.2))).length = σ8.length := by rw [← hw8, wipe_length]
    refine ⟨m', hm, i + 1, _, (I'.unpinned (pins := [])).weak hl (fun j v e => ?_), T.keep _ _ _ st7 fun b hb o e => (pin' b hb o e).1, fun b hb => ?_, w'⟩
    · rw [← hw8] at e
      exact (wipe_some e).1
    · obtain ⟨o, e, _⟩ := T.obj _ _ st7 b hb
      exact (pin' b hb o e).2
/-- over a range: Pv by the turn and the heap (the new dict at D within) -/
theorem dcT_range {lo : Int} {n : Nat} {g : TG} {tk tv : TE} {vs : List Nat} {σ : L2.St} {H1 : Hp} {D : Addr} {Qd : Hp → Prop} (Pv : Nat → Hp → Prop) (h0 : Pv 0 (upd H1 D (.dT [])))
    (hs : ∀ i H, i < n → Pv i H → g (.int (lo + i)) (wipe σ vs) H fun σ2 H2 => wipe σ2 vs = wipe σ vs ∧ tk σ2 H2 fun y H4 => tv σ2 H4 fun z H5 => ∃ kvs k c, y = .ref c ∧ H5 c = some (.tup (k.map kV)) ∧ H5 D = some (.dT kvs) ∧ kvs.length < sizeLine ∧ Pv (i + 1) (upd H5 D (.dT (putK kvs k z))))
    (hd : ∀ H, Pv n H → Qd H) :
    ∃ W : Nat → Nat → Hp → Prop, (∃ m, W 0 m (upd H1 D (.dT []))) ∧ ∀ i m H, W i m H →
      ((Itr lo n).stop i H ∧ Qd H) ∨ ((Itr lo n).go i H ∧ ∃ Nx : Hp → Prop, (∀ H', Nx H' → ∃ m', m' < m ∧ W (i + 1) m' H') ∧ ∀ x H', (Itr lo n).yld i H x H' → g x (wipe σ vs) H' fun σ2 H2 => wipe σ2 vs = wipe σ vs ∧
        tk σ2 H2 fun y H4 => tv σ2 H4 fun z H5 => ∃ kvs k c, y = .ref c ∧ H5 c = some (.tup (k.map kV)) ∧ H5 D = some (.dT kvs) ∧ kvs.length < sizeLine ∧ Nx (upd H5 D (.dT (putK kvs k z)))) := by
  refine ⟨fun i m H => m = n - i ∧ i ≤ n ∧ Pv i H, ⟨n, by simp, Nat.zero_le _, h0⟩, ?_⟩
  rintro i m H ⟨rfl, hi, p⟩
  rcases Nat.lt_or_eq_of_le hi with lt | e
  · refine .inr ⟨lt, Pv (i + 1), fun H' p' => ⟨n - (i + 1), by omega, rfl, lt, p'⟩, fun x H' y => ?_⟩
    obtain ⟨e, y⟩ := y
    subst e y
    exact hs i _ lt p
  · subst e
    exact .inl ⟨Nat.le_refl _, hd H p⟩
end
end Kal

set_option Elab.async false
set_option linter.all false
set_option maxRecDepth 100000
set_option maxHeartbeats 4000000
/-! KC: what every def's proof leans on: the module's names, the hall in the heap, tools for heaps and loops. -/
namespace Kal
open PySem PySem.Spec PyProof.Rows L2 SX C8

/-! ### the module's names -/
structure Txt (K : PySem.W.Frag) (mg : Str → Option Value) (C : Addr) : Prop where
  isinstance : mg "isinstance" = none
  int : mg "int" = none
  bool : mg "bool" = none
  tuple : mg "tuple" = none
  len : mg "len" = none
  all : mg "all" = none
  enumerate : mg "enumerate" = none
  range : mg "range" = none
  sorted : mg "sorted" = none
  sum : mg "sum" = none
  zip : mg "zip" = none
  max : mg "max" = none
  list : mg "list" = none
  str : mg "str" = none
  cMOSTLAMPS : ∃ u, mg "MOST_LAMPS" = some u ∧ RelV (.int 8) u
  cMOSTPUSH : ∃ u, mg "MOST_PUSH" = some u ∧ RelV (.int 4) u
  cMOSTLOAD : ∃ u, mg "MOST_LOAD" = some u ∧ RelV (.int 400) u
  cMOSTPRESSES : ∃ u, mg "MOST_PRESSES" = some u ∧ RelV (.int 5000) u
  cMOSTLETTERS : ∃ u, mg "MOST_LETTERS" = some u ∧ RelV (.int 60) u
  cENDING : ∃ u, mg "ENDING" = some u ∧ RelV (.str "ending") u
  cFLAT : ∃ u, mg "FLAT" = some u ∧ RelV (.str "flat") u
  cWILD : ∃ u, mg "WILD" = some u ∧ RelV (.str "wild") u
  hallV : ∃ u, mg "Hall" = some u ∧ RelV (.ref C) u
  insC : InsC K C
  cl : Cls K C
  nT : NoAttr K C "told"
/-- a def of the top -/
structure Fn (K : PySem.W.Frag) (mg : Str → Option Value) (x qual : Str) (st : Stmt) (ps : List Str) : Prop where
  ex : ∃ (f : Addr) (fd : FuncData), FunD K qual qual (defArgs st) (defBody st) (defScope st) [] [] f fd ∧ mg x = some (.ref f) ∧ Binds K fd ps []
section
variable {P : Program} {w : World} {K : PySem.W.Frag} {mg : Str → Option Value} {base : Heap} {C : Addr}
theorem Fn.cal {x qual : Str} {st : Stmt} {N ps : List Str} {k : Nat} {sp : Sp} (F : Fn K mg x qual st ps) (S : FnScope N ps (defScope st)) (len : ∀ vs H Q E, sp vs H Q E → vs.length = ps.length)
    (hbody : ∀ (cdv : Value) (A : Around) (outer : List Env) (s : Shared) (f : Addr) (H : Hp) (vs : List V) (Q : VK) (E : XK), Room k (A.deeper (envOfC qual (defScope st) s.heap.objs.size f cdv)) → sp vs H Q E →
      ∃ t, PSs (cxOf L2.CX0 P w K mg base N qual (defScope st) f cdv A outer s H E).nox (defBody st) t ∧ t { nx := fun _ H' => Q .non H', rt := Q } (start N vs) H) : Cal P w K mg base (k + 1) x sp [] := by
  obtain ⟨f, fd, D, hm, hb⟩ := F.ex
  refine ⟨f, fd, ps, [], D.ok S len fun cdv A outer s H vs Q E hr h => ?_, hm, D.kp, hb, .nil⟩
  obtain ⟨t, h1, h2⟩ := hbody cdv A outer s f H vs Q E hr h
  exact ⟨t, h1.nox, h2⟩
end

/-! ### what stands in the heap -/
theorem sameUpd {H : Hp} {p : Addr} {o : HO} (h : H p = none) : Same H (upd H p o) := fun b x e => by
  rw [upd_ne (ne_of_none e h)]
  exact e
/-- the same but for what stands at D -/
def But (D : Addr) (H H' : Hp) : Prop := ∀ b o, b ≠ D → H b = some o → H' b = some o
theorem sameBut {H H' : Hp} (h : Same H H') (D : Addr) : But D H H' := fun b o _ e => h b o e
theorem But.upd {D : Addr} {H : Hp} {o : HO} : But D H (upd H D o) := fun b x ne e => by
  rw [upd_ne ne]
  exact e
theorem But.trans {D : Addr} {H H1 H2 : Hp} (a : But D H H1) (b : But D H1 H2) : But D H H2 := fun c o ne e => b c o ne (a c o ne e)
/-- a list that was not there before: written at will -/
theorem sameOfBut {D : Addr} {H H1 H2 : Hp} (a : Same H H1) (hn : H D = none) (b : But D H1 H2) : Same H H2 := fun c o e => b c o (ne_of_none e hn) (a c o e)
/-- rows of ints: a tuple of tuples -/
def MatAt (H : Hp) (tp : Addr) (M : List (List Int)) : Prop := ∃ ts : List Addr, H tp = some (.tup (ts.map V.ref)) ∧ Paired (fun t (row : List Int) => H t = some (.tup (row.map V.int))) ts M
theorem MatAt.same {H H' : Hp} {tp : Addr} {M : List (List Int)} (s : Same H H') (h : MatAt H tp M) : MatAt H' tp M := by
  obtain ⟨ts, e, r⟩ := h
  exact ⟨ts, s _ _ e, Paired.mono (fun _ _ q => s _ _ q) r⟩
theorem paired_get {α β : Type} {F : α → β → Prop} : ∀ {l : List α} {m : List β} {i : Nat} {b : β}, Paired F l m → m[i]? = some b → ∃ a, l[i]? = some a ∧ F a b
  | _, _, _, _, .nil, h => by simp at h
  | _, _, 0, _, .cons r _, h => by
    cases h
    exact ⟨_, rfl, r⟩
  | _, _, i + 1, b, .cons _ t, h => paired_get (i := i) (b := b) t h
theorem MatAt.row {H : Hp} {tp : Addr} {M : List (List Int)} {i : Nat} {row : List Int} (h : MatAt H tp M) (e : M[i]? = some row) : ∃ (ts : List Addr) (t : Addr), H tp = some (.tup (ts.map V.ref)) ∧ (ts.map V.ref)[i]? = some (.ref t) ∧ H t = some (.tup (row.map V.int)) := by
  obtain ⟨ts, e1, r⟩ := h
  obtain ⟨t, e2, e3⟩ := paired_get r e
  exact ⟨ts, t, e1, by rw [List.getElem?_map, e2]; rfl, e3⟩
theorem MatAt.len {H : Hp} {tp : Addr} {M : List (List Int)} (h : MatAt H tp M) : ∃ ts : List Addr, H tp = some (.tup (ts.map V.ref)) ∧ (ts.map V.ref).length = M.length := by
  obtain ⟨ts, e1, r⟩ := h
  exact ⟨ts, e1, by rw [List.length_map]; exact Paired.length r⟩
/-- a hall -/
def HallAt (C : Addr) (H : Hp) (h : Addr) (M : List (List Int)) : Prop := ∃ dx tp, H h = some (.ins C dx [("told", .ref tp)]) ∧ MatAt H tp M
theorem HallAt.same {C : Addr} {H H' : Hp} {h : Addr} {M : List (List Int)} (s : Same H H') (q : HallAt C H h M) : HallAt C H' h M := by
  obtain ⟨dx, tp, e, m⟩ := q
  exact ⟨dx, tp, s _ _ e, m.same s⟩
/-- square, and its numbers small -/
structure SqM (M : List (List Int)) : Prop where
  pos : 1 ≤ M.length
  most : M.length ≤ 8
  row : ∀ r ∈ M, r.length = M.length
  num : ∀ r ∈ M, ∀ m ∈ r, 0 ≤ m ∧ m ≤ 4
theorem SqM.at {M : List (List Int)} (S : SqM M) {i : Nat} (h : i < M.length) : ∃ row, M[i]? = some row ∧ row.length = M.length ∧ ∀ m ∈ row, 0 ≤ m ∧ m ≤ 4 :=
  ⟨M[i], List.getElem?_eq_getElem h, S.row _ (List.getElem_mem h), S.num _ (List.getElem_mem h)⟩

/-! ### lists by their places -/
theorem ints_at {ns : List Int} {i : Nat} {x : V} (h : (ns.map V.int)[i]? = some x) : ∃ n, ns[i]? = some n ∧ x = .int n := by
  rw [List.getElem?_map] at h
  cases e : ns[i]? with
  | none =>
    rw [e] at h
    cases h
  | some n =>
    rw [e] at h
    exact ⟨n, rfl, (Option.some.inj h).symm⟩
theorem at_ints {ns : List Int} {i : Nat} (h : i < ns.length) : (ns.map V.int)[i]? = some (.int (ns.getD i 0)) := by
  rw [List.getElem?_map, List.getElem?_eq_getElem h, List.getD_eq_getElem?_getD, List.getElem?_eq_getElem h]
  rfl
theorem small {n : Nat} (h : n ≤ 1000000) : n ≤ sizeLine := by
  rw [sizeLine_eq]
  omega
theorem smallLt {n : Nat} (h : n ≤ 1000000) : n < sizeLine := by
  rw [sizeLine_eq]
  omega

/-! ### a list that a comprehension fills -/
/-- D holds i values, the j-th such that R j; the rest is as it was -/
def MapAt (H1 : Hp) (D : Addr) (R : Nat → V → Hp → Prop) (i : Nat) (H : Hp) : Prop := Same H1 H ∧ ∃ vs, H D = some (.lst vs) ∧ vs.length = i ∧ ∀ j v, vs[j]? = some v → R j v H
/-- R hangs on what is no list being filled -/
def Firm (D : Addr) (R : Nat → V → Hp → Prop) : Prop := ∀ j v H H' l, H D = some (.lst l) → But D H H' → R j v H → R j v H'
theorem MapAt.zero {H1 : Hp} {D : Addr} {R : Nat → V → Hp → Prop} (hn : H1 D = none) : MapAt H1 D R 0 (upd H1 D (.lst [])) :=
  ⟨sameUpd hn, [], upd_same, rfl, fun j v h => by simp at h⟩
theorem MapAt.step {H1 : Hp} {D : Addr} {R : Nat → V → Hp → Prop} {i : Nat} {H H4 : Hp} {y : V} (fm : Firm D R) (hn : H1 D = none) (hi : i ≤ 1000000) (h : MapAt H1 D R i H) (sm : Same H H4) (p : R i y H4) :
    ∃ acc, H4 D = some (.lst acc) ∧ acc.length < sizeLine ∧ MapAt H1 D R (i + 1) (upd H4 D (.lst (acc ++ [y]))) := by
  obtain ⟨s1, vs, e, l, f⟩ := h
  have e4 := sm _ _ e
  refine ⟨vs, e4, by rw [l]; exact smallLt hi, sameOfBut (s1.trans sm) hn But.upd, vs ++ [y], upd_same, by rw [List.length_append, l]; rfl, fun j v hv => ?_⟩
  rcases Nat.lt_or_ge j vs.length with lt | ge
  · rw [List.getElem?_append_left lt] at hv
    exact fm j v H4 _ vs e4 But.upd (fm j v H H4 vs e (sameBut sm D) (f j v hv))
  · rw [List.getElem?_append_right ge] at hv
    have ej : j - vs.length = 0 := by
      rcases Nat.eq_zero_or_pos (j - vs.length) with z | z
      · exact z
      · rw [List.getElem?_eq_none (by rw [List.length_singleton]; exact z)] at hv
        cases hv
    rw [ej] at hv
    cases hv
    have e5 : j = i := by omega
    subst e5
    exact fm j y H4 _ vs e4 But.upd p
/-- values told beforehand -/
def Told (f : Nat → V) : Nat → V → Hp → Prop := fun j v _ => v = f j
theorem firm_told {D : Addr} {f : Nat → V} : Firm D (Told f) := fun _ _ _ _ _ _ _ h => h
theorem MapAt.told {H1 : Hp} {D : Addr} {f : Nat → V} {n : Nat} {H : Hp} (h : MapAt H1 D (Told f) n H) : Same H1 H ∧ H D = some (.lst ((List.range n).map f)) := by
  obtain ⟨s, vs, e, l, r⟩ := h
  refine ⟨s, ?_⟩
  rw [e]
  refine congrArg (fun z => some (HO.lst z)) (List.ext_getElem? fun j => ?_)
  rw [List.getElem?_map]
  rcases Nat.lt_or_ge j n with lt | ge
  · have h1 : vs[j]? = some (vs[j]'(l ▸ lt)) := List.getElem?_eq_getElem (l ▸ lt)
    rw [h1, List.getElem?_range lt]
    exact congrArg some (r j _ h1)
  · rw [List.getElem?_eq_none (by omega), List.getElem?_eq_none (by simpa using ge)]
    rfl
end Kal

set_option Elab.async false
set_option linter.all false
set_option maxRecDepth 100000
set_option maxHeartbeats 4000000
/-! KC2: comprehensions told by a function; the hall's length. -/
namespace Kal
open PySem PySem.Spec PyProof.Rows L2 SX C8
section
variable {J : It} {n : Nat} {G : Hp → Prop} {Y : Nat → Hp → V → Hp → Prop}
/-- a comprehension that keeps at turn i what f i says -/
theorem lc_filt (w : Walk J n G Y) (f : Nat → Option V) (hn : ∀ i, i ≤ n → i ≤ 1000000) {g : TG} {tt : TT} {te : TE} {vs : List Nat} {σ : L2.St} {H1 : Hp} {D : Addr} {Qd : Hp → Prop} (hD : H1 D = none)
    (hG : ∀ H, Same H1 H → G H)
    (hs : ∀ i x H H', i < n → Same H1 H → Y i H x H' → ∀ (M : V → Hp → Prop) (N : Hp → Prop), (∀ v, f i = some v → ∀ H4, Same H H4 → M v H4) → (f i = none → ∀ H4, Same H H4 → N H4) →
      g x (wipe σ vs) H' fun σ2 H2 => wipe σ2 vs = wipe σ vs ∧ tt σ2 H2 fun b H3 => if b = true then te σ2 H3 M else N H3)
    (hd : ∀ H, Same H1 H → H D = some (.lst ((List.range n).filterMap f)) → Qd H) :
    ∃ W : Nat → Nat → Hp → Prop, (∃ m, W 0 m (upd H1 D (.lst []))) ∧ ∀ i m H, W i m H →
      (J.stop i H ∧ Qd H) ∨ (J.go i H ∧ ∃ Nx : Hp → Prop, (∀ H', Nx H' → ∃ m', m' < m ∧ W (i + 1) m' H') ∧ ∀ x H', J.yld i H x H' → g x (wipe σ vs) H' fun σ2 H2 => wipe σ2 vs = wipe σ vs ∧ tt σ2 H2 fun b H3 =>
        if b = true then te σ2 H3 fun y H4 => ∃ acc, H4 D = some (.lst acc) ∧ acc.length < sizeLine ∧ Nx (upd H4 D (.lst (acc ++ [y]))) else Nx H3) := by
  refine lc_it w (fun i H => Same H1 H ∧ H D = some (.lst ((List.range i).filterMap f))) ⟨sameUpd hD, upd_same⟩ (fun i H _ p => hG H p.1) (fun i x H H' hi p y => ?_) (fun H p => hd H p.1 p.2)
  refine hs i x H H' hi p.1 y _ _ (fun v e H4 s => ?_) (fun e H4 s => ?_)
  · have hl : ((List.range i).filterMap f).length < sizeLine := Nat.lt_of_le_of_lt (List.length_filterMap_le f _) (by rw [List.length_range]; exact smallLt (hn i (Nat.le_of_lt hi)))
    refine ⟨_, s _ _ p.2, hl, sameOfBut (p.1.trans s) hD But.upd, ?_⟩
    rw [upd_same, List.range_succ, List.filterMap_append]
    simp [e]
  · refine ⟨p.1.trans s, ?_⟩
    rw [s _ _ p.2, List.range_succ, List.filterMap_append]
    simp [e]
/-- .. that keeps all -/
theorem lc_told (w : Walk J n G Y) (f : Nat → V) (hn : n ≤ 1000000) {g : TG} {te : TE} {vs : List Nat} {σ : L2.St} {H1 : Hp} {D : Addr} {Qd : Hp → Prop} (hD : H1 D = none)
    (hG : ∀ H, Same H1 H → G H)
    (hs : ∀ i x H H', i < n → Same H1 H → Y i H x H' → ∀ (M : V → Hp → Prop), (∀ H4, Same H H4 → M (f i) H4) →
      g x (wipe σ vs) H' fun σ2 H2 => wipe σ2 vs = wipe σ vs ∧ te σ2 H2 M)
    (hd : ∀ H, Same H1 H → H D = some (.lst ((List.range n).map f)) → Qd H) :
    ∃ W : Nat → Nat → Hp → Prop, (∃ m, W 0 m (upd H1 D (.lst []))) ∧ ∀ i m H, W i m H →
      (J.stop i H ∧ Qd H) ∨ (J.go i H ∧ ∃ Nx : Hp → Prop, (∀ H', Nx H' → ∃ m', m' < m ∧ W (i + 1) m' H') ∧ ∀ x H', J.yld i H x H' → g x (wipe σ vs) H' fun σ2 H2 => wipe σ2 vs = wipe σ vs ∧ tYes σ2 H2 fun b H3 =>
        if b = true then te σ2 H3 fun y H4 => ∃ acc, H4 D = some (.lst acc) ∧ acc.length < sizeLine ∧ Nx (upd H4 D (.lst (acc ++ [y]))) else Nx H3) :=
  lc_filt w (fun i => some (f i)) (fun i h => Nat.le_trans h hn) hD hG (fun i x H H' hi s y M N h1 _ => hs i x H H' hi s y M (h1 _ rfl)) (fun H s e => hd H s (by rw [e]; congr 2; exact congrFun (List.filterMap_eq_map (f := f)) _))
end
/-! ### the hall's length -/
def spLen (C : Addr) : Sp := fun vs H Q _ => ∃ (h : Addr) (M : List (List Int)), vs = [.ref h] ∧ HallAt C H h M ∧ M.length ≤ 1000 ∧ Q (.int (M.length : Nat)) H
structure LenH (P : Program) (w : World) (K : PySem.W.Frag) (mg : Str → Option Value) (base : Heap) (C : Addr) : Prop where
  ex : ∃ (f : Addr) (fd : FuncData) (ps : List Str), Cls K C ∧ PySem.W.findIn K (.ref C) "__len__" = some (some (.ref f)) ∧ PySem.W.isFn K (.ref f) = true ∧ FnOk P w K mg base L2.CX0 1 f fd ps (spLen C) ∧ Binds K fd ps []
def rHall (C : Addr) : List V → Hp → VK → Prop := fun xs H Q => ∃ (h : Addr) (M : List (List Int)), xs = [.ref h] ∧ HallAt C H h M ∧ M.length ≤ 1000 ∧ Q (.int (M.length : Nat)) H
theorem lenHall {X : Cx} {C : Addr} (L : LenH X.prog X.w X.K X.mg X.base C) (hr : Room 2 X.A) : CallR X (.builtin "len") (rHall C) := by
  obtain ⟨f, fd, ps, c, h1, h2, F, b⟩ := L.ex
  intro pins s σ H xs us Q I r h
  obtain ⟨a, M, rfl, hh, le, q⟩ := h
  obtain ⟨dx, tp, e, m⟩ := id hh
  exact call_lenOwn c h1 h2 F hr b _ _ _ _ _ _ _ I r ⟨a, dx, _, rfl, e, a, M, rfl, hh, le, M.length, rfl, le, q⟩
/-- .. read -/
theorem hall_told {C : Addr} {H : Hp} {h : Addr} {M : List (List Int)} (q : HallAt C H h M) : ∃ dx tp, H h = some (.ins C dx [("told", .ref tp)]) ∧ MatAt H tp M := q
/-- in a heap that holds more -/
theorem up {H : Hp} {p q : Addr} {o o' : HO} (h : H p = some o) (n : H q = none) : upd H q o' p = some o := by rw [upd_ne (ne_of_none h n)]; exact h
theorem kII {K : PySem.W.Frag} : PySem.W.kitOne K (.type "int") (.type "int") = some true := kit_ty (by decide +kernel)
theorem kBI {K : PySem.W.Frag} : PySem.W.kitOne K (.type "bool") (.type "int") = some true := kit_ty (by decide +kernel)
theorem kNI {K : PySem.W.Frag} : PySem.W.kitOne K (.type "NoneType") (.type "int") = some false := kit_ty (by decide +kernel)
theorem kSI {K : PySem.W.Frag} : PySem.W.kitOne K (.type "str") (.type "int") = some false := kit_ty (by decide +kernel)
theorem kLI {K : PySem.W.Frag} : PySem.W.kitOne K (.type "list") (.type "int") = some false := kit_ty (by decide +kernel)
theorem kIB {K : PySem.W.Frag} : PySem.W.kitOne K (.type "int") (.type "bool") = some false := kit_ty (by decide +kernel)
theorem kBB {K : PySem.W.Frag} : PySem.W.kitOne K (.type "bool") (.type "bool") = some true := kit_ty (by decide +kernel)
theorem kTT {K : PySem.W.Frag} : PySem.W.kitOne K (.type "tuple") (.type "tuple") = some true := kit_ty (by decide +kernel)
theorem kLT {K : PySem.W.Frag} : PySem.W.kitOne K (.type "list") (.type "tuple") = some false := kit_ty (by decide +kernel)
theorem kIT {K : PySem.W.Frag} : PySem.W.kitOne K (.type "int") (.type "tuple") = some false := kit_ty (by decide +kernel)
theorem kBT {K : PySem.W.Frag} : PySem.W.kitOne K (.type "bool") (.type "tuple") = some false := kit_ty (by decide +kernel)
theorem kNT {K : PySem.W.Frag} : PySem.W.kitOne K (.type "NoneType") (.type "tuple") = some false := kit_ty (by decide +kernel)
theorem kST {K : PySem.W.Frag} : PySem.W.kitOne K (.type "str") (.type "tuple") = some false := kit_ty (by decide +kernel)
theorem kDT {K : PySem.W.Frag} : PySem.W.kitOne K (.type "dict") (.type "tuple") = some false := kit_ty (by decide +kernel)
theorem kTI {K : PySem.W.Frag} : PySem.W.kitOne K (.type "tuple") (.type "int") = some false := kit_ty (by decide +kernel)
theorem kTL {K : PySem.W.Frag} : PySem.W.kitOne K (.type "tuple") (.type "list") = some false := kit_ty (by decide +kernel)
theorem kSS {K : PySem.W.Frag} : PySem.W.kitOne K (.type "str") (.type "str") = some true := kit_ty (by decide +kernel)
theorem kNS {K : PySem.W.Frag} : PySem.W.kitOne K (.type "NoneType") (.type "str") = some false := kit_ty (by decide +kernel)
theorem kTS {K : PySem.W.Frag} : PySem.W.kitOne K (.type "tuple") (.type "str") = some false := kit_ty (by decide +kernel)
theorem kTB {K : PySem.W.Frag} : PySem.W.kitOne K (.type "tuple") (.type "bool") = some false := kit_ty (by decide +kernel)
theorem kNL {K : PySem.W.Frag} : PySem.W.kitOne K (.type "NoneType") (.type "list") = some false := kit_ty (by decide +kernel)
theorem kBL {K : PySem.W.Frag} : PySem.W.kitOne K (.type "bool") (.type "list") = some false := kit_ty (by decide +kernel)
/-! ### walks over natI -/
def YP (f g : Nat → V) : Nat → Hp → V → Hp → Prop := fun i H v H' => ∃ T, v = .ref T ∧ H T = none ∧ H' = upd H T (.tup [f i, g i])
theorem at_eq {ns : List Int} {i : Nat} {x : V} (hi : i < ns.length) (h : (ns.map V.int)[i]? = some x) : x = .int (ns.getD i 0) := by
  rw [at_ints hi] at h
  exact (Option.some.inj h).symm
theorem walk_zipI {K : PySem.W.Frag} {b1 b2 : Bool} {a b : Addr} {ns ms : List Int} (hl : ns.length = ms.length) :
    Walk (ItzB K b1 a b2 b) ns.length (fun H => SqB K H b1 a (ns.map V.int) ∧ SqB K H b2 b (ms.map V.int)) (YP (fun i => .int (ns.getD i 0)) (fun i => .int (ms.getD i 0))) := by
  have w := walk_zipB (K := K) (b1 := b1) (b2 := b2) (a := a) (b := b) (xs := ns.map V.int) (ys := ms.map V.int) (by simp [hl])
  rw [List.length_map] at w
  refine w.mono (fun _ h => h) (fun i H x H' hi _ y => ?_)
  obtain ⟨T, x1, x2, e, n, e2, g1, g2⟩ := y
  have z1 := at_eq hi g1
  have z2 := at_eq (by omega) g2
  subst z1 z2
  exact ⟨T, e, n, e2⟩
theorem walk_enumI {K : PySem.W.Frag} {b : Bool} {a : Addr} {ns : List Int} :
    Walk (IteB K b a) ns.length (fun H => SqB K H b a (ns.map V.int)) (YP (fun i => .int (i : Nat)) (fun i => .int (ns.getD i 0))) := by
  have w := walk_enumB (K := K) (b := b) (a := a) (xs := ns.map V.int)
  rw [List.length_map] at w
  refine w.mono (fun _ h => h) (fun i H x H' hi _ y => ?_)
  obtain ⟨T, x1, e, n, e2, g1⟩ := y
  have z1 := at_eq hi g1
  subst z1
  exact ⟨T, e, n, e2⟩
theorem walk_tupI {K : PySem.W.Frag} {a : Addr} {ns : List Int} : Walk (Itt K a) ns.length (fun H => SqT K H a (ns.map V.int)) (YFn fun i => .int (ns.getD i 0)) := by
  have w := walk_tup (K := K) (a := a) (xs := ns.map V.int)
  rw [List.length_map] at w
  exact w.mono (fun _ h => h) (fun i H x H' hi _ y => ⟨y.1, at_eq hi y.2⟩)
theorem walk_listI {K : PySem.W.Frag} {a : Addr} {ns : List Int} : Walk (Itl K a) ns.length (fun H => SqL K H a (ns.map V.int)) (YFn fun i => .int (ns.getD i 0)) := by
  have w := walk_list (K := K) (a := a) (xs := ns.map V.int)
  rw [List.length_map] at w
  exact w.mono (fun _ h => h) (fun i H x H' hi _ y => ⟨y.1, at_eq hi y.2⟩)
theorem map_rangeI (n : Nat) (f : Nat → Int) : (List.range n).map (fun i => V.int (f i)) = ((List.range n).map f).map V.int := by rw [List.map_map]; rfl
theorem zip_range {ns ms : List Int} (h : ns.length = ms.length) (f : Int → Int → Int) : (List.range ns.length).map (fun i => f (ns.getD i 0) (ms.getD i 0)) = List.zipWith f ns ms := by
  refine List.ext_getElem (by simp [h]) fun i h1 h2 => ?_
  have a1 : i < ns.length := by simpa using h1
  have a2 : i < ms.length := by omega
  simp [List.getD_eq_getElem?_getD, a1, a2]
theorem ixN_at {n j : Nat} (hj : j < n) : ixN n (j : Int) = some j := by
  unfold ixN
  rw [if_pos (by omega), if_pos (by omega)]
  simp
theorem SqM.getD {M : List (List Int)} (S : SqM M) {row : List Int} (hr : row ∈ M) (i : Nat) : 0 ≤ row.getD i 0 ∧ row.getD i 0 ≤ 4 := by
  rw [List.getD_eq_getElem?_getD]
  rcases Nat.lt_or_ge i row.length with h | h
  · rw [List.getElem?_eq_getElem h]
    exact S.num _ hr _ (List.getElem_mem h)
  · rw [List.getElem?_eq_none h]
    exact ⟨by decide, by decide⟩
/-! ### natural numbers as natI -/
def natI (ws : List Nat) : List Int := ws.map fun (i : Nat) => (i : Int)
theorem natI_len (ws : List Nat) : (natI ws).length = ws.length := List.length_map _
theorem natI_getD (ws : List Nat) (i : Nat) : (natI ws).getD i 0 = ((ws.getD i 0 : Nat) : Int) := by
  unfold natI
  rw [List.getD_eq_getElem?_getD, List.getD_eq_getElem?_getD, List.getElem?_map]
  cases ws[i]? <;> rfl
theorem filt_eq (p : Nat → Bool) (v : Nat → V) : ∀ l : List Nat, l.filterMap (fun i => if p i = true then some (v i) else none) = (l.filter p).map v
  | [] => rfl
  | i :: l => by
    rw [List.filterMap_cons, List.filter_cons, filt_eq p v l]
    cases p i <;> rfl
theorem nats_v (l : List Nat) : l.map (fun i => V.int (i : Nat)) = (natI l).map V.int := by unfold natI; rw [List.map_map]; rfl
theorem getD_lt {ws : List Nat} {n i : Nat} (h : ∀ x ∈ ws, x < n) (hi : i < ws.length) : ws.getD i 0 < n := by
  rw [List.getD_eq_getElem?_getD, List.getElem?_eq_getElem hi]
  exact h _ (List.getElem_mem hi)
theorem upd_full {H H' : Hp} {D p : Addr} {o o' : HO} (s : Same H H') (e : H' D = some o) (hp : H' p = none) : Same H (upd H' p o') := s.trans (sameUpd hp)
theorem iteP {b : Bool} {A B : Prop} (h : b = true) (x : A) : if b = true then A else B := by rw [if_pos h]; exact x
theorem iteN {b : Bool} {A B : Prop} (h : b = false) (x : B) : if b = true then A else B := by rw [if_neg (by rw [h]; exact Bool.false_ne_true)]; exact x
/-! ### rules within a comprehension: the written part by its own name -/
section
variable {X : Cx} {K : PySem.W.Frag}
theorem pe_fldK {e : Expr} {f : Str} {pos : Pos} {ta : TE} (hK : X.K = K) (he : PE X e ta) (hb : attributeBase e f X.env (eval e X.env) = eval e X.env) : PE X (.Attribute e f pos) (tFld K ta f) := by subst hK; exact pe_fld he hb
theorem ix_tupK (hK : X.K = K) : IxR X (rIxT K) := by subst hK; exact ix_tup
theorem ix_listK (hK : X.K = K) : IxR X (rIxL K) := by subst hK; exact ix_list
def rLenQ (K : PySem.W.Frag) : List V → Hp → VK → Prop := fun xs H Q => ∃ p ys, xs = [.ref p] ∧ (SqL K H p ys ∨ SqT K H p ys) ∧ Q (.int ys.length) H
theorem call_len_seqK (hK : X.K = K) : CallR X (.builtin "len") (rLenQ K) := by subst hK; exact call_len_seq
def rListQ (K : PySem.W.Frag) : List V → Hp → VK → Prop := fun xs H Q => ∃ p ys, xs = [.ref p] ∧ (SqL K H p ys ∨ SqT K H p ys) ∧ ∀ l, H l = none → Q (.ref l) (upd H l (.lst ys))
theorem call_list_ofK (hK : X.K = K) : CallR X (.type "list") (rListQ K) := by subst hK; exact call_list_of
def rTupQ (K : PySem.W.Frag) : List V → Hp → VK → Prop := fun xs H Q => ∃ p ys, xs = [.ref p] ∧ ((SqL K H p ys ∧ ∀ l, H l = none → Q (.ref l) (upd H l (.tup ys))) ∨ (SqT K H p ys ∧ Q (.ref p) H))
theorem call_tuple_ofK (hK : X.K = K) : CallR X (.type "tuple") (rTupQ K) := by subst hK; exact call_tuple_of
theorem call_isiK2 (hK : X.K = K) : CallR X (.builtin "isinstance") (rIsi K) := by subst hK; exact call_isi
theorem op_eqDK (hK : X.K = K) (hu : X.A.units + 64 < cLine) : OpR X (compareOp .Eq) (rEqD K) := by subst hK; exact op_eqD hu
theorem pi_listK {e tg : Expr} {te : TE} (hK : X.K = K) (h : PE X e te) : PI X tg e (iList K te) := by subst hK; exact pi_list h
theorem pi_tupK {e tg : Expr} {te : TE} (hK : X.K = K) (h : PE X e te) : PI X tg e (iTup K te) := by subst hK; exact pi_tup h
theorem op_catAK (hK : X.K = K) : OpR X (binaryOp .Add) (rCatA K) := by subst hK; exact op_catA
end
theorem sameSeqT {K : PySem.W.Frag} {H H' : Hp} {a : Addr} {xs : List V} (e : Same H H') (h : SqT K H a xs) : SqT K H' a xs := by
  rcases h with (h | ⟨o, h⟩) | h
  · exact .inl (.inl (e _ _ h))
  · exact .inl (.inr ⟨o, e _ _ h⟩)
  · exact .inr h
theorem natI_fn (ws : List Nat) : (fun i => V.int ((natI ws).getD i 0)) = fun i => V.int ((ws.getD i 0 : Nat) : Int) := funext fun i => by rw [natI_getD]
theorem walk_zipN {K : PySem.W.Frag} {b1 b2 : Bool} {a b : Addr} {ws : List Nat} {ms : List Int} (hl : ws.length = ms.length) :
    Walk (ItzB K b1 a b2 b) ws.length (fun H => SqB K H b1 a ((natI ws).map V.int) ∧ SqB K H b2 b (ms.map V.int)) (YP (fun i => .int ((ws.getD i 0 : Nat) : Int)) (fun i => .int (ms.getD i 0))) := by
  have w := walk_zipI (K := K) (b1 := b1) (b2 := b2) (a := a) (b := b) (ns := natI ws) (ms := ms) (by rw [natI_len, hl])
  rw [natI_len, natI_fn] at w
  exact w
theorem walk_enumN {K : PySem.W.Frag} {b : Bool} {a : Addr} {ws : List Nat} :
    Walk (IteB K b a) ws.length (fun H => SqB K H b a ((natI ws).map V.int)) (YP (fun i => .int (i : Nat)) (fun i => .int ((ws.getD i 0 : Nat) : Int))) := by
  have w := walk_enumI (K := K) (b := b) (a := a) (ns := natI ws)
  rw [natI_len, natI_fn] at w
  exact w
theorem walk_tupN {K : PySem.W.Frag} {a : Addr} {ws : List Nat} : Walk (Itt K a) ws.length (fun H => SqT K H a ((natI ws).map V.int)) (YFn fun i => .int ((ws.getD i 0 : Nat) : Int)) := by
  have w := walk_tupI (K := K) (a := a) (ns := natI ws)
  rw [natI_len, natI_fn] at w
  exact w
theorem walk_listN {K : PySem.W.Frag} {a : Addr} {ws : List Nat} : Walk (Itl K a) ws.length (fun H => SqL K H a ((natI ws).map V.int)) (YFn fun i => .int ((ws.getD i 0 : Nat) : Int)) := by
  have w := walk_listI (K := K) (a := a) (ns := natI ws)
  rw [natI_len, natI_fn] at w
  exact w
/-- an expression that is never reached -/
theorem pe_never {X : Cx} {e : Expr} : PE X e (fun _ _ _ => False) := ⟨fun _ _ _ _ _ _ h => h.elim⟩
end Kal

set_option Elab.async false
set_option linter.all false
set_option maxRecDepth 100000
set_option maxHeartbeats 4000000
/-! KD1: is_from, changed. -/
namespace Kal
open PySem PySem.Spec PyProof.Rows L2 SX C8
/-! ### is_from -/
/-- what is_from answers of v -/
inductive FromIs (H : Hp) (lo hi : Int) : V → Bool → Prop where
  | int (n : Int) : FromIs H lo hi (.int n) (decide (lo ≤ n) && decide (n ≤ hi))
  | bl (b : Bool) : FromIs H lo hi (.bl b) false
  | non : FromIs H lo hi .non false
  | str (z : Str) : FromIs H lo hi (.str z) false
  | lst (a : Addr) (xs : List V) (e : H a = some (.lst xs)) : FromIs H lo hi (.ref a) false
def spIsFrom : Sp := fun vs H Q _ => ∃ (v : V) (lo hi : Int) (b : Bool), vs = [v, .int lo, .int hi] ∧ FromIs H lo hi v b ∧ Q (.bl b) H
section
variable {P : Program} {w : World} {K : PySem.W.Frag} {mg : Str → Option Value} {base : Heap} {C : Addr}
abbrev nIsFrom : List Str := ["value", "low", "high"]
theorem scIsFrom : FnScope nIsFrom ["value", "low", "high"] (defScope sDIsFrom) := ⟨rfl, rfl, rfl, by decide +kernel, rfl, by decide +kernel, by decide +kernel⟩
theorem c_isFrom (T : Txt K mg C) (F : Fn K mg "is_from" "is_from" sDIsFrom ["value", "low", "high"])  : Cal P w K mg base 1 "is_from" (spIsFrom) [] := by
  refine F.cal scIsFrom (fun vs H Q E h => by obtain ⟨_, _, _, _, rfl, _⟩ := h; rfl) (fun cdv A outer s f H vs Q E hr h => ?_)
  have nd := scIsFrom.nd
  obtain ⟨v, lo, hi, b, rfl, fi, q⟩ := h
  refine ⟨_, (pss_one (ps_ret (pe_and (pe_callB call_isi rfl T.isinstance (by decide +kernel) (pa_cons (pv 0) (pa_cons (pe_bltn (v := .ty "int") (u := .type "int") rfl T.int (by decide +kernel) rfl) pa_nil))) (pe_and (pe_not (pe_callB call_isi rfl T.isinstance (by decide +kernel) (pa_cons (pv 0) (pa_cons (pe_bltn (v := .ty "bool") (u := .type "bool") rfl T.bool (by decide +kernel) rfl) pa_nil)))) (pe_one (pe_chain op_le op_le (pv 1) (pv 0) (pv 2))))))), ?_⟩
  cases fi with
  | int n =>
    refine ⟨_, rfl, _, _, _, _, _, rfl, .ty "int", .base (.int n), kII, _, rfl, ?_⟩
    refine ⟨_, rfl, _, _, _, _, _, rfl, .ty "bool", .base (.int n), kIB, _, rfl, _, rfl, ?_⟩
    refine ⟨_, rfl, _, rfl, _, _, rfl, rfl, _, rfl, ?_⟩
    by_cases h : lo ≤ n
    · rw [if_pos (decide_eq_true h)]
      refine ⟨_, rfl, _, _, rfl, rfl, ?_⟩
      rw [decide_eq_true h] at q
      exact q
    · rw [if_neg (by simpa using h)]
      rw [decide_eq_false h] at q
      exact q
  | bl b =>
    refine ⟨_, rfl, _, _, _, _, _, rfl, .ty "int", .base (.bl b), kBI, _, rfl, ?_⟩
    exact ⟨_, rfl, _, _, _, _, _, rfl, .ty "bool", .base (.bl b), kBB, _, rfl, _, rfl, q⟩
  | non => exact ⟨_, rfl, _, _, _, _, _, rfl, .ty "int", .base .non, kNI, _, rfl, q⟩
  | str z => exact ⟨_, rfl, _, _, _, _, _, rfl, .ty "int", .base (.str z), kSI, _, rfl, q⟩
  | lst a xs e => exact ⟨_, rfl, _, _, _, _, _, rfl, .ty "int", .base (.lst e), kLI, _, rfl, q⟩
/-! ### changed -/
end
def chg (M : List (List Int)) (ns : List Int) (l : Nat) : List Int := ((List.zipWith (fun n m => n + m * ns.getD l 0) ns (M.getD l [])).set l (-(ns.getD l 0)))
def spChanged (C : Addr) : Sp := fun vs H Q _ => ∃ (h : Addr) (M : List (List Int)) (a : Addr) (ns : List Int) (l : Nat), vs = [.ref h, .ref a, .int (l : Nat)] ∧ HallAt C H h M ∧ SqM M ∧ H a = some (.tup (ns.map V.int)) ∧ ns.length = M.length ∧ l < M.length ∧
  ∀ H' p, Same H H' → H' p = some (.tup ((chg M ns l).map V.int)) → Q (.ref p) H'
section
variable {P : Program} {w : World} {K : PySem.W.Frag} {mg : Str → Option Value} {base : Heap} {C : Addr}
abbrev nChanged : List Str := ["hall", "numbers", "lamp", "own", "found", "number", "many"]
theorem scChanged : FnScope nChanged ["hall", "numbers", "lamp"] (defScope sDChanged) := ⟨rfl, rfl, rfl, by decide +kernel, rfl, by decide +kernel, by decide +kernel⟩
theorem c_changed (T : Txt K mg C) (F : Fn K mg "changed" "changed" sDChanged ["hall", "numbers", "lamp"])  : Cal P w K mg base 1 "changed" (spChanged C) [] := by
  refine F.cal scChanged (fun vs H Q E h => by obtain ⟨_, _, _, _, _, rfl, _⟩ := h; rfl) (fun cdv A outer s f H vs Q E hr h => ?_)
  have nd := scChanged.nd
  obtain ⟨h, M, a, ns, l, rfl, hh, S, ha, hl, hlt, q⟩ := h
  obtain ⟨dx, tp, eh, mt⟩ := hh
  obtain ⟨row, er, el, eb⟩ := S.at hlt
  obtain ⟨ts, t, e1, e2, e3⟩ := mt.row er
  refine ⟨_, (pss_cons (ps_set (i := 3) nd rfl (.inr rfl) (pe_ix ix_tup (pv 1) (pv 2) (fun _ _ => rfl)))
      (pss_cons (ps_setLc (i := 4) (own := [("number", 5), ("many", 6)]) (g := (gTup K 2 (gCons (gName 5) (gCons (gName 6) gNil)))) rfl nd rfl rfl (sw_true rfl rfl rfl (by decide +kernel)) (pi_zipB rfl T.zip (pa_cons (pv 1) (pa_cons (pe_ix ix_tup (pe_fld (pv 0) rfl) (pv 2) (fun _ _ => rfl)) pa_nil))) (blkOk_by (own := [("number", 5), ("many", 6)]) (N := nChanged) (sc := (defScope sDChanged)) (by decide +kernel)) (fun _ _ _ _ _ => (pg_tup rfl (pgs_cons (pg_name (i := 5) nd rfl (.inl rfl)) (pgs_cons (pg_name (i := 6) nd rfl (.inl rfl)) pgs_nil)))) (fun _ _ _ _ _ => pts_nil) (fun _ _ _ _ _ => (pe_op op_add (pv 5) (pe_op op_mul (pv 6) (pv 3)))))
      (pss_cons (ps_asg (pe_un un_neg (pv 3)) (pg_sub (pv 4) (pv 2) set_list))
      (pss_one (ps_ret (pe_callTy call_tuple_of rfl T.tuple (by decide +kernel) (pa_cons (pv 4) pa_nil))))))), ?_⟩
  refine ⟨_, rfl, _, rfl, _, _, _, _, rfl, rfl, SqT.of ha, atI_nat (at_ints (i := l) (by omega)), ?_⟩
  refine ⟨_, rfl, _, rfl, _, _, _, _, _, rfl, eh, T.cl, T.nT, rfl, _, rfl, _, _, _, _, rfl, rfl, SqT.of e1, atI_nat e2, ?_⟩
  refine ⟨false, a, _, false, t, _, rfl, SqT.of ha, SqT.of e3, fun D hD => ?_⟩
  have hM8 := S.most
  refine lc_told (walk_zipI (by omega)) (fun i => .int (ns.getD i 0 + row.getD i 0 * ns.getD l 0)) (by omega) hD (fun H' s => ⟨SqT.of (s _ _ ha), SqT.of (s _ _ e3)⟩) (fun i x H' H'' hi s y M' hM => ?_) (fun H' s e => ?_)
  · obtain ⟨T', rfl, hT, rfl⟩ := y
    have hb := S.getD (List.mem_of_getElem? er) i
    refine ⟨_, _, rfl, SqT.of upd_same, rfl, _, _, rfl, _, _, rfl, rfl, rfl, ?_⟩
    exact ⟨_, rfl, _, rfl, _, rfl, _, _, rfl, rfl, .inl (by omega), _, _, rfl, rfl, hM _ (sameUpd hT)⟩
  · rw [map_rangeI, zip_range (by omega) fun n m => n + m * ns.getD l 0] at e
    refine ⟨_, rfl, _, rfl, _, rfl, _, rfl, _, _, _, _, rfl, rfl, e, ixN_at (j := l) (by simp [hl, el]; omega), ?_⟩
    refine ⟨_, rfl, _, _, rfl, .inl ⟨SqL.of upd_same, fun p hp => ?_⟩⟩
    have hDn : H' p = none ∨ p = D := by
      by_cases z : p = D
      · exact .inr z
      · rw [upd_ne z] at hp
        exact .inl hp
    refine q _ p ((sameOfBut s hD But.upd).trans (sameUpd hp)) ?_
    rw [upd_same]
    refine congrArg (fun z => some (HO.tup z)) ?_
    unfold chg
    rw [List.map_set, List.getD_eq_getElem?_getD (l := M), er]
    rfl
end
end Kal

set_option Elab.async false
set_option linter.all false
set_option maxRecDepth 100000
set_option maxHeartbeats 4000000
/-! KD2: able_of, first_of, neighbours_of, weight. -/
namespace Kal
open PySem PySem.Spec PyProof.Rows L2 SX C8
/-! ### able_of -/
def able (ns : List Int) : List Nat := (List.range ns.length).filter fun i => decide (ns.getD i 0 < 0)
def spAble : Sp := fun vs H Q _ => ∃ (a : Addr) (ns : List Int), vs = [.ref a] ∧ H a = some (.tup (ns.map V.int)) ∧ ns.length ≤ 1000 ∧
  ∀ H' p, Same H H' → H' p = some (.tup ((natI (able ns)).map V.int)) → Q (.ref p) H'
section
variable {P : Program} {w : World} {K : PySem.W.Frag} {mg : Str → Option Value} {base : Heap} {C : Addr}
abbrev nAbleOf : List Str := ["numbers", "lamp", "number"]
theorem scAbleOf : FnScope nAbleOf ["numbers"] (defScope sDAbleOf) := ⟨rfl, rfl, rfl, by decide +kernel, rfl, by decide +kernel, by decide +kernel⟩
theorem c_ableOf (T : Txt K mg C) (F : Fn K mg "able_of" "able_of" sDAbleOf ["numbers"])  : Cal P w K mg base 1 "able_of" (spAble) [] := by
  refine F.cal scAbleOf (fun vs H Q E h => by obtain ⟨_, _, rfl, _⟩ := h; rfl) (fun cdv A outer s f H vs Q E hr h => ?_)
  have nd := scAbleOf.nd
  obtain ⟨a, ns, rfl, ha, hl, q⟩ := h
  refine ⟨_, (pss_one (ps_ret (pe_callTy call_tuple_of rfl T.tuple (by decide +kernel) (pa_cons (pe_lc (own := [("lamp", 1), ("number", 2)]) (g := (gTup K 2 (gCons (gName 1) (gCons (gName 2) gNil)))) rfl nd (pi_enumB rfl T.enumerate (pa_cons (pv 0) pa_nil)) (blkOk_by (own := [("lamp", 1), ("number", 2)]) (N := nAbleOf) (sc := (defScope sDAbleOf)) (by decide +kernel)) (fun _ _ _ _ _ => (pg_tup rfl (pgs_cons (pg_name (i := 1) nd rfl (.inl rfl)) (pgs_cons (pg_name (i := 2) nd rfl (.inl rfl)) pgs_nil)))) (fun _ _ _ _ _ => (pts_one (pt_cmpR op_lt (pv 2) pe_int (nomark _)))) (fun _ _ _ _ _ => (pv 1))) pa_nil)))), ?_⟩
  refine ⟨_, rfl, false, a, _, rfl, SqT.of ha, fun D hD => ?_⟩
  refine lc_filt walk_enumI (fun i => if (decide (ns.getD i 0 < 0)) = true then some (.int (i : Nat)) else none) (fun i h => by omega) hD (fun H' s => SqT.of (s _ _ ha)) (fun i x H' H'' hi s y M N h1 h2 => ?_) (fun H' s e => ?_)
  · obtain ⟨T', rfl, hT, rfl⟩ := y
    refine ⟨_, _, rfl, SqT.of upd_same, rfl, _, _, rfl, _, _, rfl, rfl, rfl, ?_⟩
    refine ⟨_, rfl, _, _, rfl, rfl, _, rfl, ?_⟩
    by_cases c : ns.getD i 0 < 0
    · exact iteP (decide_eq_true c) ⟨_, rfl, h1 _ (if_pos (decide_eq_true c)) _ (sameUpd hT)⟩
    · exact iteN (decide_eq_false c) (h2 (if_neg (by simpa using c)) _ (sameUpd hT))
  · rw [filt_eq, nats_v] at e
    exact ⟨_, _, rfl, .inl ⟨SqL.of e, fun p hp => q _ p (s.trans (sameUpd hp)) upd_same⟩⟩
end
/-! ### first_of -/
def ones (n : Nat) : List Int := List.replicate n 1
def spFirst (C : Addr) : Sp := fun vs H Q _ => ∃ (h : Addr) (M : List (List Int)), vs = [.ref h] ∧ HallAt C H h M ∧ SqM M ∧ ∀ H' p, Same H H' → H' p = some (.tup ((ones M.length).map V.int)) → Q (.ref p) H'
theorem ones_flat (n : Nat) : (List.replicate n [V.int 1]).flatten = (ones n).map V.int := by
  unfold ones
  induction n with
  | zero => rfl
  | succ n ih => rw [List.replicate_succ, List.flatten_cons, ih, List.replicate_succ]; rfl
section
variable {P : Program} {w : World} {K : PySem.W.Frag} {mg : Str → Option Value} {base : Heap} {C : Addr}
abbrev nFirstOf : List Str := ["hall"]
theorem scFirstOf : FnScope nFirstOf ["hall"] (defScope sDFirstOf) := ⟨rfl, rfl, rfl, by decide +kernel, rfl, by decide +kernel, by decide +kernel⟩
theorem c_firstOf (T : Txt K mg C) (F : Fn K mg "first_of" "first_of" sDFirstOf ["hall"]) (L : LenH P w K mg base C) : Cal P w K mg base 3 "first_of" (spFirst C) [] := by
  refine F.cal scFirstOf (fun vs H Q E h => by obtain ⟨_, _, rfl, _⟩ := h; rfl) (fun cdv A outer s f H vs Q E hr h => ?_)
  have nd := scFirstOf.nd
  obtain ⟨h, M, rfl, hh, S, q⟩ := h
  refine ⟨_, (pss_one (ps_ret (pe_op op_mulT (pe_tup (pa_cons pe_int pa_nil)) (pe_callB (lenHall L (hr.mono (by decide))) rfl T.len (by decide +kernel) (pa_cons (pv 0) pa_nil))))), ?_⟩
  have h1 := S.pos
  have h2 := S.most
  refine ⟨by show 1 ≤ sizeLine; exact small (by decide), fun t ht => ?_⟩
  refine ⟨_, rfl, h, M, rfl, hh.same (sameUpd ht), by omega, t, _, _, rfl, rfl, SqT.of upd_same, by simp, by omega, by omega, by simp, fun e => ?_, fun e p hp => ?_⟩
  · refine q _ t (sameUpd ht) ?_
    rw [upd_same]
    have : M.length = 1 := by omega
    rw [this]
    rfl
  · refine q _ p ((sameUpd ht).trans (sameUpd hp)) ?_
    rw [upd_same, ← ones_flat]
    rfl
end
/-! ### neighbours_of -/
def nbr (M : List (List Int)) (l : Nat) : List Nat := (List.range M.length).filter fun i => decide ((M.getD l []).getD i 0 > 0)
def spNbr (C : Addr) : Sp := fun vs H Q _ => ∃ (h : Addr) (M : List (List Int)) (l : Nat), vs = [.ref h, .int (l : Nat)] ∧ HallAt C H h M ∧ SqM M ∧ l < M.length ∧
  ∀ H' p, Same H H' → H' p = some (.tup ((natI (nbr M l)).map V.int)) → Q (.ref p) H'
section
variable {P : Program} {w : World} {K : PySem.W.Frag} {mg : Str → Option Value} {base : Heap} {C : Addr}
abbrev nNeighboursOf : List Str := ["hall", "lamp", "other", "many"]
theorem scNeighboursOf : FnScope nNeighboursOf ["hall", "lamp"] (defScope sDNeighboursOf) := ⟨rfl, rfl, rfl, by decide +kernel, rfl, by decide +kernel, by decide +kernel⟩
theorem c_neighboursOf (T : Txt K mg C) (F : Fn K mg "neighbours_of" "neighbours_of" sDNeighboursOf ["hall", "lamp"])  : Cal P w K mg base 1 "neighbours_of" (spNbr C) [] := by
  refine F.cal scNeighboursOf (fun vs H Q E h => by obtain ⟨_, _, _, rfl, _⟩ := h; rfl) (fun cdv A outer s f H vs Q E hr h => ?_)
  have nd := scNeighboursOf.nd
  obtain ⟨h, M, l, rfl, hh, S, hlt, q⟩ := h
  obtain ⟨dx, tp, eh, mt⟩ := hh
  obtain ⟨row, er, el, eb⟩ := S.at hlt
  obtain ⟨ts, t, e1, e2, e3⟩ := mt.row er
  have hM8 := S.most
  refine ⟨_, (pss_one (ps_ret (pe_callTy call_tuple_of rfl T.tuple (by decide +kernel) (pa_cons (pe_lc (own := [("other", 2), ("many", 3)]) (g := (gTup K 2 (gCons (gName 2) (gCons (gName 3) gNil)))) rfl nd (pi_enumB rfl T.enumerate (pa_cons (pe_ix ix_tup (pe_fld (pv 0) rfl) (pv 1) (fun _ _ => rfl)) pa_nil)) (blkOk_by (own := [("other", 2), ("many", 3)]) (N := nNeighboursOf) (sc := (defScope sDNeighboursOf)) (by decide +kernel)) (fun _ _ _ _ _ => (pg_tup rfl (pgs_cons (pg_name (i := 2) nd rfl (.inl rfl)) (pgs_cons (pg_name (i := 3) nd rfl (.inl rfl)) pgs_nil)))) (fun _ _ _ _ _ => (pts_one (pt_cmpR op_gt (pv 3) pe_int (nomark _)))) (fun _ _ _ _ _ => (pv 2))) pa_nil)))), ?_⟩
  refine ⟨_, rfl, _, _, _, _, _, rfl, eh, T.cl, T.nT, rfl, _, rfl, _, _, _, _, rfl, rfl, SqT.of e1, atI_nat e2, ?_⟩
  refine ⟨false, t, _, rfl, SqT.of e3, fun D hD => ?_⟩
  refine lc_filt walk_enumI (fun i => if (decide (row.getD i 0 > 0)) = true then some (.int (i : Nat)) else none) (fun i h => by omega) hD (fun H' s => SqT.of (s _ _ e3)) (fun i x H' H'' hi s y M N h1 h2 => ?_) (fun H' s e => ?_)
  · obtain ⟨T', rfl, hT, rfl⟩ := y
    refine ⟨_, _, rfl, SqT.of upd_same, rfl, _, _, rfl, _, _, rfl, rfl, rfl, ?_⟩
    refine ⟨_, rfl, _, _, rfl, rfl, _, rfl, ?_⟩
    by_cases c : row.getD i 0 > 0
    · exact iteP (decide_eq_true c) ⟨_, rfl, h1 _ (if_pos (decide_eq_true c)) _ (sameUpd hT)⟩
    · exact iteN (decide_eq_false c) (h2 (if_neg (by simpa using c)) _ (sameUpd hT))
  · rw [filt_eq, nats_v, el] at e
    have e4 : M.getD l [] = row := by rw [List.getD_eq_getElem?_getD, er]; rfl
    refine ⟨_, _, rfl, .inl ⟨SqL.of e, fun p hp => q _ p (s.trans (sameUpd hp)) ?_⟩⟩
    unfold nbr
    rw [e4]
    exact upd_same
end
/-! ### weight -/
def wgt (M : List (List Int)) (ws : List Nat) (ld : List Int) (l : Nat) : Int := (List.zipWith (fun m n => m * n) (ws.map fun o => (M.getD l []).getD o 0) ld).sum
def spWeight (K : PySem.W.Frag) (C : Addr) : Sp := fun vs H Q _ => ∃ (h : Addr) (M : List (List Int)) (wa : Addr) (ws : List Nat) (b : Bool) (la : Addr) (ld : List Int) (l : Nat), vs = [.ref h, .ref wa, .ref la, .int (l : Nat)] ∧ HallAt C H h M ∧ SqM M ∧ l < M.length ∧
  H wa = some (.tup ((natI ws).map V.int)) ∧ (∀ x ∈ ws, x < M.length) ∧ ws.length ≤ 1000 ∧ SqB K H b la (ld.map V.int) ∧ ld.length = ws.length ∧ ∀ H', Same H H' → Q (.int (wgt M ws ld l)) H'
theorem sqB_same {K : PySem.W.Frag} {H H' : Hp} {b : Bool} {a : Addr} {xs : List V} (s : Same H H') (h : SqB K H b a xs) : SqB K H' b a xs := by
  cases b
  · exact sameSeqT s h
  · exact Same.seq s h
section
variable {P : Program} {w : World} {K : PySem.W.Frag} {mg : Str → Option Value} {base : Heap} {C : Addr}
abbrev nWeight : List Str := ["hall", "wing", "load", "lamp", "many", "own", "other"]
theorem scWeight : FnScope nWeight ["hall", "wing", "load", "lamp"] (defScope sDWeight) := ⟨rfl, rfl, rfl, by decide +kernel, rfl, by decide +kernel, by decide +kernel⟩
theorem c_weight (T : Txt K mg C) (F : Fn K mg "weight" "weight" sDWeight ["hall", "wing", "load", "lamp"])  : Cal P w K mg base 1 "weight" (spWeight K C) [] := by
  refine F.cal scWeight (fun vs H Q E h => by obtain ⟨_, _, _, _, _, _, _, _, rfl, _⟩ := h; rfl) (fun cdv A outer s f H vs Q E hr h => ?_)
  have nd := scWeight.nd
  obtain ⟨h, M, wa, ws, b, la, ld, l, rfl, hh, S, hlt, hw, hin, hl, hld, el2, q⟩ := h
  obtain ⟨dx, tp, eh, mt⟩ := hh
  obtain ⟨row, er, el, eb⟩ := S.at hlt
  obtain ⟨ts, t, e1, e2, e3⟩ := mt.row er
  have hM8 := S.most
  have e4 : M.getD l [] = row := by rw [List.getD_eq_getElem?_getD, er]; rfl
  refine ⟨_, (pss_one (ps_ret (pe_callB (cr_sum rfl) rfl T.sum (by decide +kernel) (pa_cons (pe_lc (own := [("many", 4), ("own", 5)]) (g := (gTup K 2 (gCons (gName 4) (gCons (gName 5) gNil)))) rfl nd (pi_zipB rfl T.zip (pa_cons (pe_lc (own := [("other", 6)]) (g := (gName 6)) rfl nd (pi_tup (pv 1)) (blkOk_by (own := [("other", 6)]) (N := nWeight) (sc := (defScope sDWeight)) (by decide +kernel)) (fun _ _ _ _ _ => (pg_name (i := 6) nd rfl (.inl rfl))) (fun _ _ _ _ _ => pts_nil) (fun _ _ _ _ _ => (pe_ix (ix_tupK (K := K) rfl) (pe_ix (ix_tupK (K := K) rfl) (pe_fldK (K := K) rfl (pv 0) rfl) (pv 3) (fun _ _ => rfl)) (pv 6) (fun _ _ => rfl)))) (pa_cons (pv 2) pa_nil))) (blkOk_by (own := [("many", 4), ("own", 5)]) (N := nWeight) (sc := (defScope sDWeight)) (by decide +kernel)) (fun _ _ _ _ _ => (pg_tup rfl (pgs_cons (pg_name (i := 4) nd rfl (.inl rfl)) (pgs_cons (pg_name (i := 5) nd rfl (.inl rfl)) pgs_nil)))) (fun _ _ _ _ _ => pts_nil) (fun _ _ _ _ _ => (pe_op op_mul (pv 4) (pv 5)))) pa_nil)))), ?_⟩
  refine ⟨_, rfl, _, rfl, ⟨_, SqT.of hw⟩, fun D1 hD1 => ?_⟩
  refine lc_told walk_tupI (fun i => .int (row.getD (ws.getD i 0) 0)) (by rw [natI_len]; omega) hD1 (fun H' s => SqT.of (s _ _ hw)) (fun i x H' H'' hi s y M' hM => ?_) (fun H1 s1 f1 => ?_)
  · obtain ⟨rfl, rfl⟩ := y
    rw [natI_len] at hi
    refine ⟨rfl, _, rfl, _, _, _, _, _, rfl, s _ _ eh, T.cl, T.nT, rfl, _, rfl, _, _, _, _, rfl, rfl, SqT.of (s _ _ e1), atI_nat e2, ?_⟩
    refine ⟨_, rfl, _, _, _, _, rfl, rfl, SqT.of (s _ _ e3), ?_, hM _ (Same.refl _)⟩
    rw [natI_getD]
    exact atI_nat (at_ints (by have := getD_lt hin hi; omega))
  · rw [map_rangeI, natI_len] at f1
    refine ⟨_, rfl, true, D1, _, b, la, _, rfl, SqL.of f1, sqB_same s1 hld, fun D hD => ?_⟩
    have hlen : ((List.range ws.length).map fun i => row.getD (ws.getD i 0) 0).length = ld.length := by simp [el2]
    refine lc_told (walk_zipI hlen) (fun i => .int (((List.range ws.length).map fun i => row.getD (ws.getD i 0) 0).getD i 0 * ld.getD i 0)) (by simp; omega) hD (fun H' s => ⟨SqL.of (s _ _ f1), sqB_same (s1.trans s) hld⟩) (fun i x H' H'' hi s y M' hM => ?_) (fun H2 s2 f2 => ?_)
    · obtain ⟨T', rfl, hT, rfl⟩ := y
      rw [hlen, el2] at hi
      refine ⟨_, _, rfl, SqT.of upd_same, rfl, _, _, rfl, _, _, rfl, rfl, rfl, ?_⟩
      refine ⟨_, rfl, _, rfl, _, _, rfl, rfl, .inl ?_, hM _ (sameUpd hT)⟩
      have hb := S.getD (List.mem_of_getElem? er) (ws.getD i 0)
      rw [List.getD_eq_getElem?_getD, List.getElem?_map, List.getElem?_range hi]
      show -(2 ^ 64) < row.getD (ws.getD i 0) 0 ∧ row.getD (ws.getD i 0) 0 < 2 ^ 64
      omega
    · rw [map_rangeI, zip_range hlen fun m n => m * n] at f2
      refine ⟨_, _, rfl, SqL.of f2, ?_⟩
      have e5 : ((List.range ws.length).map fun i => row.getD (ws.getD i 0) 0) = ws.map fun o => row.getD o 0 := by
        refine List.ext_getElem (by simp) fun i h1 h2 => ?_
        have a1 : i < ws.length := by simpa using h1
        simp [List.getD_eq_getElem?_getD, a1]
      have := q H2 (s1.trans s2)
      unfold wgt at this
      rw [e4, ← e5] at this
      exact this
end
end Kal

set_option Elab.async false
set_option linter.all false
set_option maxRecDepth 100000
set_option maxHeartbeats 4000000
/-! KD3: least_over, word_of (of loads), kind_of. -/
namespace Kal
open PySem PySem.Spec PyProof.Rows L2 SX C8
/-! ### equality of lists of ints -/
theorem eqvAll_ints : ∀ ns ms : List Int, PyData.eqvAll (ns.map PyData.int) (ms.map PyData.int) = decide (ns = ms)
  | [], [] => rfl
  | [], _ :: _ => rfl
  | _ :: _, [] => rfl
  | n :: ns, m :: ms => by
    rw [List.map_cons, List.map_cons, PyData.eqvAll, eqvAll_ints ns ms, PyData.eqv]
    rw [Bool.eq_iff_iff]
    simp
theorem canLay_ints : ∀ ns : List Int, PyData.canLayAll0 (ns.map PyData.int) = true
  | [] => rfl
  | n :: ns => by rw [List.map_cons, PyData.canLayAll0, canLay_ints ns]; rfl
theorem shaped_listI (ns : List Int) : SeqAt.shaped (.list (ns.map PyData.int)) = true := by
  unfold SeqAt.shaped
  rw [PyData.canLay0, canLay_ints, PyData.depth, PySem.W.depth_ints]
  rfl
theorem shaped_tupI (ns : List Int) : SeqAt.shaped (.tuple (ns.map PyData.int)) = true := by
  unfold SeqAt.shaped
  rw [PyData.canLay0, canLay_ints, PyData.depth, PySem.W.depth_ints]
  rfl
theorem dpL {K : PySem.W.Frag} {H : Hp} {a : Addr} {ns : List Int} (h : H a = some (.lst (ns.map V.int))) : Dp K H (.ref a) (.list (ns.map PyData.int)) := .lst (SqL.of h) (dp_ints ns)
theorem dpT {K : PySem.W.Frag} {H : Hp} {a : Addr} {ns : List Int} (h : H a = some (.tup (ns.map V.int))) : Dp K H (.ref a) (.tuple (ns.map PyData.int)) := .tup (SqT.of h) (dp_ints ns)
theorem eqv_listI (ns ms : List Int) : PyData.eqv (.list (ns.map PyData.int)) (.list (ms.map PyData.int)) = decide (ns = ms) := by rw [PyData.eqv, eqvAll_ints]
theorem eqv_tupI (ns ms : List Int) : PyData.eqv (.tuple (ns.map PyData.int)) (.tuple (ms.map PyData.int)) = decide (ns = ms) := by rw [PyData.eqv, eqvAll_ints]
/-! ### least_over -/
def mx (i j : Int) : Int := if j > i then j else i
def lstep (M : List (List Int)) (ws : List Nat) (more : Int) (ld : List Int) : List Int := List.zipWith (fun l own => mx own ((wgt M ws ld l.toNat + more + 1) / 2)) (natI ws) ld
def leastRun (M : List (List Int)) (ws : List Nat) (more : Int) : Nat → List Int → Option (List Int)
  | 0, _ => none
  | f + 1, ld => if (lstep M ws more ld).all (fun x => decide (x ≤ 400)) = true then (if lstep M ws more ld = ld then some ld else leastRun M ws more f (lstep M ws more ld)) else none
theorem lstep_len {M : List (List Int)} {ws : List Nat} {more : Int} {ld : List Int} (h : ld.length = ws.length) : (lstep M ws more ld).length = ws.length := by
  unfold lstep
  rw [List.length_zipWith, natI_len, h, Nat.min_self]
theorem rep_flat (n : Nat) (z : V) : (List.replicate n [z]).flatten = List.replicate n z := by
  induction n with
  | zero => rfl
  | succ n ih => rw [List.replicate_succ, List.flatten_cons, ih, List.replicate_succ]; rfl
theorem map_rep (n : Nat) (i : Int) : (List.replicate n i).map V.int = List.replicate n (V.int i) := by rw [List.map_replicate]
def spLeast (K : PySem.W.Frag) (C : Addr) : Sp := fun vs H Q _ => ∃ (h : Addr) (M : List (List Int)) (wa : Addr) (ws : List Nat) (more : Int) (res : List Int) (fuel : Nat), vs = [.ref h, .ref wa, .int more] ∧ HallAt C H h M ∧ SqM M ∧
  H wa = some (.tup ((natI ws).map V.int)) ∧ (∀ x ∈ ws, x < M.length) ∧ ws ≠ [] ∧ ws.length ≤ 1000 ∧ leastRun M ws more fuel (ones ws.length) = some res ∧ ∀ H' p, Same H H' → H' p = some (.tup (res.map V.int)) → Q (.ref p) H'
def LeastW (M : List (List Int)) (ws : List Nat) (more : Int) (res : List Int) (H0 : Hp) (h wa : Addr) (m : Nat) (σ : L2.St) (H : Hp) : Prop :=
  ∃ (D1 D2 : Addr) (ld lat : List Int), σ = [some (.ref h), some (.ref wa), some (.int more), some (.ref D1), some (.ref D2), none, none] ∧ Same H0 H ∧ H D1 = some (.lst (ld.map V.int)) ∧ H D2 = some (.lst (lat.map V.int)) ∧ ld.length = ws.length ∧
    ((lat = [] ∧ leastRun M ws more m ld = some res) ∨ (lat ≠ [] ∧ lat.length = ws.length ∧ (if lat = ld then some ld else leastRun M ws more m lat) = some res))
section
variable {P : Program} {w : World} {K : PySem.W.Frag} {mg : Str → Option Value} {base : Heap} {C : Addr}
abbrev nLeastOver : List Str := ["hall", "wing", "more", "load", "later", "lamp", "own"]
theorem scLeastOver : FnScope nLeastOver ["hall", "wing", "more"] (defScope sDLeastOver) := ⟨rfl, rfl, rfl, by decide +kernel, rfl, by decide +kernel, by decide +kernel⟩
theorem c_leastOver (T : Txt K mg C) (F : Fn K mg "least_over" "least_over" sDLeastOver ["hall", "wing", "more"]) (c_weight : Cal P w K mg base 1 "weight" (spWeight K C) []) : Cal P w K mg base 2 "least_over" (spLeast K C) [] := by
  refine F.cal scLeastOver (fun vs H Q E h => by obtain ⟨_, _, _, _, _, _, _, rfl, _⟩ := h; rfl) (fun cdv A outer s f H vs Q E hr h => ?_)
  have nd := scLeastOver.nd
  obtain ⟨h, M, wa, ws, more, res, fuel, rfl, hh, S, hw, hin, hne, hl, hrun, q⟩ := h
  have hpos : 0 < ws.length := List.length_pos_iff.mpr hne
  refine ⟨_, (pss_cons (ps_set (i := 3) nd rfl (.inr rfl) (pe_op op_rep (pe_lst (pa_cons pe_int pa_nil)) (pe_callB call_len_seq rfl T.len (by decide +kernel) (pa_cons (pv 1) pa_nil))))
      (pss_cons (ps_set (i := 4) nd rfl (.inl rfl) (pe_lst pa_nil))
      (pss_cons (ps_while PassesOwn.never (pt_cmpR (op_neD hr.units) (pv 4) (pv 3) (nomark _)) (pss_cut (ps_set (i := 3) nd rfl (.inr rfl) (pe_ifExp (pt_cmpR (op_neD hr.units) (pv 4) (pe_lst pa_nil) (nomark _)) (pv 4) (pv 3)))
      (pss_cons (ps_setLc (i := 4) (own := [("lamp", 5), ("own", 6)]) (g := (gTup K 2 (gCons (gName 5) (gCons (gName 6) gNil)))) rfl nd rfl rfl (sw_true rfl rfl rfl (by decide +kernel)) (pi_zipB rfl T.zip (pa_cons (pv 1) (pa_cons (pv 3) pa_nil))) (blkOk_by (own := [("lamp", 5), ("own", 6)]) (N := nLeastOver) (sc := (defScope sDLeastOver)) (by decide +kernel)) (fun _ _ _ _ _ => (pg_tup rfl (pgs_cons (pg_name (i := 5) nd rfl (.inl rfl)) (pgs_cons (pg_name (i := 6) nd rfl (.inl rfl)) pgs_nil)))) (fun _ _ _ _ _ => pts_nil) (fun _ _ _ _ _ => (pe_callB (call_max2 rfl) rfl T.max (by decide +kernel) (pa_cons (pv 6) (pa_cons (pe_op op_fdiv (pe_op op_add (pe_op op_add (pe_c c_weight hr (by decide) rfl (pa_cons (pv 0) (pa_cons (pv 1) (pa_cons (pv 3) (pa_cons (pv 5) pa_nil))))) (pv 2)) pe_int) pe_int) pa_nil)))))
      (pss_one (ps_if (pt_cmpR op_gt (pe_callB (cr_max rfl) rfl T.max (by decide +kernel) (pa_cons (pv 4) pa_nil)) (pe_gc rfl T.cMOSTLOAD) (nomark _)) (pss_one (ps_ret pe_non)) pss_nil)))))
      (pss_one (ps_ret (pe_callTy call_tuple_of rfl T.tuple (by decide +kernel) (pa_cons (pv 3) pa_nil))))))), ?_⟩
  refine ⟨small (by decide), fun p hp => ?_⟩
  refine ⟨_, rfl, wa, _, rfl, .inr (SqT.of ((sameUpd hp) _ _ hw)), p, _, _, rfl, rfl, upd_same, ?_, ?_, ?_, fun D1 hD1 => ?_⟩
  · simp [natI_len]
  · simp [natI_len]; omega
  · simp [natI_len]; exact small (by omega)
  refine ⟨small (by decide), fun D2 hD2 => ?_⟩
  have s0 := ((sameUpd (o := HO.lst [V.int 1]) hp).trans (sameUpd (o := HO.lst (List.replicate (Int.toNat (((natI ws).map V.int).length : Nat)) [V.int 1]).flatten) hD1)).trans (sameUpd (o := HO.lst []) hD2)
  refine ⟨LeastW M ws more res H h wa, ⟨fuel, D1, D2, ones ws.length, [], rfl, s0, ?_, upd_same, by simp [ones], .inl ⟨rfl, hrun⟩⟩, ?_⟩
  · refine sameUpd hD2 _ _ ?_
    refine upd_same.trans (congrArg (fun z => some (HO.lst z)) ?_)
    rw [rep_flat, ones, map_rep]
    simp [natI_len]
  · intro m σ H1 W
    obtain ⟨D1, D2, ld, lat, rfl, s1, e1, e2, l1, ph⟩ := W
    refine ⟨_, rfl, _, rfl, _, _, dpL e2, dpL e1, shaped_listI _, shaped_listI _, _, rfl, ?_⟩
    rw [eqv_listI]
    by_cases c : lat = ld
    · rw [decide_eq_true c]
      refine iteN rfl ?_
      refine ⟨_, rfl, _, _, rfl, .inl ⟨SqL.of e1, fun p hp => ?_⟩⟩
      have : res = ld := by
        rcases ph with ⟨z, _⟩ | ⟨_, _, z⟩
        · subst c
          rw [z] at l1
          simp at l1
          omega
        · rw [if_pos c] at z
          exact (Option.some.inj z).symm
      subst this
      exact q _ p (s1.trans (sameUpd hp)) upd_same
    · rw [decide_eq_false c]
      refine iteP rfl ?_
      refine ⟨fun σ' H' => ∃ m', m' < m ∧ LeastW M ws more res H h wa m' σ' H', fun _ _ z => z, ?_⟩
      refine ⟨fun σ' H' => ∃ (D3 D4 : Addr) (ld2 : List Int) (f : Nat), σ' = [some (.ref h), some (.ref wa), some (.int more), some (.ref D3), some (.ref D4), none, none] ∧ Same H H' ∧ H' D3 = some (.lst (ld2.map V.int)) ∧ ld2.length = ws.length ∧ m = f + 1 ∧ leastRun M ws more (f + 1) ld2 = some res, ?_, ?_⟩
      · refine ⟨_, rfl, small (by decide), fun p hp => ⟨_, _, dpL (up e2 hp), dpL (ns := []) upd_same, shaped_listI _, shaped_listI _, _, rfl, ?_⟩⟩
        rw [eqv_listI]
        rcases ph with ⟨z, hz⟩ | ⟨z1, z2, z3⟩
        · rw [decide_eq_true z]
          refine iteN rfl ?_
          cases m with
          | zero => cases hz
          | succ f => exact ⟨_, rfl, D1, D2, ld, f, rfl, s1.trans (sameUpd hp), up e1 hp, l1, rfl, hz⟩
        · rw [decide_eq_false z1]
          refine iteP rfl ?_
          rw [if_neg c] at z3
          cases m with
          | zero => cases z3
          | succ f => exact ⟨_, rfl, D2, D2, lat, f, rfl, s1.trans (sameUpd hp), up e2 hp, z2, rfl, z3⟩
      · rintro σ2 H2 ⟨D3, D4, ld2, f, rfl, s2, e3, l2, rfl, hz⟩
        have g1 := lstep_len (M := M) (more := more) l2
        have e5 := s2 _ _ hw
        refine ⟨_, rfl, _, rfl, false, wa, _, true, D3, _, rfl, SqT.of e5, SqL.of e3, fun D hD => ?_⟩
        have hlen : (natI ws).length = ld2.length := by rw [natI_len, l2]
        refine lc_told (walk_zipI hlen) (fun i => .int (mx (ld2.getD i 0) ((wgt M ws ld2 ((natI ws).getD i 0).toNat + more + 1) / 2))) (by rw [natI_len]; omega) hD (fun H' s => ⟨SqT.of (s _ _ e5), SqL.of (s _ _ e3)⟩) (fun i x H' H'' hi s y M' hM => ?_) (fun H3 s3 f3 => ?_)
        · obtain ⟨T', rfl, hT, rfl⟩ := y
          rw [natI_len] at hi
          have s4 := (s2.trans s).trans (sameUpd (o := HO.tup [V.int ((natI ws).getD i 0), V.int (ld2.getD i 0)]) hT)
          refine ⟨_, _, rfl, SqT.of upd_same, rfl, _, _, rfl, _, _, rfl, rfl, rfl, ?_⟩
          refine ⟨_, rfl, _, rfl, _, rfl, _, rfl, _, rfl, h, M, wa, ws, true, D3, ld2, (ws.getD i 0), (by simp only [natI_getD]; rfl), hh.same s4, S, getD_lt hin hi, s4 _ _ hw, hin, hl, SqL.of (up (s _ _ e3) hT), l2, fun H5 s5 => ?_⟩
          refine ⟨_, rfl, _, _, rfl, rfl, _, _, rfl, rfl, _, _, rfl, rfl, ⟨by decide, by decide⟩, _, _, rfl, ?_⟩
          have := hM H5 ((sameUpd hT).trans s5)
          rw [natI_getD, Int.toNat_natCast] at this
          exact this
        · rw [map_rangeI] at f3
          have e6 : ((List.range (natI ws).length).map fun i => mx (ld2.getD i 0) ((wgt M ws ld2 ((natI ws).getD i 0).toNat + more + 1) / 2)) = lstep M ws more ld2 := zip_range hlen fun l own => mx own ((wgt M ws ld2 l.toNat + more + 1) / 2)
          rw [e6] at f3
          rw [leastRun] at hz
          by_cases ha : (lstep M ws more ld2).all (fun x => decide (x ≤ 400)) = true
          · rw [if_pos ha] at hz
            refine ⟨_, rfl, _, _, rfl, SqL.of f3, by rw [g1]; exact hpos, fun mm hm hle => ?_⟩
            refine ⟨_, _, rfl, rfl, _, rfl, ?_⟩
            have := of_decide_eq_true (List.all_eq_true.mp ha mm hm)
            refine iteN (by simpa using this) ?_
            refine ⟨f, Nat.lt_succ_self f, D3, D, ld2, _, rfl, s2.trans s3, s3 _ _ e3, f3, l2, .inr ⟨?_, g1, hz⟩⟩
            intro z
            rw [z] at g1
            simp at g1
            omega
          · rw [if_neg ha] at hz
            cases hz
end
end Kal

set_option Elab.async false
set_option linter.all false
set_option maxRecDepth 100000
set_option maxHeartbeats 4000000
/-! KD4: word_of (of loads), kind_of. -/
namespace Kal
open PySem PySem.Spec PyProof.Rows L2 SX C8
def sgn (M : List (List Int)) (ws : List Nat) (ld : List Int) (l : Nat) (own : Int) : Int := if 2 * own = wgt M ws ld l then 0 else if 2 * own > wgt M ws ld l then 1 else -1
def signs (M : List (List Int)) (ws : List Nat) (ld : List Int) : List Int := (List.range ws.length).map fun i => sgn M ws ld (ws.getD i 0) (ld.getD i 0)
def sg3 (i : Nat) : Int := if i = 0 then 1 else if i = 1 then 0 else -1
def wd3 (i : Nat) : V := if i = 0 then .str "ending" else if i = 1 then .str "flat" else .str "wild"
def wordV (s : List Int) (n : Nat) : V := if s = List.replicate n (sg3 0) then wd3 0 else if s = List.replicate n (sg3 1) then wd3 1 else if s = List.replicate n (sg3 2) then wd3 2 else .non
def spWordL (C : Addr) : Sp := fun vs H Q _ => ∃ (h : Addr) (M : List (List Int)) (wa : Addr) (ws : List Nat) (la : Addr) (ld : List Int), vs = [.ref h, .ref wa, .ref la] ∧ HallAt C H h M ∧ SqM M ∧
  H wa = some (.tup ((natI ws).map V.int)) ∧ (∀ x ∈ ws, x < M.length) ∧ ws.length ≤ 1000 ∧ H la = some (.tup (ld.map V.int)) ∧ ld.length = ws.length ∧ ∀ H', Same H H' → Q (wordV (signs M ws ld) ws.length) H'
theorem wordV_at {s : List Int} {n i : Nat} (hi : i < 3) (h : ∀ j, j < i → s ≠ List.replicate n (sg3 j)) (e : s = List.replicate n (sg3 i)) : wordV s n = wd3 i := by
  unfold wordV
  rcases i with _ | _ | _ | i
  · rw [if_pos e]
  · rw [if_neg (h 0 (by decide)), if_pos e]
  · rw [if_neg (h 0 (by decide)), if_neg (h 1 (by decide)), if_pos e]
  · omega
theorem wordV_none {s : List Int} {n : Nat} (h : ∀ j, j < 3 → s ≠ List.replicate n (sg3 j)) : wordV s n = .non := by
  unfold wordV
  rw [if_neg (h 0 (by decide)), if_neg (h 1 (by decide)), if_neg (h 2 (by decide))]
theorem three {a b c x : V} {i : Nat} (hi : i < 3) (h : [a, b, c][i]? = some x) : (i = 0 ∧ x = a) ∨ (i = 1 ∧ x = b) ∨ (i = 2 ∧ x = c) := by
  rcases i with _ | _ | _ | i
  · exact .inl ⟨rfl, (Option.some.inj h).symm⟩
  · exact .inr (.inl ⟨rfl, (Option.some.inj h).symm⟩)
  · exact .inr (.inr ⟨rfl, (Option.some.inj h).symm⟩)
  · omega
section
variable {P : Program} {w : World} {K : PySem.W.Frag} {mg : Str → Option Value} {base : Heap} {C : Addr}
abbrev nWordofl : List Str := ["hall", "wing", "load", "signs", "lamp", "own", "here", "sign", "word"]
theorem scWordofl : FnScope nWordofl ["hall", "wing", "load"] (defScope sDWordofl) := ⟨rfl, rfl, rfl, by decide +kernel, rfl, by decide +kernel, by decide +kernel⟩
theorem c_wordOfLoads (T : Txt K mg C) (F : Fn K mg "word_of_loads" "word_of" sDWordofl ["hall", "wing", "load"]) (c_weight : Cal P w K mg base 1 "weight" (spWeight K C) []) : Cal P w K mg base 2 "word_of_loads" (spWordL C) [] := by
  refine F.cal scWordofl (fun vs H Q E h => by obtain ⟨_, _, _, _, _, _, rfl, _⟩ := h; rfl) (fun cdv A outer s f H vs Q E hr h => ?_)
  have nd := scWordofl.nd
  obtain ⟨h, M, wa, ws, la, ld, rfl, hh, S, hw, hin, hl, hla, el, q⟩ := h
  refine ⟨_, (pss_cons (ps_set (i := 3) nd rfl (.inl rfl) (pe_lst pa_nil))
      (pss_cut (ps_for PassesOwn.never rfl (pi_zipB rfl T.zip (pa_cons (pv 1) (pa_cons (pv 2) pa_nil))) (pg_tup rfl (pgs_cons (pg_name (i := 4) nd rfl (.inl rfl)) (pgs_cons (pg_name (i := 5) nd rfl (.inl rfl)) pgs_nil))) (pss_cons (ps_set (i := 6) nd rfl (.inl rfl) (pe_c c_weight hr (by decide) rfl (pa_cons (pv 0) (pa_cons (pv 1) (pa_cons (pv 2) (pa_cons (pv 4) pa_nil))))))
      (pss_one (ps_expr (pe_bm PySem.F.plainAttrs_list PySem.F.slot_list_append PySem.F.type_list_append mt_append (pv 3) (pa_cons (pe_ifExp (pt_cmpR op_eq (pe_op op_mul pe_int (pv 5)) (pv 6) (nomark _)) pe_int (pe_ifExp (pt_cmpR op_gt (pe_op op_mul pe_int (pv 5)) (pv 6) (nomark _)) pe_int (pe_un un_neg pe_int))) pa_nil))))))
      (pss_cut (ps_for PassesOwn.never rfl (pi_tup (pe_tup (pa_cons (pe_tup (pa_cons pe_int (pa_cons (pe_gc rfl T.cENDING) pa_nil))) (pa_cons (pe_tup (pa_cons pe_int (pa_cons (pe_gc rfl T.cFLAT) pa_nil))) (pa_cons (pe_tup (pa_cons (pe_un un_neg pe_int) (pa_cons (pe_gc rfl T.cWILD) pa_nil))) pa_nil))))) (pg_tup rfl (pgs_cons (pg_name (i := 7) nd rfl (.inl rfl)) (pgs_cons (pg_name (i := 8) nd rfl (.inl rfl)) pgs_nil))) (pss_one (ps_if (pt_cmpR (op_eqD hr.units) (pv 3) (pe_op op_rep (pe_lst (pa_cons (pv 7) pa_nil)) (pe_callB call_len_seq rfl T.len (by decide +kernel) (pa_cons (pv 1) pa_nil))) (nomark _)) (pss_one (ps_ret (pv 8))) pss_nil)))
      (pss_one (ps_ret pe_non))))), ?_⟩
  refine ⟨by exact small (by decide), fun D hD => ?_⟩
  refine ⟨fun σ H' => ∃ x4 x5 x6, σ = [some (.ref h), some (.ref wa), some (.ref la), some (.ref D), x4, x5, x6, none, none] ∧ Same H H' ∧ H' D = some (.lst ((signs M ws ld).map V.int)), ?_, ?_⟩
  · refine ⟨_, rfl, _, rfl, false, wa, _, false, la, _, rfl, SqT.of ((sameUpd hD) _ _ hw), SqT.of ((sameUpd hD) _ _ hla), ?_⟩
    refine for_it (walk_zipN el.symm) (fun i σ H' => ∃ x4 x5 x6, σ = [some (.ref h), some (.ref wa), some (.ref la), some (.ref D), x4, x5, x6, none, none] ∧ Same H H' ∧ H' D = some (.lst (((List.range i).map fun i => sgn M ws ld (ws.getD i 0) (ld.getD i 0)).map V.int)))
      ⟨none, none, none, rfl, sameUpd hD, upd_same⟩ (fun i σ H' hi p => ?_) (fun i x σ H' H'' hi p y => ?_) (fun σ H' p => p)
    · obtain ⟨_, _, _, _, s, _⟩ := p
      exact ⟨SqT.of (s _ _ hw), SqT.of (s _ _ hla)⟩
    · obtain ⟨x4, x5, x6, rfl, s, e⟩ := p
      obtain ⟨T', rfl, hT, rfl⟩ := y
      have s4 := s.trans (sameUpd (o := HO.tup [V.int ((ws.getD i 0 : Nat) : Int), V.int (ld.getD i 0)]) hT)
      refine ⟨_, _, rfl, SqT.of upd_same, rfl, _, _, rfl, _, _, rfl, rfl, ?_⟩
      refine ⟨_, rfl, _, rfl, _, rfl, _, rfl, h, M, wa, ws, false, la, ld, (ws.getD i 0), rfl, hh.same s4, S, getD_lt hin hi, s4 _ _ hw, hin, hl, SqT.of (s4 _ _ hla), el, fun H5 s5 => ?_⟩
      have e5 := s5 _ _ (up e hT (o' := HO.tup [V.int ((ws.getD i 0 : Nat) : Int), V.int (ld.getD i 0)]))
      have hlen : (((List.range i).map fun i => sgn M ws ld (ws.getD i 0) (ld.getD i 0)).map V.int).length < sizeLine := by
        rw [List.length_map, List.length_map, List.length_range]
        exact smallLt (by omega)
      have hgo : ∀ z : Int, z = sgn M ws ld (ws.getD i 0) (ld.getD i 0) → Same H (upd H5 D (.lst (((List.range i).map fun i => sgn M ws ld (ws.getD i 0) (ld.getD i 0)).map V.int ++ [V.int z]))) ∧
          upd H5 D (.lst (((List.range i).map fun i => sgn M ws ld (ws.getD i 0) (ld.getD i 0)).map V.int ++ [V.int z])) D = some (.lst (((List.range (i + 1)).map fun i => sgn M ws ld (ws.getD i 0) (ld.getD i 0)).map V.int)) := fun z hz => by
        refine ⟨sameOfBut (s4.trans s5) hD But.upd, ?_⟩
        rw [upd_same, List.range_succ, List.map_append, List.map_append, hz]
        rfl
      refine ⟨_, rfl, .inl ⟨rfl, _, SqL.of e5⟩, _, rfl, _, _, rfl, rfl, .inl (by decide), _, rfl, rfl, _, rfl, ?_⟩
      by_cases c1 : 2 * ld.getD i 0 = wgt M ws ld (ws.getD i 0)
      · refine iteP (by rw [dec_int]; simpa using c1) ⟨_, _, _, rfl, rfl, e5, hlen, _, _, _, rfl, hgo 0 ?_⟩
        unfold sgn
        rw [if_pos c1]
      · refine iteN (by rw [dec_int]; simpa using c1) ?_
        refine ⟨_, rfl, _, _, rfl, rfl, .inl (by decide), _, rfl, _, _, rfl, rfl, _, rfl, ?_⟩
        by_cases c2 : 2 * ld.getD i 0 > wgt M ws ld (ws.getD i 0)
        · refine iteP (decide_eq_true c2) ⟨_, _, _, rfl, rfl, e5, hlen, _, _, _, rfl, hgo 1 ?_⟩
          unfold sgn
          rw [if_neg c1, if_pos c2]
        · refine iteN (decide_eq_false c2) ⟨_, rfl, _, _, _, rfl, rfl, e5, hlen, _, _, _, rfl, hgo (-1) ?_⟩
          unfold sgn
          rw [if_neg c1, if_neg c2]
  · rintro σ' H1 ⟨x4, x5, x6, rfl, s1, e1⟩
    refine ⟨fun σ H' => (∃ x7 x8, σ = [some (.ref h), some (.ref wa), some (.ref la), some (.ref D), x4, x5, x6, x7, x8]) ∧ Same H H' ∧ ∀ j, j < 3 → signs M ws ld ≠ List.replicate ws.length (sg3 j), ?_, ?_⟩
    · refine ⟨small (n := 2) (by decide), fun t0 h0 => ⟨small (n := 2) (by decide), fun t1 h1 => ⟨_, rfl, small (n := 2) (by decide), fun t2 h2 => ⟨small (n := 3) (by decide), fun t h3 => ⟨_, rfl, ⟨_, SqT.of upd_same⟩, ?_⟩⟩⟩⟩⟩
      have z1 := ((sameUpd (o := HO.tup [V.int 1, V.str "ending"]) h0).trans (sameUpd (o := HO.tup [V.int 0, V.str "flat"]) h1))
      have z2 := sameUpd (o := HO.tup [V.int (-1), V.str "wild"]) h2
      have z3 := sameUpd (o := HO.tup [V.ref t0, V.ref t1, V.ref t2]) h3
      have y0 := z3 _ _ (z2 _ _ ((sameUpd (o := HO.tup [V.int 0, V.str "flat"]) h1) _ _ upd_same))
      have y1 := z3 _ _ (z2 _ _ (upd_same (H := upd H1 t0 (HO.tup [V.int 1, V.str "ending"])) (a := t1)))
      have y2 := z3 _ _ (upd_same (H := upd (upd H1 t0 (HO.tup [V.int 1, V.str "ending"])) t1 (HO.tup [V.int 0, V.str "flat"])) (a := t2))
      refine for_it (walk_tup (xs := [V.ref t0, V.ref t1, V.ref t2])) (fun i σ H' => (∃ x7 x8, σ = [some (.ref h), some (.ref wa), some (.ref la), some (.ref D), x4, x5, x6, x7, x8]) ∧ Same (upd (upd (upd (upd H1 t0 (HO.tup [V.int 1, V.str "ending"])) t1 (HO.tup [V.int 0, V.str "flat"])) t2 (HO.tup [V.int (-1), V.str "wild"])) t (HO.tup [V.ref t0, V.ref t1, V.ref t2])) H' ∧ ∀ j, j < i → signs M ws ld ≠ List.replicate ws.length (sg3 j))
        ⟨⟨_, _, rfl⟩, Same.refl _, fun j z => by omega⟩ (fun i σ H' _ p => SqT.of (p.2.1 _ _ upd_same)) (fun i x σ H' H'' hi p y => ?_) (fun σ H' p => ⟨p.1, (s1.trans (z1.trans (z2.trans z3))).trans p.2.1, p.2.2⟩)
      obtain ⟨⟨x7, x8, rfl⟩, s2, hn⟩ := p
      obtain ⟨rfl, hx⟩ := y
      have sH : Same H H'' := (s1.trans (z1.trans (z2.trans z3))).trans s2
      have e2 := s2 _ _ (z3 _ _ (z2 _ _ (z1 _ _ e1)))
      have ha : ∃ tt, x = .ref tt ∧ H'' tt = some (.tup [.int (sg3 i), wd3 i]) := by
        rcases three hi hx with ⟨rfl, rfl⟩ | ⟨rfl, rfl⟩ | ⟨rfl, rfl⟩
        · exact ⟨_, rfl, s2 _ _ y0⟩
        · exact ⟨_, rfl, s2 _ _ y1⟩
        · exact ⟨_, rfl, s2 _ _ y2⟩
      obtain ⟨tt, rfl, ht⟩ := ha
      refine ⟨_, _, rfl, SqT.of ht, rfl, _, _, rfl, _, _, rfl, rfl, ?_⟩
      refine ⟨_, rfl, _, rfl, small (n := 1) (by decide), fun u1 g1 => ⟨_, rfl, wa, _, rfl, .inr (SqT.of ((sH.trans (sameUpd g1)) _ _ hw)), u1, _, _, rfl, rfl, upd_same, ?_, ?_, ?_, fun u2 g2 => ?_⟩⟩
      · simp [natI_len]
      · simp [natI_len]; omega
      · simp [natI_len]; exact small (by omega)
      have w1 := (sameUpd (o := HO.lst [V.int (sg3 i)]) g1).trans (sameUpd (o := HO.lst (List.replicate (Int.toNat (((natI ws).map V.int).length : Nat)) [V.int (sg3 i)]).flatten) g2)
      have e3 : (upd (upd H'' u1 (.lst [V.int (sg3 i)])) u2 (.lst (List.replicate (Int.toNat (((natI ws).map V.int).length : Nat)) [V.int (sg3 i)]).flatten)) u2 = some (.lst ((List.replicate ws.length (sg3 i)).map V.int)) := by
        refine upd_same.trans (congrArg (fun z => some (HO.lst z)) ?_)
        rw [rep_flat, map_rep]
        simp [natI_len]
      refine ⟨_, _, dpL (w1 _ _ e2), dpL e3, shaped_listI _, shaped_listI _, _, rfl, ?_⟩
      rw [eqv_listI]
      by_cases c : signs M ws ld = List.replicate ws.length (sg3 i)
      · refine iteP (decide_eq_true c) ⟨_, rfl, ?_⟩
        have := q _ (sH.trans w1)
        rw [wordV_at hi hn c] at this
        exact this
      · refine iteN (decide_eq_false c) ⟨⟨_, _, rfl⟩, s2.trans w1, fun j hj => ?_⟩
        rcases Nat.lt_or_ge j i with lt | ge
        · exact hn j lt
        · have : j = i := by omega
          subst this
          exact c
    · rintro σ' H2 ⟨⟨x7, x8, rfl⟩, s2, hn⟩
      have := q H2 s2
      rw [wordV_none hn] at this
      exact this
end
end Kal

set_option Elab.async false
set_option linter.all false
set_option maxRecDepth 100000
set_option maxHeartbeats 4000000
/-! KD5: kind_of, joined_to, wings_of. -/
namespace Kal
open PySem PySem.Spec PyProof.Rows L2 SX C8
theorem leastRun_len {M : List (List Int)} {ws : List Nat} {more : Int} {res : List Int} : ∀ {f : Nat} {ld : List Int}, ld.length = ws.length → leastRun M ws more f ld = some res → res.length = ws.length
  | 0, _, _, h => by cases h
  | f + 1, ld, l, h => by
    rw [leastRun] at h
    split at h
    · split at h
      · cases h
        exact l
      · exact leastRun_len (lstep_len l) h
    · cases h
/-- a wing of the kind 'ending' -/
def endW (M : List (List Int)) (ws : List Nat) (fuel : Nat) : Prop := ∃ ld, leastRun M ws 0 fuel (ones ws.length) = some ld ∧ signs M ws ld ≠ List.replicate ws.length 0
theorem wordV_not {s : List Int} {n : Nat} (h : s ≠ List.replicate n 0) (hn : 0 < n) : scal (wordV s n) (.str "flat") = true ∧ decide (wordV s n = .str "flat") = false := by
  unfold wordV
  by_cases h0 : s = List.replicate n (sg3 0)
  · rw [if_pos h0]; exact ⟨rfl, by decide⟩
  · rw [if_neg h0, if_neg (show s ≠ List.replicate n (sg3 1) from h)]
    by_cases h2 : s = List.replicate n (sg3 2)
    · rw [if_pos h2]; exact ⟨rfl, by decide⟩
    · rw [if_neg h2]; exact ⟨rfl, by decide⟩
def spKind (C : Addr) : Sp := fun vs H Q _ => ∃ (h : Addr) (M : List (List Int)) (wa : Addr) (ws : List Nat) (fuel : Nat), vs = [.ref h, .ref wa] ∧ HallAt C H h M ∧ SqM M ∧
  H wa = some (.tup ((natI ws).map V.int)) ∧ (∀ x ∈ ws, x < M.length) ∧ ws ≠ [] ∧ ws.length ≤ 1000 ∧ endW M ws fuel ∧ ∀ H', Same H H' → Q (.str "ending") H'
section
variable {P : Program} {w : World} {K : PySem.W.Frag} {mg : Str → Option Value} {base : Heap} {C : Addr}
abbrev nKindOf : List Str := ["hall", "wing", "load"]
theorem scKindOf : FnScope nKindOf ["hall", "wing"] (defScope sDKindOf) := ⟨rfl, rfl, rfl, by decide +kernel, rfl, by decide +kernel, by decide +kernel⟩
theorem c_kindOf (T : Txt K mg C) (F : Fn K mg "kind_of" "kind_of" sDKindOf ["hall", "wing"]) (c_wordOfLoads : Cal P w K mg base 2 "word_of_loads" (spWordL C) []) (c_leastOver : Cal P w K mg base 2 "least_over" (spLeast K C) []) : Cal P w K mg base 3 "kind_of" (spKind C) [] := by
  refine F.cal scKindOf (fun vs H Q E h => by obtain ⟨_, _, _, _, _, rfl, _⟩ := h; rfl) (fun cdv A outer s f H vs Q E hr h => ?_)
  have nd := scKindOf.nd
  obtain ⟨h, M, wa, ws, fuel, rfl, hh, S, hw, hin, hne, hl, ⟨ld, hrun, hs⟩, q⟩ := h
  have hpos : 0 < ws.length := List.length_pos_iff.mpr hne
  refine ⟨_, (pss_cons (ps_set (i := 2) nd rfl (.inl rfl) (pe_c c_leastOver hr (by decide) rfl (pa_cons (pv 0) (pa_cons (pv 1) (pa_cons pe_int pa_nil)))))
      (pss_cons (ps_if (pt_cmpR op_isN (pv 2) pe_non (nomark _)) (pss_one (ps_ret (pe_gc rfl T.cWILD))) pss_nil)
      (pss_one (ps_ret (pe_ifExp (pt_cmpR op_eq (pe_c c_wordOfLoads hr (by decide) rfl (pa_cons (pv 0) (pa_cons (pv 1) (pa_cons (pv 2) pa_nil)))) (pe_gc rfl T.cFLAT) (nomark _)) (pe_gc rfl T.cFLAT) (pe_gc rfl T.cENDING)))))), ?_⟩
  refine ⟨_, rfl, _, rfl, h, M, wa, ws, 0, ld, fuel, rfl, hh, S, hw, hin, hne, hl, hrun, fun H1 p s1 e1 => ?_⟩
  refine ⟨_, rfl, rfl, _, rfl, ?_⟩
  refine iteN (decide_eq_false (fun z => by cases z)) ?_
  refine ⟨_, rfl, _, rfl, _, rfl, h, M, wa, ws, p, ld, rfl, hh.same s1, S, s1 _ _ hw, hin, hl, e1, leastRun_len (by simp [ones]) hrun, fun H2 s2 => ?_⟩
  obtain ⟨z1, z2⟩ := wordV_not hs hpos
  refine ⟨z1, _, rfl, ?_⟩
  exact iteN z2 (q _ (s1.trans s2))
end
/-! ### joined_to -/
def joinRun (M : List (List Int)) : Nat → List Nat → List Nat → Option (List Nat)
  | 0, _, _ => none
  | f + 1, w, found => match w.getLast? with
    | none => some found
    | some one => if one ∈ found then joinRun M f w.dropLast found else if w.length + M.length ≤ 900 ∧ found.length < 60 ∧ one < M.length then joinRun M f (w.dropLast ++ nbr M one) (found ++ [one]) else none
def fkv (found : List Nat) : List (Key × V) := found.map fun n => (Sum.inl ((n : Nat) : Int), V.bl true)
theorem fkv_val (found : List Nat) (n : Nat) : (valV (fkv found) (Sum.inl (n : Int))).isSome = decide (n ∈ found) := by
  induction found with
  | nil => rfl
  | cons m r ih =>
    by_cases e : m = n
    · subst e
      rw [fkv, List.map_cons, valV_pos rfl]
      simp
    · have : valV (fkv (m :: r)) (Sum.inl (n : Int)) = valV (fkv r) (Sum.inl (n : Int)) := by
        unfold fkv valV
        rw [List.map_cons, List.find?_cons]
        have : ¬ ((Sum.inl (m : Int) : Key) = Sum.inl (n : Int)) := fun z => e (by have := Sum.inl.inj z; omega)
        simp [this]
      rw [this, ih]
      have h2 : ¬ n = m := fun z => e z.symm
      simp [h2]
theorem fkv_put {found : List Nat} {n : Nat} (h : n ∉ found) : putK (fkv found) (Sum.inl (n : Int)) (V.bl true) = fkv (found ++ [n]) := by
  unfold putK
  rw [if_neg]
  · unfold fkv
    rw [List.map_append]
    rfl
  · intro z
    rw [List.any_eq_true] at z
    obtain ⟨p, hp, e⟩ := z
    unfold fkv at hp
    obtain ⟨m, hm, rfl⟩ := List.mem_map.mp hp
    have e2 := of_decide_eq_true e
    have : m = n := by have := Sum.inl.inj e2; omega
    exact h (this ▸ hm)
theorem natI_app (a b : List Nat) : natI (a ++ b) = natI a ++ natI b := List.map_append
theorem natI_inj {a b : List Nat} (h : natI a = natI b) : a = b := by
  unfold natI at h
  exact (List.map_inj_right (fun x y z => by omega)).mp h
/-- sorted -/
def srt (l : List Nat) : List Nat := l.mergeSort (fun a b => decide (a ≤ b))
theorem srt_of {ys : List Int} {l : List Nat} (p : ys.Perm (natI l)) (s : ys.Pairwise (· ≤ ·)) : ys = natI (srt l) := by
  have h1 : (natI (srt l)).Perm (natI l) := (List.mergeSort_perm l _).map _
  have h2 : (srt l).Pairwise fun a b => decide (a ≤ b) = true := List.pairwise_mergeSort (fun a b c h1 h2 => by simp at *; omega) (fun a b => by simp; omega) l
  have h3 : (natI (srt l)).Pairwise (· ≤ ·) := by
    unfold natI
    rw [List.pairwise_map]
    exact h2.imp fun h => by simp at h; omega
  exact (p.trans h1.symm).eq_of_pairwise (fun a b _ _ h1 h2 => by omega) s h3
def spJoin (C : Addr) : Sp := fun vs H Q _ => ∃ (h : Addr) (M : List (List Int)) (l fuel : Nat) (ks : List Nat), vs = [.ref h, .int (l : Nat)] ∧ HallAt C H h M ∧ SqM M ∧ joinRun M fuel [l] [] = some ks ∧ ks.length < 64 ∧
  ∀ H' p, Same H H' → H' p = some (.tup ((natI (srt ks)).map V.int)) → Q (.ref p) H'
def JoinW (M : List (List Int)) (ks : List Nat) (H0 : Hp) (h : Addr) (l : Nat) (m : Nat) (σ : L2.St) (H : Hp) : Prop :=
  ∃ (D1 D2 : Addr) (w found : List Nat) (x4 : Option V), σ = [some (.ref h), some (.int (l : Nat)), some (.ref D1), some (.ref D2), x4] ∧ Same H0 H ∧ H0 D1 = none ∧ H0 D2 = none ∧ H D1 = some (.dK (fkv found)) ∧ H D2 = some (.lst ((natI w).map V.int)) ∧ joinRun M m w found = some ks
theorem natI_last {w : List Nat} {one : Nat} (h : w.getLast? = some one) : ((natI w).map V.int)[((natI w).map V.int).length - 1]? = some (V.int (one : Nat)) := by
  rw [List.getLast?_eq_getElem?] at h
  unfold natI
  rw [List.length_map, List.length_map, List.getElem?_map, List.getElem?_map, h]
  rfl
theorem natI_drop (w : List Nat) : ((natI w).map V.int).dropLast = (natI w.dropLast).map V.int := by
  unfold natI
  rw [List.map_map, List.map_map, List.map_dropLast]
section
variable {P : Program} {w : World} {K : PySem.W.Frag} {mg : Str → Option Value} {base : Heap} {C : Addr}
abbrev nJoinedTo : List Str := ["hall", "lamp", "found", "waiting", "one"]
theorem scJoinedTo : FnScope nJoinedTo ["hall", "lamp"] (defScope sDJoinedTo) := ⟨rfl, rfl, rfl, by decide +kernel, rfl, by decide +kernel, by decide +kernel⟩
theorem c_joinedTo (T : Txt K mg C) (F : Fn K mg "joined_to" "joined_to" sDJoinedTo ["hall", "lamp"]) (c_neighboursOf : Cal P w K mg base 1 "neighbours_of" (spNbr C) []) : Cal P w K mg base 2 "joined_to" (spJoin C) [] := by
  refine F.cal scJoinedTo (fun vs H Q E h => by obtain ⟨_, _, _, _, _, rfl, _⟩ := h; rfl) (fun cdv A outer s f H vs Q E hr h => ?_)
  have nd := scJoinedTo.nd
  have hu := hu_of hr
  obtain ⟨h, M, l, fuel, ks, rfl, hh, S, hrun, h64, q⟩ := h
  refine ⟨_, (pss_cons (ps_par (i := 2) (j := 3) rfl nd rfl rfl (by decide) rfl rfl (pa_cons pe_dnewK (pa_cons (pe_lst (pa_cons (pv 1) pa_nil)) pa_nil)) (by rfl))
      (pss_cons (ps_while PassesOwn.never (pt_cmpR (op_neD hr.units) (pv 3) (pe_lst pa_nil) (nomark _)) (pss_cons (ps_set (i := 4) nd rfl (.inl rfl) (pe_bm0 PySem.F.plainAttrs_list PySem.F.slot_list_pop PySem.F.type_list_pop mt_pop (pv 3)))
      (pss_one (ps_if (pt_cmp (pc_dnotin hu (pv 4) (pv 2))) (pss_cons (ps_dput hu (pv 2) (pv 4) pe_bl rfl)
      (pss_one (ps_expr (pe_bm PySem.F.plainAttrs_list PySem.F.slot_list_extend PySem.F.type_list_extend mt_extT (pv 3) (pa_cons (pe_c c_neighboursOf hr (by decide) rfl (pa_cons (pv 0) (pa_cons (pv 4) pa_nil))) pa_nil))))) pss_nil))))
      (pss_one (ps_ret (pe_callTy call_tuple_of rfl T.tuple (by decide +kernel) (pa_cons (pe_callB (call_sortedDI rfl) rfl T.sorted (by decide +kernel) (pa_cons (pv 2) pa_nil)) pa_nil)))))), ?_⟩
  intro D1 n1
  refine ⟨_, rfl, small (n := 1) (by decide), fun D2 n2 => ?_⟩
  refine ⟨_, _, rfl, ?_⟩
  have s0 := (sameUpd (o := HO.dK []) n1).trans (sameUpd (o := HO.lst [V.int (l : Nat)]) n2)
  refine ⟨JoinW M ks H h l, ⟨fuel, D1, D2, [l], [], none, rfl, s0, n1, (sameUpd n1).free n2, up upd_same n2, upd_same, hrun⟩, ?_⟩
  intro m σ H1 W
  obtain ⟨D1, D2, ww, found, x4, rfl, s1, m1, m2, e1, e2, hz⟩ := W
  refine ⟨_, rfl, small (n := 0) (by decide), fun p hp => ⟨_, _, dpL (up e2 hp), dpL (ns := []) upd_same, shaped_listI _, shaped_listI _, _, rfl, ?_⟩⟩
  rw [eqv_listI]
  have sp1 := s1.trans (sameUpd (o := HO.lst []) hp)
  cases m with
  | zero => cases hz
  | succ m =>
  rw [joinRun] at hz
  cases hw : ww.getLast? with
  | none =>
    rw [hw] at hz
    cases hz
    have : ww = [] := List.getLast?_eq_none_iff.mp hw
    subst this
    refine iteN (by decide) ?_
    have hk : (fkv ks).map (·.1) = (natI ks).map Sum.inl := by unfold fkv natI; rw [List.map_map, List.map_map]; rfl
    refine ⟨_, rfl, D1, fkv ks, natI ks, rfl, .inl (up e1 hp), hk, by rw [natI_len]; exact h64, fun ys p2 pm so hp2 => ?_⟩
    refine ⟨p2, _, rfl, .inl ⟨SqL.of upd_same, fun p3 hp3 => ?_⟩⟩
    refine q _ p3 ((sp1.trans (sameUpd hp2)).trans (sameUpd hp3)) ?_
    rw [upd_same, srt_of pm so]
  | some one =>
    rw [hw] at hz
    dsimp only at hz
    have hne : natI ww ≠ [] := by
      intro z
      have := natI_inj (b := []) z
      subst this
      cases hw
    refine iteP (by simpa using hne) ?_
    refine ⟨fun σ' H' => ∃ m', m' < m + 1 ∧ JoinW M ks H h l m' σ' H', fun _ _ z => z, ?_⟩
    refine ⟨_, rfl, .inl ⟨rfl, _, SqL.of (up e2 hp)⟩, D2, _, _, rfl, rfl, up e2 hp, natI_last hw, ?_⟩
    rw [natI_drop]
    have d12 : D1 ≠ D2 := by
      intro z
      subst z
      rw [e1] at e2
      cases e2
    have s3 : Same H (upd (upd H1 p (.lst [])) D2 (.lst ((natI ww.dropLast).map V.int))) := sameOfBut sp1 m2 But.upd
    have e1' : (upd (upd H1 p (.lst [])) D2 (.lst ((natI ww.dropLast).map V.int))) D1 = some (.dK (fkv found)) := by rw [upd_ne d12]; exact up e1 hp
    refine ⟨_, rfl, _, rfl, D1, _, rfl, DGet.k (k := Sum.inl (one : Int)) e1', ?_⟩
    rw [fkv_val]
    by_cases c : one ∈ found
    · rw [if_pos c] at hz
      rw [decide_eq_true c]
      refine ⟨_, rfl, iteN rfl ?_⟩
      exact ⟨m, Nat.lt_succ_self m, D1, D2, ww.dropLast, found, _, rfl, s3, m1, m2, e1', upd_same, hz⟩
    · rw [if_neg c] at hz
      rw [decide_eq_false c]
      refine ⟨_, rfl, iteP rfl ?_⟩
      by_cases c2 : ww.length + M.length ≤ 900 ∧ found.length < 60 ∧ one < M.length
      · rw [if_pos c2] at hz
        refine ⟨_, rfl, _, rfl, D1, _, rfl, DPut.k (k := Sum.inl (one : Int)) e1' (by unfold fkv; rw [List.length_map]; exact smallLt (by omega)), ?_⟩
        rw [fkv_put c]
        have s4 : Same H (upd (upd (upd H1 p (.lst [])) D2 (.lst ((natI ww.dropLast).map V.int))) D1 (.dK (fkv (found ++ [one])))) := sameOfBut s3 m1 But.upd
        have e4 : (upd (upd (upd H1 p (.lst [])) D2 (.lst ((natI ww.dropLast).map V.int))) D1 (.dK (fkv (found ++ [one])))) D2 = some (.lst ((natI ww.dropLast).map V.int)) := by rw [upd_ne (Ne.symm d12)]; exact upd_same
        refine ⟨_, rfl, .inl ⟨rfl, _, SqL.of e4⟩, _, rfl, _, rfl, h, M, one, rfl, hh.same s4, S, c2.2.2, fun H5 p5 s5 e5 => ?_⟩
        refine ⟨D2, p5, _, _, rfl, rfl, s5 _ _ e4, e5, ?_, ?_⟩
        · have z1 : (nbr M one).length ≤ M.length := by
            unfold nbr
            have := List.length_filter_le (fun i => decide ((M.getD one []).getD i 0 > 0)) (List.range M.length)
            rw [List.length_range] at this
            exact this
          rw [List.length_map, List.length_map, natI_len, natI_len, List.length_dropLast]
          omega
        · refine ⟨m, Nat.lt_succ_self m, D1, D2, _, _, _, rfl, sameOfBut (s4.trans s5) m2 But.upd, m1, m2, ?_, ?_, hz⟩
          · rw [upd_ne d12]
            exact s5 _ _ upd_same
          · rw [upd_same, natI_app, List.map_append]
      · rw [if_neg c2] at hz
        cases hz
end
end Kal

set_option Elab.async false
set_option linter.all false
set_option maxRecDepth 100000
set_option maxHeartbeats 4000000
/-! KD6: wings_of, need_hall, need_ending, never_wing_of. -/
namespace Kal
open PySem PySem.Spec PyProof.Rows L2 SX C8
/-- a wing as the halls of the law have them -/
structure WingOf (M : List (List Int)) (ws : List Nat) : Prop where
  ne : ws ≠ []
  lt : ∀ x ∈ ws, x < M.length
  len : ws.length < 64
  ends : endW M ws 100
structure Good (M : List (List Int)) : Prop where
  sq : SqM M
  wing : ∀ l, l < M.length → ∃ ks, joinRun M 100 [l] [] = some ks ∧ ks.length < 64 ∧ WingOf M (srt ks)
def WingsAt (H : Hp) (M : List (List Int)) (xs : List V) : Prop := ∀ x ∈ xs, ∃ t ws, x = V.ref t ∧ H t = some (.tup ((natI ws).map V.int)) ∧ WingOf M ws
theorem WingsAt.same {H H' : Hp} {M : List (List Int)} {xs : List V} (s : Same H H') (h : WingsAt H M xs) : WingsAt H' M xs := fun x hx => by
  obtain ⟨t, ws, e, ht, w⟩ := h x hx
  exact ⟨t, ws, e, s _ _ ht, w⟩
def spWings (C : Addr) : Sp := fun vs H Q _ => ∃ (h : Addr) (M : List (List Int)), vs = [.ref h] ∧ HallAt C H h M ∧ Good M ∧
  ∀ H' p xs, Same H H' → H' p = some (.lst xs) → xs.length ≤ 1000 → WingsAt H' M xs → Q (.ref p) H'
theorem putK_len {kvs : List (List Key × V)} {k : List Key} {v : V} : (putK kvs k v).length ≤ kvs.length + 1 := by
  unfold putK
  split
  · rw [List.length_map]; omega
  · rw [List.length_append]; exact Nat.le_refl _
theorem putK_mem {kvs : List (List Key × V)} {k : List Key} {v : V} {p : List Key × V} (h : p ∈ putK kvs k v) : (∃ p' ∈ kvs, p.1 = p'.1) ∨ p.1 = k := by
  unfold putK at h
  split at h
  · obtain ⟨q, hq, e⟩ := List.mem_map.mp h
    refine .inl ⟨q, hq, ?_⟩
    rw [← e]
    split <;> rfl
  · rcases List.mem_append.mp h with h | h
    · exact .inl ⟨p, h, rfl⟩
    · rw [List.mem_singleton.mp h]; exact .inr rfl
theorem keys_v (ws : List Nat) : (((natI ws).map Sum.inl : List Key).map kV) = (natI ws).map V.int := by rw [List.map_map]; rfl
section
variable {P : Program} {w : World} {K : PySem.W.Frag} {mg : Str → Option Value} {base : Heap} {C : Addr}
abbrev nWingsOf : List Str := ["hall", "lamp"]
theorem scWingsOf : FnScope nWingsOf ["hall"] (defScope sDWingsOf) := ⟨rfl, rfl, rfl, by decide +kernel, rfl, by decide +kernel, by decide +kernel⟩
theorem c_wingsOf (T : Txt K mg C) (F : Fn K mg "wings_of" "wings_of" sDWingsOf ["hall"]) (L : LenH P w K mg base C) (c_joinedTo : Cal P w K mg base 2 "joined_to" (spJoin C) []) : Cal P w K mg base 3 "wings_of" (spWings C) [] := by
  refine F.cal scWingsOf (fun vs H Q E h => by obtain ⟨_, _, rfl, _⟩ := h; rfl) (fun cdv A outer s f H vs Q E hr h => ?_)
  have nd := scWingsOf.nd
  obtain ⟨h, M, rfl, hh, G, q⟩ := h
  have S := G.sq
  have h8 := S.most
  refine ⟨_, (pss_one (ps_ret (pe_callB (cr_sortDT rfl hr.units) rfl T.sorted (by decide +kernel) (pa_cons (pe_dcT (own := [("lamp", 1)]) (g := (gName 1)) hr.units0 rfl nd (pi_range1 rfl T.range (pa_cons (pe_callB (lenHall L (hr.mono (by decide))) rfl T.len (by decide +kernel) (pa_cons (pv 0) pa_nil)) pa_nil)) (blkOk_by (own := [("lamp", 1)]) (N := nWingsOf) (sc := defScope sDWingsOf) (by decide +kernel)) (fun _ _ _ _ _ => (pg_name (i := 1) nd rfl (.inl rfl))) (fun _ _ _ _ _ => (pe_c c_joinedTo hr (by decide) rfl (pa_cons (pv 0) (pa_cons (pv 1) pa_nil)))) (fun _ _ _ _ _ => pe_bl)) pa_nil)))), ?_⟩
  refine ⟨_, rfl, h, M, rfl, hh, by omega, _, rfl, by omega, by omega, fun D hD => ?_⟩
  refine dcT_range (fun i H' => Same H H' ∧ ∃ kvs, H' D = some (.dT kvs) ∧ kvs.length ≤ i ∧ ∀ p ∈ kvs, ∃ ws, p.1 = (natI ws).map Sum.inl ∧ WingOf M ws) ⟨sameUpd hD, [], upd_same, Nat.le_refl _, fun p hp => by cases hp⟩ (fun i H' hi p => ?_) (fun H' p => ?_)
  · obtain ⟨s, kvs, e, hl, hk⟩ := p
    have hi8 : i < M.length := by simpa using hi
    obtain ⟨ks, hj, h64, wo⟩ := G.wing i hi8
    refine ⟨rfl, _, rfl, _, rfl, h, M, i, 100, ks, (by show [V.ref h, V.int (0 + (i : Nat))] = _; rw [Int.zero_add]), hh.same s, S, hj, h64, fun H2 p2 s2 e2 => ?_⟩
    refine ⟨kvs, (natI (srt ks)).map Sum.inl, p2, rfl, by rw [keys_v]; exact e2, s2 _ _ e, smallLt (by omega), sameOfBut (s.trans s2) hD But.upd, _, upd_same, Nat.le_trans putK_len (by omega), fun p hp => ?_⟩
    rcases putK_mem hp with ⟨p', hp', z⟩ | z
    · rw [z]; exact hk p' hp'
    · exact ⟨_, z, wo⟩
  · obtain ⟨s, kvs, e, hl, hk⟩ := p
    have hl2 : kvs.length ≤ M.length := by simpa using hl
    refine ⟨D, kvs, rfl, e, by omega, fun p hp => ?_, fun p xs np lx mem _ => ?_⟩
    · obtain ⟨ws, z, wo⟩ := hk p hp
      rw [z]
      cases ws with
      | nil => exact absurd rfl wo.ne
      | cons n r => exact ⟨_, _, rfl⟩
    · refine q _ p xs (s.trans (sameUpd np)) upd_same (by omega) (WingsAt.same (sameUpd np) fun x hx => ?_)
      obtain ⟨t, p', ex, hp', et⟩ := mem x hx
      obtain ⟨ws, z, wo⟩ := hk p' hp'
      rw [z, keys_v] at et
      exact ⟨t, ws, ex, et, wo⟩
end
end Kal

set_option Elab.async false
set_option linter.all false
set_option maxRecDepth 100000
set_option maxHeartbeats 4000000
/-! KD7: need_hall, need_ending, never_wing_of, is_lamp_of, need_word, are_numbers. -/
namespace Kal
open PySem PySem.Spec PyProof.Rows L2 SX C8
def spNeedHall (C : Addr) : Sp := fun vs H Q _ => ∃ (h : Addr) (M : List (List Int)), vs = [.ref h] ∧ HallAt C H h M ∧ Q .non H
def spNeedEnd (C : Addr) : Sp := fun vs H Q _ => ∃ (h : Addr) (M : List (List Int)), vs = [.ref h] ∧ HallAt C H h M ∧ Good M ∧ ∀ H', Same H H' → Q .non H'
def spNever (C : Addr) : Sp := fun vs H Q _ => ∃ (h : Addr) (M : List (List Int)) (v : V), vs = [.ref h, v] ∧ HallAt C H h M ∧ Good M ∧ ∀ H', Same H H' → Q .non H'
def spIsLamp (C : Addr) : Sp := fun vs H Q _ => ∃ (h : Addr) (M : List (List Int)) (l : Nat), vs = [.ref h, .int (l : Nat)] ∧ HallAt C H h M ∧ SqM M ∧ l < M.length ∧ Q (.bl true) H
def spNeedWord (C : Addr) : Sp := fun vs H Q _ => ∃ (h : Addr) (M : List (List Int)) (wa : Addr) (ws : List Nat), vs = [.ref h, .ref wa] ∧ HallAt C H h M ∧ Good M ∧ H wa = some (.tup ((natI ws).map V.int)) ∧ ws.length ≤ 60 ∧ (∀ x ∈ ws, x < M.length) ∧ ∀ H', Same H H' → Q .non H'
def spAreNums (C : Addr) : Sp := fun vs H Q _ => ∃ (h : Addr) (M : List (List Int)) (a : Addr) (ns : List Int), vs = [.ref h, .ref a] ∧ HallAt C H h M ∧ SqM M ∧ H a = some (.tup (ns.map V.int)) ∧ ns.length = M.length ∧ ∀ H', Same H H' → Q (.bl true) H'
section
variable {P : Program} {w : World} {K : PySem.W.Frag} {mg : Str → Option Value} {base : Heap} {C : Addr}
abbrev nNeedHall : List Str := ["hall"]
theorem scNeedHall : FnScope nNeedHall ["hall"] (defScope sDNeedHall) := ⟨rfl, rfl, rfl, by decide +kernel, rfl, by decide +kernel, by decide +kernel⟩
theorem c_needHall (T : Txt K mg C) (F : Fn K mg "need_hall" "need_hall" sDNeedHall ["hall"])  : Cal P w K mg base 1 "need_hall" (spNeedHall C) [] := by
  refine F.cal scNeedHall (fun vs H Q E h => by obtain ⟨_, _, rfl, _⟩ := h; rfl) (fun cdv A outer s f H vs Q E hr h => ?_)
  have nd := scNeedHall.nd
  obtain ⟨h, M, rfl, hh, q⟩ := h
  obtain ⟨dx, tp, eh, mt⟩ := hh
  refine ⟨_, (pss_one (ps_if (pt_not (pt_val (pe_callB (call_isC T.insC) rfl T.isinstance (by decide +kernel) (pa_cons (pv 0) (pa_cons (pe_gc rfl T.hallV) pa_nil))))) (pss_one ps_never) pss_nil)), ?_⟩
  exact ⟨_, rfl, h, dx, _, rfl, eh, _, rfl, iteN rfl q⟩
abbrev nIsLampOf : List Str := ["hall", "value"]
theorem scIsLampOf : FnScope nIsLampOf ["hall", "value"] (defScope sDIsLampOf) := ⟨rfl, rfl, rfl, by decide +kernel, rfl, by decide +kernel, by decide +kernel⟩
theorem c_isLampOf (T : Txt K mg C) (F : Fn K mg "is_lamp_of" "is_lamp_of" sDIsLampOf ["hall", "value"]) (L : LenH P w K mg base C) (c_isFrom : Cal P w K mg base 1 "is_from" (spIsFrom) []) : Cal P w K mg base 3 "is_lamp_of" (spIsLamp C) [] := by
  refine F.cal scIsLampOf (fun vs H Q E h => by obtain ⟨_, _, _, rfl, _⟩ := h; rfl) (fun cdv A outer s f H vs Q E hr h => ?_)
  have nd := scIsLampOf.nd
  obtain ⟨h, M, l, rfl, hh, S, hl, q⟩ := h
  have h8 := S.most
  refine ⟨_, (pss_one (ps_ret (pe_c c_isFrom hr (by decide) rfl (pa_cons (pv 1) (pa_cons pe_int (pa_cons (pe_op op_sub (pe_callB (lenHall L (hr.mono (by decide))) rfl T.len (by decide +kernel) (pa_cons (pv 0) pa_nil)) pe_int) pa_nil)))))), ?_⟩
  refine ⟨_, rfl, _, rfl, h, M, rfl, hh, by omega, _, _, rfl, rfl, _, _, _, _, rfl, .int (l : Nat), ?_⟩
  have : (decide ((0 : Int) ≤ (l : Nat)) && decide (((l : Nat) : Int) ≤ (M.length : Nat) - 1)) = true := by
    rw [Bool.and_eq_true]; exact ⟨decide_eq_true (by omega), decide_eq_true (by omega)⟩
  rw [this]
  exact q
abbrev nNeedEnding : List Str := ["hall", "wing"]
theorem scNeedEnding : FnScope nNeedEnding ["hall"] (defScope sDNeedEnding) := ⟨rfl, rfl, rfl, by decide +kernel, rfl, by decide +kernel, by decide +kernel⟩
theorem c_needEnding (T : Txt K mg C) (F : Fn K mg "need_ending" "need_ending" sDNeedEnding ["hall"]) (c_wingsOf : Cal P w K mg base 3 "wings_of" (spWings C) []) (c_kindOf : Cal P w K mg base 3 "kind_of" (spKind C) []) (c_needHall : Cal P w K mg base 1 "need_hall" (spNeedHall C) []) : Cal P w K mg base 4 "need_ending" (spNeedEnd C) [] := by
  refine F.cal scNeedEnding (fun vs H Q E h => by obtain ⟨_, _, rfl, _⟩ := h; rfl) (fun cdv A outer s f H vs Q E hr h => ?_)
  have nd := scNeedEnding.nd
  obtain ⟨h, M, rfl, hh, G, q⟩ := h
  refine ⟨_, (pss_cons (ps_expr (pe_c c_needHall hr (by decide) rfl (pa_cons (pv 0) pa_nil)))
      (pss_one (ps_if (pt_not (pt_val (pe_callB (cr_all rfl) rfl T.all (by decide +kernel) (pa_cons (pe_lc (own := [("wing", 1)]) (g := (gName 1)) rfl nd (pi_list (pe_c c_wingsOf hr (by decide) rfl (pa_cons (pv 0) pa_nil))) (blkOk_by (own := [("wing", 1)]) (N := nNeedEnding) (sc := (defScope sDNeedEnding)) (by decide +kernel)) (fun _ _ _ _ _ => (pg_name (i := 1) nd rfl (.inl rfl))) (fun _ _ _ _ _ => pts_nil) (fun _ _ _ _ _ => (pe_cmpR op_eq (pe_c c_kindOf hr (by decide) rfl (pa_cons (pv 0) (pa_cons (pv 1) pa_nil))) (pe_gc rfl T.cENDING) (nomark _)))) pa_nil)))) (pss_one ps_never) pss_nil))), ?_⟩
  refine ⟨_, rfl, h, M, rfl, hh, ?_⟩
  refine ⟨_, rfl, h, M, rfl, hh, G, fun H1 p xs s1 e1 hl ha => ?_⟩
  refine ⟨_, rfl, ⟨_, SqL.of e1⟩, fun D hD => ?_⟩
  refine lc_told walk_list (fun _ => .bl true) (by omega) hD (fun H' s => SqL.of (s _ _ e1)) (fun i x H' H'' hi s y M' hM => ?_) (fun H2 s2 f2 => ?_)
  · obtain ⟨rfl, hx⟩ := y
    obtain ⟨t, ws, rfl, ht, wo⟩ := ha x (List.mem_of_getElem? hx)
    refine ⟨rfl, _, rfl, _, rfl, h, M, t, ws, 100, rfl, hh.same (s1.trans s), G.sq, s _ _ ht, wo.lt, wo.ne, Nat.le_trans (Nat.le_of_lt wo.len) (by decide), wo.ends, fun H3 s3 => ⟨rfl, ?_⟩⟩
    exact hM H3 s3
  · have f3 : H2 D = some (.lst ((List.replicate xs.length true).map V.bl)) := by
      rw [f2]
      refine congrArg (fun z => some (HO.lst z)) ?_
      rw [List.map_replicate]
      exact List.ext_getElem (by simp) (by simp)
    refine ⟨_, _, rfl, SqL.of f3, _, rfl, ?_⟩
    have : (List.replicate xs.length true).all id = true := by simp
    rw [this]
    exact iteN rfl (q _ (s1.trans s2))
abbrev nNeverWingOf : List Str := ["hall", "start", "wing"]
theorem scNeverWingOf : FnScope nNeverWingOf ["hall", "start"] (defScope sDNeverWingOf) := ⟨rfl, rfl, rfl, by decide +kernel, rfl, by decide +kernel, by decide +kernel⟩
theorem c_neverWingOf (T : Txt K mg C) (F : Fn K mg "never_wing_of" "never_wing_of" sDNeverWingOf ["hall", "start"]) (c_wingsOf : Cal P w K mg base 3 "wings_of" (spWings C) []) (c_kindOf : Cal P w K mg base 3 "kind_of" (spKind C) []) : Cal P w K mg base 4 "never_wing_of" (spNever C) [] := by
  refine F.cal scNeverWingOf (fun vs H Q E h => by obtain ⟨_, _, _, rfl, _⟩ := h; rfl) (fun cdv A outer s f H vs Q E hr h => ?_)
  have nd := scNeverWingOf.nd
  obtain ⟨h, M, v, rfl, hh, G, q⟩ := h
  refine ⟨_, (pss_cons (ps_for PassesOwn.never rfl (pi_list (pe_c c_wingsOf hr (by decide) rfl (pa_cons (pv 0) pa_nil))) (pg_name (i := 2) nd rfl (.inl rfl)) (pss_one (ps_if (PW.pt (pw_and (pt_cmpR op_eq (pe_c c_kindOf hr (by decide) rfl (pa_cons (pv 0) (pa_cons (pv 2) pa_nil))) (pe_gc rfl T.cFLAT) (nomark _)) (pw_and1 (pt_val pe_never)))) (pss_one (ps_ret (pv 2))) pss_nil)))
      (pss_one (ps_ret pe_non))), ?_⟩
  refine ⟨_, rfl, h, M, rfl, hh, G, fun H1 p xs s1 e1 hl ha => ?_⟩
  refine ⟨_, rfl, ⟨_, SqL.of e1⟩, ?_⟩
  refine for_it walk_list (fun i σ H' => ∃ x2, σ = [some (.ref h), some v, x2] ∧ Same H1 H') ⟨none, rfl, Same.refl _⟩ (fun i σ H' _ p => SqL.of (p.choose_spec.2 _ _ e1)) (fun i x σ H' H'' hi p y => ?_) (fun σ H' p => ?_)
  · obtain ⟨x2, rfl, s⟩ := p
    obtain ⟨rfl, hx⟩ := y
    obtain ⟨t, ws, rfl, ht, wo⟩ := ha x (List.mem_of_getElem? hx)
    refine ⟨_, rfl, _, rfl, h, M, t, ws, 100, rfl, hh.same (s1.trans s), G.sq, s _ _ ht, wo.lt, wo.ne, Nat.le_trans (Nat.le_of_lt wo.len) (by decide), wo.ends, fun H3 s3 => ⟨rfl, _, rfl, ?_⟩⟩
    exact ⟨_, rfl, s.trans s3⟩
  · obtain ⟨x2, rfl, s⟩ := p
    exact q _ (s1.trans s)
abbrev nNeedWord : List Str := ["hall", "word", "index", "lamp"]
theorem scNeedWord : FnScope nNeedWord ["hall", "word"] (defScope sDNeedWord) := ⟨rfl, rfl, rfl, by decide +kernel, rfl, by decide +kernel, by decide +kernel⟩
theorem c_needWord (T : Txt K mg C) (F : Fn K mg "need_word" "need_word" sDNeedWord ["hall", "word"]) (c_isLampOf : Cal P w K mg base 3 "is_lamp_of" (spIsLamp C) []) (c_needEnding : Cal P w K mg base 4 "need_ending" (spNeedEnd C) []) : Cal P w K mg base 5 "need_word" (spNeedWord C) [] := by
  refine F.cal scNeedWord (fun vs H Q E h => by obtain ⟨_, _, _, _, rfl, _⟩ := h; rfl) (fun cdv A outer s f H vs Q E hr h => ?_)
  have nd := scNeedWord.nd
  obtain ⟨h, M, wa, ws, rfl, hh, G, hw, hl, hin, q⟩ := h
  refine ⟨_, (pss_cons (ps_expr (pe_c c_needEnding hr (by decide) rfl (pa_cons (pv 0) pa_nil)))
      (pss_cons (ps_if (PW.pt (pw_or (pt_not (pt_val (pe_callB call_isi rfl T.isinstance (by decide +kernel) (pa_cons (pv 1) (pa_cons (pe_bltn (v := .ty "tuple") (u := .type "tuple") rfl T.tuple (by decide +kernel) rfl) pa_nil))))) (pw_or1 (pt_cmpR op_gt (pe_callB call_len_seq rfl T.len (by decide +kernel) (pa_cons (pv 1) pa_nil)) (pe_gc rfl T.cMOSTLETTERS) (nomark _))))) (pss_one ps_never) pss_nil)
      (pss_one (ps_for PassesOwn.never rfl (pi_enumB rfl T.enumerate (pa_cons (pv 1) pa_nil)) (pg_tup rfl (pgs_cons (pg_name (i := 2) nd rfl (.inl rfl)) (pgs_cons (pg_name (i := 3) nd rfl (.inl rfl)) pgs_nil))) (pss_one (ps_if (pt_not (pt_val (pe_c c_isLampOf hr (by decide) rfl (pa_cons (pv 0) (pa_cons (pv 3) pa_nil))))) (pss_one ps_never) pss_nil)))))), ?_⟩
  refine ⟨_, rfl, h, M, rfl, hh, G, fun H1 s1 => ?_⟩
  refine ⟨_, rfl, _, _, _, _, _, rfl, .ty "tuple", .base (.tup (s1 _ _ hw)), kTT, _, rfl, ?_⟩
  refine ⟨_, rfl, _, _, rfl, .inr (SqT.of (s1 _ _ hw)), _, _, rfl, rfl, _, rfl, ?_⟩
  refine iteN (by rw [List.length_map, natI_len]; exact decide_eq_false (by omega)) ?_
  refine ⟨_, rfl, false, wa, _, rfl, SqT.of (s1 _ _ hw), ?_⟩
  refine for_it walk_enumN (fun i σ H' => ∃ x2 x3, σ = [some (.ref h), some (.ref wa), x2, x3] ∧ Same H1 H') ⟨none, none, rfl, Same.refl _⟩ (fun i σ H' _ p => by obtain ⟨_, _, _, s⟩ := p; exact SqT.of ((s1.trans s) _ _ hw)) (fun i x σ H' H'' hi p y => ?_) (fun σ H' p => ?_)
  · obtain ⟨x2, x3, rfl, s⟩ := p
    obtain ⟨T', rfl, hT, rfl⟩ := y
    have s4 := s.trans (sameUpd (o := HO.tup [V.int (i : Nat), V.int ((ws.getD i 0 : Nat) : Int)]) hT)
    refine ⟨_, _, rfl, SqT.of upd_same, rfl, _, _, rfl, _, _, rfl, rfl, ?_⟩
    refine ⟨_, rfl, _, rfl, h, M, ws.getD i 0, rfl, hh.same (s1.trans s4), G.sq, getD_lt hin hi, _, rfl, ?_⟩
    exact iteN rfl ⟨_, _, rfl, s4⟩
  · obtain ⟨x2, x3, rfl, s⟩ := p
    exact q _ (s1.trans s)
abbrev nAreNumbers : List Str := ["hall", "value", "one"]
theorem scAreNumbers : FnScope nAreNumbers ["hall", "value"] (defScope sDAreNumbers) := ⟨rfl, rfl, rfl, by decide +kernel, rfl, by decide +kernel, by decide +kernel⟩
theorem c_areNumbers (T : Txt K mg C) (F : Fn K mg "are_numbers" "are_numbers" sDAreNumbers ["hall", "value"]) (L : LenH P w K mg base C) : Cal P w K mg base 3 "are_numbers" (spAreNums C) [] := by
  refine F.cal scAreNumbers (fun vs H Q E h => by obtain ⟨_, _, _, _, rfl, _⟩ := h; rfl) (fun cdv A outer s f H vs Q E hr h => ?_)
  have nd := scAreNumbers.nd
  obtain ⟨h, M, a, ns, rfl, hh, S, ha, hl, q⟩ := h
  have h8 := S.most
  refine ⟨_, (pss_cons (ps_if (PW.pt (pw_or (pt_not (pt_val (pe_callB call_isi rfl T.isinstance (by decide +kernel) (pa_cons (pv 1) (pa_cons (pe_bltn (v := .ty "tuple") (u := .type "tuple") rfl T.tuple (by decide +kernel) rfl) pa_nil))))) (pw_or1 (pt_cmpR op_ne (pe_callB call_len_seq rfl T.len (by decide +kernel) (pa_cons (pv 1) pa_nil)) (pe_callB (lenHall L (hr.mono (by decide))) rfl T.len (by decide +kernel) (pa_cons (pv 0) pa_nil)) (nomark _))))) (pss_one (ps_ret pe_bl)) pss_nil)
      (pss_one (ps_ret (pe_callB (cr_all rfl) rfl T.all (by decide +kernel) (pa_cons (pe_lc (own := [("one", 2)]) (g := (gName 2)) rfl nd (pi_tup (pv 1)) (blkOk_by (own := [("one", 2)]) (N := nAreNumbers) (sc := (defScope sDAreNumbers)) (by decide +kernel)) (fun _ _ _ _ _ => (pg_name (i := 2) nd rfl (.inl rfl))) (fun _ _ _ _ _ => pts_nil) (fun _ _ _ _ _ => (pe_and (pe_callB (call_isiK2 (K := K) rfl) rfl T.isinstance (by decide +kernel) (pa_cons (pv 2) (pa_cons (pe_bltn (v := .ty "int") (u := .type "int") rfl T.int (by decide +kernel) rfl) pa_nil))) (pe_one (pe_not (pe_callB (call_isiK2 (K := K) rfl) rfl T.isinstance (by decide +kernel) (pa_cons (pv 2) (pa_cons (pe_bltn (v := .ty "bool") (u := .type "bool") rfl T.bool (by decide +kernel) rfl) pa_nil)))))))) pa_nil))))), ?_⟩
  refine ⟨_, rfl, _, _, _, _, _, rfl, .ty "tuple", .base (.tup ha), kTT, _, rfl, ?_⟩
  refine ⟨_, rfl, _, _, rfl, .inr (SqT.of ha), _, rfl, h, M, rfl, hh, by omega, rfl, _, rfl, ?_⟩
  refine iteN (by rw [List.length_map, hl]; simp) ?_
  refine ⟨_, rfl, _, rfl, ⟨_, SqT.of ha⟩, fun D hD => ?_⟩
  refine lc_told walk_tupI (fun _ => .bl true) (by omega) hD (fun H' s => SqT.of (s _ _ ha)) (fun i x H' H'' hi s y M' hM => ?_) (fun H2 s2 f2 => ?_)
  · obtain ⟨rfl, rfl⟩ := y
    refine ⟨rfl, _, rfl, _, _, _, _, _, rfl, .ty "int", .base (.int _), kII, _, rfl, ?_⟩
    exact ⟨_, rfl, _, _, _, _, _, rfl, .ty "bool", .base (.int _), kIB, _, rfl, hM _ (Same.refl _)⟩
  · have f3 : H2 D = some (.lst ((List.replicate ns.length true).map V.bl)) := by
      rw [f2]
      refine congrArg (fun z => some (HO.lst z)) ?_
      rw [List.map_replicate]
      exact List.ext_getElem (by simp) (by simp)
    refine ⟨_, _, rfl, SqL.of f3, ?_⟩
    have : (List.replicate ns.length true).all id = true := by simp
    rw [this]
    exact q _ s2
end
end Kal

set_option Elab.async false
set_option linter.all false
set_option maxRecDepth 100000
set_option maxHeartbeats 4000000
/-! KD8: played, is_room_of, need_room, need_one, need_two, word_of (of rooms). -/
namespace Kal
open PySem PySem.Spec PyProof.Rows L2 SX C8
theorem chg_len {M : List (List Int)} (S : SqM M) {ns : List Int} {l : Nat} (h : ns.length = M.length) (hl : l < M.length) : (chg M ns l).length = M.length := by
  obtain ⟨row, er, el, _⟩ := S.at hl
  unfold chg
  rw [List.length_set, List.length_zipWith, List.getD_eq_getElem?_getD, er]
  show min ns.length row.length = _
  omega
theorem able_lt {ns : List Int} {l : Nat} (h : l ∈ able ns) : l < ns.length := by
  have := (List.mem_filter.mp h).1
  simpa using this
def playRun (M : List (List Int)) : Nat → List Int → Option (List Nat × List Int)
  | 0, _ => none
  | f + 1, now => match able now with
    | [] => some ([], now)
    | l :: _ => (playRun M f (chg M now l)).map fun q => (l :: q.1, q.2)
def spPlayed (C : Addr) : Sp := fun vs H Q _ => ∃ (h : Addr) (M : List (List Int)) (a : Addr) (ns : List Int) (fuel : Nat) (p : List Nat) (e : List Int), vs = [.ref h, .ref a] ∧ HallAt C H h M ∧ Good M ∧ H a = some (.tup (ns.map V.int)) ∧ ns.length = M.length ∧ fuel ≤ 1000 ∧ playRun M fuel ns = some (p, e) ∧
  ∀ H' q b c d, Same H H' → H' q = some (.tup [.ref b, .ref c, .ref d]) → H' b = some (.tup ((natI p).map V.int)) → H' c = some (.tup (e.map V.int)) → Q (.ref q) H'
def PlayW (M : List (List Int)) (p : List Nat) (e : List Int) (H0 : Hp) (h a : Addr) (m : Nat) (σ : L2.St) (H : Hp) : Prop :=
  ∃ (D1 an D2 : Addr) (pl rest : List Nat) (now tn : List Int), σ = [some (.ref h), some (.ref a), some (.ref D1), some (.ref an), some (.ref D2)] ∧ Same H0 H ∧ H0 D1 = none ∧ H0 D2 = none ∧ D1 ≠ D2 ∧ H D1 = some (.lst ((natI pl).map V.int)) ∧ H an = some (.tup (now.map V.int)) ∧ H D2 = some (.lst (tn.map V.int)) ∧
    tn.length = M.length ∧ now.length = M.length ∧ playRun M m now = some (rest, e) ∧ pl ++ rest = p ∧ pl.length + m ≤ 1000
section
variable {P : Program} {w : World} {K : PySem.W.Frag} {mg : Str → Option Value} {base : Heap} {C : Addr}
abbrev nPlayed : List Str := ["hall", "start", "play", "now", "turned"]
theorem scPlayed : FnScope nPlayed ["hall", "start"] (defScope sDPlayed) := ⟨rfl, rfl, rfl, by decide +kernel, rfl, by decide +kernel, by decide +kernel⟩
theorem c_played (T : Txt K mg C) (F : Fn K mg "played" "played" sDPlayed ["hall", "start"]) (L : LenH P w K mg base C) (c_ableOf : Cal P w K mg base 1 "able_of" (spAble) []) (c_changed : Cal P w K mg base 1 "changed" (spChanged C) []) (c_neverWingOf : Cal P w K mg base 4 "never_wing_of" (spNever C) []) : Cal P w K mg base 5 "played" (spPlayed C) [] := by
  refine F.cal scPlayed (fun vs H Q E h => by obtain ⟨_, _, _, _, _, _, _, rfl, _⟩ := h; rfl) (fun cdv A outer s f H vs Q E hr h => ?_)
  have nd := scPlayed.nd
  obtain ⟨h, M, a, ns, fuel, p, e, rfl, hh, G, ha, hl, hf, hrun, q⟩ := h
  have S := G.sq
  have h8 := S.most
  refine ⟨_, (pss_cons (ps_if (pt_cmpR op_notN (pe_c c_neverWingOf hr (by decide) rfl (pa_cons (pv 0) (pa_cons (pv 1) pa_nil))) pe_non (nomark _)) (pss_one (ps_ret pe_non)) pss_nil)
      (pss_cons (ps_par3 (i := 2) (j := 3) (l := 4) rfl nd rfl rfl rfl (by decide) (by decide) (by decide) rfl rfl rfl (pa_cons (pe_lst pa_nil) (pa_cons (pv 1) (pa_cons (pe_op op_rep (pe_lst (pa_cons pe_int pa_nil)) (pe_callB (lenHall L (hr.mono (by decide))) rfl T.len (by decide +kernel) (pa_cons (pv 0) pa_nil))) pa_nil))) (by rfl))
      (pss_cons (ps_while PassesOwn.never (pt_cmpR (op_neD hr.units) (pe_c c_ableOf hr (by decide) rfl (pa_cons (pv 3) pa_nil)) (pe_tup pa_nil) (nomark _)) (pss_cons (ps_if (pt_cmpR op_eq (pe_callB call_len_seq rfl T.len (by decide +kernel) (pa_cons (pv 2) pa_nil)) (pe_gc rfl T.cMOSTPRESSES) (nomark _)) (pss_one ps_never) pss_nil)
      (pss_cons (ps_expr (pe_bm PySem.F.plainAttrs_list PySem.F.slot_list_append PySem.F.type_list_append mt_append (pv 2) (pa_cons (pe_ix ix_tup (pe_c c_ableOf hr (by decide) rfl (pa_cons (pv 3) pa_nil)) pe_int (fun _ _ => rfl)) pa_nil)))
      (pss_cons (ps_augS (pv 4) (pe_ix ix_list (pv 2) (pe_un un_neg pe_int) (fun _ _ => rfl)) pget_list (pe_ix ix_tup (pv 3) (pe_ix ix_list (pv 2) (pe_un un_neg pe_int) (fun _ _ => rfl)) (fun _ _ => rfl)) ip_sub set_list)
      (pss_one (ps_set (i := 3) nd rfl (.inl rfl) (pe_c c_changed hr (by decide) rfl (pa_cons (pv 0) (pa_cons (pv 3) (pa_cons (pe_ix ix_list (pv 2) (pe_un un_neg pe_int) (fun _ _ => rfl)) pa_nil))))))))))
      (pss_one (ps_ret (pe_tup (pa_cons (pe_callTy call_tuple_of rfl T.tuple (by decide +kernel) (pa_cons (pv 2) pa_nil)) (pa_cons (pv 3) (pa_cons (pe_callTy call_tuple_of rfl T.tuple (by decide +kernel) (pa_cons (pv 4) pa_nil)) pa_nil))))))))), ?_⟩
  refine ⟨_, rfl, _, rfl, h, M, _, rfl, hh, G, fun H1 s1 => ⟨rfl, _, rfl, iteN rfl ?_⟩⟩
  refine ⟨small (n := 0) (by decide), fun D1 n1 => ⟨_, rfl, small (n := 1) (by decide), fun u nu => ?_⟩⟩
  have sa := (s1.trans (sameUpd (o := HO.lst []) n1)).trans (sameUpd (o := HO.lst [V.int 0]) nu)
  refine ⟨_, rfl, h, M, rfl, hh.same sa, by omega, u, _, _, rfl, rfl, upd_same, by omega, by omega, ?_, fun D2 n2 => ?_⟩
  · simp
    exact small (by omega)
  refine ⟨_, _, _, rfl, ?_⟩
  have sb := sa.trans (sameUpd (o := HO.lst (List.replicate (Int.toNat (M.length : Nat)) [V.int 0]).flatten) n2)
  refine ⟨PlayW M p e H h a, ⟨fuel, D1, a, D2, [], p, ns, List.replicate M.length 0, rfl, sb, s1.free n1, sa.free n2, ?_, ?_, sb _ _ ha, ?_, by simp, hl, hrun, rfl, by simpa using hf⟩, ?_⟩
  · intro z
    rw [← z] at n2
    rw [up upd_same nu] at n2
    cases n2
  · exact up (up upd_same nu) n2
  · rw [upd_same, rep_flat, map_rep]
    rfl
  intro m σ H2 W
  obtain ⟨D1, an, D2, pl, rest, now, tn, rfl, s2, m1, m2, d12, e1, ea, e2, lt, ln, hz, hp, hm⟩ := W
  refine ⟨_, rfl, an, now, rfl, ea, by omega, fun H3 p3 s3 e3 => ?_⟩
  refine ⟨small (n := 0) (by decide), fun p4 n4 => ⟨_, _, dpT (up e3 n4), dpT (ns := []) upd_same, shaped_tupI _, shaped_tupI _, _, rfl, ?_⟩⟩
  rw [eqv_tupI]
  have s4 := s3.trans (sameUpd (o := HO.tup []) n4)
  cases m with
  | zero => cases hz
  | succ m =>
  rw [playRun] at hz
  cases hab : able now with
  | nil =>
    rw [hab] at hz
    cases hz
    refine iteN (by decide) ?_
    rw [List.append_nil] at hp
    subst hp
    refine ⟨_, rfl, D1, _, rfl, .inl ⟨SqL.of (s4 _ _ e1), fun b nb => ?_⟩⟩
    refine ⟨_, rfl, _, rfl, D2, _, rfl, .inl ⟨SqL.of (up (s4 _ _ e2) nb), fun d ndd => ?_⟩⟩
    refine ⟨small (n := 3) (by decide), fun t nt => ?_⟩
    have sx := ((sameUpd (o := HO.tup ((natI pl).map V.int)) nb).trans (sameUpd (o := HO.tup (tn.map V.int)) ndd)).trans (sameUpd (o := HO.tup [.ref b, .ref an, .ref d]) nt)
    exact q _ t b an d ((s2.trans s4).trans sx) upd_same (up (up upd_same ndd) nt) (sx _ _ (s4 _ _ ea))
  | cons l tl =>
    rw [hab] at hz
    dsimp only at hz
    obtain ⟨⟨rest2, e'⟩, hz2, hz3⟩ := Option.map_eq_some_iff.mp hz
    cases hz3
    have hl2 : l < M.length := by rw [← ln]; exact able_lt (by rw [hab]; exact List.mem_cons_self)
    refine iteP (by simp [natI]) ?_
    refine ⟨fun σ' H' => ∃ m', m' < m + 1 ∧ PlayW M p e' H h a m' σ' H', fun _ _ z => z, ?_⟩
    have e1' := s4 _ _ e1
    have e2' := s4 _ _ e2
    have ea' := s4 _ _ ea
    refine ⟨_, rfl, D1, _, rfl, .inl (SqL.of e1'), rfl, _, rfl, iteN ?_ ?_⟩
    · rw [dec_int, List.length_map, natI_len]
      simp
      omega
    refine ⟨_, rfl, .inl ⟨rfl, _, SqL.of e1'⟩, ?_⟩
    refine ⟨_, rfl, an, now, rfl, ea', by omega, fun H5 p5 s5 e5 => ?_⟩
    rw [hab] at e5
    refine ⟨p5, _, _, _, rfl, rfl, SqT.of e5, atI_nat (j := 0) rfl, ?_⟩
    refine ⟨D1, _, _, rfl, rfl, s5 _ _ e1', by rw [List.length_map, natI_len]; exact smallLt (by omega), ?_⟩
    have ep : (natI pl).map V.int ++ [V.int ((l : Nat) : Int)] = (natI (pl ++ [l])).map V.int := by rw [natI_app, List.map_append]; rfl
    rw [ep]
    have s6 : Same H (upd H5 D1 (.lst ((natI (pl ++ [l])).map V.int))) := sameOfBut ((s2.trans s4).trans s5) m1 But.upd
    have f1 : (upd H5 D1 (.lst ((natI (pl ++ [l])).map V.int))) D1 = some (.lst ((natI (pl ++ [l])).map V.int)) := upd_same
    have f2 : (upd H5 D1 (.lst ((natI (pl ++ [l])).map V.int))) D2 = some (.lst (tn.map V.int)) := by rw [upd_ne (Ne.symm d12)]; exact s5 _ _ e2'
    have da : an ≠ D1 := by
      intro z
      rw [z, e1] at ea
      cases ea
    have fa : (upd H5 D1 (.lst ((natI (pl ++ [l])).map V.int))) an = some (.tup (now.map V.int)) := by rw [upd_ne da]; exact s5 _ _ ea'
    have lastI : atI ((natI (pl ++ [l])).map V.int) (-1) = some (V.int ((l : Nat) : Int)) := by
      rw [← ep]
      exact atI_last _ _
    refine ⟨_, rfl, _, rfl, _, rfl, D1, _, _, _, rfl, rfl, SqL.of f1, lastI, ?_⟩
    refine ⟨D2, _, _, _, rfl, rfl, SqL.of f2, atI_nat (at_ints (i := l) (by omega)), ?_⟩
    refine ⟨_, rfl, _, rfl, _, rfl, D1, _, _, _, rfl, rfl, SqL.of f1, lastI, an, _, _, _, rfl, rfl, SqT.of fa, atI_nat (at_ints (i := l) (by omega)), ?_⟩
    refine ⟨_, _, rfl, rfl, D2, _, _, l, rfl, rfl, f2, ixN_at (by rw [List.length_map]; omega), ?_⟩
    rw [← List.map_set]
    have s7 := sameOfBut s6 m2 (But.upd (o := .lst ((tn.set l (tn.getD l 0 - now.getD l 0)).map V.int)))
    have g1 : (upd (upd H5 D1 (.lst ((natI (pl ++ [l])).map V.int))) D2 (.lst ((tn.set l (tn.getD l 0 - now.getD l 0)).map V.int))) D1 = some (.lst ((natI (pl ++ [l])).map V.int)) := by rw [upd_ne d12]; exact f1
    have da2 : an ≠ D2 := by
      intro z
      rw [z, e2] at ea
      cases ea
    have ga : (upd (upd H5 D1 (.lst ((natI (pl ++ [l])).map V.int))) D2 (.lst ((tn.set l (tn.getD l 0 - now.getD l 0)).map V.int))) an = some (.tup (now.map V.int)) := by rw [upd_ne da2]; exact fa
    refine ⟨_, rfl, _, rfl, _, rfl, _, rfl, D1, _, _, _, rfl, rfl, SqL.of g1, lastI, h, M, an, now, l, rfl, hh.same s7, S, ga, ln, hl2, fun H8 p8 s8 e8 => ?_⟩
    refine ⟨m, Nat.lt_succ_self m, D1, p8, D2, pl ++ [l], rest2, _, _, rfl, s7.trans s8, m1, m2, d12, s8 _ _ g1, e8, s8 _ _ upd_same, by rw [List.length_set]; exact lt, chg_len S ln hl2, hz2, by rw [List.append_assoc]; exact hp, by rw [List.length_append]; show pl.length + 1 + m ≤ 1000; omega⟩
end
end Kal

set_option Elab.async false
set_option linter.all false
set_option maxRecDepth 100000
set_option maxHeartbeats 4000000
/-! KD9: is_room_of, need_room, need_one, need_two, word_of (of rooms), go_from, nearer, farther, is_under, is_within, greatest_of, greatest_by. -/
namespace Kal
open PySem PySem.Spec PyProof.Rows L2 SX C8
/-- ns is a room of M, p its play -/
structure RoomOf (M : List (List Int)) (ns : List Int) (p : List Nat) : Prop where
  len : ns.length = M.length
  run : playRun M 60 ns = some (p, ones M.length)
def spIsRoom (C : Addr) : Sp := fun vs H Q _ => ∃ (h : Addr) (M : List (List Int)) (a : Addr) (ns : List Int) (p : List Nat), vs = [.ref h, .ref a] ∧ HallAt C H h M ∧ Good M ∧ H a = some (.tup (ns.map V.int)) ∧ RoomOf M ns p ∧ ∀ H', Same H H' → Q (.bl true) H'
def spNeedRoom (C : Addr) : Sp := fun vs H Q _ => ∃ (h : Addr) (M : List (List Int)) (a : Addr) (ns : List Int) (p : List Nat), vs = [.ref h, .ref a] ∧ HallAt C H h M ∧ Good M ∧ H a = some (.tup (ns.map V.int)) ∧ RoomOf M ns p ∧ ∀ H', Same H H' → Q .non H'
def spNeedTwo (C : Addr) : Sp := fun vs H Q _ => ∃ (h : Addr) (M : List (List Int)) (a : Addr) (ns : List Int) (p : List Nat) (b : Addr) (ms : List Int) (r : List Nat), vs = [.ref h, .ref a, .ref b] ∧ HallAt C H h M ∧ Good M ∧ H a = some (.tup (ns.map V.int)) ∧ RoomOf M ns p ∧ H b = some (.tup (ms.map V.int)) ∧ RoomOf M ms r ∧ ∀ H', Same H H' → Q .non H'
def spWordOf (C : Addr) : Sp := fun vs H Q _ => ∃ (h : Addr) (M : List (List Int)) (a : Addr) (ns : List Int) (p : List Nat), vs = [.ref h, .ref a] ∧ HallAt C H h M ∧ Good M ∧ H a = some (.tup (ns.map V.int)) ∧ RoomOf M ns p ∧ ∀ H' q, Same H H' → H' q = some (.tup ((natI p.reverse).map V.int)) → Q (.ref q) H'
/-- go from a room by a word -/
def goW (M : List (List Int)) (ns : List Int) (ws : List Nat) : List Int := ws.foldl (chg M) ns
def spGo (C : Addr) (tup : Bool) : Sp := fun vs H Q _ => ∃ (h : Addr) (M : List (List Int)) (a : Addr) (ns : List Int) (wa : Addr) (ws : List Nat), vs = [.ref h, .ref a, .ref wa] ∧ HallAt C H h M ∧ SqM M ∧ H a = some (.tup (ns.map V.int)) ∧ ns.length = M.length ∧ H wa = some (if tup = true then .tup ((natI ws).map V.int) else .lst ((natI ws).map V.int)) ∧ (∀ x ∈ ws, x < M.length) ∧
  ∀ H' q, Same H H' → H' q = some (.tup ((goW M ns ws).map V.int)) → Q (.ref q) H'
def nr (M : List (List Int)) (r : List Int) (l : Nat) : List Int := if r.getD l 0 < 0 then chg M r l else r
def fr (M : List (List Int)) (r : List Int) (l : Nat) : List Int := if r.getD l 0 > 0 then chg M r l else r
def spStep (C : Addr) (g : List (List Int) → List Int → Nat → List Int) : Sp := fun vs H Q _ => ∃ (h : Addr) (M : List (List Int)) (a : Addr) (ns : List Int) (l : Nat), vs = [.ref h, .ref a, .int (l : Nat)] ∧ HallAt C H h M ∧ SqM M ∧ H a = some (.tup (ns.map V.int)) ∧ ns.length = M.length ∧ l < M.length ∧
  ∀ H' p, Same H H' → H' p = some (.tup ((g M ns l).map V.int)) → Q (.ref p) H'
theorem nr_len {M : List (List Int)} (S : SqM M) {ns : List Int} {l : Nat} (h : ns.length = M.length) (hl : l < M.length) : (nr M ns l).length = M.length := by
  unfold nr
  split
  · exact chg_len S h hl
  · exact h
theorem fr_len {M : List (List Int)} (S : SqM M) {ns : List Int} {l : Nat} (h : ns.length = M.length) (hl : l < M.length) : (fr M ns l).length = M.length := by
  unfold fr
  split
  · exact chg_len S h hl
  · exact h
/-- room r under the room of the play p -/
def und (M : List (List Int)) (r : List Int) (p : List Nat) : Bool := decide (p.foldl (nr M) r = ones M.length)
def spUnder (C : Addr) : Sp := fun vs H Q _ => ∃ (h : Addr) (M : List (List Int)) (a : Addr) (ns : List Int) (b : Addr) (ms : List Int) (fuel : Nat) (p : List Nat) (e : List Int), vs = [.ref h, .ref a, .ref b] ∧ HallAt C H h M ∧ SqM M ∧ H a = some (.tup (ns.map V.int)) ∧ ns.length = M.length ∧ H b = some (.tup (ms.map V.int)) ∧ ms.length = M.length ∧ playRun M fuel ms = some (p, e) ∧
  ∀ H', Same H H' → Q (.bl (und M ns p)) H'
def spWithin (C : Addr) : Sp := fun vs H Q _ => ∃ (h : Addr) (M : List (List Int)) (a : Addr) (ns : List Int) (p : List Nat) (b : Addr) (ms : List Int) (r : List Nat), vs = [.ref h, .ref a, .ref b] ∧ HallAt C H h M ∧ Good M ∧ H a = some (.tup (ns.map V.int)) ∧ RoomOf M ns p ∧ H b = some (.tup (ms.map V.int)) ∧ RoomOf M ms r ∧ ∀ H', Same H H' → Q (.bl (und M ns r)) H'
def grt (M : List (List Int)) (ws : List Nat) : List Int := ws.foldl (fr M) (ones M.length)
def spGrt (C : Addr) : Sp := fun vs H Q _ => ∃ (h : Addr) (M : List (List Int)) (wa : Addr) (ws : List Nat), vs = [.ref h, .ref wa] ∧ HallAt C H h M ∧ SqM M ∧ H wa = some (.tup ((natI ws).map V.int)) ∧ (∀ x ∈ ws, x < M.length) ∧
  ∀ H' q, Same H H' → H' q = some (.tup ((grt M ws).map V.int)) → Q (.ref q) H'
def spGrtBy (C : Addr) : Sp := fun vs H Q _ => ∃ (h : Addr) (M : List (List Int)) (wa : Addr) (ws : List Nat), vs = [.ref h, .ref wa] ∧ HallAt C H h M ∧ Good M ∧ H wa = some (.tup ((natI ws).map V.int)) ∧ ws.length ≤ 60 ∧ (∀ x ∈ ws, x < M.length) ∧
  ∀ H' q, Same H H' → H' q = some (.tup ((grt M ws).map V.int)) → Q (.ref q) H'
theorem take_snoc {ws : List Nat} {i : Nat} (h : i < ws.length) : ws.take (i + 1) = ws.take i ++ [ws.getD i 0] := by
  rw [List.take_succ, List.getD_eq_getElem?_getD, List.getElem?_eq_getElem h]
  rfl
theorem getD_mem {ws : List Nat} {i : Nat} (h : i < ws.length) : ws.getD i 0 ∈ ws := by
  rw [List.getD_eq_getElem?_getD, List.getElem?_eq_getElem h]
  exact List.getElem_mem h
theorem foldl_len {M : List (List Int)} {g : List Int → Nat → List Int} (hg : ∀ r l, r.length = M.length → l < M.length → (g r l).length = M.length) : ∀ {ws : List Nat} {r : List Int}, (∀ x ∈ ws, x < M.length) → r.length = M.length → (ws.foldl g r).length = M.length
  | [], _, _, h => h
  | l :: ws, r, hw, h => foldl_len (ws := ws) (r := g r l) hg (fun x hx => hw x (List.mem_cons_of_mem _ hx)) (hg r l h (hw l List.mem_cons_self))
section
variable {P : Program} {w : World} {K : PySem.W.Frag} {mg : Str → Option Value} {base : Heap} {C : Addr}
abbrev nIsRoomOf : List Str := ["hall", "value", "told"]
theorem scIsRoomOf : FnScope nIsRoomOf ["hall", "value"] (defScope sDIsRoomOf) := ⟨rfl, rfl, rfl, by decide +kernel, rfl, by decide +kernel, by decide +kernel⟩
theorem c_isRoomOf (T : Txt K mg C) (F : Fn K mg "is_room_of" "is_room_of" sDIsRoomOf ["hall", "value"]) (c_firstOf : Cal P w K mg base 3 "first_of" (spFirst C) []) (c_played : Cal P w K mg base 5 "played" (spPlayed C) []) (c_areNumbers : Cal P w K mg base 3 "are_numbers" (spAreNums C) []) : Cal P w K mg base 6 "is_room_of" (spIsRoom C) [] := by
  refine F.cal scIsRoomOf (fun vs H Q E h => by obtain ⟨_, _, _, _, _, rfl, _⟩ := h; rfl) (fun cdv A outer s f H vs Q E hr h => ?_)
  have nd := scIsRoomOf.nd
  obtain ⟨h, M, a, ns, p, rfl, hh, G, ha, R, q⟩ := h
  refine ⟨_, (pss_cons (ps_if (pt_not (pt_val (pe_c c_areNumbers hr (by decide) rfl (pa_cons (pv 0) (pa_cons (pv 1) pa_nil))))) (pss_one (ps_ret pe_bl)) pss_nil)
      (pss_cons (ps_set (i := 2) nd rfl (.inl rfl) (pe_c c_played hr (by decide) rfl (pa_cons (pv 0) (pa_cons (pv 1) pa_nil))))
      (pss_one (ps_ret (pe_and (pe_cmpR op_notN (pv 2) pe_non (nomark _)) (pe_one (pe_cmpR (op_eqD hr.units) (pe_ix ix_tup (pv 2) pe_int (fun _ _ => rfl)) (pe_c c_firstOf hr (by decide) rfl (pa_cons (pv 0) pa_nil)) (nomark _)))))))), ?_⟩
  refine ⟨_, rfl, _, rfl, h, M, a, ns, rfl, hh, G.sq, ha, R.len, fun H1 s1 => ⟨_, rfl, iteN rfl ?_⟩⟩
  refine ⟨_, rfl, _, rfl, h, M, a, ns, 60, p, _, rfl, hh.same s1, G, s1 _ _ ha, R.len, by decide, R.run, fun H2 t b c d s2 et eb ec => ?_⟩
  refine ⟨_, rfl, rfl, _, rfl, ?_⟩
  refine iteP rfl ?_
  refine ⟨_, rfl, t, _, _, _, rfl, rfl, SqT.of et, atI_nat (j := 1) rfl, ?_⟩
  refine ⟨_, rfl, h, M, rfl, hh.same (s1.trans s2), G.sq, fun H3 f s3 ef => ?_⟩
  refine ⟨_, _, dpT (s3 _ _ ec), dpT ef, shaped_tupI _, shaped_tupI _, ?_⟩
  rw [eqv_tupI, decide_eq_true rfl]
  exact q _ ((s1.trans s2).trans s3)
abbrev nNeedRoom : List Str := ["hall", "room"]
theorem scNeedRoom : FnScope nNeedRoom ["hall", "room"] (defScope sDNeedRoom) := ⟨rfl, rfl, rfl, by decide +kernel, rfl, by decide +kernel, by decide +kernel⟩
theorem c_needRoom (T : Txt K mg C) (F : Fn K mg "need_room" "need_room" sDNeedRoom ["hall", "room"]) (c_isRoomOf : Cal P w K mg base 6 "is_room_of" (spIsRoom C) []) (c_needHall : Cal P w K mg base 1 "need_hall" (spNeedHall C) []) : Cal P w K mg base 7 "need_room" (spNeedRoom C) [] := by
  refine F.cal scNeedRoom (fun vs H Q E h => by obtain ⟨_, _, _, _, _, rfl, _⟩ := h; rfl) (fun cdv A outer s f H vs Q E hr h => ?_)
  have nd := scNeedRoom.nd
  obtain ⟨h, M, a, ns, p, rfl, hh, G, ha, R, q⟩ := h
  refine ⟨_, (pss_cons (ps_expr (pe_c c_needHall hr (by decide) rfl (pa_cons (pv 0) pa_nil)))
      (pss_one (ps_if (pt_not (pt_val (pe_c c_isRoomOf hr (by decide) rfl (pa_cons (pv 0) (pa_cons (pv 1) pa_nil))))) (pss_one ps_never) pss_nil))), ?_⟩
  refine ⟨_, rfl, h, M, rfl, hh, ?_⟩
  refine ⟨_, rfl, _, rfl, h, M, a, ns, p, rfl, hh, G, ha, R, fun H1 s1 => ⟨_, rfl, iteN rfl (q _ s1)⟩⟩
abbrev nNeedOne : List Str := ["hall", "room"]
theorem scNeedOne : FnScope nNeedOne ["hall", "room"] (defScope sDNeedOne) := ⟨rfl, rfl, rfl, by decide +kernel, rfl, by decide +kernel, by decide +kernel⟩
theorem c_needOne (T : Txt K mg C) (F : Fn K mg "need_one" "need_one" sDNeedOne ["hall", "room"]) (c_needRoom : Cal P w K mg base 7 "need_room" (spNeedRoom C) []) (c_needEnding : Cal P w K mg base 4 "need_ending" (spNeedEnd C) []) : Cal P w K mg base 8 "need_one" (spNeedRoom C) [] := by
  refine F.cal scNeedOne (fun vs H Q E h => by obtain ⟨_, _, _, _, _, rfl, _⟩ := h; rfl) (fun cdv A outer s f H vs Q E hr h => ?_)
  have nd := scNeedOne.nd
  obtain ⟨h, M, a, ns, p, rfl, hh, G, ha, R, q⟩ := h
  refine ⟨_, (pss_cons (ps_expr (pe_c c_needEnding hr (by decide) rfl (pa_cons (pv 0) pa_nil)))
      (pss_one (ps_expr (pe_c c_needRoom hr (by decide) rfl (pa_cons (pv 0) (pa_cons (pv 1) pa_nil)))))), ?_⟩
  refine ⟨_, rfl, h, M, rfl, hh, G, fun H1 s1 => ?_⟩
  exact ⟨_, rfl, _, rfl, h, M, a, ns, p, rfl, hh.same s1, G, s1 _ _ ha, R, fun H2 s2 => q _ (s1.trans s2)⟩
abbrev nNeedTwo : List Str := ["hall", "one", "other"]
theorem scNeedTwo : FnScope nNeedTwo ["hall", "one", "other"] (defScope sDNeedTwo) := ⟨rfl, rfl, rfl, by decide +kernel, rfl, by decide +kernel, by decide +kernel⟩
theorem c_needTwo (T : Txt K mg C) (F : Fn K mg "need_two" "need_two" sDNeedTwo ["hall", "one", "other"]) (c_needRoom : Cal P w K mg base 7 "need_room" (spNeedRoom C) []) (c_needOne : Cal P w K mg base 8 "need_one" (spNeedRoom C) []) : Cal P w K mg base 9 "need_two" (spNeedTwo C) [] := by
  refine F.cal scNeedTwo (fun vs H Q E h => by obtain ⟨_, _, _, _, _, _, _, _, rfl, _⟩ := h; rfl) (fun cdv A outer s f H vs Q E hr h => ?_)
  have nd := scNeedTwo.nd
  obtain ⟨h, M, a, ns, p, b, ms, r, rfl, hh, G, ha, R, hb, R2, q⟩ := h
  refine ⟨_, (pss_cons (ps_expr (pe_c c_needOne hr (by decide) rfl (pa_cons (pv 0) (pa_cons (pv 1) pa_nil))))
      (pss_one (ps_expr (pe_c c_needRoom hr (by decide) rfl (pa_cons (pv 0) (pa_cons (pv 2) pa_nil)))))), ?_⟩
  refine ⟨_, rfl, _, rfl, h, M, a, ns, p, rfl, hh, G, ha, R, fun H1 s1 => ?_⟩
  exact ⟨_, rfl, _, rfl, h, M, b, ms, r, rfl, hh.same s1, G, s1 _ _ hb, R2, fun H2 s2 => q _ (s1.trans s2)⟩
abbrev nWordOf : List Str := ["hall", "room"]
theorem scWordOf : FnScope nWordOf ["hall", "room"] (defScope sDWordOf) := ⟨rfl, rfl, rfl, by decide +kernel, rfl, by decide +kernel, by decide +kernel⟩
theorem c_wordOfWithin (T : Txt K mg C) (F : Fn K mg "word_of_within" "word_of" sDWordOf ["hall", "room"]) (c_played : Cal P w K mg base 5 "played" (spPlayed C) []) : Cal P w K mg base 6 "word_of_within" (spWordOf C) [] := by
  refine F.cal scWordOf (fun vs H Q E h => by obtain ⟨_, _, _, _, _, rfl, _⟩ := h; rfl) (fun cdv A outer s f H vs Q E hr h => ?_)
  have nd := scWordOf.nd
  obtain ⟨h, M, a, ns, p, rfl, hh, G, ha, R, q⟩ := h
  refine ⟨_, (pss_one (ps_ret (pe_revT (pe_ix ix_tup (pe_c c_played hr (by decide) rfl (pa_cons (pv 0) (pa_cons (pv 1) pa_nil))) pe_int (fun _ _ => rfl))))), ?_⟩
  refine ⟨_, rfl, _, rfl, h, M, a, ns, 60, p, _, rfl, hh, G, ha, R.len, by decide, R.run, fun H2 t b c d s2 et eb ec => ?_⟩
  refine ⟨t, _, _, _, rfl, rfl, SqT.of et, atI_nat (j := 0) rfl, b, _, rfl, SqT.of eb, fun z nz => q _ z (s2.trans (sameUpd nz)) ?_⟩
  rw [upd_same, ← List.map_reverse]
  unfold natI
  rw [← List.map_reverse]
abbrev nGoFrom : List Str := ["hall", "room", "word", "lamp"]
theorem scGoFrom : FnScope nGoFrom ["hall", "room", "word"] (defScope sDGoFrom) := ⟨rfl, rfl, rfl, by decide +kernel, rfl, by decide +kernel, by decide +kernel⟩
theorem c_goFrom (T : Txt K mg C) (F : Fn K mg "go_from" "go_from" sDGoFrom ["hall", "room", "word"]) (c_changed : Cal P w K mg base 1 "changed" (spChanged C) []) : Cal P w K mg base 2 "go_from" (spGo C true) [] := by
  refine F.cal scGoFrom (fun vs H Q E h => by obtain ⟨_, _, _, _, _, _, rfl, _⟩ := h; rfl) (fun cdv A outer s f H vs Q E hr h => ?_)
  have nd := scGoFrom.nd
  obtain ⟨h, M, a, ns, wa, ws, rfl, hh, S, ha, hl, hw, hin, q⟩ := h
  refine ⟨_, (pss_cons (ps_for PassesOwn.never rfl (pi_tup (pv 2)) (pg_name (i := 3) nd rfl (.inl rfl)) (pss_one (ps_set (i := 1) nd rfl (.inl rfl) (pe_c c_changed hr (by decide) rfl (pa_cons (pv 0) (pa_cons (pv 1) (pa_cons (pv 3) pa_nil)))))))
      (pss_one (ps_ret (pv 1)))), ?_⟩
  have hw : H wa = some (.tup ((natI ws).map V.int)) := hw
  refine ⟨_, rfl, _, rfl, ⟨_, SqT.of hw⟩, ?_⟩
  refine for_it walk_tupN (fun i σ H' => ∃ x3 b, σ = [some (.ref h), some (.ref b), some (.ref wa), x3] ∧ Same H H' ∧ H' b = some (.tup ((goW M ns (ws.take i)).map V.int))) ⟨none, a, rfl, Same.refl _, by rw [List.take_zero]; exact ha⟩ (fun i σ H' _ p => by obtain ⟨_, _, _, s, _⟩ := p; exact SqT.of (s _ _ hw)) (fun i x σ H' H'' hi p y => ?_) (fun σ H' p => ?_)
  · obtain ⟨x3, b, rfl, s, e⟩ := p
    obtain ⟨rfl, rfl⟩ := y
    refine ⟨_, rfl, _, rfl, _, rfl, h, M, b, _, ws.getD i 0, rfl, hh.same s, S, e, ?_, getD_lt hin hi, fun H2 p2 s2 e2 => ⟨_, p2, rfl, s.trans s2, ?_⟩⟩
    · exact foldl_len (fun r l h1 h2 => chg_len S h1 h2) (fun x hx => hin x (List.mem_of_mem_take hx)) hl
    · rw [take_snoc hi, goW, List.foldl_append]
      exact e2
  · obtain ⟨x3, b, rfl, s, e⟩ := p
    rw [List.take_length] at e
    exact ⟨_, rfl, q _ b s e⟩
theorem c_goFromL (T : Txt K mg C) (F : Fn K mg "go_from" "go_from" sDGoFrom ["hall", "room", "word"]) (c_changed : Cal P w K mg base 1 "changed" (spChanged C) []) : Cal P w K mg base 2 "go_from" (spGo C false) [] := by
  refine F.cal scGoFrom (fun vs H Q E h => by obtain ⟨_, _, _, _, _, _, rfl, _⟩ := h; rfl) (fun cdv A outer s f H vs Q E hr h => ?_)
  have nd := scGoFrom.nd
  obtain ⟨h, M, a, ns, wa, ws, rfl, hh, S, ha, hl, hw, hin, q⟩ := h
  refine ⟨_, (pss_cons (ps_for PassesOwn.never rfl (pi_list (pv 2)) (pg_name (i := 3) nd rfl (.inl rfl)) (pss_one (ps_set (i := 1) nd rfl (.inl rfl) (pe_c c_changed hr (by decide) rfl (pa_cons (pv 0) (pa_cons (pv 1) (pa_cons (pv 3) pa_nil)))))))
      (pss_one (ps_ret (pv 1)))), ?_⟩
  have hw : H wa = some (.lst ((natI ws).map V.int)) := hw
  refine ⟨_, rfl, _, rfl, ⟨_, SqL.of hw⟩, ?_⟩
  refine for_it walk_listN (fun i σ H' => ∃ x3 b, σ = [some (.ref h), some (.ref b), some (.ref wa), x3] ∧ Same H H' ∧ H' b = some (.tup ((goW M ns (ws.take i)).map V.int))) ⟨none, a, rfl, Same.refl _, by rw [List.take_zero]; exact ha⟩ (fun i σ H' _ p => by obtain ⟨_, _, _, s, _⟩ := p; exact SqL.of (s _ _ hw)) (fun i x σ H' H'' hi p y => ?_) (fun σ H' p => ?_)
  · obtain ⟨x3, b, rfl, s, e⟩ := p
    obtain ⟨rfl, rfl⟩ := y
    refine ⟨_, rfl, _, rfl, _, rfl, h, M, b, _, ws.getD i 0, rfl, hh.same s, S, e, ?_, getD_lt hin hi, fun H2 p2 s2 e2 => ⟨_, p2, rfl, s.trans s2, ?_⟩⟩
    · exact foldl_len (fun r l h1 h2 => chg_len S h1 h2) (fun x hx => hin x (List.mem_of_mem_take hx)) hl
    · rw [take_snoc hi, goW, List.foldl_append]
      exact e2
  · obtain ⟨x3, b, rfl, s, e⟩ := p
    rw [List.take_length] at e
    exact ⟨_, rfl, q _ b s e⟩
abbrev nNearer : List Str := ["hall", "room", "lamp"]
theorem scNearer : FnScope nNearer ["hall", "room", "lamp"] (defScope sDNearer) := ⟨rfl, rfl, rfl, by decide +kernel, rfl, by decide +kernel, by decide +kernel⟩
theorem c_nearer (T : Txt K mg C) (F : Fn K mg "nearer" "nearer" sDNearer ["hall", "room", "lamp"]) (c_changed : Cal P w K mg base 1 "changed" (spChanged C) []) : Cal P w K mg base 2 "nearer" (spStep C nr) [] := by
  refine F.cal scNearer (fun vs H Q E h => by obtain ⟨_, _, _, _, _, rfl, _⟩ := h; rfl) (fun cdv A outer s f H vs Q E hr h => ?_)
  have nd := scNearer.nd
  obtain ⟨h, M, a, ns, l, rfl, hh, S, ha, hl, hlt, q⟩ := h
  refine ⟨_, (pss_one (ps_ret (pe_ifExp (pt_cmpR op_lt (pe_ix ix_tup (pv 1) (pv 2) (fun _ _ => rfl)) pe_int (nomark _)) (pe_c c_changed hr (by decide) rfl (pa_cons (pv 0) (pa_cons (pv 1) (pa_cons (pv 2) pa_nil)))) (pv 1)))), ?_⟩
  refine ⟨_, rfl, _, rfl, _, _, _, _, rfl, rfl, SqT.of ha, atI_nat (at_ints (i := l) (by omega)), _, _, rfl, rfl, _, rfl, ?_⟩
  by_cases c : ns.getD l 0 < 0
  · refine iteP (decide_eq_true c) ⟨_, rfl, _, rfl, _, rfl, h, M, a, ns, l, rfl, hh, S, ha, hl, hlt, fun H1 p s1 e1 => q _ p s1 ?_⟩
    unfold nr
    rw [if_pos c]
    exact e1
  · refine iteN (decide_eq_false c) ⟨_, rfl, q _ a (Same.refl _) ?_⟩
    unfold nr
    rw [if_neg c]
    exact ha
abbrev nFarther : List Str := ["hall", "room", "lamp"]
theorem scFarther : FnScope nFarther ["hall", "room", "lamp"] (defScope sDFarther) := ⟨rfl, rfl, rfl, by decide +kernel, rfl, by decide +kernel, by decide +kernel⟩
theorem c_farther (T : Txt K mg C) (F : Fn K mg "farther" "farther" sDFarther ["hall", "room", "lamp"]) (c_changed : Cal P w K mg base 1 "changed" (spChanged C) []) : Cal P w K mg base 2 "farther" (spStep C fr) [] := by
  refine F.cal scFarther (fun vs H Q E h => by obtain ⟨_, _, _, _, _, rfl, _⟩ := h; rfl) (fun cdv A outer s f H vs Q E hr h => ?_)
  have nd := scFarther.nd
  obtain ⟨h, M, a, ns, l, rfl, hh, S, ha, hl, hlt, q⟩ := h
  refine ⟨_, (pss_one (ps_ret (pe_ifExp (pt_cmpR op_gt (pe_ix ix_tup (pv 1) (pv 2) (fun _ _ => rfl)) pe_int (nomark _)) (pe_c c_changed hr (by decide) rfl (pa_cons (pv 0) (pa_cons (pv 1) (pa_cons (pv 2) pa_nil)))) (pv 1)))), ?_⟩
  refine ⟨_, rfl, _, rfl, _, _, _, _, rfl, rfl, SqT.of ha, atI_nat (at_ints (i := l) (by omega)), _, _, rfl, rfl, _, rfl, ?_⟩
  by_cases c : ns.getD l 0 > 0
  · refine iteP (decide_eq_true c) ⟨_, rfl, _, rfl, _, rfl, h, M, a, ns, l, rfl, hh, S, ha, hl, hlt, fun H1 p s1 e1 => q _ p s1 ?_⟩
    unfold fr
    rw [if_pos c]
    exact e1
  · refine iteN (decide_eq_false c) ⟨_, rfl, q _ a (Same.refl _) ?_⟩
    unfold fr
    rw [if_neg c]
    exact ha
end
end Kal

set_option Elab.async false
set_option linter.all false
set_option maxRecDepth 100000
set_option maxHeartbeats 4000000
/-! KD10: is_under, is_within, greatest_of, greatest_by. -/
namespace Kal
open PySem PySem.Spec PyProof.Rows L2 SX C8
def UnderW (M : List (List Int)) (ans : Bool) (H0 : Hp) (h : Addr) (m : Nat) (σ : L2.St) (H : Hp) : Prop :=
  ∃ (ra oa : Addr) (x3 : Option V) (room other : List Int) (p : List Nat) (e : List Int), σ = [some (.ref h), some (.ref ra), some (.ref oa), x3] ∧ Same H0 H ∧ H ra = some (.tup (room.map V.int)) ∧ room.length = M.length ∧ H oa = some (.tup (other.map V.int)) ∧ other.length = M.length ∧
    playRun M m other = some (p, e) ∧ und M room p = ans
section
variable {P : Program} {w : World} {K : PySem.W.Frag} {mg : Str → Option Value} {base : Heap} {C : Addr}
abbrev nIsUnder : List Str := ["hall", "room", "other", "lamp"]
theorem scIsUnder : FnScope nIsUnder ["hall", "room", "other"] (defScope sDIsUnder) := ⟨rfl, rfl, rfl, by decide +kernel, rfl, by decide +kernel, by decide +kernel⟩
theorem c_isUnder (T : Txt K mg C) (F : Fn K mg "is_under" "is_under" sDIsUnder ["hall", "room", "other"]) (c_firstOf : Cal P w K mg base 3 "first_of" (spFirst C) []) (c_ableOf : Cal P w K mg base 1 "able_of" (spAble) []) (c_changed : Cal P w K mg base 1 "changed" (spChanged C) []) (c_nearer : Cal P w K mg base 2 "nearer" (spStep C nr) []) : Cal P w K mg base 4 "is_under" (spUnder C) [] := by
  refine F.cal scIsUnder (fun vs H Q E h => by obtain ⟨_, _, _, _, _, _, _, _, _, rfl, _⟩ := h; rfl) (fun cdv A outer s f H vs Q E hr h => ?_)
  have nd := scIsUnder.nd
  obtain ⟨h, M, a, ns, b, ms, fuel, p, e, rfl, hh, S, ha, hl, hb, hlb, hrun, q⟩ := h
  have h8 := S.most
  refine ⟨_, (pss_cons (ps_while PassesOwn.never (pt_cmpR (op_neD hr.units) (pe_c c_ableOf hr (by decide) rfl (pa_cons (pv 2) pa_nil)) (pe_tup pa_nil) (nomark _)) (pss_cons (ps_set (i := 3) nd rfl (.inl rfl) (pe_ix ix_tup (pe_c c_ableOf hr (by decide) rfl (pa_cons (pv 2) pa_nil)) pe_int (fun _ _ => rfl)))
      (pss_one (ps_par (i := 1) (j := 2) rfl nd rfl rfl (by decide) rfl rfl (pa_cons (pe_c c_nearer hr (by decide) rfl (pa_cons (pv 0) (pa_cons (pv 1) (pa_cons (pv 3) pa_nil)))) (pa_cons (pe_c c_changed hr (by decide) rfl (pa_cons (pv 0) (pa_cons (pv 2) (pa_cons (pv 3) pa_nil)))) pa_nil)) (by rfl)))))
      (pss_one (ps_ret (pe_cmpR (op_eqD hr.units) (pv 1) (pe_c c_firstOf hr (by decide) rfl (pa_cons (pv 0) pa_nil)) (nomark _))))), ?_⟩
  refine ⟨UnderW M (und M ns p) H h, ⟨fuel, a, b, none, ns, ms, p, e, rfl, Same.refl _, ha, hl, hb, hlb, hrun, rfl⟩, ?_⟩
  intro m σ H1 W
  obtain ⟨ra, oa, x3, room, other, p1, e1, rfl, s1, er, lr, eo, lo, hz, hu1⟩ := W
  refine ⟨_, rfl, oa, other, rfl, eo, by omega, fun H3 p3 s3 e3 => ?_⟩
  refine ⟨small (n := 0) (by decide), fun p4 n4 => ⟨_, _, dpT (up e3 n4), dpT (ns := []) upd_same, shaped_tupI _, shaped_tupI _, _, rfl, ?_⟩⟩
  rw [eqv_tupI]
  have s4 := s3.trans (sameUpd (o := HO.tup []) n4)
  cases m with
  | zero => cases hz
  | succ m =>
  rw [playRun] at hz
  cases hab : able other with
  | nil =>
    rw [hab] at hz
    cases hz
    refine iteN (by decide) ?_
    refine ⟨_, rfl, _, rfl, h, M, rfl, hh.same (s1.trans s4), S, fun H5 f s5 ef => ?_⟩
    refine ⟨_, _, dpT (s5 _ _ (s4 _ _ er)), dpT ef, shaped_tupI _, shaped_tupI _, ?_⟩
    rw [eqv_tupI]
    have := q H5 ((s1.trans s4).trans s5)
    rw [← hu1] at this
    exact this
  | cons l tl =>
    rw [hab] at hz
    dsimp only at hz
    obtain ⟨⟨rest2, e'⟩, hz2, hz3⟩ := Option.map_eq_some_iff.mp hz
    cases hz3
    have hl2 : l < M.length := by rw [← lo]; exact able_lt (by rw [hab]; exact List.mem_cons_self)
    refine iteP (by simp [natI]) ?_
    refine ⟨fun σ' H' => ∃ m', m' < m + 1 ∧ UnderW M (und M ns p) H h m' σ' H', fun _ _ z => z, ?_⟩
    refine ⟨_, rfl, oa, other, rfl, s4 _ _ eo, by omega, fun H5 p5 s5 e5 => ?_⟩
    rw [hab] at e5
    have s6 := s4.trans s5
    refine ⟨p5, _, _, _, rfl, rfl, SqT.of e5, atI_nat (j := 0) rfl, ?_⟩
    refine ⟨_, rfl, _, rfl, _, rfl, h, M, ra, room, l, rfl, hh.same (s1.trans s6), S, s6 _ _ er, lr, hl2, fun H7 p7 s7 e7 => ?_⟩
    have s8 := s6.trans s7
    refine ⟨_, rfl, _, rfl, _, rfl, h, M, oa, other, l, rfl, hh.same (s1.trans s8), S, s8 _ _ eo, lo, hl2, fun H9 p9 s9 e9 => ?_⟩
    refine ⟨_, _, rfl, m, Nat.lt_succ_self m, p7, p9, _, _, _, rest2, _, rfl, (s1.trans s8).trans s9, s9 _ _ e7, nr_len S lr hl2, e9, chg_len S lo hl2, hz2, hu1⟩
abbrev nIsWithin : List Str := ["hall", "room", "other"]
theorem scIsWithin : FnScope nIsWithin ["hall", "room", "other"] (defScope sDIsWithin) := ⟨rfl, rfl, rfl, by decide +kernel, rfl, by decide +kernel, by decide +kernel⟩
theorem c_isWithin (T : Txt K mg C) (F : Fn K mg "is_within" "is_within" sDIsWithin ["hall", "room", "other"]) (c_isUnder : Cal P w K mg base 4 "is_under" (spUnder C) []) (c_needTwo : Cal P w K mg base 9 "need_two" (spNeedTwo C) []) : Cal P w K mg base 10 "is_within" (spWithin C) [] := by
  refine F.cal scIsWithin (fun vs H Q E h => by obtain ⟨_, _, _, _, _, _, _, _, rfl, _⟩ := h; rfl) (fun cdv A outer s f H vs Q E hr h => ?_)
  have nd := scIsWithin.nd
  obtain ⟨h, M, a, ns, p, b, ms, r, rfl, hh, G, ha, R, hb, R2, q⟩ := h
  refine ⟨_, (pss_cons (ps_expr (pe_c c_needTwo hr (by decide) rfl (pa_cons (pv 0) (pa_cons (pv 1) (pa_cons (pv 2) pa_nil)))))
      (pss_one (ps_ret (pe_c c_isUnder hr (by decide) rfl (pa_cons (pv 0) (pa_cons (pv 1) (pa_cons (pv 2) pa_nil))))))), ?_⟩
  refine ⟨_, rfl, _, rfl, _, rfl, h, M, a, ns, p, b, ms, r, rfl, hh, G, ha, R, hb, R2, fun H1 s1 => ?_⟩
  exact ⟨_, rfl, _, rfl, _, rfl, h, M, a, ns, b, ms, 60, r, _, rfl, hh.same s1, G.sq, s1 _ _ ha, R.len, s1 _ _ hb, R2.len, R2.run, fun H2 s2 => q _ (s1.trans s2)⟩
abbrev nGreatestOf : List Str := ["hall", "word", "room", "lamp"]
theorem scGreatestOf : FnScope nGreatestOf ["hall", "word"] (defScope sDGreatestOf) := ⟨rfl, rfl, rfl, by decide +kernel, rfl, by decide +kernel, by decide +kernel⟩
theorem c_greatestOf (T : Txt K mg C) (F : Fn K mg "greatest_of" "greatest_of" sDGreatestOf ["hall", "word"]) (c_farther : Cal P w K mg base 2 "farther" (spStep C fr) []) (c_firstOf : Cal P w K mg base 3 "first_of" (spFirst C) []) : Cal P w K mg base 4 "greatest_of" (spGrt C) [] := by
  refine F.cal scGreatestOf (fun vs H Q E h => by obtain ⟨_, _, _, _, rfl, _⟩ := h; rfl) (fun cdv A outer s f H vs Q E hr h => ?_)
  have nd := scGreatestOf.nd
  obtain ⟨h, M, wa, ws, rfl, hh, S, hw, hin, q⟩ := h
  refine ⟨_, (pss_cons (ps_set (i := 2) nd rfl (.inl rfl) (pe_c c_firstOf hr (by decide) rfl (pa_cons (pv 0) pa_nil)))
      (pss_cons (ps_for PassesOwn.never rfl (pi_tup (pv 1)) (pg_name (i := 3) nd rfl (.inl rfl)) (pss_one (ps_set (i := 2) nd rfl (.inl rfl) (pe_c c_farther hr (by decide) rfl (pa_cons (pv 0) (pa_cons (pv 2) (pa_cons (pv 3) pa_nil)))))))
      (pss_one (ps_ret (pv 2))))), ?_⟩
  refine ⟨_, rfl, h, M, rfl, hh, S, fun H1 f s1 ef => ?_⟩
  refine ⟨_, rfl, _, rfl, ⟨_, SqT.of (s1 _ _ hw)⟩, ?_⟩
  refine for_it walk_tupN (fun i σ H' => ∃ x3 b, σ = [some (.ref h), some (.ref wa), some (.ref b), x3] ∧ Same H H' ∧ H' b = some (.tup ((grt M (ws.take i)).map V.int))) ⟨none, f, rfl, s1, by rw [List.take_zero]; exact ef⟩ (fun i σ H' _ p => by obtain ⟨_, _, _, s, _⟩ := p; exact SqT.of (s _ _ hw)) (fun i x σ H' H'' hi p y => ?_) (fun σ H' p => ?_)
  · obtain ⟨x3, b, rfl, s, e⟩ := p
    obtain ⟨rfl, rfl⟩ := y
    refine ⟨_, rfl, _, rfl, _, rfl, h, M, b, _, ws.getD i 0, rfl, hh.same s, S, e, ?_, getD_lt hin hi, fun H2 p2 s2 e2 => ⟨_, p2, rfl, s.trans s2, ?_⟩⟩
    · exact foldl_len (fun r l h1 h2 => fr_len S h1 h2) (fun x hx => hin x (List.mem_of_mem_take hx)) (by simp [ones])
    · rw [take_snoc hi, grt, List.foldl_append]
      exact e2
  · obtain ⟨x3, b, rfl, s, e⟩ := p
    rw [List.take_length] at e
    exact ⟨_, rfl, q _ b s e⟩
abbrev nGreatestBy : List Str := ["hall", "word"]
theorem scGreatestBy : FnScope nGreatestBy ["hall", "word"] (defScope sDGreatestBy) := ⟨rfl, rfl, rfl, by decide +kernel, rfl, by decide +kernel, by decide +kernel⟩
theorem c_greatestBy (T : Txt K mg C) (F : Fn K mg "greatest_by" "greatest_by" sDGreatestBy ["hall", "word"]) (c_greatestOf : Cal P w K mg base 4 "greatest_of" (spGrt C) []) (c_needWord : Cal P w K mg base 5 "need_word" (spNeedWord C) []) : Cal P w K mg base 6 "greatest_by" (spGrtBy C) [] := by
  refine F.cal scGreatestBy (fun vs H Q E h => by obtain ⟨_, _, _, _, rfl, _⟩ := h; rfl) (fun cdv A outer s f H vs Q E hr h => ?_)
  have nd := scGreatestBy.nd
  obtain ⟨h, M, wa, ws, rfl, hh, G, hw, hl, hin, q⟩ := h
  refine ⟨_, (pss_cons (ps_expr (pe_c c_needWord hr (by decide) rfl (pa_cons (pv 0) (pa_cons (pv 1) pa_nil))))
      (pss_one (ps_ret (pe_c c_greatestOf hr (by decide) rfl (pa_cons (pv 0) (pa_cons (pv 1) pa_nil)))))), ?_⟩
  refine ⟨_, rfl, _, rfl, h, M, wa, ws, rfl, hh, G, hw, hl, hin, fun H1 s1 => ?_⟩
  exact ⟨_, rfl, _, rfl, h, M, wa, ws, rfl, hh.same s1, G.sq, s1 _ _ hw, hin, fun H2 p2 s2 e2 => q _ p2 (s1.trans s2) e2⟩
end
end Kal

set_option Elab.async false
set_option linter.all false
set_option maxRecDepth 100000
set_option maxHeartbeats 4000000
/-! KD11: letters_for. -/
namespace Kal
open PySem PySem.Spec PyProof.Rows L2 SX C8
/-- the rooms Rm and their plays pl, closed under what the defs do -/
structure Plays (M : List (List Int)) (Rm : List Int → Prop) (pl : List Int → List Nat) : Prop where
  room : ∀ r, Rm r → RoomOf M r (pl r)
  lt : ∀ r, Rm r → ∀ x ∈ pl r, x < M.length
  short : ∀ r, Rm r → (pl r).length ≤ 60
  left : ∀ r l, Rm r → l < M.length → Rm (goW M (ones M.length) (l :: (pl r).reverse))
  great : ∀ ws, (∀ x ∈ ws, x < M.length) → Rm (grt M ws)
def lm (M : List (List Int)) (pl : List Int → List Nat) (r : List Int) (l : Nat) : List Int := goW M (ones M.length) (l :: (pl r).reverse)
def letStep (M : List (List Int)) (pl : List Int → List Nat) (ws : List Nat) (st : List Nat × List Int) (i : Nat) : List Nat × List Int :=
  if (pl (lm M pl st.2 (ws.getD i 0))).length < (pl st.2).length then (if und M (lm M pl st.2 (ws.getD i 0)) (pl (grt M (ws.drop (i + 1)))) = true then (st.1 ++ [i], lm M pl st.2 (ws.getD i 0)) else st) else st
def letSt (M : List (List Int)) (pl : List Int → List Nat) (ws : List Nat) (r : List Int) (i : Nat) : List Nat × List Int := (List.range i).foldl (letStep M pl ws) ([], r)
theorem letSt_succ (M : List (List Int)) (pl : List Int → List Nat) (ws : List Nat) (r : List Int) (i : Nat) : letSt M pl ws r (i + 1) = letStep M pl ws (letSt M pl ws r i) i := by
  unfold letSt
  rw [List.range_succ, List.foldl_append]
  rfl
def lets (M : List (List Int)) (pl : List Int → List Nat) (ws : List Nat) (r : List Int) : Option (List Nat) := if und M r (pl (grt M ws)) = true then some (letSt M pl ws r ws.length).1 else none
/-- None, or a tuple of natural numbers -/
def OptAt (H : Hp) (v : V) : Option (List Nat) → Prop
  | none => v = .non
  | some fs => ∃ a, v = .ref a ∧ H a = some (.tup ((natI fs).map V.int))
def spLetters (C : Addr) : Sp := fun vs H Q _ => ∃ (h : Addr) (M : List (List Int)) (Rm : List Int → Prop) (pl : List Int → List Nat) (wa : Addr) (ws : List Nat) (ra : Addr) (r : List Int), vs = [.ref h, .ref wa, .ref ra] ∧ HallAt C H h M ∧ Good M ∧ Plays M Rm pl ∧ H wa = some (.tup ((natI ws).map V.int)) ∧ ws.length ≤ 60 ∧ (∀ x ∈ ws, x < M.length) ∧
  H ra = some (.tup (r.map V.int)) ∧ Rm r ∧ ∀ H' v, Same H H' → OptAt H' v (lets M pl ws r) → Q v H'
theorem cut_from (ws : List Nat) (i : Nat) (hi : i < ws.length) : cutV ((natI ws).map V.int) (some (((i : Nat) : Int) + 1)) none = (natI (ws.drop (i + 1))).map V.int := by
  have e : (((i : Nat) : Int) + 1) = ((i + 1 : Nat) : Int) := rfl
  unfold cutV
  rw [e, HT.sIx_nat, HT.sIx_none, List.length_map, natI_len, Nat.min_eq_left (by omega)]
  unfold natI
  rw [← List.map_drop, ← List.map_drop]
  exact List.take_of_length_le (by simp)
theorem letStep_room {M : List (List Int)} {Rm : List Int → Prop} {pl : List Int → List Nat} (Pl : Plays M Rm pl) {ws : List Nat} {st : List Nat × List Int} {i : Nat} (hi : ws.getD i 0 < M.length) (h : Rm st.2) : Rm (letStep M pl ws st i).2 := by
  unfold letStep
  split
  · split
    · exact Pl.left _ _ h hi
    · exact h
  · exact h
theorem letStep_len {M : List (List Int)} {pl : List Int → List Nat} {ws : List Nat} {st : List Nat × List Int} {i : Nat} : (letStep M pl ws st i).1.length ≤ st.1.length + 1 := by
  unfold letStep
  split
  · split
    · simp
    · omega
  · omega
section
variable {P : Program} {w : World} {K : PySem.W.Frag} {mg : Str → Option Value} {base : Heap} {C : Addr}
abbrev nLettersFor : List Str := ["hall", "word", "room", "found", "first", "place", "lamp", "less"]
theorem scLettersFor : FnScope nLettersFor ["hall", "word", "room"] (defScope sDLettersFor) := ⟨rfl, rfl, rfl, by decide +kernel, rfl, by decide +kernel, by decide +kernel⟩
theorem c_lettersFor (T : Txt K mg C) (F : Fn K mg "letters_for" "letters_for" sDLettersFor ["hall", "word", "room"]) (c_wordOfWithin : Cal P w K mg base 6 "word_of_within" (spWordOf C) []) (c_isUnder : Cal P w K mg base 4 "is_under" (spUnder C) []) (c_greatestOf : Cal P w K mg base 4 "greatest_of" (spGrt C) []) (c_goFrom : Cal P w K mg base 2 "go_from" (spGo C true) []) (c_firstOf : Cal P w K mg base 3 "first_of" (spFirst C) []) (c_needRoom : Cal P w K mg base 7 "need_room" (spNeedRoom C) []) (c_needWord : Cal P w K mg base 5 "need_word" (spNeedWord C) []) : Cal P w K mg base 8 "letters_for" (spLetters C) [] := by
  refine F.cal scLettersFor (fun vs H Q E h => by obtain ⟨_, _, _, _, _, _, _, _, rfl, _⟩ := h; rfl) (fun cdv A outer s f H vs Q E hr h => ?_)
  have nd := scLettersFor.nd
  obtain ⟨h, M, Rm, pl, wa, ws, ra, r, rfl, hh, G, Pl, hw, hl, hin, hra, hR, q⟩ := h
  have S := G.sq
  refine ⟨_, (pss_cons (ps_expr (pe_c c_needWord hr (by decide) rfl (pa_cons (pv 0) (pa_cons (pv 1) pa_nil))))
      (pss_cons (ps_expr (pe_c c_needRoom hr (by decide) rfl (pa_cons (pv 0) (pa_cons (pv 2) pa_nil))))
      (pss_cons (ps_par (i := 3) (j := 4) rfl nd rfl rfl (by decide) rfl rfl (pa_cons (pe_tup pa_nil) (pa_cons (pe_c c_firstOf hr (by decide) rfl (pa_cons (pv 0) pa_nil)) pa_nil)) (by rfl))
      (pss_cons (ps_if (pt_not (pt_val (pe_c c_isUnder hr (by decide) rfl (pa_cons (pv 0) (pa_cons (pv 2) (pa_cons (pe_c c_greatestOf hr (by decide) rfl (pa_cons (pv 0) (pa_cons (pv 1) pa_nil))) pa_nil)))))) (pss_one (ps_ret pe_non)) pss_nil)
      (pss_cons (ps_for PassesOwn.never rfl (pi_enumB rfl T.enumerate (pa_cons (pv 1) pa_nil)) (pg_tup rfl (pgs_cons (pg_name (i := 5) nd rfl (.inl rfl)) (pgs_cons (pg_name (i := 6) nd rfl (.inl rfl)) pgs_nil))) (pss_cons (ps_set (i := 7) nd rfl (.inl rfl) (pe_c c_goFrom hr (by decide) rfl (pa_cons (pv 0) (pa_cons (pv 4) (pa_cons (pe_tup (pa_cons (pv 6) (StX.pa_star (pe_c c_wordOfWithin hr (by decide) rfl (pa_cons (pv 0) (pa_cons (pv 2) pa_nil))) pa_nil))) pa_nil)))))
      (pss_one (ps_if (pt_cmpR op_lt (pe_callB call_len_seq rfl T.len (by decide +kernel) (pa_cons (pe_c c_wordOfWithin hr (by decide) rfl (pa_cons (pv 0) (pa_cons (pv 7) pa_nil))) pa_nil)) (pe_callB call_len_seq rfl T.len (by decide +kernel) (pa_cons (pe_c c_wordOfWithin hr (by decide) rfl (pa_cons (pv 0) (pa_cons (pv 2) pa_nil))) pa_nil)) (nomark _)) (pss_one (ps_if (pt_val (pe_c c_isUnder hr (by decide) rfl (pa_cons (pv 0) (pa_cons (pv 7) (pa_cons (pe_c c_greatestOf hr (by decide) rfl (pa_cons (pv 0) (pa_cons (pe_slice sl_tupA (pv 1) (po_some (pe_op op_add (pv 5) pe_int)) po_none) pa_nil))) pa_nil))))) (pss_one (ps_par (i := 3) (j := 2) rfl nd rfl rfl (by decide) rfl rfl (pa_cons (pe_tup (StX.pa_star (pv 3) (pa_cons (pv 5) pa_nil))) (pa_cons (pv 7) pa_nil)) (by rfl))) pss_nil)) pss_nil))))
      (pss_one (ps_ret (pv 3)))))))), ?_⟩
  refine ⟨_, rfl, _, rfl, h, M, wa, ws, rfl, hh, G, hw, hl, hin, fun H1 s1 => ?_⟩
  refine ⟨_, rfl, _, rfl, h, M, ra, r, pl r, rfl, hh.same s1, G, s1 _ _ hra, Pl.room r hR, fun H2 s2 => ?_⟩
  refine ⟨small (n := 0) (by decide), fun f0 n0 => ?_⟩
  have s3 := (s1.trans s2).trans (sameUpd (o := HO.tup []) n0)
  refine ⟨_, rfl, h, M, rfl, hh.same s3, S, fun H4 f1 s4 e1 => ⟨_, _, rfl, ?_⟩⟩
  have s5 := s3.trans s4
  have e0 := s4 _ _ (upd_same (H := H2) (a := f0) (o := HO.tup []))
  refine ⟨_, rfl, _, rfl, _, rfl, _, rfl, h, M, wa, ws, rfl, hh.same s5, S, s5 _ _ hw, hin, fun H6 g s6 eg => ?_⟩
  have s7 := s5.trans s6
  have Rg := Pl.room _ (Pl.great ws hin)
  refine ⟨h, M, ra, r, g, _, 60, _, _, rfl, hh.same s7, S, s7 _ _ hra, (Pl.room r hR).len, eg, Rg.len, Rg.run, fun H8 s8 => ⟨_, rfl, ?_⟩⟩
  have s9 := s7.trans s8
  by_cases c : und M r (pl (grt M ws)) = true
  · rw [c]
    refine iteN rfl ?_
    refine ⟨_, rfl, false, wa, _, rfl, SqT.of (s9 _ _ hw), ?_⟩
    refine for_it walk_enumN (fun i σ H' => ∃ b fa x5 x6 x7, σ = [some (.ref h), some (.ref wa), some (.ref b), some (.ref fa), some (.ref f1), x5, x6, x7] ∧ Same H8 H' ∧ Rm (letSt M pl ws r i).2 ∧ (letSt M pl ws r i).1.length ≤ i ∧ H' b = some (.tup ((letSt M pl ws r i).2.map V.int)) ∧ H' fa = some (.tup ((natI (letSt M pl ws r i).1).map V.int)))
      ⟨ra, f0, none, none, none, rfl, Same.refl _, hR, Nat.le_refl _, s9 _ _ hra, s8 _ _ (s6 _ _ e0)⟩ (fun i σ H' _ p => by obtain ⟨_, _, _, _, _, _, s, _⟩ := p; exact SqT.of (s _ _ (s9 _ _ hw))) (fun i x σ H' H'' hi p y => ?_) (fun σ H' p => ?_)
    · obtain ⟨b, fa, x5, x6, x7, rfl, s, hRi, hli, eb, ef⟩ := p
      obtain ⟨T', rfl, hT, rfl⟩ := y
      have hlt := getD_lt hin hi
      have ht := sameUpd (o := HO.tup [V.int (i : Nat), V.int ((ws.getD i 0 : Nat) : Int)]) hT
      have sA := (s9.trans s).trans ht
      have eb := ht _ _ eb
      have ef := ht _ _ ef
      rw [letSt_succ]
      generalize hst : letSt M pl ws r i = st at *
      obtain ⟨found, r'⟩ := st
      dsimp only at hRi hli eb ef
      refine ⟨_, _, rfl, SqT.of upd_same, rfl, _, _, rfl, _, _, rfl, rfl, ?_⟩
      refine ⟨_, rfl, _, rfl, _, rfl, _, rfl, _, rfl, h, M, b, r', pl r', rfl, hh.same sA, G, eb, Pl.room r' hRi, fun Hb q1 sb eq1 => ?_⟩
      have hp60 := Pl.short r' hRi
      refine ⟨q1, _, rfl, .inl (SqT.of eq1), ?_, fun q2 nq2 => ?_⟩
      · simp [natI_len]
        exact small (by omega)
      have sB := (sA.trans sb).trans (sameUpd (o := HO.tup (V.int ((ws.getD i 0 : Nat) : Int) :: ((natI (pl r').reverse).map V.int ++ []))) nq2)
      have eC : (natI ((ws.getD i 0) :: (pl r').reverse)).map V.int = V.int ((ws.getD i 0 : Nat) : Int) :: ((natI (pl r').reverse).map V.int ++ []) := by
        rw [List.append_nil]; rfl
      have hwin : ∀ x ∈ ws.getD i 0 :: (pl r').reverse, x < M.length := fun x hx => by
        rcases List.mem_cons.mp hx with e | hx
        · rw [e]; exact hlt
        · exact Pl.lt r' hRi x (List.mem_reverse.mp hx)
      have e1B := (((s6.trans s8).trans s).trans ht).trans (sb.trans (sameUpd (o := HO.tup (V.int ((ws.getD i 0 : Nat) : Int) :: ((natI (pl r').reverse).map V.int ++ []))) nq2)) _ _ e1
      refine ⟨h, M, f1, ones M.length, q2, ws.getD i 0 :: (pl r').reverse, rfl, hh.same sB, S, e1B, by simp [ones], by rw [eC]; exact upd_same, hwin, fun Hd less sd ed => ?_⟩
      have hRl := Pl.left r' (ws.getD i 0) hRi hlt
      have sD := sB.trans sd
      have fwd := (sb.trans (sameUpd (o := HO.tup (V.int ((ws.getD i 0 : Nat) : Int) :: ((natI (pl r').reverse).map V.int ++ []))) nq2)).trans sd
      have edl : Hd less = some (.tup ((lm M pl r' (ws.getD i 0)).map V.int)) := ed
      refine ⟨_, rfl, _, rfl, h, M, less, lm M pl r' (ws.getD i 0), pl (lm M pl r' (ws.getD i 0)), rfl, hh.same sD, G, edl, Pl.room _ hRl, fun He u1 se eu1 => ?_⟩
      refine ⟨_, _, rfl, .inr (SqT.of eu1), ?_⟩
      refine ⟨_, rfl, _, rfl, h, M, b, r', pl r', rfl, hh.same (sD.trans se), G, se _ _ (fwd _ _ eb), Pl.room r' hRi, fun Hf u2 sf eu2 => ?_⟩
      refine ⟨_, _, rfl, .inr (SqT.of eu2), _, _, rfl, rfl, _, rfl, ?_⟩
      have sF := (sD.trans se).trans sf
      have fwd2 := (fwd.trans se).trans sf
      have s8F : Same H8 Hf := (s.trans ht).trans fwd2
      by_cases c1 : (pl (lm M pl r' (ws.getD i 0))).length < (pl r').length
      · refine iteP (by simp [natI_len]; exact c1) ?_
        refine ⟨_, rfl, _, rfl, _, rfl, _, rfl, _, rfl, _, _, rfl, rfl, _, rfl, wa, _, rfl, SqT.of (sF _ _ hw), fun z => ?_, fun _ p3 np3 => ?_⟩
        · exfalso
          have z1 := z.1
          have e : (((i : Nat) : Int) + 1) = ((i + 1 : Nat) : Int) := rfl
          rw [e, HT.sIx_nat, List.length_map, natI_len] at z1
          omega
        rw [cut_from ws i hi]
        have hdin : ∀ x ∈ ws.drop (i + 1), x < M.length := fun x hx => hin x (List.mem_of_mem_drop hx)
        have sG := sF.trans (sameUpd (o := HO.tup ((natI (ws.drop (i + 1))).map V.int)) np3)
        refine ⟨h, M, p3, ws.drop (i + 1), rfl, hh.same sG, S, upd_same, hdin, fun Hh g2 sh eg2 => ?_⟩
        have Rg2 := Pl.room _ (Pl.great _ hdin)
        have sH := sG.trans sh
        refine ⟨h, M, less, lm M pl r' (ws.getD i 0), g2, _, 60, _, _, rfl, hh.same sH, S, sh _ _ (up (sf _ _ (se _ _ edl)) np3), (Pl.room _ hRl).len, eg2, Rg2.len, Rg2.run, fun Hi si => ⟨_, rfl, ?_⟩⟩
        have fwd3 := (fwd2.trans (sameUpd (o := HO.tup ((natI (ws.drop (i + 1))).map V.int)) np3)).trans (sh.trans si)
        have s8I : Same H8 Hi := (s.trans ht).trans fwd3
        by_cases c2 : und M (lm M pl r' (ws.getD i 0)) (pl (grt M (ws.drop (i + 1)))) = true
        · rw [c2]
          refine iteP rfl ?_
          have eS : letStep M pl ws (found, r') i = (found ++ [i], lm M pl r' (ws.getD i 0)) := by
            unfold letStep
            rw [if_pos c1, if_pos c2]
          rw [eS]
          refine ⟨_, rfl, fa, _, rfl, .inl (SqT.of (fwd3 _ _ ef)), _, rfl, ?_, fun t nt => ⟨_, rfl, _, _, rfl, ?_⟩⟩
          · simp [natI_len]
            exact small (by omega)
          · have sl := ((sf.trans (sameUpd (o := HO.tup ((natI (ws.drop (i + 1))).map V.int)) np3)).trans (sh.trans si))
            refine ⟨less, t, _, _, _, rfl, s8I.trans (sameUpd nt), hRl, by simp; omega, up (sl _ _ (se _ _ edl)) nt, ?_⟩
            rw [upd_same, natI_app, List.map_append]
            rfl
        · have c3 : und M (lm M pl r' (ws.getD i 0)) (pl (grt M (ws.drop (i + 1)))) = false := by simpa using c2
          rw [c3]
          refine iteN rfl ?_
          have eS : letStep M pl ws (found, r') i = (found, r') := by
            unfold letStep
            rw [if_pos c1, if_neg c2]
          rw [eS]
          exact ⟨b, fa, _, _, _, rfl, s8I, hRi, Nat.le_trans hli (Nat.le_succ i), fwd3 _ _ eb, fwd3 _ _ ef⟩
      · refine iteN (by rw [List.length_map, List.length_map, natI_len, natI_len, List.length_reverse, List.length_reverse]; exact decide_eq_false (by omega)) ?_
        have eS : letStep M pl ws (found, r') i = (found, r') := by
          unfold letStep
          rw [if_neg c1]
        rw [eS]
        exact ⟨b, fa, _, _, _, rfl, s8F, hRi, Nat.le_trans hli (Nat.le_succ i), fwd2 _ _ eb, fwd2 _ _ ef⟩
    · obtain ⟨b, fa, x5, x6, x7, rfl, s, hRi, hli, eb, ef⟩ := p
      refine ⟨_, rfl, q _ _ (s9.trans s) ?_⟩
      unfold lets
      rw [if_pos c]
      exact ⟨fa, rfl, ef⟩
  · have cf : und M r (pl (grt M ws)) = false := by simpa using c
    rw [cf]
    refine iteP rfl ?_
    refine q _ _ s9 ?_
    unfold lets
    rw [if_neg c]
    exact rfl
end
end Kal

set_option Elab.async false
set_option linter.all false
set_option maxRecDepth 100000
set_option maxHeartbeats 4000000
/-! KD12: are_letters. -/
namespace Kal
open PySem PySem.Spec PyProof.Rows L2 SX C8
theorem FromIs.same {H H' : Hp} {lo hi : Int} {v : V} {b : Bool} (s : Same H H') (h : FromIs H lo hi v b) : FromIs H' lo hi v b := by
  cases h with
  | int n => exact .int n
  | bl b => exact .bl b
  | non => exact .non
  | str z => exact .str z
  | lst a xs e => exact .lst a xs (s _ _ e)
/-- in bounds -/
def inB (hi : Int) (p : Int) : Bool := decide (0 ≤ p) && decide (p ≤ hi)
def asc (ps : List Int) : Bool := (List.range (ps.length - 1)).all fun i => decide (ps.getD i 0 < ps.getD (i + 1) 0)
def pick (ws : List Nat) (ps : List Int) : List Nat := ps.map fun p => ws.getD p.toNat 0
def letB (M : List (List Int)) (ws : List Nat) (r : List Int) (n : Nat) (ps : List Int) : Bool :=
  ps.all (inB ((ws.length : Nat) - 1)) && (asc ps && (decide (ps.length = n) && decide (goW M (ones M.length) (pick ws ps) = r)))
/-- a value that are_letters may get, with its answer -/
inductive LetV (K : PySem.W.Frag) (M : List (List Int)) (ws : List Nat) (r : List Int) (n : Nat) (H : Hp) : V → Bool → Prop where
  | nums (a : Addr) (ps : List Int) (e : H a = some (.tup (ps.map V.int))) (hl : ps.length ≤ 1000) : LetV K M ws r n H (.ref a) (letB M ws r n ps)
  | one (a : Addr) (x : V) (e : H a = some (.tup [x])) (f : FromIs H 0 ((ws.length : Nat) - 1) x false) : LetV K M ws r n H (.ref a) false
  | not (v : V) (t : Value) (h : ∀ H', Same H H' → TyX K H' v t) (k : PySem.W.kitOne K t (.type "tuple") = some false) : LetV K M ws r n H v false
def spAreLet (K : PySem.W.Frag) (C : Addr) : Sp := fun vs H Q _ => ∃ (h : Addr) (M : List (List Int)) (wa : Addr) (ws : List Nat) (ra : Addr) (r : List Int) (p : List Nat) (v : V) (b : Bool), vs = [.ref h, .ref wa, .ref ra, v] ∧ HallAt C H h M ∧ Good M ∧ H wa = some (.tup ((natI ws).map V.int)) ∧ ws.length ≤ 60 ∧ (∀ x ∈ ws, x < M.length) ∧
  H ra = some (.tup (r.map V.int)) ∧ RoomOf M r p ∧ LetV K M ws r p.length H v b ∧ ∀ H', Same H H' → Q (.bl b) H'
theorem all_range {ps : List Int} (f : Int → Bool) : ((List.range ps.length).map fun i => f (ps.getD i 0)).all id = ps.all f := by
  rw [List.all_map]
  rw [Bool.eq_iff_iff, List.all_eq_true, List.all_eq_true]
  refine ⟨fun h x hx => ?_, fun h i hi => ?_⟩
  · obtain ⟨i, hi, rfl⟩ := List.mem_iff_getElem.mp hx
    have := h i (by simpa using hi)
    simpa [List.getD_eq_getElem?_getD, hi] using this
  · have hi2 : i < ps.length := by simpa using hi
    show f (ps.getD i 0) = true
    rw [List.getD_eq_getElem?_getD, List.getElem?_eq_getElem hi2]
    exact h _ (List.getElem_mem hi2)
theorem map_bl (n : Nat) (f : Nat → Bool) : (List.range n).map (fun i => V.bl (f i)) = ((List.range n).map f).map V.bl := by rw [List.map_map]; rfl
section
variable {P : Program} {w : World} {K : PySem.W.Frag} {mg : Str → Option Value} {base : Heap} {C : Addr}
abbrev nAreLetters : List Str := ["hall", "word", "room", "value", "at", "place"]
theorem scAreLetters : FnScope nAreLetters ["hall", "word", "room", "value"] (defScope sDAreLetters) := ⟨rfl, rfl, rfl, by decide +kernel, rfl, by decide +kernel, by decide +kernel⟩
theorem c_areLetters (T : Txt K mg C) (F : Fn K mg "are_letters" "are_letters" sDAreLetters ["hall", "word", "room", "value"]) (c_goFrom : Cal P w K mg base 2 "go_from" (spGo C false) []) (c_firstOf : Cal P w K mg base 3 "first_of" (spFirst C) []) (c_wordOfWithin : Cal P w K mg base 6 "word_of_within" (spWordOf C) []) (c_isFrom : Cal P w K mg base 1 "is_from" (spIsFrom) []) (c_needRoom : Cal P w K mg base 7 "need_room" (spNeedRoom C) []) (c_needWord : Cal P w K mg base 5 "need_word" (spNeedWord C) []) : Cal P w K mg base 8 "are_letters" (spAreLet K C) [] := by
  refine F.cal scAreLetters (fun vs H Q E h => by obtain ⟨_, _, _, _, _, _, _, _, _, rfl, _⟩ := h; rfl) (fun cdv A outer s f H vs Q E hr h => ?_)
  have nd := scAreLetters.nd
  obtain ⟨h, M, wa, ws, ra, r, p, v, b, rfl, hh, G, hw, hl, hin, hra, hR, lv, q⟩ := h
  have S := G.sq
  refine ⟨_, (pss_cons (ps_expr (pe_c c_needWord hr (by decide) rfl (pa_cons (pv 0) (pa_cons (pv 1) pa_nil))))
      (pss_cons (ps_expr (pe_c c_needRoom hr (by decide) rfl (pa_cons (pv 0) (pa_cons (pv 2) pa_nil))))
      (pss_cons (ps_if (PW.pt (pw_or (pt_not (pt_val (pe_callB call_isi rfl T.isinstance (by decide +kernel) (pa_cons (pv 3) (pa_cons (pe_bltn (v := .ty "tuple") (u := .type "tuple") rfl T.tuple (by decide +kernel) rfl) pa_nil))))) (pw_or1 (pt_not (pt_val (pe_callB (cr_all rfl) rfl T.all (by decide +kernel) (pa_cons (pe_lc (own := [("place", 5)]) (g := (gName 5)) rfl nd (pi_tup (pv 3)) (blkOk_by (own := [("place", 5)]) (N := nAreLetters) (sc := (defScope sDAreLetters)) (by decide +kernel)) (fun _ _ _ _ _ => (pg_name (i := 5) nd rfl (.inl rfl))) (fun _ _ _ _ _ => pts_nil) (fun _ _ _ _ _ => (pe_c c_isFrom hr (by decide) rfl (pa_cons (pv 5) (pa_cons pe_int (pa_cons (pe_op op_sub (pe_callB (call_len_seqK (K := K) rfl) rfl T.len (by decide +kernel) (pa_cons (pv 1) pa_nil)) pe_int) pa_nil)))))) pa_nil))))))) (pss_one (ps_ret pe_bl)) pss_nil)
      (pss_cons (ps_if (pt_not (pt_val (pe_callB (cr_all rfl) rfl T.all (by decide +kernel) (pa_cons (pe_lc (own := [("at", 4)]) (g := (gName 4)) rfl nd (pi_range2 rfl T.range (pa_cons pe_int (pa_cons (pe_callB call_len_seq rfl T.len (by decide +kernel) (pa_cons (pv 3) pa_nil)) pa_nil))) (blkOk_by (own := [("at", 4)]) (N := nAreLetters) (sc := (defScope sDAreLetters)) (by decide +kernel)) (fun _ _ _ _ _ => (pg_name (i := 4) nd rfl (.inl rfl))) (fun _ _ _ _ _ => pts_nil) (fun _ _ _ _ _ => (pe_cmpR op_lt (pe_ix (ix_tupK (K := K) rfl) (pv 3) (pe_op op_sub (pv 4) pe_int) (fun _ _ => rfl)) (pe_ix (ix_tupK (K := K) rfl) (pv 3) (pv 4) (fun _ _ => rfl)) (nomark _)))) pa_nil)))) (pss_one (ps_ret pe_bl)) pss_nil)
      (pss_one (ps_ret (pe_and (pe_cmpR op_eq (pe_callB call_len_seq rfl T.len (by decide +kernel) (pa_cons (pv 3) pa_nil)) (pe_callB call_len_seq rfl T.len (by decide +kernel) (pa_cons (pe_c c_wordOfWithin hr (by decide) rfl (pa_cons (pv 0) (pa_cons (pv 2) pa_nil))) pa_nil)) (nomark _)) (pe_one (pe_cmpR (op_eqD hr.units) (pe_c c_goFrom hr (by decide) rfl (pa_cons (pv 0) (pa_cons (pe_c c_firstOf hr (by decide) rfl (pa_cons (pv 0) pa_nil)) (pa_cons (pe_lc (own := [("at", 4)]) (g := (gName 4)) rfl nd (pi_tup (pv 3)) (blkOk_by (own := [("at", 4)]) (N := nAreLetters) (sc := (defScope sDAreLetters)) (by decide +kernel)) (fun _ _ _ _ _ => (pg_name (i := 4) nd rfl (.inl rfl))) (fun _ _ _ _ _ => pts_nil) (fun _ _ _ _ _ => (pe_ix (ix_tupK (K := K) rfl) (pv 1) (pv 4) (fun _ _ => rfl)))) pa_nil)))) (pv 2) (nomark _)))))))))), ?_⟩
  refine ⟨_, rfl, _, rfl, h, M, wa, ws, rfl, hh, G, hw, hl, hin, fun H1 s1 => ?_⟩
  refine ⟨_, rfl, _, rfl, h, M, ra, r, p, rfl, hh.same s1, G, s1 _ _ hra, hR, fun H2 s2 => ?_⟩
  have s3 := s1.trans s2
  cases lv with
  | not v t ty k =>
    exact ⟨_, rfl, _, _, _, _, _, rfl, .ty "tuple", ty _ s3, k, _, rfl, q _ s3⟩
  | one a x e f =>
    refine ⟨_, rfl, _, _, _, _, _, rfl, .ty "tuple", .base (.tup (s3 _ _ e)), kTT, _, rfl, ?_⟩
    refine ⟨_, rfl, _, rfl, ⟨_, SqT.of (s3 _ _ e)⟩, fun D hD => ?_⟩
    refine lc_told (walk_tup (xs := [x])) (fun _ => .bl false) (show 1 ≤ 1000000 by decide) hD (fun H' s => SqT.of (s _ _ (s3 _ _ e))) (fun i z H' H'' hi s y M' hM => ?_) (fun H4 s4 f4 => ?_)
    · obtain ⟨rfl, hz⟩ := y
      have : z = x := by
        have : i = 0 := by simpa using hi
        subst this
        exact (Option.some.inj hz).symm
      subst this
      refine ⟨rfl, _, rfl, _, rfl, _, _, rfl, .inr (SqT.of (s _ _ (s3 _ _ hw))), _, _, rfl, rfl, _, _, _, _, rfl, ?_, hM _ (Same.refl _)⟩
      have := f.same (s3.trans s)
      rw [List.length_map, natI_len]
      exact this
    · refine ⟨_, [false], rfl, SqL.of f4, _, rfl, ?_⟩
      exact q _ (s3.trans s4)
  | nums a ps e hl1 =>
    have e3 := s3 _ _ e
    have hw3 := s3 _ _ hw
    refine ⟨_, rfl, _, _, _, _, _, rfl, .ty "tuple", .base (.tup e3), kTT, _, rfl, ?_⟩
    refine ⟨_, rfl, _, rfl, ⟨_, SqT.of e3⟩, fun D hD => ?_⟩
    refine lc_told walk_tupI (fun i => .bl (inB ((ws.length : Nat) - 1) (ps.getD i 0))) (by omega) hD (fun H' s => SqT.of (s _ _ e3)) (fun i z H' H'' hi s y M' hM => ?_) (fun H4 s4 f4 => ?_)
    · obtain ⟨rfl, rfl⟩ := y
      refine ⟨rfl, _, rfl, _, rfl, _, _, rfl, .inr (SqT.of (s _ _ hw3)), _, _, rfl, rfl, _, _, _, _, rfl, ?_, hM _ (Same.refl _)⟩
      rw [List.length_map, natI_len]
      exact .int _
    rw [map_bl] at f4
    refine ⟨_, _, rfl, SqL.of f4, _, rfl, ?_⟩
    rw [all_range (inB ((ws.length : Nat) - 1))]
    by_cases c1 : ps.all (inB ((ws.length : Nat) - 1)) = true
    · rw [c1]
      refine iteN rfl ?_
      have s5 := s3.trans s4
      have e5 := s4 _ _ e3
      refine ⟨_, rfl, a, _, rfl, .inr (SqT.of e5), _, _, rfl, ⟨by omega, by omega, by omega, by rw [List.length_map]; omega⟩, fun D2 hD2 => ?_⟩
      have hn : ((((ps.map V.int).length : Nat) : Int) - 1).toNat = ps.length - 1 := by rw [List.length_map]; omega
      rw [hn]
      refine lc_told walk_range (fun i => .bl (decide (ps.getD i 0 < ps.getD (i + 1) 0))) (by omega) hD2 (fun _ _ => True.intro) (fun i z H' H'' hi s y M' hM => ?_) (fun H6 s6 f6 => ?_)
      · obtain ⟨rfl, rfl⟩ := y
        have z1 : (1 + ((i : Nat) : Int)) - 1 = ((i : Nat) : Int) := by omega
        have z2 : (1 + ((i : Nat) : Int)) = ((i + 1 : Nat) : Int) := by omega
        refine ⟨rfl, _, rfl, _, rfl, _, _, rfl, rfl, a, _, _, .int (ps.getD i 0), rfl, rfl, SqT.of (s _ _ e5), ?_, ?_⟩
        · show atI _ ((1 + ((i : Nat) : Int)) - 1) = _
          rw [z1]; exact atI_nat (at_ints (by omega))
        refine ⟨_, rfl, _, rfl, a, _, _, .int (ps.getD (i + 1) 0), rfl, rfl, SqT.of (s _ _ e5), ?_, ?_⟩
        · show atI _ (1 + ((i : Nat) : Int)) = _
          rw [z2]; exact atI_nat (at_ints (by omega))
        exact ⟨_, _, rfl, rfl, hM _ (Same.refl _)⟩
      rw [map_bl] at f6
      refine ⟨_, _, rfl, SqL.of f6, _, rfl, ?_⟩
      have ea : ((List.range (ps.length - 1)).map fun i => decide (ps.getD i 0 < ps.getD (i + 1) 0)).all id = asc ps := by rw [List.all_map]; rfl
      rw [ea]
      by_cases c2 : asc ps = true
      · rw [c2]
        refine iteN rfl ?_
        have s7 := s5.trans s6
        refine ⟨_, rfl, a, _, rfl, .inr (SqT.of (s6 _ _ e5)), ?_⟩
        refine ⟨_, rfl, _, rfl, h, M, ra, r, p, rfl, hh.same s7, G, s7 _ _ hra, hR, fun H8 u s8 eu => ?_⟩
        refine ⟨_, _, rfl, .inr (SqT.of eu), rfl, _, rfl, ?_⟩
        have s9 := s7.trans s8
        by_cases c3 : ps.length = p.length
        · refine iteP (by rw [dec_int, List.length_map, List.length_map, natI_len, List.length_reverse, c3]; simp) ?_
          refine ⟨_, rfl, _, rfl, h, M, rfl, hh.same s9, S, fun H10 f1 s10 ef => ?_⟩
          have s11 := s9.trans s10
          refine ⟨_, rfl, _, rfl, ⟨_, SqT.of (s11 _ _ e)⟩, fun D3 hD3 => ?_⟩
          refine lc_told walk_tupI (fun i => .int (((pick ws ps).getD i 0 : Nat) : Int)) (by omega) hD3 (fun H' s => SqT.of ((s11.trans s) _ _ e)) (fun i z H' H'' hi s y M' hM => ?_) (fun H12 s12 f12 => ?_)
          · obtain ⟨rfl, rfl⟩ := y
            have hb : inB ((ws.length : Nat) - 1) (ps.getD i 0) = true := List.all_eq_true.mp c1 _ (by rw [List.getD_eq_getElem?_getD, List.getElem?_eq_getElem hi]; exact List.getElem_mem hi)
            unfold inB at hb
            rw [Bool.and_eq_true, decide_eq_true_eq, decide_eq_true_eq] at hb
            have ep : (pick ws ps).getD i 0 = ws.getD (ps.getD i 0).toNat 0 := by
              unfold pick
              rw [List.getD_eq_getElem?_getD, List.getElem?_map, List.getD_eq_getElem?_getD (l := ps), List.getElem?_eq_getElem hi]
              rfl
            refine ⟨rfl, _, rfl, _, rfl, wa, _, _, _, rfl, rfl, SqT.of ((s11.trans s) _ _ hw), ?_, hM _ (Same.refl _)⟩
            rw [ep, ← natI_getD]
            have zi : ps.getD i 0 = (((ps.getD i 0).toNat : Nat) : Int) := by omega
            rw [zi]
            exact atI_nat (at_ints (by rw [natI_len]; omega))
          have eN : (List.range ps.length).map (fun i => V.int (((pick ws ps).getD i 0 : Nat) : Int)) = (natI (pick ws ps)).map V.int := by
            unfold natI
            rw [List.map_map]
            refine List.ext_getElem (by simp [pick]) fun i h1 h2 => ?_
            have a1 : i < (pick ws ps).length := by simpa using h2
            simp [List.getD_eq_getElem?_getD, a1]
          rw [eN] at f12
          have s13 := s11.trans s12
          have hpin : ∀ x ∈ pick ws ps, x < M.length := fun x hx => by
            obtain ⟨y, hy, rfl⟩ := List.mem_map.mp hx
            have hb : inB ((ws.length : Nat) - 1) y = true := List.all_eq_true.mp c1 _ hy
            unfold inB at hb
            rw [Bool.and_eq_true, decide_eq_true_eq, decide_eq_true_eq] at hb
            exact getD_lt hin (by omega)
          refine ⟨h, M, f1, ones M.length, D3, pick ws ps, rfl, hh.same s13, S, s12 _ _ ef, by simp [ones], f12, hpin, fun H14 g s14 eg => ?_⟩
          have s15 := s13.trans s14
          refine ⟨_, rfl, _, _, dpT eg, dpT (s15 _ _ hra), shaped_tupI _, shaped_tupI _, ?_⟩
          rw [eqv_tupI]
          have := q _ s15
          unfold letB at this
          rw [c1, c2, decide_eq_true c3] at this
          exact this
        · refine iteN (by rw [dec_int, List.length_map, List.length_map, natI_len, List.length_reverse]; simp; omega) ?_
          have := q _ s9
          unfold letB at this
          rw [c1, c2, decide_eq_false c3] at this
          exact this
      · have c2' : asc ps = false := by simpa using c2
        rw [c2']
        refine iteP rfl ?_
        have := q _ (s5.trans s6)
        unfold letB at this
        rw [c1, c2'] at this
        exact this
    · have c1' : ps.all (inB ((ws.length : Nat) - 1)) = false := by simpa using c1
      rw [c1']
      refine iteP rfl ?_
      have := q _ (s3.trans s4)
      unfold letB at this
      rw [c1'] at this
      exact this
end
end Kal

set_option Elab.async false
set_option linter.all false
set_option maxRecDepth 100000
set_option maxHeartbeats 4000000
/-! KD13: are_pushes, Hall.__init__, Hall.__len__. -/
namespace Kal
open PySem PySem.Spec PyProof.Rows L2 SX C8
/-- a hall's numbers -/
structure HallM (M : List (List Int)) : Prop where
  sq : SqM M
  diag : ∀ i, i < M.length → (M.getD i []).getD i 0 = 0
  sym : ∀ i j, i < M.length → j < M.length → (decide ((M.getD i []).getD j 0 = 0) = decide ((M.getD j []).getD i 0 = 0))
def spPushes : Sp := fun vs H Q _ => ∃ (a : Addr) (row : List Int) (l n : Nat), vs = [.ref a, .int (l : Nat), .int (n : Nat)] ∧ H a = some (.tup (row.map V.int)) ∧ row.length = n ∧ l < n ∧ n ≤ 1000 ∧ (∀ m ∈ row, 0 ≤ m ∧ m ≤ 4) ∧ row.getD l 0 = 0 ∧ ∀ H', Same H H' → Q (.bl true) H'
def spInit (C : Addr) : Sp := fun vs H Q _ => ∃ (h dx tp : Addr) (M : List (List Int)), vs = [.ref h, .ref tp] ∧ H h = some (.ins C dx []) ∧ MatAt H tp M ∧ HallM M ∧ ∀ H' H2, Same H H' → H2 = upd H' h (.ins C dx [("told", .ref tp)]) → Q .non H2
section
variable {P : Program} {w : World} {K : PySem.W.Frag} {mg : Str → Option Value} {base : Heap} {C : Addr}
abbrev nArePushes : List Str := ["value", "lamp", "many", "one"]
theorem scArePushes : FnScope nArePushes ["value", "lamp", "many"] (defScope sDArePushes) := ⟨rfl, rfl, rfl, by decide +kernel, rfl, by decide +kernel, by decide +kernel⟩
theorem c_arePushes (T : Txt K mg C) (F : Fn K mg "are_pushes" "are_pushes" sDArePushes ["value", "lamp", "many"]) (c_isFrom : Cal P w K mg base 1 "is_from" (spIsFrom) []) : Cal P w K mg base 2 "are_pushes" (spPushes) [] := by
  refine F.cal scArePushes (fun vs H Q E h => by obtain ⟨_, _, _, _, rfl, _⟩ := h; rfl) (fun cdv A outer s f H vs Q E hr h => ?_)
  have nd := scArePushes.nd
  obtain ⟨a, row, l, n, rfl, ha, hn, hl, h1000, hb, hz, q⟩ := h
  refine ⟨_, (pss_cons (ps_if (PW.pt (pw_or (pt_not (pt_val (pe_callB call_isi rfl T.isinstance (by decide +kernel) (pa_cons (pv 0) (pa_cons (pe_bltn (v := .ty "tuple") (u := .type "tuple") rfl T.tuple (by decide +kernel) rfl) pa_nil))))) (pw_or (pt_cmpR op_ne (pe_callB call_len_seq rfl T.len (by decide +kernel) (pa_cons (pv 0) pa_nil)) (pv 2) (nomark _)) (pw_or1 (pt_not (pt_val (pe_callB (cr_all rfl) rfl T.all (by decide +kernel) (pa_cons (pe_lc (own := [("one", 3)]) (g := (gName 3)) rfl nd (pi_tup (pv 0)) (blkOk_by (own := [("one", 3)]) (N := nArePushes) (sc := (defScope sDArePushes)) (by decide +kernel)) (fun _ _ _ _ _ => (pg_name (i := 3) nd rfl (.inl rfl))) (fun _ _ _ _ _ => pts_nil) (fun _ _ _ _ _ => (pe_c c_isFrom hr (by decide) rfl (pa_cons (pv 3) (pa_cons pe_int (pa_cons (pe_gc rfl T.cMOSTPUSH) pa_nil)))))) pa_nil)))))))) (pss_one (ps_ret pe_bl)) pss_nil)
      (pss_one (ps_ret (pe_cmpR op_eq (pe_ix ix_tup (pv 0) (pv 1) (fun _ _ => rfl)) pe_int (nomark _))))), ?_⟩
  refine ⟨_, rfl, _, _, _, _, _, rfl, .ty "tuple", .base (.tup ha), kTT, _, rfl, ?_⟩
  refine ⟨_, rfl, a, _, rfl, .inr (SqT.of ha), _, rfl, rfl, _, rfl, ?_⟩
  refine iteN (by rw [List.length_map, hn]; simp) ?_
  refine ⟨_, rfl, _, rfl, ⟨_, SqT.of ha⟩, fun D hD => ?_⟩
  refine lc_told walk_tupI (fun _ => .bl true) (by omega) hD (fun H' s => SqT.of (s _ _ ha)) (fun i x H' H'' hi s y M' hM => ?_) (fun H2 s2 f2 => ?_)
  · obtain ⟨rfl, rfl⟩ := y
    refine ⟨rfl, _, rfl, _, _, _, _, rfl, .int _, ?_⟩
    have z := hb (row.getD i 0) (by rw [List.getD_eq_getElem?_getD, List.getElem?_eq_getElem hi]; exact List.getElem_mem hi)
    have e : (decide ((0 : Int) ≤ row.getD i 0) && decide (row.getD i 0 ≤ 4)) = true := by rw [Bool.and_eq_true]; exact ⟨decide_eq_true z.1, decide_eq_true z.2⟩
    rw [e]
    exact hM _ (Same.refl _)
  · have f3 : H2 D = some (.lst ((List.replicate row.length true).map V.bl)) := by
      rw [f2]
      refine congrArg (fun z => some (HO.lst z)) ?_
      rw [List.map_replicate]
      exact List.ext_getElem (by simp) (by simp)
    refine ⟨_, _, rfl, SqL.of f3, _, rfl, ?_⟩
    have : (List.replicate row.length true).all id = true := by simp
    rw [this]
    refine iteN rfl ?_
    refine ⟨_, rfl, _, rfl, a, _, _, _, rfl, rfl, SqT.of (s2 _ _ ha), atI_nat (at_ints (i := l) (by omega)), rfl, ?_⟩
    rw [dec_int, hz]
    exact q _ s2
theorem funNox {m qual : Str} {st : Stmt} {N ps : List Str} {k : Nat} {sp : Sp} {f : Addr} {fd : FuncData} (D : FunD K m qual (defArgs st) (defBody st) (defScope st) [] [] f fd) (S : FnScope N ps (defScope st)) (len : ∀ vs H Q E, sp vs H Q E → vs.length = ps.length)
    (hbody : ∀ (cdv : Value) (A : Around) (outer : List Env) (s : Shared) (H : Hp) (vs : List V) (Q : VK) (E : XK), Room k (A.deeper (envOfC qual (defScope st) s.heap.objs.size f cdv)) → sp vs H Q E →
      ∃ t, PSs (cxOf L2.CX0 P w K mg base N qual (defScope st) f cdv A outer s H E).nox (defBody st) t ∧ t { nx := fun _ H' => Q .non H', rt := Q } (start N vs) H) : FnOk P w K mg base L2.CX0 (k + 1) f fd ps sp :=
  D.ok S len fun cdv A outer s H vs Q E hr h => by
    obtain ⟨t, h1, h2⟩ := hbody cdv A outer s H vs Q E hr h
    exact ⟨t, h1.nox, h2⟩
abbrev nHallLen : List Str := ["self"]
theorem scHallLen : FnScope nHallLen ["self"] (defScope sHLen) := ⟨rfl, rfl, rfl, by decide +kernel, rfl, by decide +kernel, by decide +kernel⟩
theorem hallLen_ok (T : Txt K mg C) {f : Addr} {fd : FuncData} (D : FunD K "__len__" "Hall.__len__" (defArgs sHLen) (defBody sHLen) (defScope sHLen) [] [] f fd) : FnOk P w K mg base L2.CX0 1 f fd ["self"] (spLen C) := by
  refine funNox D scHallLen (fun vs H Q E h => by obtain ⟨_, _, rfl, _⟩ := h; rfl) (fun cdv A outer s H vs Q E hr h => ?_)
  obtain ⟨h, M, rfl, ⟨dx, tp, eh, mt⟩, _, q⟩ := h
  obtain ⟨ts, e1, e2⟩ := mt.len
  refine ⟨_, (pss_one (ps_ret (pe_callB call_len_seq rfl T.len (by decide +kernel) (pa_cons (pe_fld (pv 0) rfl) pa_nil)))), ?_⟩
  refine ⟨_, rfl, _, _, _, _, _, rfl, eh, T.cl, T.nT, rfl, tp, _, rfl, .inr (SqT.of e1), ?_⟩
  rw [e2]
  exact q
abbrev nHallInit : List Str := ["self", "pushes", "index", "own", "one", "other"]
theorem scHallInit : FnScope nHallInit ["self", "pushes"] (defScope sHInit) := ⟨rfl, rfl, rfl, by decide +kernel, rfl, by decide +kernel, by decide +kernel⟩
theorem c_hall (T : Txt K mg C) (c_arePushes : Cal P w K mg base 2 "are_pushes" spPushes []) (ex : ∃ f fd, Mk K C f ∧ FunD K "__init__" "Hall.__init__" (defArgs sHInit) (defBody sHInit) (defScope sHInit) [] [] f fd ∧ mg "Hall" = some (.ref C) ∧ Binds K fd ["self", "pushes"] []) : Mak P w K mg base 3 "Hall" C (spInit C) [] := by
  obtain ⟨f, fd, mk, D, hmg, hb⟩ := ex
  refine ⟨f, fd, ["self", "pushes"], [], mk, ?_, hmg, hb, .nil⟩
  refine funNox D scHallInit (fun vs H Q E h => by obtain ⟨_, _, _, _, rfl, _⟩ := h; rfl) (fun cdv A outer s H vs Q E hr h => ?_)
  have nd := scHallInit.nd
  obtain ⟨h, dx, tp, M, rfl, eh, mt, HM, q⟩ := h
  have S := HM.sq
  have h8 := S.most
  have hp := S.pos
  obtain ⟨ts, e1, pr⟩ := id mt
  have lt : ts.length = M.length := Paired.length pr
  have rowAt : ∀ i t, (ts.map V.ref)[i]? = some t → ∃ a, t = .ref a ∧ i < M.length ∧ H a = some (.tup ((M.getD i []).map V.int)) ∧ (M.getD i []).length = M.length ∧ M.getD i [] ∈ M := fun i t e => by
    have hi : i < M.length := by
      rw [← lt]
      have := (List.getElem?_eq_some_iff.mp e).1
      simpa using this
    obtain ⟨row, er, el, eb⟩ := S.at hi
    obtain ⟨ts', a, f1, f2, f3⟩ := mt.row er
    rw [e1] at f1
    have : ts.map V.ref = ts'.map V.ref := by injection f1 with z; injection z
    rw [← this, e] at f2
    have eg : M.getD i [] = row := by rw [List.getD_eq_getElem?_getD, er]; rfl
    rw [eg]
    exact ⟨a, Option.some.inj f2, hi, f3, el, List.mem_of_getElem? er⟩
  refine ⟨_, (pss_cons (ps_if (PW.pt (pw_or (pt_not (pt_val (pe_callB call_isi rfl T.isinstance (by decide +kernel) (pa_cons (pv 1) (pa_cons (pe_bltn (v := .ty "tuple") (u := .type "tuple") rfl T.tuple (by decide +kernel) rfl) pa_nil))))) (pw_or1 (pt_not (pt_chain op_le op_le pe_int (pe_callB call_len_seq rfl T.len (by decide +kernel) (pa_cons (pv 1) pa_nil)) (pe_gc rfl T.cMOSTLAMPS)))))) (pss_one ps_never) pss_nil)
      (pss_cons (ps_for PassesOwn.never rfl (pi_enumB rfl T.enumerate (pa_cons (pv 1) pa_nil)) (pg_tup rfl (pgs_cons (pg_name (i := 2) nd rfl (.inl rfl)) (pgs_cons (pg_name (i := 3) nd rfl (.inl rfl)) pgs_nil))) (pss_one (ps_if (pt_not (pt_val (pe_c c_arePushes hr (by decide) rfl (pa_cons (pv 3) (pa_cons (pv 2) (pa_cons (pe_callB call_len_seq rfl T.len (by decide +kernel) (pa_cons (pv 1) pa_nil)) pa_nil)))))) (pss_one ps_never) pss_nil)))
      (pss_cons (ps_for PassesOwn.never rfl (pi_enumB rfl T.enumerate (pa_cons (pv 1) pa_nil)) (pg_tup rfl (pgs_cons (pg_name (i := 4) nd rfl (.inl rfl)) (pgs_cons (pg_name (i := 3) nd rfl (.inl rfl)) pgs_nil))) (pss_one (ps_for PassesOwn.never rfl (pi_range2 rfl T.range (pa_cons (pe_op op_add (pv 4) pe_int) (pa_cons (pe_callB call_len_seq rfl T.len (by decide +kernel) (pa_cons (pv 1) pa_nil)) pa_nil))) (pg_name (i := 5) nd rfl (.inl rfl)) (pss_one (ps_if (pt_cmpR op_ne (pe_cmpR op_eq (pe_ix ix_tup (pv 3) (pv 5) (fun _ _ => rfl)) pe_int (nomark _)) (pe_cmpR op_eq (pe_ix ix_tup (pe_ix ix_tup (pv 1) (pv 5) (fun _ _ => rfl)) (pv 4) (fun _ _ => rfl)) pe_int (nomark _)) (nomark _)) (pss_one ps_never) pss_nil)))))
      (pss_one (ps_fld (pv 0) (pv 1) rfl))))), ?_⟩
  refine ⟨_, rfl, _, _, _, _, _, rfl, .ty "tuple", .base (.tup e1), kTT, _, rfl, ?_⟩
  refine ⟨_, rfl, tp, _, rfl, .inr (SqT.of e1), _, _, rfl, rfl, _, rfl, ?_⟩
  have hle : (decide ((1 : Int) ≤ ((ts.map V.ref).length : Nat))) = true := decide_eq_true (by rw [List.length_map, lt]; omega)
  have hle2 : (decide ((((ts.map V.ref).length : Nat) : Int) ≤ 8)) = true := decide_eq_true (by rw [List.length_map, lt]; omega)
  refine iteP hle ⟨_, _, rfl, rfl, _, rfl, iteN (by rw [hle2]; rfl) ?_⟩
  refine ⟨_, rfl, false, tp, _, rfl, SqT.of e1, ?_⟩
  refine for_it walk_enumB (fun i σ H' => ∃ x2 x3, σ = [some (.ref h), some (.ref tp), x2, x3, none, none] ∧ Same H H') ⟨none, none, rfl, Same.refl _⟩ (fun i σ H' _ p => by obtain ⟨_, _, _, s⟩ := p; exact SqT.of (s _ _ e1)) (fun i x σ H' H'' hi p y => ?_) (fun σ H' p => ?_)
  · obtain ⟨x2, x3, rfl, s⟩ := p
    obtain ⟨T', x, rfl, hT, rfl, hx⟩ := y
    obtain ⟨a, rfl, hiM, ha, hlen, hmem⟩ := rowAt i x hx
    have s4 := s.trans (sameUpd (o := HO.tup [V.int (i : Nat), V.ref a]) hT)
    refine ⟨_, _, rfl, SqT.of upd_same, rfl, _, _, rfl, _, _, rfl, rfl, ?_⟩
    refine ⟨_, rfl, _, rfl, _, rfl, tp, _, rfl, .inr (SqT.of (s4 _ _ e1)), ?_⟩
    refine ⟨a, M.getD i [], i, M.length, (by rw [List.length_map, lt]; rfl), s4 _ _ ha, hlen, hiM, by omega, S.num _ hmem, HM.diag i hiM, fun H5 s5 => ⟨_, rfl, iteN rfl ?_⟩⟩
    exact ⟨_, _, rfl, s4.trans s5⟩
  obtain ⟨x2, x3, rfl, s⟩ := p
  refine ⟨_, rfl, false, tp, _, rfl, SqT.of (s _ _ e1), ?_⟩
  refine for_it walk_enumB (fun i σ H' => ∃ x3 x4 x5, σ = [some (.ref h), some (.ref tp), x2, x3, x4, x5] ∧ Same H H') ⟨x3, none, none, rfl, s⟩ (fun i σ H' _ p => by obtain ⟨_, _, _, _, s⟩ := p; exact SqT.of (s _ _ e1)) (fun i x σ H' H'' hi p y => ?_) (fun σ H' p => ?_)
  · obtain ⟨x3, x4, x5, rfl, s⟩ := p
    obtain ⟨T', x, rfl, hT, rfl, hx⟩ := y
    obtain ⟨a, rfl, hiM, ha, hlen, hmem⟩ := rowAt i x hx
    have s4 := s.trans (sameUpd (o := HO.tup [V.int (i : Nat), V.ref a]) hT)
    refine ⟨_, _, rfl, SqT.of upd_same, rfl, _, _, rfl, _, _, rfl, rfl, ?_⟩
    refine ⟨_, rfl, _, _, rfl, rfl, _, rfl, tp, _, rfl, .inr (SqT.of (s4 _ _ e1)), _, _, rfl, ⟨by omega, by omega, by omega, by rw [List.length_map, lt]; omega⟩, ?_⟩
    have hn : ((((ts.map V.ref).length : Nat) : Int) - (((i : Nat) : Int) + 1)).toNat = M.length - (i + 1) := by rw [List.length_map, lt]; omega
    rw [hn]
    refine for_it walk_range (fun _ σ H' => ∃ x5, σ = [some (.ref h), some (.ref tp), x2, some (.ref a), some (.int (i : Nat)), x5] ∧ Same H H') ⟨x5, rfl, s4⟩ (fun _ _ _ _ _ => True.intro) (fun j z σ H5 H6 hj p y => ?_) (fun σ H5 p => ?_)
    · obtain ⟨x5, rfl, s5⟩ := p
      obtain ⟨rfl, rfl⟩ := y
      have ej : (((i : Nat) : Int) + 1 + ((j : Nat) : Int)) = ((i + 1 + j : Nat) : Int) := by omega
      have hjM : i + 1 + j < M.length := by omega
      have hts : i + 1 + j < (ts.map V.ref).length := by rw [List.length_map, lt]; exact hjM
      obtain ⟨b, hb, _, hbH, hblen, _⟩ := rowAt (i + 1 + j) _ (List.getElem?_eq_getElem hts)
      refine ⟨_, rfl, _, rfl, a, _, _, .int ((M.getD i []).getD (i + 1 + j) 0), rfl, rfl, SqT.of (s5 _ _ ha), ?_, rfl, ?_⟩
      · show atI _ (((i : Nat) : Int) + 1 + ((j : Nat) : Int)) = _
        rw [ej]
        exact atI_nat (at_ints (by omega))
      refine ⟨_, rfl, _, rfl, tp, _, _, .ref b, rfl, rfl, SqT.of (s5 _ _ e1), ?_, ?_⟩
      · show atI _ (((i : Nat) : Int) + 1 + ((j : Nat) : Int)) = _
        rw [ej]
        exact atI_nat (by rw [List.getElem?_eq_getElem hts, hb])
      refine ⟨_, rfl, b, _, _, .int ((M.getD (i + 1 + j) []).getD i 0), rfl, rfl, SqT.of (s5 _ _ hbH), atI_nat (at_ints (i := i) (by omega)), rfl, rfl, _, rfl, ?_⟩
      have hs := HM.sym i (i + 1 + j) hiM hjM
      refine iteN ?_ ⟨_, rfl, s5⟩
      rw [dec_int, dec_int, dec_bl]
      have k1 : ((M.getD i []).getD (i + 1 + j) 0 == 0) = decide ((M.getD i []).getD (i + 1 + j) 0 = 0) := rfl
      have k2 : ((M.getD (i + 1 + j) []).getD i 0 == 0) = decide ((M.getD (i + 1 + j) []).getD i 0 = 0) := rfl
      rw [k1, k2, hs]
      simp
    · obtain ⟨x5, rfl, s5⟩ := p
      exact ⟨_, _, _, rfl, s5⟩
  obtain ⟨x3, x4, x5, rfl, s⟩ := p
  exact ⟨_, rfl, _, rfl, h, C, dx, [], rfl, s _ _ eh, T.cl, T.nT, by decide, q _ _ s rfl⟩
end
end Kal

set_option Elab.async false
set_option linter.all false
set_option maxRecDepth 100000
set_option maxHeartbeats 4000000
/-! KD14: _law_taken, _law_pick. -/
namespace Kal
open PySem PySem.Spec PyProof.Rows L2 SX C8
/-- the law's row at r -/
def RowAt (K : PySem.W.Frag) (r sc : Addr) (H : Hp) : Prop := ∃ (ns : List Int) (i st car : Int), (sc ≠ r ∨ ∀ H', SqL K H' sc (ns.map V.int)) ∧ H r = some (.lst [.ref sc, .int i, .int st, .int car]) ∧ SqL K H sc (ns.map V.int) ∧ 0 ≤ i ∧ 0 ≤ st ∧ st < 2147483647
theorem butSeq {K : PySem.W.Frag} {r a : Addr} {H H' : Hp} {xs : List V} (s : But r H H') (ne : a ≠ r) (h : SqL K H a xs) : SqL K H' a xs := by
  rcases h with (h | ⟨o, h⟩) | h
  · exact .inl (.inl (s _ _ ne h))
  · exact .inl (.inr ⟨o, s _ _ ne h⟩)
  · exact .inr h
theorem butSeqO {K : PySem.W.Frag} {r a : Addr} {H H' : Hp} {xs : List V} (s : But r H H') (ne : a ≠ r ∨ ∀ H', SqL K H' a xs) (h : SqL K H a xs) : SqL K H' a xs := by
  rcases ne with ne | ne
  · exact butSeq s ne h
  · exact ne _
theorem RowAt.same {K : PySem.W.Frag} {r sc : Addr} {H H' : Hp} (s : Same H H') (h : RowAt K r sc H) : RowAt K r sc H' := by
  obtain ⟨ns, i, st, car, ne, e, q, z⟩ := h
  exact ⟨ns, i, st, car, ne, s _ _ e, Same.seq s q, z⟩
theorem RowAt.put {K : PySem.W.Frag} {r : Addr} {H : Hp} {sc : Addr} {ns : List Int} {i st car : Int} (ne : sc ≠ r ∨ ∀ H', SqL K H' sc (ns.map V.int)) (q : SqL K H sc (ns.map V.int)) (h1 : 0 ≤ i) (h2 : 0 ≤ st) (h3 : st < 2147483647) :
    RowAt K r sc (upd H r (.lst [.ref sc, .int i, .int st, .int car])) := ⟨ns, i, st, car, ne, upd_same, butSeqO But.upd ne q, h1, h2, h3⟩
theorem But.refl (r : Addr) (H : Hp) : But r H H := fun _ _ _ e => e
theorem RowAt.keep {K : PySem.W.Frag} {r sc D : Addr} {H0 H : Hp} {o : HO} (h0 : RowAt K r sc H0) (h : RowAt K r sc H) (hD : H0 D = none) : RowAt K r sc (upd H D o) := by
  obtain ⟨ns0, i0, st0, car0, _, e0, q0, _⟩ := h0
  obtain ⟨ns, i, st, car, ne, e, q, z⟩ := h
  have er : (upd H D o) r = some (.lst [.ref sc, .int i, .int st, .int car]) := by rw [upd_ne (ne_of_none e0 hD)]; exact e
  rcases q0 with (q1 | ⟨o1, q1⟩) | q1
  · exact ⟨ns, i, st, car, ne, er, butSeq (But.upd (D := D)) (ne_of_none q1 hD) q, z⟩
  · exact ⟨ns, i, st, car, ne, er, butSeq (But.upd (D := D)) (ne_of_none q1 hD) q, z⟩
  · exact ⟨ns0, i, st, car, .inr (fun _ => .inr q1), er, .inr q1, z⟩
theorem butOfBut {D r : Addr} {H H1 H2 : Hp} (a : But r H H1) (hn : H D = none) (b : But D H1 H2) : But r H H2 := fun c o ne e => b c o (ne_of_none e hn) (a c o ne e)
theorem But.same {r : Addr} {H H1 H2 : Hp} (a : But r H H1) (b : Same H1 H2) : But r H H2 := fun c o ne e => b c o (a c o ne e)
def spTaken (K : PySem.W.Frag) : Sp := fun vs H Q _ => ∃ (r sc : Addr) (many : Nat), vs = [.ref r, .int (many : Nat)] ∧ 1 ≤ many ∧ many ≤ 1000 ∧ RowAt K r sc H ∧ ∀ H' (k : Nat), k < many → But r H H' → RowAt K r sc H' → Q (.int (k : Nat)) H'
def spPick (K : PySem.W.Frag) : Sp := fun vs H Q _ => ∃ (r sc a : Addr) (xs : List V), vs = [.ref r, .ref a] ∧ SqL K H a xs ∧ (∀ H', But r H H' → SqL K H' a xs) ∧ 1 ≤ xs.length ∧ xs.length ≤ 1000 ∧ RowAt K r sc H ∧ ∀ H' x, x ∈ xs → But r H H' → RowAt K r sc H' → Q x H'
theorem modN (a : Int) {many : Nat} (h : 1 ≤ many) : ∃ k : Nat, k < many ∧ a % ((many : Nat) : Int) = (k : Nat) := by
  have h1 := Int.emod_nonneg a (show ((many : Nat) : Int) ≠ 0 by omega)
  have h2 := Int.emod_lt_of_pos a (show (0 : Int) < ((many : Nat) : Int) by omega)
  exact ⟨(a % ((many : Nat) : Int)).toNat, by omega, by omega⟩
theorem modS (a : Int) : 0 ≤ a % 2147483647 ∧ a % 2147483647 < 2147483647 := ⟨Int.emod_nonneg a (by decide), Int.emod_lt_of_pos a (by decide)⟩
section
variable {P : Program} {w : World} {K : PySem.W.Frag} {mg : Str → Option Value} {base : Heap} {C : Addr}
abbrev nLTaken : List Str := ["_law_row", "_law_many", "_law_found", "_law_cell"]
theorem scLTaken : FnScope nLTaken ["_law_row", "_law_many"] (defScope sDLTaken) := ⟨rfl, rfl, rfl, by decide +kernel, rfl, by decide +kernel, by decide +kernel⟩
theorem c_lTaken (T : Txt K mg C) (F : Fn K mg "_law_taken" "_law_taken" sDLTaken ["_law_row", "_law_many"])  : Cal P w K mg base 1 "_law_taken" (spTaken K) [] := by
  refine F.cal scLTaken (fun vs H Q E h => by obtain ⟨_, _, _, rfl, _⟩ := h; rfl) (fun cdv A outer s f H vs Q E hr h => ?_)
  have nd := scLTaken.nd
  obtain ⟨r, sc, many, rfl, hm1, hm2, ⟨ns, i, st, car, ne, er, hs, hi, h0, h1⟩, q⟩ := h
  have hpos : (0 : Int) < ((many : Nat) : Int) := by omega
  refine ⟨_, (pss_cons (ps_if (pt_cmpR op_gt (pe_ix ix_list (pv 0) pe_int (fun _ _ => rfl)) pe_int (nomark _)) (pss_cons (ps_set (i := 2) nd rfl (.inl rfl) (pe_op op_mod (pe_callTy call_int1 rfl T.int (by decide +kernel) (pa_cons (pe_ix ix_list (pv 0) pe_int (fun _ _ => rfl)) pa_nil)) (pv 1)))
      (pss_cons (ps_asg (pe_op op_fdiv (pe_ix ix_list (pv 0) pe_int (fun _ _ => rfl)) (pv 1)) (pg_sub (pv 0) pe_int set_list))
      (pss_one (ps_ret (pv 2))))) pss_nil)
      (pss_cons (ps_asg (pe_op op_add (pe_ix ix_list (pv 0) pe_int (fun _ _ => rfl)) pe_int) (pg_sub (pv 0) pe_int set_list))
      (pss_cons (ps_if (pt_cmpR op_gt (pe_ix ix_list (pv 0) pe_int (fun _ _ => rfl)) (pe_callB call_len_seq rfl T.len (by decide +kernel) (pa_cons (pe_ix ix_list (pv 0) pe_int (fun _ _ => rfl)) pa_nil)) (nomark _)) (pss_cons (ps_asg (pe_op op_mod (pe_callTy call_int1 rfl T.int (by decide +kernel) (pa_cons (pe_op op_add (pe_op op_mul (pe_ix ix_list (pv 0) pe_int (fun _ _ => rfl)) pe_int) pe_int) pa_nil)) pe_int) (pg_sub (pv 0) pe_int set_list))
      (pss_one (ps_ret (pe_op op_mod (pe_callTy call_int1 rfl T.int (by decide +kernel) (pa_cons (pe_op op_fdiv (pe_ix ix_list (pv 0) pe_int (fun _ _ => rfl)) pe_int) pa_nil)) (pv 1))))) pss_nil)
      (pss_cons (ps_set (i := 3) nd rfl (.inl rfl) (pe_ix ix_list (pe_ix ix_list (pv 0) pe_int (fun _ _ => rfl)) (pe_op op_sub (pe_ix ix_list (pv 0) pe_int (fun _ _ => rfl)) pe_int) (fun _ _ => rfl)))
      (pss_cons (ps_asg (pe_op op_mod (pe_callTy call_int1 rfl T.int (by decide +kernel) (pa_cons (pe_op op_add (pe_op op_add (pe_op op_mul (pe_ix ix_list (pv 0) pe_int (fun _ _ => rfl)) pe_int) (pv 3)) pe_int) pa_nil)) pe_int) (pg_sub (pv 0) pe_int set_list))
      (pss_cons (ps_if (pt_cmpR op_ge (pv 3) (pe_op op_pow pe_int pe_int) (nomark _)) (pss_one (ps_asg (pe_op op_fdiv (pv 3) (pv 1)) (pg_sub (pv 0) pe_int set_list))) pss_nil)
      (pss_one (ps_ret (pe_op op_mod (pe_callTy call_int1 rfl T.int (by decide +kernel) (pa_cons (pv 3) pa_nil)) (pv 1)))))))))), ?_⟩
  refine ⟨_, rfl, r, _, _, _, rfl, rfl, SqL.of er, atI_nat (j := 3) rfl, _, _, rfl, rfl, _, rfl, ?_⟩
  by_cases c1 : car > 0
  · refine iteP (decide_eq_true c1) ?_
    refine ⟨_, rfl, r, _, _, _, rfl, rfl, SqL.of er, atI_nat (j := 3) rfl, .inl ⟨_, rfl, _, rfl, _, _, rfl, rfl, hpos, ?_⟩⟩
    refine ⟨_, rfl, r, _, _, _, rfl, rfl, SqL.of er, atI_nat (j := 3) rfl, _, rfl, _, _, rfl, rfl, ⟨hpos, by omega⟩, ?_⟩
    refine ⟨_, rfl, r, _, _, 3, rfl, rfl, er, rfl, _, rfl, ?_⟩
    obtain ⟨k, hk, ek⟩ := modN car hm1
    show Q (.int (car % ((many : Nat) : Int))) _
    rw [ek]
    exact q _ k hk But.upd (RowAt.put ne hs hi h0 h1)
  · refine iteN (decide_eq_false c1) ?_
    refine ⟨_, rfl, r, _, _, _, rfl, rfl, SqL.of er, atI_nat (j := 1) rfl, _, _, rfl, rfl, ?_⟩
    refine ⟨_, rfl, r, _, _, 1, rfl, rfl, er, rfl, ?_⟩
    have b1 : But r H (upd H r (.lst [.ref sc, .int (i + 1), .int st, .int car])) := But.upd
    have e1 : (upd H r (.lst [.ref sc, .int (i + 1), .int st, .int car])) r = some (.lst [.ref sc, .int (i + 1), .int st, .int car]) := upd_same
    have hs1 := butSeqO b1 ne hs
    have hset : ([V.ref sc, .int i, .int st, .int car].set 1 (.int (i + 1))) = [.ref sc, .int (i + 1), .int st, .int car] := rfl
    rw [hset]
    generalize upd H r (.lst [.ref sc, .int (i + 1), .int st, .int car]) = H1 at *
    refine ⟨_, rfl, r, _, _, _, rfl, rfl, SqL.of e1, atI_nat (j := 1) rfl, ?_⟩
    refine ⟨_, rfl, r, _, _, _, rfl, rfl, SqL.of e1, atI_nat (j := 0) rfl, sc, _, rfl, .inl hs1, _, _, rfl, rfl, _, rfl, ?_⟩
    rw [List.length_map]
    by_cases c2 : i + 1 > (ns.length : Nat)
    · refine iteP (decide_eq_true c2) ?_
      refine ⟨_, rfl, r, _, _, _, rfl, rfl, SqL.of e1, atI_nat (j := 2) rfl, _, _, rfl, rfl, .inl (by omega), _, _, rfl, rfl, .inl ⟨_, rfl, _, _, rfl, rfl, (by show (0 : Int) < 2147483647; decide), ?_⟩⟩
      refine ⟨_, rfl, r, _, _, 2, rfl, rfl, e1, rfl, ?_⟩
      obtain ⟨m1, m2⟩ := modS (st * 48271 + 11)
      have b2 : But r H (upd H1 r (.lst [.ref sc, .int (i + 1), .int ((st * 48271 + 11) % 2147483647), .int car])) := b1.trans But.upd
      refine ⟨_, rfl, r, _, _, _, rfl, rfl, SqL.of upd_same, atI_nat (j := 2) rfl, _, _, rfl, rfl, ⟨by decide, by decide⟩, .inl ⟨_, rfl, _, rfl, _, _, rfl, rfl, hpos, ?_⟩⟩
      obtain ⟨k, hk, ek⟩ := modN ((st * 48271 + 11) % 2147483647 / 7) hm1
      show Q (.int ((st * 48271 + 11) % 2147483647 / 7 % ((many : Nat) : Int))) _
      rw [ek]
      exact q _ k hk b2 (RowAt.put ne hs1 (by omega) m1 m2)
    · refine iteN (decide_eq_false c2) ?_
      have hin : i.toNat < ns.length := by omega
      have ei : (i + 1) - 1 = ((i.toNat : Nat) : Int) := by omega
      refine ⟨_, rfl, r, _, _, _, rfl, rfl, SqL.of e1, atI_nat (j := 0) rfl, ?_⟩
      refine ⟨_, rfl, r, _, _, _, rfl, rfl, SqL.of e1, atI_nat (j := 1) rfl, _, _, rfl, rfl, ?_⟩
      refine ⟨sc, _, _, .int (ns.getD i.toNat 0), rfl, rfl, hs1, by rw [ei]; exact atI_nat (at_ints hin), ?_⟩
      generalize ns.getD i.toNat 0 = cell
      refine ⟨_, rfl, r, _, _, _, rfl, rfl, SqL.of e1, atI_nat (j := 2) rfl, _, _, rfl, rfl, .inl (by omega), _, rfl, _, _, rfl, rfl, _, _, rfl, rfl, .inl ⟨_, rfl, _, _, rfl, rfl, (by show (0 : Int) < 2147483647; decide), ?_⟩⟩
      refine ⟨_, rfl, r, _, _, 2, rfl, rfl, e1, rfl, ?_⟩
      obtain ⟨m1, m2⟩ := modS (st * 48271 + cell + 11)
      have b2 : But r H (upd H1 r (.lst [.ref sc, .int (i + 1), .int ((st * 48271 + cell + 11) % 2147483647), .int car])) := b1.trans But.upd
      have e2 : (upd H1 r (.lst [.ref sc, .int (i + 1), .int ((st * 48271 + cell + 11) % 2147483647), .int car])) r = some (.lst [.ref sc, .int (i + 1), .int ((st * 48271 + cell + 11) % 2147483647), .int car]) := upd_same
      have hs2 := butSeqO (But.upd (o := .lst [.ref sc, .int (i + 1), .int ((st * 48271 + cell + 11) % 2147483647), .int car])) ne hs1
      have hset2 : ([V.ref sc, .int (i + 1), .int st, .int car].set 2 (.int ((st * 48271 + cell + 11) % 2147483647))) = [.ref sc, .int (i + 1), .int ((st * 48271 + cell + 11) % 2147483647), .int car] := rfl
      rw [hset2]
      generalize upd H1 r (.lst [.ref sc, .int (i + 1), .int ((st * 48271 + cell + 11) % 2147483647), .int car]) = H2 at *
      refine ⟨_, rfl, _, _, rfl, rfl, ⟨by decide, by decide, by decide⟩, _, _, rfl, rfl, _, rfl, ?_⟩
      obtain ⟨k, hk, ek⟩ := modN cell hm1
      refine ite2 (fun _ => ?_) (fun _ => ?_)
      · refine ⟨_, rfl, _, rfl, _, _, rfl, rfl, ⟨hpos, by omega⟩, ?_⟩
        refine ⟨_, rfl, r, _, _, 3, rfl, rfl, e2, rfl, ?_⟩
        refine ⟨_, rfl, .inl ⟨_, rfl, _, rfl, _, _, rfl, rfl, hpos, ?_⟩⟩
        show Q (.int (cell % ((many : Nat) : Int))) _
        rw [ek]
        exact q _ k hk (b2.trans But.upd) (RowAt.put ne hs2 (by omega) m1 m2)
      · refine ⟨_, rfl, .inl ⟨_, rfl, _, rfl, _, _, rfl, rfl, hpos, ?_⟩⟩
        show Q (.int (cell % ((many : Nat) : Int))) _
        rw [ek]
        exact q _ k hk b2 ⟨ns, _, _, _, ne, e2, hs2, by omega, m1, m2⟩
abbrev nLPick : List Str := ["_law_row", "_law_some"]
theorem scLPick : FnScope nLPick ["_law_row", "_law_some"] (defScope sDLPick) := ⟨rfl, rfl, rfl, by decide +kernel, rfl, by decide +kernel, by decide +kernel⟩
theorem c_lPick (T : Txt K mg C) (F : Fn K mg "_law_pick" "_law_pick" sDLPick ["_law_row", "_law_some"]) (c_lTaken : Cal P w K mg base 1 "_law_taken" (spTaken K) []) : Cal P w K mg base 2 "_law_pick" (spPick K) [] := by
  refine F.cal scLPick (fun vs H Q E h => by obtain ⟨_, _, _, _, rfl, _⟩ := h; rfl) (fun cdv A outer s f H vs Q E hr h => ?_)
  have nd := scLPick.nd
  obtain ⟨r, sc, a, xs, rfl, hs, hs2, h1, h2, hr1, q⟩ := h
  refine ⟨_, (pss_one (ps_ret (pe_ix ix_list (pv 1) (pe_c c_lTaken hr (by decide) rfl (pa_cons (pv 0) (pa_cons (pe_callB call_len_seq rfl T.len (by decide +kernel) (pa_cons (pv 1) pa_nil)) pa_nil))) (fun _ _ => rfl)))), ?_⟩
  refine ⟨_, rfl, _, rfl, _, rfl, a, xs, rfl, .inl hs, r, sc, xs.length, rfl, h1, h2, hr1, fun H' k hk b rr => ?_⟩
  refine ⟨a, xs, _, xs[k], rfl, rfl, hs2 _ b, atI_nat (List.getElem?_eq_getElem hk), q _ _ (List.getElem_mem hk) b rr⟩
end
end Kal

set_option Elab.async false
set_option linter.all false
set_option maxRecDepth 100000
set_option maxHeartbeats 4000000
/-! KD15: _law_alike, on equal values. -/
namespace Kal
open PySem PySem.Spec PyProof.Rows L2 SX C8
theorem kAny {K : PySem.W.Frag} {t a b : Value} {x y : Bool} (h1 : PySem.W.kitOne K t a = some x) (h2 : PySem.W.kitOne K t b = some y) : PySem.W.kitAny K t [a, b] = some (x || y) := by
  unfold PySem.W.kitAny
  rw [h1]
  cases x
  · show PySem.W.kitAny K t [b] = _
    unfold PySem.W.kitAny
    rw [h2]
    cases y <;> rfl
  · rfl
theorem kIL {K : PySem.W.Frag} : PySem.W.kitOne K (.type "int") (.type "list") = some false := kit_ty (by decide +kernel)
theorem kIS {K : PySem.W.Frag} : PySem.W.kitOne K (.type "int") (.type "str") = some false := kit_ty (by decide +kernel)
theorem kBS {K : PySem.W.Frag} : PySem.W.kitOne K (.type "bool") (.type "str") = some false := kit_ty (by decide +kernel)
/-- equal scalars -/
inductive Alk : V → V → Prop where
  | int (n : Int) : Alk (.int n) (.int n)
  | bl (b : Bool) : Alk (.bl b) (.bl b)
  | non : Alk .non .non
def spAlike0 : Sp := fun vs H Q _ => ∃ x y, vs = [x, y] ∧ Alk x y ∧ ∀ H', Same H H' → Q (.bl true) H'
def spAlike : Sp := fun vs H Q _ => ∃ x y, vs = [x, y] ∧ (Alk x y ∨ ∃ (a b : Addr) (ns : List Int), x = .ref a ∧ y = .ref b ∧ H a = some (.tup (ns.map V.int)) ∧ H b = some (.tup (ns.map V.int)) ∧ ns.length ≤ 1000) ∧ ∀ H', Same H H' → Q (.bl true) H'
def cls2 (a b : String) : Paired ClsV [.ty a, .ty b] [.type a, .type b] := .cons (.ty a) (.cons (.ty b) .nil)
section
variable {P : Program} {w : World} {K : PySem.W.Frag} {mg : Str → Option Value} {base : Heap} {C : Addr}
abbrev nLAlike : List Str := ["_law_found", "_law_due", "_law_k"]
theorem scLAlike : FnScope nLAlike ["_law_found", "_law_due"] (defScope sDLAlike) := ⟨rfl, rfl, rfl, by decide +kernel, rfl, by decide +kernel, by decide +kernel⟩
theorem c_lAlike0 (T : Txt K mg C) (F : Fn K mg "_law_alike" "_law_alike" sDLAlike ["_law_found", "_law_due"])  : Cal P w K mg base 1 "_law_alike" (spAlike0) [] := by
  refine F.cal scLAlike (fun vs H Q E h => by obtain ⟨_, _, rfl, _⟩ := h; rfl) (fun cdv A outer s f H vs Q E hr h => ?_)
  have nd := scLAlike.nd
  obtain ⟨x, y, rfl, al, q⟩ := h
  refine ⟨_, (pss_cons (ps_if (pt_val (pe_callB call_isiT rfl T.isinstance (by decide +kernel) (pa_cons (pv 1) (pa_cons (pe_tup (pa_cons (pe_bltn (v := .ty "tuple") (u := .type "tuple") rfl T.tuple (by decide +kernel) rfl) (pa_cons (pe_bltn (v := .ty "list") (u := .type "list") rfl T.list (by decide +kernel) rfl) pa_nil))) pa_nil)))) (pss_cons (ps_if (PW.pt (pw_or (pt_not (pt_val (pe_callB call_isiT rfl T.isinstance (by decide +kernel) (pa_cons (pv 0) (pa_cons (pe_tup (pa_cons (pe_bltn (v := .ty "tuple") (u := .type "tuple") rfl T.tuple (by decide +kernel) rfl) (pa_cons (pe_bltn (v := .ty "list") (u := .type "list") rfl T.list (by decide +kernel) rfl) pa_nil))) pa_nil))))) (pw_or1 (pt_cmpR op_ne (pe_callB call_isi rfl T.isinstance (by decide +kernel) (pa_cons (pv 0) (pa_cons (pe_bltn (v := .ty "list") (u := .type "list") rfl T.list (by decide +kernel) rfl) pa_nil))) (pe_callB call_isi rfl T.isinstance (by decide +kernel) (pa_cons (pv 1) (pa_cons (pe_bltn (v := .ty "list") (u := .type "list") rfl T.list (by decide +kernel) rfl) pa_nil))) (nomark _))))) (pss_one (ps_ret pe_bl)) pss_nil)
      (pss_cons (ps_if (pt_cmpR op_ne (pe_callB call_len_seq rfl T.len (by decide +kernel) (pa_cons (pv 0) pa_nil)) (pe_callB call_len_seq rfl T.len (by decide +kernel) (pa_cons (pv 1) pa_nil)) (nomark _)) (pss_one (ps_ret pe_bl)) pss_nil)
      (pss_one (ps_ret pe_never)))) pss_nil)
      (pss_cons (ps_if (PW.pt (pw_or (pt_cmpR op_isN (pv 1) pe_non (nomark _)) (pw_or1 (pt_val (pe_callB call_isi rfl T.isinstance (by decide +kernel) (pa_cons (pv 1) (pa_cons (pe_bltn (v := .ty "str") (u := .type "str") rfl T.str (by decide +kernel) rfl) pa_nil))))))) (pss_one (ps_ret (pe_and (pe_cmpR (op_eqD hr.units) (pv 0) (pv 1) (nomark _)) (pe_one (pe_cmpR op_eq (pe_callB call_isi rfl T.isinstance (by decide +kernel) (pa_cons (pv 0) (pa_cons (pe_bltn (v := .ty "str") (u := .type "str") rfl T.str (by decide +kernel) rfl) pa_nil))) (pe_callB call_isi rfl T.isinstance (by decide +kernel) (pa_cons (pv 1) (pa_cons (pe_bltn (v := .ty "str") (u := .type "str") rfl T.str (by decide +kernel) rfl) pa_nil))) (nomark _)))))) pss_nil)
      (pss_one (ps_ret (pe_and (pe_callB call_isi rfl T.isinstance (by decide +kernel) (pa_cons (pv 0) (pa_cons (pe_bltn (v := .ty "int") (u := .type "int") rfl T.int (by decide +kernel) rfl) pa_nil))) (pe_and (pe_cmpR op_eq (pe_callB call_isi rfl T.isinstance (by decide +kernel) (pa_cons (pv 0) (pa_cons (pe_bltn (v := .ty "bool") (u := .type "bool") rfl T.bool (by decide +kernel) rfl) pa_nil))) (pe_callB call_isi rfl T.isinstance (by decide +kernel) (pa_cons (pv 1) (pa_cons (pe_bltn (v := .ty "bool") (u := .type "bool") rfl T.bool (by decide +kernel) rfl) pa_nil))) (nomark _)) (pe_one (pe_cmpR (op_eqD hr.units) (pv 0) (pv 1) (nomark _))))))))), ?_⟩
  cases al with
  | int n =>
    refine ⟨_, rfl, small (n := 2) (by decide), fun t nt => ⟨_, t, _, _, _, _, rfl, upd_same, cls2 "tuple" "list", .base (.int n), kAny kIT kIL, _, rfl, iteN rfl ?_⟩⟩
    have s1 := sameUpd (o := HO.tup [.ty "tuple", .ty "list"]) nt
    refine ⟨_, rfl, rfl, _, rfl, iteN (by rfl) ?_⟩
    refine ⟨_, rfl, _, _, _, _, _, rfl, .ty "str", .base (.int n), kIS, _, rfl, iteN rfl ?_⟩
    refine ⟨_, rfl, _, _, _, _, _, rfl, .ty "int", .base (.int n), kII, _, rfl, iteP rfl ?_⟩
    refine ⟨_, rfl, _, _, _, _, _, rfl, .ty "bool", .base (.int n), kIB, _, rfl, _, _, _, _, _, rfl, .ty "bool", .base (.int n), kIB, rfl, _, rfl, iteP rfl ?_⟩
    refine ⟨_, rfl, _, rfl, _, _, .int n, .int n, rfl, rfl, ?_⟩
    have e : PyData.eqv (.int n) (.int n) = true := by rw [PyData.eqv]; exact beq_self_eq_true n
    rw [e]
    exact q _ s1
  | bl b =>
    refine ⟨_, rfl, small (n := 2) (by decide), fun t nt => ⟨_, t, _, _, _, _, rfl, upd_same, cls2 "tuple" "list", .base (.bl b), kAny kBT kBL, _, rfl, iteN rfl ?_⟩⟩
    have s1 := sameUpd (o := HO.tup [.ty "tuple", .ty "list"]) nt
    refine ⟨_, rfl, rfl, _, rfl, iteN (by rfl) ?_⟩
    refine ⟨_, rfl, _, _, _, _, _, rfl, .ty "str", .base (.bl b), kBS, _, rfl, iteN rfl ?_⟩
    refine ⟨_, rfl, _, _, _, _, _, rfl, .ty "int", .base (.bl b), kBI, _, rfl, iteP rfl ?_⟩
    refine ⟨_, rfl, _, _, _, _, _, rfl, .ty "bool", .base (.bl b), kBB, _, rfl, _, _, _, _, _, rfl, .ty "bool", .base (.bl b), kBB, rfl, _, rfl, iteP rfl ?_⟩
    refine ⟨_, rfl, _, rfl, _, _, .bl b, .bl b, rfl, rfl, ?_⟩
    have e : PyData.eqv (.bool b) (.bool b) = true := by rw [PyData.eqv]; exact beq_self_eq_true b
    rw [e]
    exact q _ s1
  | non =>
    refine ⟨_, rfl, small (n := 2) (by decide), fun t nt => ⟨_, t, _, _, _, _, rfl, upd_same, cls2 "tuple" "list", .base .non, kAny kNT kNL, _, rfl, iteN rfl ?_⟩⟩
    have s1 := sameUpd (o := HO.tup [.ty "tuple", .ty "list"]) nt
    refine ⟨_, rfl, rfl, _, rfl, iteP (by rfl) ?_⟩
    refine ⟨_, rfl, _, rfl, _, _, .non, .non, rfl, rfl, _, rfl, iteP (by rfl) ?_⟩
    refine ⟨_, rfl, _, _, _, _, _, rfl, .ty "str", .base .non, kNS, _, rfl, _, _, _, _, _, rfl, .ty "str", .base .non, kNS, rfl, ?_⟩
    exact q _ s1
theorem c_lAlike (T : Txt K mg C) (F : Fn K mg "_law_alike" "_law_alike" sDLAlike ["_law_found", "_law_due"]) (c_lAlike : Cal P w K mg base 1 "_law_alike" (spAlike0) []) : Cal P w K mg base 2 "_law_alike" (spAlike) [] := by
  refine F.cal scLAlike (fun vs H Q E h => by obtain ⟨_, _, rfl, _⟩ := h; rfl) (fun cdv A outer s f H vs Q E hr h => ?_)
  have nd := scLAlike.nd
  obtain ⟨x, y, rfl, al, q⟩ := h
  refine ⟨_, (pss_cons (ps_if (pt_val (pe_callB call_isiT rfl T.isinstance (by decide +kernel) (pa_cons (pv 1) (pa_cons (pe_tup (pa_cons (pe_bltn (v := .ty "tuple") (u := .type "tuple") rfl T.tuple (by decide +kernel) rfl) (pa_cons (pe_bltn (v := .ty "list") (u := .type "list") rfl T.list (by decide +kernel) rfl) pa_nil))) pa_nil)))) (pss_cons (ps_if (PW.pt (pw_or (pt_not (pt_val (pe_callB call_isiT rfl T.isinstance (by decide +kernel) (pa_cons (pv 0) (pa_cons (pe_tup (pa_cons (pe_bltn (v := .ty "tuple") (u := .type "tuple") rfl T.tuple (by decide +kernel) rfl) (pa_cons (pe_bltn (v := .ty "list") (u := .type "list") rfl T.list (by decide +kernel) rfl) pa_nil))) pa_nil))))) (pw_or1 (pt_cmpR op_ne (pe_callB call_isi rfl T.isinstance (by decide +kernel) (pa_cons (pv 0) (pa_cons (pe_bltn (v := .ty "list") (u := .type "list") rfl T.list (by decide +kernel) rfl) pa_nil))) (pe_callB call_isi rfl T.isinstance (by decide +kernel) (pa_cons (pv 1) (pa_cons (pe_bltn (v := .ty "list") (u := .type "list") rfl T.list (by decide +kernel) rfl) pa_nil))) (nomark _))))) (pss_one (ps_ret pe_bl)) pss_nil)
      (pss_cons (ps_if (pt_cmpR op_ne (pe_callB call_len_seq rfl T.len (by decide +kernel) (pa_cons (pv 0) pa_nil)) (pe_callB call_len_seq rfl T.len (by decide +kernel) (pa_cons (pv 1) pa_nil)) (nomark _)) (pss_one (ps_ret pe_bl)) pss_nil)
      (pss_one (ps_ret (pe_cmpR (op_eqD hr.units) (pe_lc (own := [("_law_k", 2)]) (g := (gName 2)) rfl nd (pi_range1 rfl T.range (pa_cons (pe_callB call_len_seq rfl T.len (by decide +kernel) (pa_cons (pv 1) pa_nil)) pa_nil)) (blkOk_by (own := [("_law_k", 2)]) (N := nLAlike) (sc := (defScope sDLAlike)) (by decide +kernel)) (fun _ _ _ _ _ => (pg_name (i := 2) nd rfl (.inl rfl))) (fun _ _ _ _ _ => (pts_one (pt_not (pt_val (pe_c c_lAlike hr (by decide) rfl (pa_cons (pe_ix (ix_tupK (K := K) rfl) (pv 0) (pv 2) (fun _ _ => rfl)) (pa_cons (pe_ix (ix_tupK (K := K) rfl) (pv 1) (pv 2) (fun _ _ => rfl)) pa_nil))))))) (fun _ _ _ _ _ => (pv 2))) (pe_lst pa_nil) (nomark _)))))) pss_nil)
      (pss_cons (ps_if (PW.pt (pw_or (pt_cmpR op_isN (pv 1) pe_non (nomark _)) (pw_or1 (pt_val (pe_callB call_isi rfl T.isinstance (by decide +kernel) (pa_cons (pv 1) (pa_cons (pe_bltn (v := .ty "str") (u := .type "str") rfl T.str (by decide +kernel) rfl) pa_nil))))))) (pss_one (ps_ret (pe_and (pe_cmpR (op_eqD hr.units) (pv 0) (pv 1) (nomark _)) (pe_one (pe_cmpR op_eq (pe_callB call_isi rfl T.isinstance (by decide +kernel) (pa_cons (pv 0) (pa_cons (pe_bltn (v := .ty "str") (u := .type "str") rfl T.str (by decide +kernel) rfl) pa_nil))) (pe_callB call_isi rfl T.isinstance (by decide +kernel) (pa_cons (pv 1) (pa_cons (pe_bltn (v := .ty "str") (u := .type "str") rfl T.str (by decide +kernel) rfl) pa_nil))) (nomark _)))))) pss_nil)
      (pss_one (ps_ret (pe_and (pe_callB call_isi rfl T.isinstance (by decide +kernel) (pa_cons (pv 0) (pa_cons (pe_bltn (v := .ty "int") (u := .type "int") rfl T.int (by decide +kernel) rfl) pa_nil))) (pe_and (pe_cmpR op_eq (pe_callB call_isi rfl T.isinstance (by decide +kernel) (pa_cons (pv 0) (pa_cons (pe_bltn (v := .ty "bool") (u := .type "bool") rfl T.bool (by decide +kernel) rfl) pa_nil))) (pe_callB call_isi rfl T.isinstance (by decide +kernel) (pa_cons (pv 1) (pa_cons (pe_bltn (v := .ty "bool") (u := .type "bool") rfl T.bool (by decide +kernel) rfl) pa_nil))) (nomark _)) (pe_one (pe_cmpR (op_eqD hr.units) (pv 0) (pv 1) (nomark _))))))))), ?_⟩
  rcases al with al | ⟨a, b, ns, rfl, rfl, ha, hb, hl⟩
  · cases al with
    | int n =>
      refine ⟨_, rfl, small (n := 2) (by decide), fun t nt => ⟨_, t, _, _, _, _, rfl, upd_same, cls2 "tuple" "list", .base (.int n), kAny kIT kIL, _, rfl, iteN rfl ?_⟩⟩
      have s1 := sameUpd (o := HO.tup [.ty "tuple", .ty "list"]) nt
      refine ⟨_, rfl, rfl, _, rfl, iteN (by rfl) ?_⟩
      refine ⟨_, rfl, _, _, _, _, _, rfl, .ty "str", .base (.int n), kIS, _, rfl, iteN rfl ?_⟩
      refine ⟨_, rfl, _, _, _, _, _, rfl, .ty "int", .base (.int n), kII, _, rfl, iteP rfl ?_⟩
      refine ⟨_, rfl, _, _, _, _, _, rfl, .ty "bool", .base (.int n), kIB, _, rfl, _, _, _, _, _, rfl, .ty "bool", .base (.int n), kIB, rfl, _, rfl, iteP rfl ?_⟩
      refine ⟨_, rfl, _, rfl, _, _, .int n, .int n, rfl, rfl, ?_⟩
      have e : PyData.eqv (.int n) (.int n) = true := by rw [PyData.eqv]; exact beq_self_eq_true n
      rw [e]
      exact q _ s1
    | bl b =>
      refine ⟨_, rfl, small (n := 2) (by decide), fun t nt => ⟨_, t, _, _, _, _, rfl, upd_same, cls2 "tuple" "list", .base (.bl b), kAny kBT kBL, _, rfl, iteN rfl ?_⟩⟩
      have s1 := sameUpd (o := HO.tup [.ty "tuple", .ty "list"]) nt
      refine ⟨_, rfl, rfl, _, rfl, iteN (by rfl) ?_⟩
      refine ⟨_, rfl, _, _, _, _, _, rfl, .ty "str", .base (.bl b), kBS, _, rfl, iteN rfl ?_⟩
      refine ⟨_, rfl, _, _, _, _, _, rfl, .ty "int", .base (.bl b), kBI, _, rfl, iteP rfl ?_⟩
      refine ⟨_, rfl, _, _, _, _, _, rfl, .ty "bool", .base (.bl b), kBB, _, rfl, _, _, _, _, _, rfl, .ty "bool", .base (.bl b), kBB, rfl, _, rfl, iteP rfl ?_⟩
      refine ⟨_, rfl, _, rfl, _, _, .bl b, .bl b, rfl, rfl, ?_⟩
      have e : PyData.eqv (.bool b) (.bool b) = true := by rw [PyData.eqv]; exact beq_self_eq_true b
      rw [e]
      exact q _ s1
    | non =>
      refine ⟨_, rfl, small (n := 2) (by decide), fun t nt => ⟨_, t, _, _, _, _, rfl, upd_same, cls2 "tuple" "list", .base .non, kAny kNT kNL, _, rfl, iteN rfl ?_⟩⟩
      have s1 := sameUpd (o := HO.tup [.ty "tuple", .ty "list"]) nt
      refine ⟨_, rfl, rfl, _, rfl, iteP (by rfl) ?_⟩
      refine ⟨_, rfl, _, rfl, _, _, .non, .non, rfl, rfl, _, rfl, iteP (by rfl) ?_⟩
      refine ⟨_, rfl, _, _, _, _, _, rfl, .ty "str", .base .non, kNS, _, rfl, _, _, _, _, _, rfl, .ty "str", .base .non, kNS, rfl, ?_⟩
      exact q _ s1
  · refine ⟨_, rfl, small (n := 2) (by decide), fun t nt => ⟨_, t, _, _, _, _, rfl, upd_same, cls2 "tuple" "list", .base (.tup (up hb nt)), kAny kTT kTL, _, rfl, iteP rfl ?_⟩⟩
    have s1 := sameUpd (o := HO.tup [.ty "tuple", .ty "list"]) nt
    refine ⟨_, rfl, small (n := 2) (by decide), fun t2 nt2 => ⟨_, t2, _, _, _, _, rfl, upd_same, cls2 "tuple" "list", .base (.tup (up (s1 _ _ ha) nt2)), kAny kTT kTL, _, rfl, ?_⟩⟩
    have s2 := s1.trans (sameUpd (o := HO.tup [.ty "tuple", .ty "list"]) nt2)
    refine ⟨_, rfl, _, _, _, _, _, rfl, .ty "list", .base (.tup (s2 _ _ ha)), kTL, _, rfl, _, _, _, _, _, rfl, .ty "list", .base (.tup (s2 _ _ hb)), kTL, rfl, _, rfl, iteN (by rfl) ?_⟩
    refine ⟨_, rfl, _, _, rfl, .inr (SqT.of (s2 _ _ ha)), _, rfl, _, _, rfl, .inr (SqT.of (s2 _ _ hb)), rfl, _, rfl, iteN (by simp) ?_⟩
    refine ⟨_, rfl, _, _, rfl, .inr (SqT.of (s2 _ _ hb)), _, rfl, by omega, by rw [List.length_map]; omega, fun D hD => ?_⟩
    refine lc_filt walk_range (fun _ => none) (fun i hi => by rw [List.length_map] at hi; omega) hD (fun _ _ => True.intro) (fun i z H' H'' hi s y M' N' h1 h2 => ?_) (fun H4 s4 f4 => ?_)
    · obtain ⟨rfl, rfl⟩ := y
      have hi2 : i < ns.length := by rw [List.length_map] at hi; omega
      have ez : ((0 : Int) + ((i : Nat) : Int)) = ((i : Nat) : Int) := by omega
      refine ⟨rfl, _, rfl, _, rfl, a, _, _, .int (ns.getD i 0), rfl, rfl, SqT.of ((s2.trans s) _ _ ha), ?_, ?_⟩
      · show atI _ ((0 : Int) + ((i : Nat) : Int)) = _
        rw [ez]; exact atI_nat (at_ints hi2)
      refine ⟨_, rfl, _, rfl, b, _, _, .int (ns.getD i 0), rfl, rfl, SqT.of ((s2.trans s) _ _ hb), ?_, ?_⟩
      · show atI _ ((0 : Int) + ((i : Nat) : Int)) = _
        rw [ez]; exact atI_nat (at_ints hi2)
      exact ⟨_, _, rfl, .int _, fun H5 s5 => ⟨_, rfl, iteN rfl (h2 rfl _ s5)⟩⟩
    · have f5 : H4 D = some (.lst (([] : List Int).map V.int)) := by
        rw [f4]
        refine congrArg (fun z => some (HO.lst z)) ?_
        simp
      refine ⟨small (n := 0) (by decide), fun p np => ⟨_, _, dpL (up f5 np), dpL (ns := []) upd_same, shaped_listI _, shaped_listI _, ?_⟩⟩
      rw [eqv_listI]
      exact q _ ((s2.trans s4).trans (sameUpd np))
end
end Kal

set_option Elab.async false
set_option linter.all false
set_option maxRecDepth 100000
set_option maxHeartbeats 4000000
/-! KD16: _law_press, _law_go, _law_beside. -/
namespace Kal
open PySem PySem.Spec PyProof.Rows L2 SX C8
def spPress : Sp := fun vs H Q _ => ∃ (pa : Addr) (M : List (List Int)) (a : Addr) (ns : List Int) (l : Nat), vs = [.ref pa, .ref a, .int (l : Nat)] ∧ MatAt H pa M ∧ SqM M ∧ H a = some (.tup (ns.map V.int)) ∧ ns.length = M.length ∧ l < M.length ∧
  ∀ H' p, Same H H' → H' p = some (.tup ((chg M ns l).map V.int)) → Q (.ref p) H'
def spLGo : Sp := fun vs H Q _ => ∃ (pa : Addr) (M : List (List Int)) (a : Addr) (ns : List Int) (wa : Addr) (ws : List Nat), vs = [.ref pa, .ref a, .ref wa] ∧ MatAt H pa M ∧ SqM M ∧ H a = some (.tup (ns.map V.int)) ∧ ns.length = M.length ∧ H wa = some (.lst ((natI ws).map V.int)) ∧ (∀ x ∈ ws, x < M.length) ∧
  ∀ H' q, Same H H' → H' q = some (.tup ((goW M ns ws).map V.int)) → Q (.ref q) H'
/-- rows of ints: a list of lists -/
def LMatAt (H : Hp) (p : Addr) (M : List (List Int)) : Prop := ∃ ts : List Addr, H p = some (.lst (ts.map V.ref)) ∧ Paired (fun t (row : List Int) => H t = some (.lst (row.map V.int))) ts M
theorem LMatAt.same {H H' : Hp} {p : Addr} {M : List (List Int)} (s : Same H H') (h : LMatAt H p M) : LMatAt H' p M := by
  obtain ⟨ts, e, r⟩ := h
  exact ⟨ts, s _ _ e, Paired.mono (fun _ _ q => s _ _ q) r⟩
def beside (A B : List (List Int)) : List (List Int) := (A.map fun r => r ++ List.replicate B.length 0) ++ (B.map fun r => List.replicate A.length 0 ++ r)
def spBeside : Sp := fun vs H Q _ => ∃ (a b : Addr) (A B : List (List Int)), vs = [.ref a, .ref b] ∧ LMatAt H a A ∧ LMatAt H b B ∧ A.length ≤ 8 ∧ B.length ≤ 8 ∧ (∀ r ∈ A, r.length ≤ 8) ∧ (∀ r ∈ B, r.length ≤ 8) ∧
  ∀ H' p, Same H H' → LMatAt H' p (beside A B) → Q (.ref p) H'
theorem paired_app {α β : Type} {F : α → β → Prop} : ∀ {a b : List α} {c d : List β}, Paired F a c → Paired F b d → Paired F (a ++ b) (c ++ d)
  | _, _, _, _, .nil, h => h
  | _, _, _, _, .cons r t, h => .cons r (paired_app t h)
theorem paired_single {α β : Type} {F : α → β → Prop} {a : α} {b : β} (h : F a b) : Paired F [a] [b] := .cons h .nil
theorem paired_monoM {α β : Type} {F G : α → β → Prop} : ∀ {l : List α} {m : List β}, (∀ a ∈ l, ∀ b, F a b → G a b) → Paired F l m → Paired G l m
  | _, _, _, .nil => .nil
  | _, _, h, .cons r t => .cons (h _ List.mem_cons_self _ r) (paired_monoM (fun a ha => h a (List.mem_cons_of_mem _ ha)) t)
/-- a comprehension whose items are fresh sequences of ints -/
theorem lc_rows {J : It} {n : Nat} {G : Hp → Prop} {Y : Nat → Hp → V → Hp → Prop} (mk : List V → HO) (w : Walk J n G Y) (F : Nat → List Int) (hn : n ≤ 1000) {g : TG} {te : TE} {vs : List Nat} {σ : L2.St} {H1 : Hp} {D : Addr} {Qd : Hp → Prop} (hD : H1 D = none)
    (hG : ∀ H, Same H1 H → G H)
    (hs : ∀ i x H H', i < n → Same H1 H → Y i H x H' → ∀ (M : V → Hp → Prop), (∀ H4 t, Same H H4 → H t = none → H4 t = some (mk ((F i).map V.int)) → M (.ref t) H4) →
      g x (wipe σ vs) H' fun σ2 H2 => wipe σ2 vs = wipe σ vs ∧ te σ2 H2 M)
    (hd : ∀ H ts, Same H1 H → H D = some (.lst (ts.map V.ref)) → ts.Nodup → (∀ t ∈ ts, t ≠ D ∧ H1 t = none) → Paired (fun t (row : List Int) => H t = some (mk (row.map V.int))) ts ((List.range n).map F) → Qd H) :
    ∃ W : Nat → Nat → Hp → Prop, (∃ m, W 0 m (upd H1 D (.lst []))) ∧ ∀ i m H, W i m H →
      (J.stop i H ∧ Qd H) ∨ (J.go i H ∧ ∃ Nx : Hp → Prop, (∀ H', Nx H' → ∃ m', m' < m ∧ W (i + 1) m' H') ∧ ∀ x H', J.yld i H x H' → g x (wipe σ vs) H' fun σ2 H2 => wipe σ2 vs = wipe σ vs ∧ tYes σ2 H2 fun b H3 =>
        if b = true then te σ2 H3 fun y H4 => ∃ acc, H4 D = some (.lst acc) ∧ acc.length < sizeLine ∧ Nx (upd H4 D (.lst (acc ++ [y]))) else Nx H3) := by
  refine lc_it w (fun i H => Same H1 H ∧ ∃ ts : List Addr, H D = some (.lst (ts.map V.ref)) ∧ ts.Nodup ∧ (∀ t ∈ ts, t ≠ D ∧ H1 t = none) ∧ Paired (fun t (row : List Int) => H t = some (mk (row.map V.int))) ts ((List.range i).map F))
    ⟨sameUpd hD, [], upd_same, List.nodup_nil, (fun t h => by cases h), Paired.nil⟩ (fun i H _ p => hG H p.1) (fun i x H H' hi p y => ?_) (fun H p => ?_)
  · obtain ⟨s, ts, e, nd, ne, pr⟩ := p
    refine hs i x H H' hi s y _ (fun H4 t s4 ht e4 => ?_)
    have lts : ts.length = i := by rw [Paired.length pr, List.length_map, List.length_range]
    have hmem : ∀ a ∈ ts, ∃ o, H a = some o := by
      have : ∀ {l : List Addr} {m : List (List Int)}, Paired (fun t (row : List Int) => H t = some (mk (row.map V.int))) l m → ∀ a ∈ l, ∃ o, H a = some o := by
        intro l m h
        induction h with
        | nil => intro a ha; cases ha
        | cons r _ ih =>
          intro a ha
          rcases List.mem_cons.mp ha with z | z
          · exact ⟨_, z ▸ r⟩
          · exact ih a z
      exact this pr
    have tD : t ≠ D := by
      intro z
      rw [z, e] at ht
      cases ht
    refine ⟨_, s4 _ _ e, by rw [List.length_map, lts]; exact smallLt (by omega), sameOfBut (s.trans s4) hD But.upd, ts ++ [t], by rw [upd_same, List.map_append]; rfl, ?_, fun a ha => ?_, ?_⟩
    · refine List.nodup_append.mpr ⟨nd, List.nodup_cons.mpr ⟨(fun h => by cases h), List.nodup_nil⟩, fun a ha b hb => ?_⟩
      rw [List.mem_singleton.mp hb]
      intro z
      obtain ⟨o, ho⟩ := hmem a ha
      rw [z, ht] at ho
      cases ho
    · rcases List.mem_append.mp ha with h | h
      · exact ne a h
      · rw [List.mem_singleton.mp h]
        exact ⟨tD, s.free ht⟩
    · rw [List.range_succ, List.map_append]
      refine paired_app (paired_monoM (fun a ha b h => ?_) pr) (paired_single ?_)
      · rw [upd_ne (ne a ha).1]
        exact s4 _ _ h
      · rw [upd_ne tD]
        exact e4
  · obtain ⟨s, ts, e, nd, ne, pr⟩ := p
    exact hd H ts s e nd ne pr
theorem range_map_get {α β : Type} (l : List α) (d : α) (f : α → β) : (List.range l.length).map (fun i => f (l.getD i d)) = l.map f := by
  refine List.ext_getElem (by simp) fun i h1 h2 => ?_
  have a1 : i < l.length := by simpa using h1
  simp [List.getD_eq_getElem?_getD, a1]
section
variable {P : Program} {w : World} {K : PySem.W.Frag} {mg : Str → Option Value} {base : Heap} {C : Addr}
abbrev nLPress : List Str := ["_law_pushes", "_law_numbers", "_law_lamp", "_law_found", "_law_at"]
theorem scLPress : FnScope nLPress ["_law_pushes", "_law_numbers", "_law_lamp"] (defScope sDLPress) := ⟨rfl, rfl, rfl, by decide +kernel, rfl, by decide +kernel, by decide +kernel⟩
theorem c_lPress (T : Txt K mg C) (F : Fn K mg "_law_press" "_law_press" sDLPress ["_law_pushes", "_law_numbers", "_law_lamp"])  : Cal P w K mg base 1 "_law_press" (spPress) [] := by
  refine F.cal scLPress (fun vs H Q E h => by obtain ⟨_, _, _, _, _, rfl, _⟩ := h; rfl) (fun cdv A outer s f H vs Q E hr h => ?_)
  have nd := scLPress.nd
  obtain ⟨pa, M, a, ns, l, rfl, mt, S, ha, hl, hlt, q⟩ := h
  have h8 := S.most
  obtain ⟨row, er, el, eb⟩ := S.at hlt
  obtain ⟨ts, t, e1, e2, e3⟩ := mt.row er
  refine ⟨_, (pss_cons (ps_setLc (i := 3) (own := [("_law_at", 4)]) (g := (gName 4)) rfl nd rfl rfl (sw_true rfl rfl rfl (by decide +kernel)) (pi_range1 rfl T.range (pa_cons (pe_callB call_len_seq rfl T.len (by decide +kernel) (pa_cons (pv 1) pa_nil)) pa_nil)) (blkOk_by (own := [("_law_at", 4)]) (N := nLPress) (sc := (defScope sDLPress)) (by decide +kernel)) (fun _ _ _ _ _ => (pg_name (i := 4) nd rfl (.inl rfl))) (fun _ _ _ _ _ => pts_nil) (fun _ _ _ _ _ => (pe_op op_add (pe_ix (ix_tupK (K := K) rfl) (pv 1) (pv 4) (fun _ _ => rfl)) (pe_op op_mul (pe_ix (ix_tupK (K := K) rfl) (pe_ix (ix_tupK (K := K) rfl) (pv 0) (pv 2) (fun _ _ => rfl)) (pv 4) (fun _ _ => rfl)) (pe_ix (ix_tupK (K := K) rfl) (pv 1) (pv 2) (fun _ _ => rfl))))))
      (pss_cons (ps_asg (pe_op op_sub pe_int (pe_ix ix_tup (pv 1) (pv 2) (fun _ _ => rfl))) (pg_sub (pv 3) (pv 2) set_list))
      (pss_one (ps_ret (pe_callTy call_tuple_of rfl T.tuple (by decide +kernel) (pa_cons (pv 3) pa_nil)))))), ?_⟩
  refine ⟨_, rfl, a, _, rfl, .inr (SqT.of ha), _, rfl, by omega, by rw [List.length_map]; omega, fun D hD => ?_⟩
  refine lc_told walk_range (fun i => .int (ns.getD i 0 + row.getD i 0 * ns.getD l 0)) (by rw [List.length_map]; omega) hD (fun _ _ => True.intro) (fun i z H' H'' hi s y M' hM => ?_) (fun H2 s2 f2 => ?_)
  · obtain ⟨rfl, rfl⟩ := y
    have hi2 : i < ns.length := by rw [List.length_map] at hi; omega
    have ez : ((0 : Int) + ((i : Nat) : Int)) = ((i : Nat) : Int) := by omega
    have hb := S.getD (List.mem_of_getElem? er) i
    refine ⟨rfl, _, rfl, _, rfl, a, _, _, .int (ns.getD i 0), rfl, rfl, SqT.of (s _ _ ha), ?_, ?_⟩
    · show atI _ ((0 : Int) + ((i : Nat) : Int)) = _
      rw [ez]; exact atI_nat (at_ints hi2)
    refine ⟨_, rfl, _, rfl, pa, _, _, .ref t, rfl, rfl, SqT.of (s _ _ e1), atI_nat e2, ?_⟩
    refine ⟨_, rfl, t, _, _, .int (row.getD i 0), rfl, rfl, SqT.of (s _ _ e3), ?_, ?_⟩
    · show atI _ ((0 : Int) + ((i : Nat) : Int)) = _
      rw [ez]; exact atI_nat (at_ints (by omega))
    refine ⟨_, rfl, _, rfl, a, _, _, .int (ns.getD l 0), rfl, rfl, SqT.of (s _ _ ha), atI_nat (at_ints (by omega)), _, _, rfl, rfl, .inl (by omega), _, _, rfl, rfl, hM _ (Same.refl _)⟩
  · have hn : (((ns.map V.int).length : Nat) : Int).toNat = ns.length := by rw [List.length_map]; omega
    rw [hn, map_rangeI, zip_range (by omega) fun n m => n + m * ns.getD l 0] at f2
    refine ⟨_, rfl, _, rfl, a, _, _, .int (ns.getD l 0), rfl, rfl, SqT.of (s2 _ _ ha), atI_nat (at_ints (by omega)), _, _, rfl, rfl, ?_⟩
    refine ⟨_, rfl, _, rfl, D, _, _, l, rfl, rfl, f2, ixN_at (by simp [hl, el]; omega), ?_⟩
    refine ⟨_, rfl, D, _, rfl, .inl ⟨SqL.of upd_same, fun p hp => ?_⟩⟩
    refine q _ p ((sameOfBut s2 hD But.upd).trans (sameUpd hp)) ?_
    rw [upd_same]
    refine congrArg (fun z => some (HO.tup z)) ?_
    unfold chg
    rw [List.map_set, List.getD_eq_getElem?_getD (l := M), er]
    show ((List.zipWith _ ns row).map V.int).set l (V.int (0 - ns.getD l 0)) = _
    rw [Int.zero_sub]
    rfl
abbrev nLGo : List Str := ["_law_pushes", "_law_room", "_law_word", "_law_lamp"]
theorem scLGo : FnScope nLGo ["_law_pushes", "_law_room", "_law_word"] (defScope sDLGo) := ⟨rfl, rfl, rfl, by decide +kernel, rfl, by decide +kernel, by decide +kernel⟩
theorem c_lGo (T : Txt K mg C) (F : Fn K mg "_law_go" "_law_go" sDLGo ["_law_pushes", "_law_room", "_law_word"]) (c_lPress : Cal P w K mg base 1 "_law_press" (spPress) []) : Cal P w K mg base 2 "_law_go" (spLGo) [] := by
  refine F.cal scLGo (fun vs H Q E h => by obtain ⟨_, _, _, _, _, _, rfl, _⟩ := h; rfl) (fun cdv A outer s f H vs Q E hr h => ?_)
  have nd := scLGo.nd
  obtain ⟨h, M, a, ns, wa, ws, rfl, mt, S, ha, hl, hw, hin, q⟩ := h
  refine ⟨_, (pss_cons (ps_for PassesOwn.never rfl (pi_list (pv 2)) (pg_name (i := 3) nd rfl (.inl rfl)) (pss_one (ps_set (i := 1) nd rfl (.inl rfl) (pe_c c_lPress hr (by decide) rfl (pa_cons (pv 0) (pa_cons (pv 1) (pa_cons (pv 3) pa_nil)))))))
      (pss_one (ps_ret (pv 1)))), ?_⟩
  refine ⟨_, rfl, _, rfl, ⟨_, SqL.of hw⟩, ?_⟩
  refine for_it walk_listN (fun i σ H' => ∃ x3 b, σ = [some (.ref h), some (.ref b), some (.ref wa), x3] ∧ Same H H' ∧ H' b = some (.tup ((goW M ns (ws.take i)).map V.int))) ⟨none, a, rfl, Same.refl _, by rw [List.take_zero]; exact ha⟩ (fun i σ H' _ p => by obtain ⟨_, _, _, s, _⟩ := p; exact SqL.of (s _ _ hw)) (fun i x σ H' H'' hi p y => ?_) (fun σ H' p => ?_)
  · obtain ⟨x3, b, rfl, s, e⟩ := p
    obtain ⟨rfl, rfl⟩ := y
    refine ⟨_, rfl, _, rfl, _, rfl, h, M, b, _, ws.getD i 0, rfl, mt.same s, S, e, ?_, getD_lt hin hi, fun H2 p2 s2 e2 => ⟨_, p2, rfl, s.trans s2, ?_⟩⟩
    · exact foldl_len (fun r l h1 h2 => chg_len S h1 h2) (fun x hx => hin x (List.mem_of_mem_take hx)) hl
    · rw [take_snoc hi, goW, List.foldl_append]
      exact e2
  · obtain ⟨x3, b, rfl, s, e⟩ := p
    rw [List.take_length] at e
    exact ⟨_, rfl, q _ b s e⟩
abbrev nLBeside : List Str := ["_law_one", "_law_other", "_law_found", "_law_own"]
theorem scLBeside : FnScope nLBeside ["_law_one", "_law_other"] (defScope sDLBeside) := ⟨rfl, rfl, rfl, by decide +kernel, rfl, by decide +kernel, by decide +kernel⟩
theorem c_lBeside (T : Txt K mg C) (F : Fn K mg "_law_beside" "_law_beside" sDLBeside ["_law_one", "_law_other"])  : Cal P w K mg base 1 "_law_beside" (spBeside) [] := by
  refine F.cal scLBeside (fun vs H Q E h => by obtain ⟨_, _, _, _, rfl, _⟩ := h; rfl) (fun cdv A outer s f H vs Q E hr h => ?_)
  have nd := scLBeside.nd
  obtain ⟨a, b, A, B, rfl, hA, hB, hA8, hB8, hAr, hBr, q⟩ := h
  obtain ⟨as, ea, pa⟩ := id hA
  obtain ⟨bs, eb, pb⟩ := id hB
  have la : as.length = A.length := Paired.length pa
  have lb : bs.length = B.length := Paired.length pb
  have rowAt : ∀ (ts : List Addr) (M : List (List Int)) (Hx : Hp), Paired (fun t (row : List Int) => Hx t = some (.lst (row.map V.int))) ts M → ∀ i x, (ts.map V.ref)[i]? = some x → ∃ t, x = .ref t ∧ Hx t = some (.lst ((M.getD i []).map V.int)) ∧ M.getD i [] ∈ M := fun ts M Hx pr i x hx => by
    have hi : i < M.length := by
      rw [← Paired.length pr]
      have := (List.getElem?_eq_some_iff.mp hx).1
      simpa using this
    obtain ⟨t, e2, e3⟩ := paired_get pr (List.getElem?_eq_getElem hi)
    rw [List.getElem?_map, e2] at hx
    have eg : M.getD i [] = M[i] := by rw [List.getD_eq_getElem?_getD, List.getElem?_eq_getElem hi]; rfl
    rw [eg]
    exact ⟨t, (Option.some.inj hx).symm, e3, List.getElem_mem hi⟩
  refine ⟨_, (pss_cons (ps_setLc (i := 2) (own := [("_law_own", 3)]) (g := (gName 3)) rfl nd rfl rfl (sw_true rfl rfl rfl (by decide +kernel)) (pi_list (pv 0)) (blkOk_by (own := [("_law_own", 3)]) (N := nLBeside) (sc := (defScope sDLBeside)) (by decide +kernel)) (fun _ _ _ _ _ => (pg_name (i := 3) nd rfl (.inl rfl))) (fun _ _ _ _ _ => pts_nil) (fun _ _ _ _ _ => (pe_op op_cat (pe_callTy (call_list_ofK (K := K) rfl) rfl T.list (by decide +kernel) (pa_cons (pv 3) pa_nil)) (pe_op op_rep (pe_lst (pa_cons pe_int pa_nil)) (pe_callB (call_len_seqK (K := K) rfl) rfl T.len (by decide +kernel) (pa_cons (pv 1) pa_nil))))))
      (pss_one (ps_ret (pe_op op_cat (pv 2) (pe_lc (own := [("_law_own", 3)]) (g := (gName 3)) rfl nd (pi_list (pv 1)) (blkOk_by (own := [("_law_own", 3)]) (N := nLBeside) (sc := (defScope sDLBeside)) (by decide +kernel)) (fun _ _ _ _ _ => (pg_name (i := 3) nd rfl (.inl rfl))) (fun _ _ _ _ _ => pts_nil) (fun _ _ _ _ _ => (pe_op op_cat (pe_op op_rep (pe_lst (pa_cons pe_int pa_nil)) (pe_callB (call_len_seqK (K := K) rfl) rfl T.len (by decide +kernel) (pa_cons (pv 0) pa_nil))) (pe_callTy (call_list_ofK (K := K) rfl) rfl T.list (by decide +kernel) (pa_cons (pv 3) pa_nil))))))))), ?_⟩
  refine ⟨_, rfl, _, rfl, ⟨_, SqL.of ea⟩, fun D hD => ?_⟩
  refine lc_rows HO.lst (walk_list (xs := as.map V.ref)) (fun i => A.getD i [] ++ List.replicate B.length 0) (by rw [List.length_map, la]; omega) hD (fun H' s => SqL.of (s _ _ ea)) (fun i x H' H'' hi s y M' hM => ?_) (fun H2 ts s2 f2 _ ne2 p2 => ?_)
  · obtain ⟨rfl, hx⟩ := y
    obtain ⟨t, rfl, ht, hm⟩ := rowAt as A H pa i x hx
    have hr8 := hAr _ hm
    refine ⟨rfl, _, rfl, t, _, rfl, .inl (SqL.of (s _ _ ht)), fun u1 g1 => ?_⟩
    refine ⟨small (n := 1) (by decide), fun u2 g2 => ⟨_, rfl, b, _, rfl, .inl (SqL.of (up (up (s _ _ eb) g1) g2)), u2, _, _, rfl, rfl, upd_same, by omega, by rw [List.length_map, lb]; omega, ?_, fun u3 g3 => ?_⟩⟩
    · rw [List.length_map, lb]
      simp only [List.length_cons, List.length_nil, Int.toNat_natCast]
      exact small (by omega)
    refine ⟨u1, u3, _, _, rfl, rfl, up (up upd_same g2) g3, upd_same, ?_, fun u4 g4 => ?_⟩
    · simp only [List.length_map, rep_flat, List.length_replicate, Int.toNat_natCast]
      exact small (by omega)
    refine hM _ u4 ((((sameUpd g1).trans (sameUpd g2)).trans (sameUpd g3)).trans (sameUpd g4)) (((sameUpd g1).trans ((sameUpd g2).trans (sameUpd g3))).free g4) ?_
    · rw [upd_same, rep_flat, List.length_map, lb, List.map_append, map_rep]
      rfl
  · have s2a : Same H H2 := s2
    refine ⟨_, rfl, _, rfl, _, rfl, ⟨_, SqL.of (s2 _ _ eb)⟩, fun D2 hD2 => ?_⟩
    refine lc_rows HO.lst (walk_list (xs := bs.map V.ref)) (fun i => List.replicate A.length 0 ++ B.getD i []) (by rw [List.length_map, lb]; omega) hD2 (fun H' s => SqL.of ((s2.trans s) _ _ eb)) (fun i x H' H'' hi s y M' hM => ?_) (fun H5 ts5 s5 f5 _ ne5 p5 => ?_)
    · obtain ⟨rfl, hx⟩ := y
      obtain ⟨t, rfl, ht, hm⟩ := rowAt bs B H pb i x hx
      have hr8 := hBr _ hm
      have s6 := s2.trans s
      refine ⟨rfl, small (n := 1) (by decide), fun u2 g2 => ⟨_, rfl, a, _, rfl, .inl (SqL.of (up (s6 _ _ ea) g2)), u2, _, _, rfl, rfl, upd_same, by omega, by rw [List.length_map, la]; omega, ?_, fun u3 g3 => ?_⟩⟩
      · rw [List.length_map, la]
        simp only [List.length_cons, List.length_nil, Int.toNat_natCast]
        exact small (by omega)
      refine ⟨_, rfl, t, _, rfl, .inl (SqL.of (up (up (s6 _ _ ht) g2) g3)), fun u1 g1 => ?_⟩
      refine ⟨u3, u1, _, _, rfl, rfl, up upd_same g1, upd_same, ?_, fun u4 g4 => ?_⟩
      · simp only [List.length_map, rep_flat, List.length_replicate, Int.toNat_natCast]
        exact small (by omega)
      refine hM _ u4 ((((sameUpd g2).trans (sameUpd g3)).trans (sameUpd g1)).trans (sameUpd g4)) (((sameUpd g2).trans ((sameUpd g3).trans (sameUpd g1))).free g4) ?_
      · rw [upd_same, rep_flat, List.length_map, la, List.map_append, map_rep]
        rfl
    · have g2 := s5 _ _ f2
      have p2' : Paired (fun t (row : List Int) => H5 t = some (.lst (row.map V.int))) ts _ := Paired.mono (fun _ _ z => s5 _ _ z) p2
      have l2 := Paired.length p2
      have l5 := Paired.length p5
      refine ⟨D, D2, _, _, rfl, rfl, g2, f5, ?_, fun p hp => ?_⟩
      · simp at l2 l5 ⊢
        exact small (by omega)
      refine q _ p ((s2.trans s5).trans (sameUpd hp)) ⟨ts ++ ts5, by rw [upd_same, List.map_append], ?_⟩
      refine Paired.mono (fun t row z => sameUpd hp _ _ z) ?_
      unfold beside
      have r2 : ((List.range (as.map V.ref).length).map fun i => A.getD i [] ++ List.replicate B.length 0) = A.map fun r => r ++ List.replicate B.length 0 := by
        rw [List.length_map, la]; exact range_map_get A [] fun r => r ++ List.replicate B.length 0
      have r5 : ((List.range (bs.map V.ref).length).map fun i => List.replicate A.length 0 ++ B.getD i []) = B.map fun r => List.replicate A.length 0 ++ r := by
        rw [List.length_map, lb]; exact range_map_get B [] fun r => List.replicate A.length 0 ++ r
      rw [r2] at p2'
      rw [r5] at p5
      exact paired_app p2' p5
end
end Kal

set_option Elab.async false
set_option linter.all false
set_option maxRecDepth 100000
set_option maxHeartbeats 4000000
/-! KD17: _law_named. -/
namespace Kal
open PySem PySem.Spec PyProof.Rows L2 SX C8
def setM (M : List (List Int)) (i j : Nat) (v : Int) : List (List Int) := M.set i ((M.getD i []).set j v)
structure SqN (n : Nat) (M : List (List Int)) : Prop where
  len : M.length = n
  row : ∀ r ∈ M, r.length = n
theorem SqN.at {n : Nat} {M : List (List Int)} (S : SqN n M) {i : Nat} (h : i < n) : (M.getD i []).length = n := by
  have hi : i < M.length := by rw [S.len]; exact h
  rw [List.getD_eq_getElem?_getD, List.getElem?_eq_getElem hi]
  exact S.row _ (List.getElem_mem hi)
theorem SqN.set {n : Nat} {M : List (List Int)} (S : SqN n M) {i j : Nat} {v : Int} (h : i < n) : SqN n (setM M i j v) := by
  refine ⟨by unfold setM; rw [List.length_set]; exact S.len, fun r hr => ?_⟩
  unfold setM at hr
  rcases List.mem_or_eq_of_mem_set hr with z | z
  · exact S.row r z
  · rw [z, List.length_set]; exact S.at h
def mat0 (n : Nat) : List (List Int) := List.replicate n (List.replicate n 0)
def matK (n k : Nat) : List (List Int) := (List.range k).foldl (fun M k => setM (setM M (k + 1) k 1) k (k + 1) 1) (mat0 n)
theorem sqN_mat0 (n : Nat) : SqN n (mat0 n) := ⟨by simp [mat0], fun r hr => by
  have := (List.mem_replicate.mp hr).2
  rw [this]
  simp⟩
theorem matK_succ (n k : Nat) : matK n (k + 1) = setM (setM (matK n k) (k + 1) k 1) k (k + 1) 1 := by
  unfold matK
  rw [List.range_succ, List.foldl_append]
  rfl
theorem sqN_matK {n : Nat} : ∀ {k : Nat}, k < n → SqN n (matK n k)
  | 0, _ => sqN_mat0 n
  | k + 1, h => by
    rw [matK_succ]
    exact ((sqN_matK (k := k) (by omega)).set (by omega)).set (by omega)
def namedM (z : Str) (n : Nat) : List (List Int) := if z = "b" then setM (matK n (n - 1)) (n - 2) (n - 1) 2 else if z = "c" then setM (matK n (n - 1)) (n - 1) (n - 2) 2 else if z = "g" then setM (matK n (n - 1)) 0 1 3 else matK n (n - 1)
/-- rows that may be written: each its own, none of them in H0 -/
def DMat (H0 H : Hp) (D : Addr) (M : List (List Int)) : Prop := ∃ ts : List Addr, H D = some (.lst (ts.map V.ref)) ∧ ts.Nodup ∧ (∀ t ∈ ts, t ≠ D ∧ H0 t = none) ∧ Paired (fun t (row : List Int) => H t = some (.lst (row.map V.int))) ts M
theorem DMat.same {H0 H H' : Hp} {D : Addr} {M : List (List Int)} (s : Same H H') (h : DMat H0 H D M) : DMat H0 H' D M := by
  obtain ⟨ts, e, nd, ne, p⟩ := h
  exact ⟨ts, s _ _ e, nd, ne, Paired.mono (fun _ _ z => s _ _ z) p⟩
theorem DMat.lm {H0 H : Hp} {D : Addr} {M : List (List Int)} (h : DMat H0 H D M) : LMatAt H D M := by
  obtain ⟨ts, e, nd, ne, p⟩ := h
  exact ⟨ts, e, p⟩
theorem paired_set {H : Hp} {t : Addr} {new : List Int} : ∀ {ts : List Addr} {M : List (List Int)} {i : Nat}, Paired (fun t (row : List Int) => H t = some (.lst (row.map V.int))) ts M → ts.Nodup → ts[i]? = some t →
    Paired (fun a (row : List Int) => upd H t (.lst (new.map V.int)) a = some (.lst (row.map V.int))) ts (M.set i new)
  | _, _, _, .nil, _, h => by simp at h
  | a :: ts, r :: M, 0, .cons e p, nd, h => by
    have : a = t := by simpa using h
    subst this
    refine .cons upd_same (paired_monoM (fun b hb row z => ?_) p)
    rw [upd_ne]
    · exact z
    · intro q
      subst q
      exact (List.nodup_cons.mp nd).1 hb
  | a :: ts, r :: M, i + 1, .cons e p, nd, h => by
    have h2 : ts[i]? = some t := by simpa using h
    refine .cons ?_ (paired_set p (List.nodup_cons.mp nd).2 h2)
    rw [upd_ne]
    · exact e
    · intro q
      rw [q] at nd
      exact (List.nodup_cons.mp nd).1 (List.mem_of_getElem? h2)
theorem DMat.put {H0 H : Hp} {D : Addr} {M : List (List Int)} {i : Nat} (h : DMat H0 H D M) (hi : i < M.length) : ∃ (ts : List Addr) (t : Addr), H D = some (.lst (ts.map V.ref)) ∧ (ts.map V.ref)[i]? = some (.ref t) ∧ H t = some (.lst ((M.getD i []).map V.int)) ∧ H0 t = none ∧
    ∀ new : List Int, DMat H0 (upd H t (.lst (new.map V.int))) D (M.set i new) := by
  obtain ⟨ts, e, nd, ne, p⟩ := h
  obtain ⟨t, e2, e3⟩ := paired_get p (List.getElem?_eq_getElem hi)
  have hm := List.mem_of_getElem? e2
  have eg : M.getD i [] = M[i] := by rw [List.getD_eq_getElem?_getD, List.getElem?_eq_getElem hi]; rfl
  refine ⟨ts, t, e, by rw [List.getElem?_map, e2]; rfl, by rw [eg]; exact e3, (ne t hm).2, fun new => ⟨ts, ?_, nd, ne, paired_set p nd e2⟩⟩
  rw [upd_ne (Ne.symm (ne t hm).1)]
  exact e
def LetterOk (z : Str) (n : Nat) : Prop := (z = "a" ∧ 1 ≤ n) ∨ ((z = "b" ∨ z = "c" ∨ z = "g") ∧ 2 ≤ n)
def spNamed : Sp := fun vs H Q _ => ∃ (z : Str) (n : Nat), vs = [.str z, .int (n : Nat)] ∧ LetterOk z n ∧ n ≤ 8 ∧ ∀ H' p, Same H H' → LMatAt H' p (namedM z n) → Q (.ref p) H'
section
variable {P : Program} {w : World} {K : PySem.W.Frag} {mg : Str → Option Value} {base : Heap} {C : Addr}
abbrev nLNamed : List Str := ["_law_letter", "_law_many", "_law_found", "_law_lamp", "_law_mate", "_law_spot", "_law_one", "_law_other", "_law_more"]
theorem scLNamed : FnScope nLNamed ["_law_letter", "_law_many"] (defScope sDLNamed) := ⟨rfl, rfl, rfl, by decide +kernel, rfl, by decide +kernel, by decide +kernel⟩
theorem c_lNamed (T : Txt K mg C) (F : Fn K mg "_law_named" "_law_named" sDLNamed ["_law_letter", "_law_many"])  : Cal P w K mg base 1 "_law_named" (spNamed) [] := by
  refine F.cal scLNamed (fun vs H Q E h => by obtain ⟨_, _, rfl, _⟩ := h; rfl) (fun cdv A outer s f H vs Q E hr h => ?_)
  have nd := scLNamed.nd
  have hu := hu_of hr
  obtain ⟨z, n, rfl, ok, h8, q⟩ := h
  have hn1 : 1 ≤ n := by
    rcases ok with ⟨_, h⟩ | ⟨_, h⟩ <;> omega
  refine ⟨_, (pss_cons (ps_setLc (i := 2) (own := [("_law_lamp", 3)]) (g := (gName 3)) rfl nd rfl rfl (sw_true rfl rfl rfl (by decide +kernel)) (pi_range1 rfl T.range (pa_cons (pv 1) pa_nil)) (blkOk_by (own := [("_law_lamp", 3)]) (N := nLNamed) (sc := (defScope sDLNamed)) (by decide +kernel)) (fun _ _ _ _ _ => (pg_name (i := 3) nd rfl (.inl rfl))) (fun _ _ _ _ _ => pts_nil) (fun _ _ _ _ _ => (pe_op op_rep (pe_lst (pa_cons pe_int pa_nil)) (pv 1))))
      (pss_cut (ps_for PassesOwn.never rfl (pi_range2 rfl T.range (pa_cons pe_int (pa_cons (pv 1) pa_nil))) (pg_name (i := 3) nd rfl (.inl rfl)) (pss_cons (ps_set (i := 4) nd rfl (.inl rfl) (pe_op op_sub (pv 3) pe_int))
      (pss_cons (ps_if (PW.pt (pw_and (pt_cmpR op_in_seq (pv 0) (pe_lst (pa_cons pe_str (pa_cons pe_str pa_nil))) (by rfl)) (pw_and1 (pt_cmpR op_eq (pv 3) (pe_op op_sub (pv 1) pe_int) (nomark _))))) (pss_one (ps_set (i := 4) nd rfl (.inl rfl) (pe_ifExp (pt_cmpR op_eq (pv 0) pe_str (nomark _)) (pe_op op_sub (pv 1) pe_int) pe_int))) pss_nil)
      (pss_cons (ps_asg pe_int (pg_sub (pe_ix ix_list (pv 2) (pv 3) (fun _ _ => rfl)) (pv 4) set_list))
      (pss_one (ps_asg pe_int (pg_sub (pe_ix ix_list (pv 2) (pv 4) (fun _ _ => rfl)) (pv 3) set_list)))))))
      (pss_cons (ps_set (i := 5) nd rfl (.inl rfl) (pe_disp (pps_cons pe_str (pe_tup (pa_cons (pe_op op_sub (pv 1) pe_int) (pa_cons (pe_op op_sub (pv 1) pe_int) (pa_cons pe_int pa_nil)))) (pps_cons pe_str (pe_tup (pa_cons (pe_op op_sub (pv 1) pe_int) (pa_cons (pe_op op_sub (pv 1) pe_int) (pa_cons pe_int pa_nil)))) (pps_cons pe_str (pe_tup (pa_cons pe_int (pa_cons pe_int (pa_cons pe_int pa_nil)))) (pps_cons pe_str (pe_tup (pa_cons pe_int (pa_cons pe_int (pa_cons pe_int pa_nil)))) pps_nil)))) (by rfl) (by rfl) (fun z => by cases z) (by decide)))
      (pss_cons (ps_if (pt_cmp (pc_din hu (pv 0) (pv 5))) (pss_cons (ps_asg (pe_dget hu (pv 5) (pv 0) (fun _ _ => rfl)) (pg_tup rfl (pgs_cons (pg_name (i := 6) nd rfl (.inl rfl)) (pgs_cons (pg_name (i := 7) nd rfl (.inl rfl)) (pgs_cons (pg_name (i := 8) nd rfl (.inl rfl)) pgs_nil)))))
      (pss_one (ps_asg (pv 8) (pg_sub (pe_ix ix_list (pv 2) (pv 6) (fun _ _ => rfl)) (pv 7) set_list)))) pss_nil)
      (pss_one (ps_ret (pv 2))))))), ?_⟩
  refine ⟨_, rfl, _, rfl, by omega, by omega, fun D hD => ?_⟩
  refine lc_rows HO.lst walk_range (fun _ => List.replicate n 0) (by omega) hD (fun _ _ => True.intro) (fun i x H' H'' hi s y M' hM => ?_) (fun H1 ts s1 f1 nd1 ne1 p1 => ?_)
  · obtain ⟨rfl, rfl⟩ := y
    refine ⟨rfl, small (n := 1) (by decide), fun u1 g1 => ⟨_, rfl, u1, _, _, rfl, rfl, upd_same, by omega, by omega, ?_, fun u2 g2 => ?_⟩⟩
    · simp only [List.length_cons, List.length_nil, Int.toNat_natCast]
      exact small (by omega)
    refine hM _ u2 ((sameUpd g1).trans (sameUpd g2)) ((sameUpd g1).free g2) ?_
    rw [upd_same, rep_flat, map_rep, Int.toNat_natCast]
  have d1 : DMat H H1 D (matK n 0) := by
    refine ⟨ts, f1, nd1, ne1, ?_⟩
    have : (List.range ((n : Nat) : Int).toNat).map (fun _ => List.replicate n (0 : Int)) = matK n 0 := by
      rw [Int.toNat_natCast]
      show _ = List.replicate n (List.replicate n 0)
      exact List.ext_getElem (by simp) (by simp)
    rw [← this]
    exact p1
  refine ⟨fun σ' H' => ∃ x3 x4, σ' = [some (.str z), some (.int (n : Nat)), some (.ref D), x3, x4, none, none, none, none] ∧ Same H H' ∧ DMat H H' D (matK n (n - 1)), ?_, ?_⟩
  · refine ⟨_, rfl, _, _, rfl, ⟨by omega, by omega, by omega, by omega⟩, ?_⟩
    have en : (((n : Nat) : Int) - 1).toNat = n - 1 := by omega
    rw [en]
    refine for_it walk_range (fun i σ H' => ∃ x3 x4, σ = [some (.str z), some (.int (n : Nat)), some (.ref D), x3, x4, none, none, none, none] ∧ Same H H' ∧ DMat H H' D (matK n i)) ⟨none, none, rfl, s1, d1⟩ (fun _ _ _ _ _ => True.intro) (fun i x σ H' H'' hi p y => ?_) (fun σ H' p => p)
    obtain ⟨x3, x4, rfl, s, d⟩ := p
    obtain ⟨rfl, rfl⟩ := y
    have e1 : ((1 : Int) + ((i : Nat) : Int)) = ((i + 1 : Nat) : Int) := by omega
    have e2 : ((1 : Int) + ((i : Nat) : Int)) - 1 = ((i : Nat) : Int) := by omega
    refine ⟨_, rfl, _, _, rfl, rfl, ?_⟩
    refine ⟨_, rfl, small (n := 2) (by decide), fun u gu => ⟨u, _, rfl, .inl (SqL.of upd_same), rfl, rfl, _, rfl, ?_⟩⟩
    have hno : inV (.str z) [.str "d", .str "e"] = false := by
      rcases ok with ⟨rfl, _⟩ | ⟨rfl | rfl | rfl, _⟩ <;> decide
    refine iteN hno ?_
    have d2 := d.same (sameUpd (o := HO.lst [V.str "d", V.str "e"]) gu)
    have sq := sqN_matK (n := n) (k := i) (by omega)
    obtain ⟨ts2, t, f2, f3, f4, f5, f6⟩ := d2.put (i := i + 1) (by rw [sq.len]; omega)
    refine ⟨_, rfl, _, rfl, D, _, _, .ref t, rfl, rfl, SqL.of f2, ?_, _, rfl, t, _, _, i, rfl, rfl, f4, ?_, ?_⟩
    · show atI _ ((1 : Int) + ((i : Nat) : Int)) = _
      rw [e1]; exact atI_nat f3
    · show ixN _ (((1 : Int) + ((i : Nat) : Int)) - 1) = _
      rw [e2]; exact ixN_at (by rw [List.length_map, sq.at (by omega)]; omega)
    have d3 := f6 ((matK n i).getD (i + 1) [] |>.set i 1)
    have sq3 : SqN n (setM (matK n i) (i + 1) i 1) := sq.set (by omega)
    obtain ⟨ts4, t4, k2, k3, k4, k5, k6⟩ := d3.put (i := i) (by rw [List.length_set, sq.len]; omega)
    rw [List.map_set] at k2 k4 k6
    refine ⟨_, rfl, _, rfl, D, _, _, .ref t4, rfl, rfl, SqL.of k2, ?_, _, rfl, t4, _, _, i + 1, rfl, rfl, k4, ?_, ?_⟩
    · show atI _ (((1 : Int) + ((i : Nat) : Int)) - 1) = _
      rw [e2]; exact atI_nat k3
    · show ixN _ ((1 : Int) + ((i : Nat) : Int)) = _
      rw [e1]; exact ixN_at (by have := sq3.at (i := i) (by omega); unfold setM at this; rw [List.length_map, this]; omega)
    refine ⟨_, _, rfl, ?_, ?_⟩
    · exact sameOfBut (sameOfBut (s.trans (sameUpd gu)) f5 But.upd) k5 But.upd
    · have := k6 (((setM (matK n i) (i + 1) i 1).getD i []).set (i + 1) 1)
      rw [matK_succ]
      rw [List.map_set] at this
      exact this
  · rintro σ' H2 ⟨x3, x4, rfl, s2, d2⟩
    intro p hp
    refine ⟨_, rfl, _, _, rfl, rfl, _, rfl, _, _, rfl, rfl, small (n := 3) (by decide), fun t1 h1 => ?_⟩
    refine ⟨_, rfl, _, _, rfl, rfl, _, rfl, _, _, rfl, rfl, small (n := 3) (by decide), fun t2 h2 => ?_⟩
    refine ⟨small (n := 3) (by decide), fun t3 h3 => ⟨small (n := 3) (by decide), fun t4 h4 => ?_⟩⟩
    refine ⟨up (up (up (up upd_same h1) h2) h3) h4, [(Sum.inr "b", .ref t1), (Sum.inr "c", .ref t2), (Sum.inr "f", .ref t3), (Sum.inr "g", .ref t4)], rfl, (show 4 ≤ 15 by decide), ?_⟩
    have sA := sameUpd (o := HO.dK []) hp
    have sB := sameUpd (o := HO.tup [.int (((n : Nat) : Int) - 2), .int (((n : Nat) : Int) - 1), .int 2]) h1
    have sC := sameUpd (o := HO.tup [.int (((n : Nat) : Int) - 1), .int (((n : Nat) : Int) - 2), .int 2]) h2
    have sD := sameUpd (o := HO.tup [.int 1, .int 2, .int 2]) h3
    have sE := sameUpd (o := HO.tup [.int 0, .int 1, .int 3]) h4
    have y1 := sE _ _ (sD _ _ (sC _ _ (upd_same (H := upd H2 p (HO.dK [])) (a := t1) (o := HO.tup [.int (((n : Nat) : Int) - 2), .int (((n : Nat) : Int) - 1), .int 2]))))
    have y2 := sE _ _ (sD _ _ (upd_same (H := upd (upd H2 p (HO.dK [])) t1 (HO.tup [.int (((n : Nat) : Int) - 2), .int (((n : Nat) : Int) - 1), .int 2])) (a := t2) (o := HO.tup [.int (((n : Nat) : Int) - 1), .int (((n : Nat) : Int) - 2), .int 2])))
    have y4 := upd_same (H := upd (upd (upd (upd H2 p (HO.dK [])) t1 (HO.tup [.int (((n : Nat) : Int) - 2), .int (((n : Nat) : Int) - 1), .int 2])) t2 (HO.tup [.int (((n : Nat) : Int) - 1), .int (((n : Nat) : Int) - 2), .int 2])) t3 (HO.tup [.int 1, .int 2, .int 2])) (a := t4) (o := HO.tup [.int 0, .int 1, .int 3])
    have sF := ((sB.trans sC).trans sD).trans sE
    have hdp := sF _ _ (upd_same (H := H2) (a := p) (o := HO.dK []))
    have s3 : Same H2 (upd (upd (upd (upd (upd H2 p (HO.dK [])) t1 (HO.tup [.int (((n : Nat) : Int) - 2), .int (((n : Nat) : Int) - 1), .int 2])) t2 (HO.tup [.int (((n : Nat) : Int) - 1), .int (((n : Nat) : Int) - 2), .int 2])) t3 (HO.tup [.int 1, .int 2, .int 2])) t4 (HO.tup [.int 0, .int 1, .int 3])) := sA.trans sF
    generalize upd (upd (upd (upd (upd H2 p (HO.dK [])) t1 (HO.tup [.int (((n : Nat) : Int) - 2), .int (((n : Nat) : Int) - 1), .int 2])) t2 (HO.tup [.int (((n : Nat) : Int) - 1), .int (((n : Nat) : Int) - 2), .int 2])) t3 (HO.tup [.int 1, .int 2, .int 2])) t4 (HO.tup [.int 0, .int 1, .int 3]) = H3 at *
    have s4 : Same H2 (upd H3 p (.dK (mergeK [] [(Sum.inr "b", .ref t1), (Sum.inr "c", .ref t2), (Sum.inr "f", .ref t3), (Sum.inr "g", .ref t4)]))) := sameOfBut s3 hp But.upd
    have tp : ∀ (t : Addr) (xs : List V), H3 t = some (.tup xs) → (upd H3 p (.dK (mergeK [] [(Sum.inr "b", .ref t1), (Sum.inr "c", .ref t2), (Sum.inr "f", .ref t3), (Sum.inr "g", .ref t4)]))) t = some (.tup xs) := fun t xs e => by
      rw [upd_ne]
      · exact e
      · intro q
        rw [q, hdp] at e
        cases e
    have hd : (upd H3 p (.dK (mergeK [] [(Sum.inr "b", .ref t1), (Sum.inr "c", .ref t2), (Sum.inr "f", .ref t3), (Sum.inr "g", .ref t4)]))) p = some (.dK (mergeK [] [(Sum.inr "b", .ref t1), (Sum.inr "c", .ref t2), (Sum.inr "f", .ref t3), (Sum.inr "g", .ref t4)])) := upd_same
    have z1 := tp _ _ y1
    have z2 := tp _ _ y2
    have z4 := tp _ _ y4
    clear tp y1 y2 y4
    generalize upd H3 p (.dK (mergeK [] [(Sum.inr "b", .ref t1), (Sum.inr "c", .ref t2), (Sum.inr "f", .ref t3), (Sum.inr "g", .ref t4)])) = H4 at *
    have d4 := d2.same s4
    have sq := sqN_matK (n := n) (k := n - 1) (by omega)
    have hz : (valV (mergeK [] [(Sum.inr "b", V.ref t1), (Sum.inr "c", V.ref t2), (Sum.inr "f", V.ref t3), (Sum.inr "g", V.ref t4)]) (Sum.inr z) = none ∧ namedM z n = matK n (n - 1)) ∨
        ∃ (t : Addr) (a b : Nat) (c : Int), valV (mergeK [] [(Sum.inr "b", V.ref t1), (Sum.inr "c", V.ref t2), (Sum.inr "f", V.ref t3), (Sum.inr "g", V.ref t4)]) (Sum.inr z) = some (.ref t) ∧ H4 t = some (.tup [.int (a : Nat), .int (b : Nat), .int c]) ∧ a < n ∧ b < n ∧ namedM z n = setM (matK n (n - 1)) a b c := by
      have ea : ((n - 1 : Nat) : Int) = ((n : Nat) : Int) - 1 := by omega
      rcases ok with ⟨rfl, _⟩ | ⟨rfl | rfl | rfl, h2⟩
      · exact .inl ⟨rfl, rfl⟩
      · have eb : ((n - 2 : Nat) : Int) = ((n : Nat) : Int) - 2 := by omega
        exact .inr ⟨t1, n - 2, n - 1, 2, rfl, by rw [ea, eb]; exact z1, by omega, by omega, rfl⟩
      · have eb : ((n - 2 : Nat) : Int) = ((n : Nat) : Int) - 2 := by omega
        exact .inr ⟨t2, n - 1, n - 2, 2, rfl, by rw [ea, eb]; exact z2, by omega, by omega, rfl⟩
      · exact .inr ⟨t4, 0, 1, 3, rfl, z4, by omega, by omega, rfl⟩
    refine ⟨_, rfl, _, rfl, p, _, rfl, DGet.k (k := Sum.inr z) hd, ?_⟩
    rcases hz with ⟨hv, hm⟩ | ⟨t, a, b, c, hv, ht, ha, hb, hm⟩
    · rw [hv]
      refine ⟨_, rfl, iteN rfl ⟨_, rfl, q _ D (s2.trans s4) ?_⟩⟩
      rw [hm]
      exact d4.lm
    · have hg : DGet H4 p (.str z) (some (.ref t)) := by
        rw [← hv]
        exact DGet.k (k := Sum.inr z) hd
      rw [hv]
      refine ⟨_, rfl, iteP rfl ⟨_, rfl, _, rfl, p, _, rfl, hg, ?_⟩⟩
      refine ⟨t, _, rfl, SqT.of ht, rfl, _, _, rfl, _, _, rfl, _, _, rfl, rfl, ?_⟩
      obtain ⟨ts5, t5, k2, k3, k4, k5, k6⟩ := d4.put (i := a) (by rw [sq.len]; exact ha)
      refine ⟨_, rfl, _, rfl, _, rfl, D, _, _, .ref t5, rfl, rfl, SqL.of k2, atI_nat k3, _, rfl, t5, _, _, b, rfl, rfl, k4, ixN_at (by rw [List.length_map, sq.at ha]; exact hb), ?_⟩
      refine ⟨_, rfl, q _ D (sameOfBut (s2.trans s4) k5 But.upd) ?_⟩
      rw [hm, ← List.map_set]
      exact (k6 _).lm
end
end Kal

set_option Elab.async false
set_option linter.all false
set_option maxRecDepth 100000
set_option maxHeartbeats 4000000
/-! KD18: _law_mixed. -/
namespace Kal
open PySem PySem.Spec PyProof.Rows L2 SX C8
abbrev lmScope : Scope := { kind := .function, names := [(".0", .local), ("_law_one", .cell), ("tuple", .globalImplicit), ("_law_order", .cell), ("_law_pushes", .cell)], isGenerator := false, isCoroutine := false, more := [] }
def permM (M : List (List Int)) (o : List Nat) : List (List Int) := o.map fun i => o.map fun j => (M.getD i []).getD j 0
def spMixed (K : PySem.W.Frag) : Sp := fun vs H Q _ => ∃ (r sc p : Addr) (M : List (List Int)), vs = [.ref r, .ref p] ∧ RowAt K r sc H ∧ LMatAt H p M ∧ SqN M.length M ∧ M.length ≤ 8 ∧
  ∀ H' q o, But r H H' → RowAt K r sc H' → o.Perm (List.range M.length) → MatAt H' q (permM M o) → Q (.ref q) H'
theorem LMatAt.but {K : PySem.W.Frag} {r sc p : Addr} {H H' : Hp} {M : List (List Int)} (h : RowAt K r sc H) (b : But r H H') (m : LMatAt H p M) : LMatAt H' p M := by
  obtain ⟨ns, i, st, car, ne, e, _⟩ := h
  obtain ⟨ts, e1, pr⟩ := m
  refine ⟨ts, b _ _ ?_ e1, paired_monoM (fun t _ row z => b _ _ ?_ z) pr⟩
  · intro z
    rw [z, e] at e1
    have := Option.some.inj e1
    injection this with z2
    match ts, z2 with
    | [], z2 => cases z2
    | [a], z2 => cases z2
    | a :: b :: l, z2 =>
      rw [List.map_cons, List.map_cons] at z2
      injection z2 with _ z3
      injection z3 with z4
      cases z4
  · intro q
    rw [q, e] at z
    have := Option.some.inj z
    injection this with z2
    match row, z2 with
    | [], z2 => cases z2
    | a :: l, z2 =>
      rw [List.map_cons] at z2
      injection z2 with z3
      cases z3
theorem pop_at {l : List Nat} {k : Nat} (h : k < l.length) : ((natI l).map V.int)[k]? = some (V.int ((l.getD k 0 : Nat) : Int)) := by
  rw [← natI_getD]
  exact at_ints (by rw [natI_len]; exact h)
theorem seqIx {k n : Nat} (h : k < n) : seqIndex? ((k : Nat) : Int) n = some k := by
  unfold seqIndex?
  simp
  omega
theorem natI_erase (l : List Nat) (k : Nat) : ((natI l).map V.int).eraseIdx k = (natI (l.eraseIdx k)).map V.int := by
  unfold natI
  rw [List.eraseIdx_eq_take_drop_succ, List.eraseIdx_eq_take_drop_succ, List.map_append, List.map_append, List.map_take, List.map_take, List.map_drop, List.map_drop]
theorem perm_step {l o : List Nat} {k : Nat} (h : k < l.length) : ((o ++ [l.getD k 0]) ++ l.eraseIdx k).Perm (o ++ l) := by
  rw [List.append_assoc]
  refine List.Perm.append_left o ?_
  have : l.getD k 0 = l[k] := by rw [List.getD_eq_getElem?_getD, List.getElem?_eq_getElem h]; rfl
  rw [this]
  have e := List.take_append_drop k l
  have e2 := List.drop_eq_getElem_cons h
  rw [List.eraseIdx_eq_take_drop_succ]
  refine (List.perm_middle (l₁ := List.take k l) (a := l[k]) (l₂ := List.drop (k + 1) l)).symm.trans ?_
  show (List.take k l ++ l[k] :: List.drop (k + 1) l).Perm l
  rw [← e2, e]
theorem rgV_nat (n : Nat) : rgV 0 ((n : Nat) : Int) = (natI (List.range n)).map V.int := by
  unfold rgV natI
  rw [List.map_map]
  have : (((n : Nat) : Int) - 0).toNat = n := by omega
  rw [this]
  refine List.map_congr_left fun i _ => ?_
  show V.int (0 + (i : Nat)) = V.int (i : Nat)
  rw [Int.zero_add]
def MixW (K : PySem.W.Frag) (n : Nat) (H0 : Hp) (r sc p : Addr) (m : Nat) (σ : L2.St) (H : Hp) : Prop :=
  ∃ (D1 D2 : Addr) (l o : List Nat), σ = [some (.ref r), some (.ref p), some (.ref D1), some (.ref D2), none, none] ∧ But r H0 H ∧ RowAt K r sc H ∧ H0 D1 = none ∧ H0 D2 = none ∧ D1 ≠ D2 ∧ H D1 = some (.lst ((natI l).map V.int)) ∧ H D2 = some (.lst ((natI o).map V.int)) ∧ m = l.length ∧ (o ++ l).Perm (List.range n)
section
variable {P : Program} {w : World} {K : PySem.W.Frag} {mg : Str → Option Value} {base : Heap} {C : Addr}
abbrev nLMixed : List Str := ["_law_row", "_law_pushes", "_law_left", "_law_order", "_law_one", "_law_other"]
theorem scLMixed : FnScope nLMixed ["_law_row", "_law_pushes"] (defScope sDLMixed) := ⟨rfl, rfl, rfl, by decide +kernel, rfl, by decide +kernel, by decide +kernel⟩
theorem c_lMixed (T : Txt K mg C) (F : Fn K mg "_law_mixed" "_law_mixed" sDLMixed ["_law_row", "_law_pushes"]) (c_lTaken : Cal P w K mg base 1 "_law_taken" (spTaken K) []) : Cal P w K mg base 2 "_law_mixed" (spMixed K) [] := by
  refine F.cal scLMixed (fun vs H Q E h => by obtain ⟨_, _, _, _, rfl, _⟩ := h; rfl) (fun cdv A outer s f H vs Q E hr h => ?_)
  have nd := scLMixed.nd
  obtain ⟨r, sc, p, M, rfl, hr0, hM, sq, h8, q⟩ := h
  obtain ⟨ts, ep, pr⟩ := id hM
  have lt := Paired.length pr
  refine ⟨_, (pss_cons (ps_asg (pe_tup (pa_cons (pe_listRg rfl rfl T.list (prg_1 rfl T.range (pe_callB call_len_seq rfl T.len (by decide +kernel) (pa_cons (pv 1) pa_nil)))) (pa_cons (pe_lst pa_nil) pa_nil))) (pg_tup rfl (pgs_cons (pg_name (i := 2) nd rfl (.inl rfl)) (pgs_cons (pg_name (i := 3) nd rfl (.inr rfl)) pgs_nil))))
      (pss_cons (ps_while PassesOwn.never (pt_cmpR (op_neD hr.units) (pv 2) (pe_lst pa_nil) (nomark _)) (pss_one (ps_expr (pe_bm PySem.F.plainAttrs_list PySem.F.slot_list_append PySem.F.type_list_append mt_append (pv 3) (pa_cons (pe_bm PySem.F.plainAttrs_list PySem.F.slot_list_pop PySem.F.type_list_pop mt_popAt (pv 2) (pa_cons (pe_c c_lTaken hr (by decide) rfl (pa_cons (pv 0) (pa_cons (pe_callB call_len_seq rfl T.len (by decide +kernel) (pa_cons (pv 2) pa_nil)) pa_nil))) pa_nil)) pa_nil)))))
      (pss_one (ps_ret (pe_callTy call_tuple_of rfl T.tuple (by decide +kernel) (pa_cons (pe_lc (own := [("_law_one", 4)]) (g := (gName 4)) rfl nd (pi_list (pv 3)) (blkOk_by (own := [("_law_one", 4)]) (N := nLMixed) (sc := (defScope sDLMixed)) (by decide +kernel)) (fun _ _ _ _ _ => (pg_name (i := 4) nd rfl (.inr rfl))) (fun _ _ _ _ _ => pts_nil) (fun _ _ _ _ _ => (pe_callTy (call_tuple_ofK (K := K) rfl) rfl T.tuple (by decide +kernel) (pa_cons (pe_lc (own := [("_law_other", 5)]) (g := (gName 5)) rfl nd (pi_listK (K := K) rfl (pv 3)) (blkOk_by (own := [("_law_other", 5)]) (N := nLMixed) (sc := lmScope) (by decide +kernel)) (fun _ _ _ _ _ => (pg_name (i := 5) nd rfl (.inl rfl))) (fun _ _ _ _ _ => pts_nil) (fun _ _ _ _ _ => (pe_ix (ix_listK (K := K) rfl) (pe_ix (ix_listK (K := K) rfl) (pv 1) (pv 4) (fun _ _ => rfl)) (pv 5) (fun _ _ => rfl)))) pa_nil)))) pa_nil)))))), ?_⟩
  refine ⟨_, rfl, p, _, rfl, .inl (SqL.of ep), ?_⟩
  rw [List.length_map, lt]
  refine ⟨_, rfl, .of_le (by decide) (by omega) (by decide) (by omega), fun D1 n1 => ?_⟩
  rw [rgV_nat]
  have sa := sameUpd (o := HO.lst ((natI (List.range M.length)).map V.int)) n1
  have ea : (upd H D1 (HO.lst ((natI (List.range M.length)).map V.int))) D1 = _ := upd_same
  refine ⟨small (n := 0) (by decide), fun D2 n2 => ?_⟩
  have sb := sa.trans (sameUpd (o := HO.lst []) n2)
  refine ⟨small (n := 2) (by decide), fun t0 nt => ⟨t0, _, rfl, SqT.of upd_same, rfl, _, _, rfl, _, _, rfl, rfl, ?_⟩⟩
  have s0 := sb.trans (sameUpd (o := HO.tup [.ref D1, .ref D2]) nt)
  have d12 : D1 ≠ D2 := by
    intro z
    rw [← z, ea] at n2
    cases n2
  refine ⟨MixW K M.length H r sc p, ⟨M.length, D1, D2, List.range M.length, [], rfl, (But.refl r H).same s0, hr0.same s0, n1, sa.free n2, d12, up (up ea n2) nt, up upd_same nt, by simp, by simp⟩, ?_⟩
  intro m σ H1 W
  obtain ⟨D1, D2, l, o, rfl, b1, r1, m1, m2, d12, e1, e2, rfl, pm⟩ := W
  refine ⟨_, rfl, small (n := 0) (by decide), fun u nu => ⟨_, _, dpL (up e1 nu), dpL (ns := []) upd_same, shaped_listI _, shaped_listI _, _, rfl, ?_⟩⟩
  rw [eqv_listI]
  have su := sameUpd (o := HO.lst []) nu
  cases l with
  | nil =>
    refine iteN (by decide) ?_
    rw [List.append_nil] at pm
    have b2 := b1.same su
    have r2 := r1.same su
    have hM2 := LMatAt.but hr0 b2 hM
    obtain ⟨ts2, ep2, pr2⟩ := id hM2
    have e2' := su _ _ e2
    have lo : o.length = M.length := by rw [pm.length_eq, List.length_range]
    have oin : ∀ x ∈ o, x < M.length := fun x hx => by simpa using pm.mem_iff.mp hx
    refine ⟨_, rfl, _, rfl, ⟨_, SqL.of e2'⟩, fun D nD => ?_⟩
    refine lc_rows HO.tup walk_listN (fun i => o.map fun j => (M.getD (o.getD i 0) []).getD j 0) (by omega) nD (fun H' s => SqL.of (s _ _ e2')) (fun i x H' H'' hi s y M' hM' => ?_) (fun H3 ts3 s3 f3 _ _ p3 => ?_)
    · obtain ⟨rfl, rfl⟩ := y
      have hoi := getD_lt oin hi
      obtain ⟨t, g1, g2⟩ := paired_get pr2 (List.getElem?_eq_getElem hoi)
      have eg : M.getD (o.getD i 0) [] = M[o.getD i 0] := by rw [List.getD_eq_getElem?_getD (l := M), List.getElem?_eq_getElem hoi]; rfl
      rw [← eg] at g2
      refine ⟨rfl, _, rfl, _, rfl, ⟨_, SqL.of (s _ _ e2')⟩, fun DD nDD => ?_⟩
      refine lc_told walk_listN (fun k => .int ((M.getD (o.getD i 0) []).getD (o.getD k 0) 0)) (by omega) nDD (fun H' s' => SqL.of ((s.trans s') _ _ e2')) (fun k x H5 H6 hk s5 y M5 hM5 => ?_) (fun H7 s7 f7 => ?_)
      · obtain ⟨rfl, rfl⟩ := y
        have hok := getD_lt oin hk
        refine ⟨rfl, _, rfl, _, rfl, p, _, _, .ref t, rfl, rfl, SqL.of ((s.trans s5) _ _ ep2), atI_nat (by rw [List.getElem?_map, g1]; rfl), ?_⟩
        refine ⟨_, rfl, t, _, _, .int ((M.getD (o.getD i 0) []).getD (o.getD k 0) 0), rfl, rfl, SqL.of ((s.trans s5) _ _ g2), atI_nat (at_ints (by rw [sq.at hoi]; exact hok)), hM5 _ (Same.refl _)⟩
      · refine ⟨DD, _, rfl, .inl ⟨SqL.of f7, fun q1 nq1 => hM' _ q1 (s7.trans (sameUpd nq1)) (s7.free nq1) ?_⟩⟩
        rw [upd_same, map_rangeI]
        refine congrArg (fun z : List Int => some (HO.tup (z.map V.int))) ?_
        exact range_map_get o 0 fun j => (M.getD (o.getD i 0) []).getD j 0
    · have em : (List.range o.length).map (fun i => o.map fun j => (M.getD (o.getD i 0) []).getD j 0) = permM M o := range_map_get o 0 fun i => o.map fun j => (M.getD i []).getD j 0
      rw [em] at p3
      refine ⟨D, _, rfl, .inl ⟨SqL.of f3, fun q1 nq1 => ?_⟩⟩
      have s4 := s3.trans (sameUpd (o := HO.tup (ts3.map V.ref)) nq1)
      exact q _ q1 o (b2.same s4) (r2.same s4) pm ⟨ts3, upd_same, Paired.mono (fun _ _ z => sameUpd nq1 _ _ z) p3⟩
  | cons a l =>
    refine iteP (by simp [natI]) ?_
    refine ⟨fun σ' H' => ∃ m', m' < (a :: l).length ∧ MixW K M.length H r sc p m' σ' H', fun _ _ z => z, ?_⟩
    have e1' := su _ _ e1
    have e2' := su _ _ e2
    have ll : (a :: l).length ≤ 1000 := by
      have := pm.length_eq
      rw [List.length_append, List.length_range] at this
      omega
    refine ⟨_, rfl, .inl ⟨rfl, _, SqL.of e2'⟩, ?_⟩
    refine ⟨_, rfl, .inl ⟨rfl, _, SqL.of e1'⟩, ?_⟩
    refine ⟨_, rfl, _, rfl, D1, _, rfl, .inl (SqL.of e1'), ?_⟩
    rw [List.length_map, natI_len]
    refine ⟨r, sc, (a :: l).length, rfl, by simp, ll, r1.same su, fun H2 k hk b2 r2 => ?_⟩
    have D1r : D1 ≠ r := by
      obtain ⟨_, _, _, _, _, er0, _⟩ := hr0
      exact (ne_of_none er0 m1).symm
    have D2r : D2 ≠ r := by
      obtain ⟨_, _, _, _, _, er0, _⟩ := hr0
      exact (ne_of_none er0 m2).symm
    have f1 := b2 _ _ D1r e1'
    have f2 := b2 _ _ D2r e2'
    refine ⟨D1, _, _, k, _, rfl, rfl, f1, by omega, by omega, by rw [List.length_map, natI_len]; exact seqIx hk, pop_at hk, ?_⟩
    rw [natI_erase]
    have lo : o.length ≤ 8 := by
      have := pm.length_eq
      rw [List.length_append, List.length_range] at this
      omega
    refine ⟨D2, _, _, rfl, rfl, by rw [upd_ne (Ne.symm d12)]; exact f2, by rw [List.length_map, natI_len]; exact smallLt (by omega), ?_⟩
    have b3 : But r H (upd (upd H2 D1 (.lst ((natI ((a :: l).eraseIdx k)).map V.int))) D2 (.lst ((natI o).map V.int ++ [V.int (((a :: l).getD k 0 : Nat) : Int)]))) :=
      butOfBut (butOfBut ((b1.same su).trans b2) m1 But.upd) m2 But.upd
    refine ⟨((a :: l).eraseIdx k).length, by rw [List.length_eraseIdx]; split <;> simp at * <;> omega, D1, D2, (a :: l).eraseIdx k, o ++ [(a :: l).getD k 0], rfl, b3, ?_, m1, m2, d12, ?_, ?_, rfl, (perm_step hk).trans pm⟩
    · exact RowAt.keep hr0 (RowAt.keep hr0 r2 m1) m2
    · rw [upd_ne d12]; exact upd_same
    · rw [upd_same, natI_app, List.map_append]; rfl
end
end Kal

set_option Elab.async false
set_option linter.all false
set_option maxRecDepth 100000
set_option maxHeartbeats 4000000
/-! KD19: _law_small. -/
namespace Kal
open PySem PySem.Spec PyProof.Rows L2 SX C8
/-! ### a written list of lists of pairs -/
def PrAt (H : Hp) (v : V) (p : Str × Nat) : Prop := ∃ t, v = .ref t ∧ H t = some (.tup [.str p.1, .int (p.2 : Nat)])
def ShAt (H : Hp) (v : V) (sh : List (Str × Nat)) : Prop := ∃ (l : Addr) (ts : List Addr), v = .ref l ∧ H l = some (.lst (ts.map V.ref)) ∧ Paired (fun t p => PrAt H (.ref t) p) ts sh
theorem PrAt.same {H H' : Hp} {v : V} {p : Str × Nat} (s : Same H H') (h : PrAt H v p) : PrAt H' v p := by
  obtain ⟨t, e, h⟩ := h
  exact ⟨t, e, s _ _ h⟩
theorem ShAt.same {H H' : Hp} {v : V} {sh : List (Str × Nat)} (s : Same H H') (h : ShAt H v sh) : ShAt H' v sh := by
  obtain ⟨l, ts, e, h1, h2⟩ := h
  exact ⟨l, ts, e, s _ _ h1, Paired.mono (fun _ _ z => z.same s) h2⟩
theorem list_ne {K : PySem.W.Frag} {r sc p : Addr} {H : Hp} {ts : List Addr} (h : RowAt K r sc H) (e1 : H p = some (.lst (ts.map V.ref))) : p ≠ r := by
  obtain ⟨ns, i, st, car, ne, e, _⟩ := h
  intro z
  rw [z, e] at e1
  have := Option.some.inj e1
  injection this with z2
  match ts, z2 with
  | [], z2 => cases z2
  | [a], z2 => cases z2
  | a :: b :: l, z2 =>
    rw [List.map_cons, List.map_cons] at z2
    injection z2 with _ z3
    injection z3 with z4
    cases z4
theorem tup_ne {K : PySem.W.Frag} {r sc p : Addr} {H : Hp} {xs : List V} (h : RowAt K r sc H) (e1 : H p = some (.tup xs)) : p ≠ r := by
  obtain ⟨ns, i, st, car, ne, e, _⟩ := h
  intro z
  rw [z, e] at e1
  cases e1
theorem paired_getL {α β : Type} {F : α → β → Prop} : ∀ {l : List α} {m : List β} {i : Nat} {a : α}, Paired F l m → l[i]? = some a → ∃ b, m[i]? = some b ∧ F a b
  | _, _, _, _, .nil, h => by simp at h
  | _, _, 0, _, .cons r _, h => by
    cases h
    exact ⟨_, rfl, r⟩
  | _, _, i + 1, b, .cons _ t, h => paired_getL (i := i) (a := b) t h
theorem ShAt.but {K : PySem.W.Frag} {r sc : Addr} {H H' : Hp} {v : V} {sh : List (Str × Nat)} (h : RowAt K r sc H) (b : But r H H') (m : ShAt H v sh) : ShAt H' v sh := by
  obtain ⟨l, ts, e, h1, h2⟩ := m
  refine ⟨l, ts, e, b _ _ (list_ne h h1) h1, Paired.mono (fun t p z => ?_) h2⟩
  obtain ⟨t', e', z⟩ := z
  exact ⟨t', e', b _ _ (tup_ne h z) z⟩
/-- what an expression gives, by the heap behind -/
def EvP {α : Type} (R : Hp → V → α → Prop) (te : TE) (x : α) : Prop := ∀ σ H (Q : VK), (∀ v H', Same H H' → R H' v x → Q v H') → te σ H Q
def EvPs {α : Type} (R : Hp → V → α → Prop) (ta : TA) (xs : List α) : Prop := ∀ σ H (Q : List V → Hp → Prop), (∀ vs H', Same H H' → Paired (fun v x => R H' v x) vs xs → Q vs H') → ta σ H Q
theorem ev_pr {z : Str} {n : Nat} {i : Int} (h : i = (n : Nat)) : EvP PrAt (tTup (tCons (tC (.str z)) (tCons (tC (.int i)) tNil))) (z, n) := fun σ H Q k => by
  subst h
  exact ⟨small (n := 2) (by decide), fun p hp => k _ _ (sameUpd hp) ⟨p, rfl, upd_same⟩⟩
theorem ev_nil {α : Type} {R : Hp → V → α → Prop} : EvPs R tNil [] := fun σ H Q k => k _ _ (Same.refl _) .nil
theorem ev_cons {α : Type} {R : Hp → V → α → Prop} (hR : ∀ H H' v x, Same H H' → R H v x → R H' v x) {te : TE} {ta : TA} {x : α} {xs : List α} (h1 : EvP R te x) (h2 : EvPs R ta xs) : EvPs R (tCons te ta) (x :: xs) := fun σ H Q k =>
  h1 σ H _ fun v H1 s1 r1 => h2 σ H1 _ fun vs H2 s2 r2 => k _ _ (s1.trans s2) (.cons (hR _ _ _ _ s2 r1) r2)
theorem prs_refs {H : Hp} : ∀ {vs : List V} {sh : List (Str × Nat)}, Paired (fun v p => PrAt H v p) vs sh → ∃ ts : List Addr, vs = ts.map V.ref ∧ Paired (fun t p => PrAt H (.ref t) p) ts sh
  | _, _, .nil => ⟨[], rfl, .nil⟩
  | _, _, .cons r t => by
    obtain ⟨ts, e, p⟩ := prs_refs t
    obtain ⟨a, ea, h⟩ := r
    exact ⟨a :: ts, by rw [List.map_cons, e, ea], .cons ⟨a, rfl, h⟩ p⟩
theorem shs_refs {H : Hp} : ∀ {vs : List V} {shs : List (List (Str × Nat))}, Paired (fun v p => ShAt H v p) vs shs → ∃ ts : List Addr, vs = ts.map V.ref
  | _, _, .nil => ⟨[], rfl⟩
  | _, _, .cons r t => by
    obtain ⟨ts, e⟩ := shs_refs t
    obtain ⟨l, _, ea, _⟩ := r
    exact ⟨l :: ts, by rw [List.map_cons, e, ea]⟩
theorem ev_sh {ta : TA} {sh : List (Str × Nat)} (h : EvPs PrAt ta sh) (hl : sh.length ≤ 1000) : EvP ShAt (tLst ta) sh := fun σ H Q k => by
  refine h σ H _ fun vs H1 s1 r1 => ?_
  have l := Paired.length r1
  refine ⟨small (by omega), fun p hp => k _ _ (s1.trans (sameUpd hp)) ?_⟩
  obtain ⟨ts, e, pr⟩ := prs_refs r1
  exact ⟨p, ts, rfl, by rw [upd_same, e], Paired.mono (fun _ _ z => z.same (sameUpd hp)) pr⟩
def LlAt (H : Hp) (v : V) (shs : List (List (Str × Nat))) : Prop := ∃ (l : Addr) (vs : List V), v = .ref l ∧ H l = some (.lst vs) ∧ Paired (fun v x => ShAt H v x) vs shs
theorem ev_ll {ta : TA} {shs : List (List (Str × Nat))} (h : EvPs ShAt ta shs) (hl : shs.length ≤ 1000) : EvP LlAt (tLst ta) shs := fun σ H Q k => by
  refine h σ H _ fun vs H1 s1 r1 => ?_
  have l := Paired.length r1
  refine ⟨small (by omega), fun p hp => k _ _ (s1.trans (sameUpd hp)) ⟨p, vs, rfl, upd_same, Paired.mono (fun _ _ z => z.same (sameUpd hp)) r1⟩⟩
theorem seq_setP {α : Type} {R : Hp → V → α → Prop} {x : α} {te : TE} {u : TS} {D : Ends} {σ : L2.St} {H : Hp} {i : Nat} (h : EvP R te x) (k : ∀ v H', Same H H' → R H' v x → u D (σ.set i (some v)) H') : tSeq (tAsg te (gName i)) u D σ H := h σ H _ k
theorem seq_catP {α : Type} {R : Hp → V → α → Prop} {x : α} {te : TE} {u : TS} {D : Ends} {σ : L2.St} {H : Hp} {i j : Nat} {v1 : V} (hv : σ[j]? = some (some v1)) (h : EvP R te x) (k : ∀ v H', Same H H' → R H' v x → rCat v1 v H' fun z H3 => u D (σ.set i (some z)) H3) : tSeq (tAsg (tOp rCat (tVar j) te) (gName i)) u D σ H := ⟨_, hv, h σ H _ k⟩
theorem C2 {te : TE} {ta : TA} {x : List (Str × Nat)} {xs : List (List (Str × Nat))} (h1 : EvP ShAt te x) (h2 : EvPs ShAt ta xs) : EvPs ShAt (tCons te ta) (x :: xs) := ev_cons (fun _ _ _ _ s h => h.same s) h1 h2
theorem C1 {te : TE} {ta : TA} {x : Str × Nat} {xs : List (Str × Nat)} (h1 : EvP PrAt te x) (h2 : EvPs PrAt ta xs) : EvPs PrAt (tCons te ta) (x :: xs) := ev_cons (fun _ _ _ _ s h => h.same s) h1 h2
theorem sh1 {te : TE} {p : Str × Nat} (h : EvP PrAt te p) : EvP ShAt (tLst (tCons te tNil)) [p] := ev_sh (C1 h ev_nil) (show 1 ≤ 1000 by decide)
theorem sh2 {te te2 : TE} {p p2 : Str × Nat} (h : EvP PrAt te p) (h2 : EvP PrAt te2 p2) : EvP ShAt (tLst (tCons te (tCons te2 tNil))) [p, p2] := ev_sh (C1 h (C1 h2 ev_nil)) (show 2 ≤ 1000 by decide)
theorem sh3 {te te2 te3 : TE} {p p2 p3 : Str × Nat} (h : EvP PrAt te p) (h2 : EvP PrAt te2 p2) (h3 : EvP PrAt te3 p3) : EvP ShAt (tLst (tCons te (tCons te2 (tCons te3 tNil)))) [p, p2, p3] := ev_sh (C1 h (C1 h2 (C1 h3 ev_nil))) (show 3 ≤ 1000 by decide)
/-! ### the shapes -/
def shapes1 : List (List (Str × Nat)) := [[("a", 1)], [("a", 2)], [("b", 2)], [("g", 2)], [("a", 3)], [("b", 3)], [("c", 3)], [("a", 1), ("a", 2)]]
def shapes2 : List (List (Str × Nat)) := [[("a", 1), ("b", 2)], [("a", 1), ("g", 2)], [("a", 2), ("a", 2)], [("a", 1), ("a", 1), ("a", 1)]]
def accStep (A : List (List Int)) (p : Str × Nat) : List (List Int) := if A = [] then namedM p.1 p.2 else beside A (namedM p.1 p.2)
def accM (sh : List (Str × Nat)) : List (List Int) := sh.foldl accStep []
def okB (z : Str) (n : Nat) : Bool := (decide (z = "a") && decide (1 ≤ n)) || ((decide (z = "b") || decide (z = "c") || decide (z = "g")) && decide (2 ≤ n))
theorem okB_ok {z : Str} {n : Nat} (h : okB z n = true) : LetterOk z n := by
  unfold okB at h
  simp only [Bool.or_eq_true, Bool.and_eq_true, decide_eq_true_eq] at h
  rcases h with h | ⟨(h | h) | h, k⟩
  · exact .inl h
  · exact .inr ⟨.inl h, k⟩
  · exact .inr ⟨.inr (.inl h), k⟩
  · exact .inr ⟨.inr (.inr h), k⟩
def rowsB (M : List (List Int)) : Bool := decide (M.length ≤ 8) && M.all fun r => decide (r.length ≤ 8)
def shB (sh : List (Str × Nat)) : Bool := (List.range sh.length).all (fun i => okB (sh.getD i ("", 0)).1 (sh.getD i ("", 0)).2 && decide ((sh.getD i ("", 0)).2 ≤ 8) && rowsB (accM (sh.take i)) && rowsB (namedM (sh.getD i ("", 0)).1 (sh.getD i ("", 0)).2)) && (decide ((accM sh).length ≤ 8) && (accM sh).all fun r => decide (r.length = (accM sh).length))
theorem shapes_ok : ∀ sh ∈ shapes1 ++ shapes2, shB sh = true := by decide +kernel
/-! ### equality with the empty list -/
def dLL (M : List (List Int)) : PyData := .list (M.map fun r => .list (r.map PyData.int))
theorem dpLL {K : PySem.W.Frag} {H : Hp} {D : Addr} {M : List (List Int)} (h : LMatAt H D M) : Dp K H (.ref D) (dLL M) := by
  obtain ⟨ts, e, pr⟩ := h
  refine .lst (SqL.of e) ?_
  clear e
  induction pr with
  | nil => exact .nil
  | cons r _ ih => exact .cons (dpL r) ih
theorem canLay_LL : ∀ M : List (List Int), PyData.canLayAll0 (M.map fun r => PyData.list (r.map PyData.int)) = true
  | [] => rfl
  | r :: M => by rw [List.map_cons, PyData.canLayAll0, PyData.canLay0, canLay_ints, canLay_LL M]; rfl
theorem depth_LL : ∀ M : List (List Int), PyData.depthAll (M.map fun r => PyData.list (r.map PyData.int)) ≤ 1
  | [] => by decide
  | r :: M => by
    rw [List.map_cons, PyData.depthAll, PyData.depth, PySem.W.depth_ints]
    have := depth_LL M
    omega
theorem shaped_LL (M : List (List Int)) : SeqAt.shaped (dLL M) = true := by
  unfold SeqAt.shaped dLL
  rw [PyData.canLay0, canLay_LL, PyData.depth, Bool.true_and]
  have := depth_LL M
  exact decide_eq_true (by omega)
theorem eqv_LL (M : List (List Int)) : PyData.eqv (dLL M) (.list (([] : List Int).map PyData.int)) = decide (M = []) := by
  unfold dLL
  cases M with
  | nil => rfl
  | cons r M => rfl
theorem shB_at {sh : List (Str × Nat)} (h : shB sh = true) {i : Nat} (hi : i < sh.length) : LetterOk (sh.getD i ("", 0)).1 (sh.getD i ("", 0)).2 ∧ (sh.getD i ("", 0)).2 ≤ 8 ∧ rowsB (accM (sh.take i)) = true ∧ rowsB (namedM (sh.getD i ("", 0)).1 (sh.getD i ("", 0)).2) = true := by
  unfold shB at h
  rw [Bool.and_eq_true, List.all_eq_true] at h
  have z := h.1 i (List.mem_range.mpr hi)
  simp only [Bool.and_eq_true, decide_eq_true_eq] at z
  exact ⟨okB_ok z.1.1.1, z.1.1.2, z.1.2, z.2⟩
theorem shB_sq {sh : List (Str × Nat)} (h : shB sh = true) : SqN (accM sh).length (accM sh) ∧ (accM sh).length ≤ 8 := by
  unfold shB at h
  simp only [Bool.and_eq_true, List.all_eq_true, decide_eq_true_eq] at h
  exact ⟨⟨rfl, fun r hr => h.2.2 r hr⟩, h.2.1⟩
theorem rowsB_ok {M : List (List Int)} (h : rowsB M = true) : M.length ≤ 8 ∧ ∀ r ∈ M, r.length ≤ 8 := by
  unfold rowsB at h
  simp only [Bool.and_eq_true, List.all_eq_true, decide_eq_true_eq] at h
  exact h
theorem accM_snoc {sh : List (Str × Nat)} {i : Nat} (hi : i < sh.length) : accM (sh.take (i + 1)) = accStep (accM (sh.take i)) (sh.getD i ("", 0)) := by
  have : sh.take (i + 1) = sh.take i ++ [sh.getD i ("", 0)] := by
    rw [List.take_succ, List.getD_eq_getElem?_getD, List.getElem?_eq_getElem hi]
    rfl
  unfold accM
  rw [this, List.foldl_append]
  rfl
def spSmall (K : PySem.W.Frag) : Sp := fun vs H Q _ => ∃ (r sc : Addr), vs = [.ref r] ∧ RowAt K r sc H ∧
  ∀ H' q sh o, But r H H' → RowAt K r sc H' → sh ∈ shapes1 ++ shapes2 → o.Perm (List.range (accM sh).length) → MatAt H' q (permM (accM sh) o) → Q (.ref q) H'
section
variable {P : Program} {w : World} {K : PySem.W.Frag} {mg : Str → Option Value} {base : Heap} {C : Addr}
abbrev nLSmall : List Str := ["_law_row", "_law_some", "_law_found", "_law_letter", "_law_many"]
theorem scLSmall : FnScope nLSmall ["_law_row"] (defScope sDLSmall) := ⟨rfl, rfl, rfl, by decide +kernel, rfl, by decide +kernel, by decide +kernel⟩
theorem c_lSmall (T : Txt K mg C) (F : Fn K mg "_law_small" "_law_small" sDLSmall ["_law_row"]) (c_lMixed : Cal P w K mg base 2 "_law_mixed" (spMixed K) []) (c_lPick : Cal P w K mg base 2 "_law_pick" (spPick K) []) (c_lBeside : Cal P w K mg base 1 "_law_beside" (spBeside) []) (c_lNamed : Cal P w K mg base 1 "_law_named" (spNamed) []) : Cal P w K mg base 3 "_law_small" (spSmall K) [] := by
  refine F.cal scLSmall (fun vs H Q E h => by obtain ⟨_, _, rfl, _⟩ := h; rfl) (fun cdv A outer s f H vs Q E hr h => ?_)
  have nd := scLSmall.nd
  obtain ⟨r, sc, rfl, hr0, q⟩ := h
  refine ⟨_, (pss_cons (ps_set (i := 1) nd rfl (.inl rfl) (pe_lst (pa_cons (pe_lst (pa_cons (pe_tup (pa_cons pe_str (pa_cons pe_int pa_nil))) pa_nil)) (pa_cons (pe_lst (pa_cons (pe_tup (pa_cons pe_str (pa_cons pe_int pa_nil))) pa_nil)) (pa_cons (pe_lst (pa_cons (pe_tup (pa_cons pe_str (pa_cons pe_int pa_nil))) pa_nil)) (pa_cons (pe_lst (pa_cons (pe_tup (pa_cons pe_str (pa_cons pe_int pa_nil))) pa_nil)) (pa_cons (pe_lst (pa_cons (pe_tup (pa_cons pe_str (pa_cons pe_int pa_nil))) pa_nil)) (pa_cons (pe_lst (pa_cons (pe_tup (pa_cons pe_str (pa_cons pe_int pa_nil))) pa_nil)) (pa_cons (pe_lst (pa_cons (pe_tup (pa_cons pe_str (pa_cons pe_int pa_nil))) pa_nil)) (pa_cons (pe_lst (pa_cons (pe_tup (pa_cons pe_str (pa_cons pe_int pa_nil))) (pa_cons (pe_tup (pa_cons pe_str (pa_cons pe_int pa_nil))) pa_nil))) pa_nil))))))))))
      (pss_cons (ps_set (i := 1) nd rfl (.inl rfl) (pe_op op_cat (pv 1) (pe_lst (pa_cons (pe_lst (pa_cons (pe_tup (pa_cons pe_str (pa_cons pe_int pa_nil))) (pa_cons (pe_tup (pa_cons pe_str (pa_cons pe_int pa_nil))) pa_nil))) (pa_cons (pe_lst (pa_cons (pe_tup (pa_cons pe_str (pa_cons pe_int pa_nil))) (pa_cons (pe_tup (pa_cons pe_str (pa_cons pe_int pa_nil))) pa_nil))) (pa_cons (pe_lst (pa_cons (pe_tup (pa_cons pe_str (pa_cons pe_int pa_nil))) (pa_cons (pe_tup (pa_cons pe_str (pa_cons pe_int pa_nil))) pa_nil))) (pa_cons (pe_lst (pa_cons (pe_tup (pa_cons pe_str (pa_cons pe_int pa_nil))) (pa_cons (pe_tup (pa_cons pe_str (pa_cons pe_int pa_nil))) (pa_cons (pe_tup (pa_cons pe_str (pa_cons pe_int pa_nil))) pa_nil)))) pa_nil)))))))
      (pss_cons (ps_set (i := 2) nd rfl (.inl rfl) (pe_lst pa_nil))
      (pss_cons (ps_for PassesOwn.never rfl (pi_list (pe_c c_lPick hr (by decide) rfl (pa_cons (pv 0) (pa_cons (pv 1) pa_nil)))) (pg_tup rfl (pgs_cons (pg_name (i := 3) nd rfl (.inl rfl)) (pgs_cons (pg_name (i := 4) nd rfl (.inl rfl)) pgs_nil))) (pss_one (ps_set (i := 2) nd rfl (.inl rfl) (pe_ifExp (pt_cmpR (op_neD hr.units) (pv 2) (pe_lst pa_nil) (nomark _)) (pe_c c_lBeside hr (by decide) rfl (pa_cons (pv 2) (pa_cons (pe_c c_lNamed hr (by decide) rfl (pa_cons (pv 3) (pa_cons (pv 4) pa_nil))) pa_nil))) (pe_c c_lNamed hr (by decide) rfl (pa_cons (pv 3) (pa_cons (pv 4) pa_nil)))))))
      (pss_one (ps_ret (pe_c c_lMixed hr (by decide) rfl (pa_cons (pv 0) (pa_cons (pv 2) pa_nil))))))))), ?_⟩
  refine seq_setP (R := LlAt) (x := shapes1) (ev_ll (C2 (sh1 (ev_pr rfl)) (C2 (sh1 (ev_pr rfl)) (C2 (sh1 (ev_pr rfl)) (C2 (sh1 (ev_pr rfl)) (C2 (sh1 (ev_pr rfl)) (C2 (sh1 (ev_pr rfl)) (C2 (sh1 (ev_pr rfl)) (C2 (sh2 (ev_pr rfl) (ev_pr rfl)) ev_nil)))))))) (by decide)) fun v1 H1 s1 r1 => ?_
  obtain ⟨l1, vs1, rfl, e1, p1⟩ := r1
  refine seq_catP (R := LlAt) (x := shapes2) rfl (ev_ll (C2 (sh2 (ev_pr rfl) (ev_pr rfl)) (C2 (sh2 (ev_pr rfl) (ev_pr rfl)) (C2 (sh2 (ev_pr rfl) (ev_pr rfl)) (C2 (sh3 (ev_pr rfl) (ev_pr rfl) (ev_pr rfl)) ev_nil)))) (by decide)) fun v2 H2 s2 r2 => ?_
  obtain ⟨l2, vs2, rfl, e2, p2⟩ := r2
  have k1 := Paired.length p1
  have k2 := Paired.length p2
  have k1' : vs1.length = 8 := k1
  have k2' : vs2.length = 4 := k2
  refine ⟨l1, l2, vs1, vs2, rfl, rfl, s2 _ _ e1, e2, small (by omega), fun L hL => ?_⟩
  have s3 := (s1.trans s2).trans (sameUpd (o := HO.lst (vs1 ++ vs2)) hL)
  have pL : Paired (fun v x => ShAt (upd H2 L (HO.lst (vs1 ++ vs2))) v x) (vs1 ++ vs2) (shapes1 ++ shapes2) := paired_app (Paired.mono (fun _ _ z => z.same (s2.trans (sameUpd hL))) p1) (Paired.mono (fun _ _ z => z.same (sameUpd hL)) p2)
  have eL : (upd H2 L (HO.lst (vs1 ++ vs2))) L = some (.lst (vs1 ++ vs2)) := upd_same
  refine ⟨small (n := 0) (by decide), fun D0 n0 => ?_⟩
  have s4 := s3.trans (sameUpd (o := HO.lst []) n0)
  have pL := Paired.mono (fun _ _ z => ShAt.same (sameUpd (o := HO.lst []) n0) z) pL
  have eL := up eL n0 (o' := HO.lst [])
  obtain ⟨tsL, etL⟩ := shs_refs pL
  have r4 := hr0.same s4
  have eL2 : (upd (upd H2 L (HO.lst (vs1 ++ vs2))) D0 (.lst [])) L = some (.lst (tsL.map V.ref)) := by rw [← etL]; exact eL
  refine ⟨_, rfl, _, rfl, r, sc, L, vs1 ++ vs2, rfl, SqL.of eL, fun H' b => SqL.of (b _ _ (list_ne r4 eL2) eL), by rw [List.length_append]; omega, by rw [List.length_append]; omega, r4, fun H5 x hx b5 r5 => ?_⟩
  obtain ⟨i, hi⟩ := List.mem_iff_getElem?.mp hx
  have hgets : ∃ sh, sh ∈ shapes1 ++ shapes2 ∧ ShAt H5 x sh := by
    have := paired_getL pL hi
    obtain ⟨sh, h1, h2⟩ := this
    exact ⟨sh, List.mem_of_getElem? h1, h2.but r4 b5⟩
  obtain ⟨sh, hsh, l, ts, rfl, el, ps⟩ := hgets
  have hB := shapes_ok sh hsh
  have e0 : H5 D0 = some (.lst (([] : List Addr).map V.ref)) := b5 _ _ (list_ne r4 (ts := []) upd_same) upd_same
  have hsq := shB_sq hB
  have lts : ts.length = sh.length := Paired.length ps
  refine ⟨_, rfl, ⟨_, SqL.of el⟩, ?_⟩
  refine for_it (walk_list (xs := ts.map V.ref)) (fun i σ H' => ∃ D x3 x4, σ = [some (.ref r), some (.ref L), some (.ref D), x3, x4] ∧ Same H5 H' ∧ LMatAt H' D (accM (sh.take i))) ⟨D0, none, none, rfl, Same.refl _, [], e0, Paired.nil⟩ (fun i σ H' _ p => by obtain ⟨_, _, _, _, s, _⟩ := p; exact SqL.of (s _ _ el)) (fun i x σ H' H'' hi p y => ?_) (fun σ H' p => ?_)
  · obtain ⟨D, x3, x4, rfl, s, hD⟩ := p
    obtain ⟨rfl, hx⟩ := y
    obtain ⟨hOk, hn8, ha, hb⟩ := shB_at hB (i := i) (by rw [List.length_map, lts] at hi; exact hi)
    have hi2 : i < sh.length := by rw [List.length_map, lts] at hi; exact hi
    obtain ⟨p, hp1, t, et, ht⟩ : ∃ p, sh[i]? = some p ∧ PrAt H5 x p := by
      rw [List.getElem?_map] at hx
      cases hti : ts[i]? with
      | none => rw [hti] at hx; cases hx
      | some a =>
        rw [hti] at hx
        cases hx
        obtain ⟨p, h1, h2⟩ := paired_getL ps hti
        exact ⟨p, h1, h2⟩
    subst et
    have ep : sh.getD i ("", 0) = p := by rw [List.getD_eq_getElem?_getD, hp1]; rfl
    rw [ep] at hOk hn8 hb
    obtain ⟨z, n⟩ := p
    refine ⟨t, _, rfl, SqT.of (s _ _ ht), rfl, _, _, rfl, _, _, rfl, rfl, ?_⟩
    refine ⟨_, rfl, small (n := 0) (by decide), fun u nu => ⟨_, _, dpLL (hD.same (sameUpd nu)), dpL (ns := []) upd_same, shaped_LL _, shaped_listI _, _, rfl, ?_⟩⟩
    rw [eqv_LL]
    have su := s.trans (sameUpd (o := HO.lst []) nu)
    have hD2 := hD.same (sameUpd (o := HO.lst []) nu)
    by_cases c : accM (sh.take i) = []
    · rw [decide_eq_true c]
      refine iteN rfl ⟨_, rfl, _, rfl, z, n, rfl, hOk, hn8, fun H6 p6 s6 m6 => ⟨p6, _, _, rfl, su.trans s6, ?_⟩⟩
      rw [accM_snoc hi2, ep]
      unfold accStep
      rw [if_pos c]
      exact m6
    · rw [decide_eq_false c]
      obtain ⟨ha1, ha2⟩ := rowsB_ok ha
      obtain ⟨hb1, hb2⟩ := rowsB_ok hb
      refine iteP rfl ⟨_, rfl, _, rfl, _, rfl, z, n, rfl, hOk, hn8, fun H6 p6 s6 m6 => ⟨D, p6, _, _, rfl, hD2.same s6, m6, ha1, hb1, ha2, hb2, fun H7 p7 s7 m7 => ⟨p7, _, _, rfl, (su.trans s6).trans s7, ?_⟩⟩⟩
      rw [accM_snoc hi2, ep]
      unfold accStep
      rw [if_neg c]
      exact m7
  · obtain ⟨D, x3, x4, rfl, s, hD⟩ := p
    rw [List.length_map, lts, List.take_length] at hD
    refine ⟨_, rfl, _, rfl, r, sc, D, accM sh, rfl, r5.same s, hD, hsq.1, hsq.2, fun H8 q8 o b8 r8 po m8 => ?_⟩
    exact q _ q8 sh o (((But.refl r H).same s4).trans (b5.trans (((But.refl r H5).same s).trans b8))) r8 hsh po m8
end
end Kal

set_option Elab.async false
set_option linter.all false
set_option maxRecDepth 100000
set_option maxHeartbeats 4000000
/-! KD20: _law_rooms. -/
namespace Kal
open PySem PySem.Spec PyProof.Rows L2 SX C8
def TupsAt (H : Hp) (D : Addr) (rows : List (List Int)) : Prop := ∃ ts : List Addr, H D = some (.lst (ts.map V.ref)) ∧ Paired (fun t (row : List Int) => H t = some (.tup (row.map V.int))) ts rows
theorem TupsAt.same {H H' : Hp} {D : Addr} {rows : List (List Int)} (s : Same H H') (h : TupsAt H D rows) : TupsAt H' D rows := by
  obtain ⟨ts, e, p⟩ := h
  exact ⟨ts, s _ _ e, Paired.mono (fun _ _ z => s _ _ z) p⟩
def ins (d : Nat) (st : List (List Int × Nat) × List (List Int)) (x : List Int) : List (List Int × Nat) × List (List Int) := if x ∈ st.1.map Prod.fst then st else (st.1 ++ [(x, d)], st.2 ++ [x])
def roomSt (M : List (List Int)) (d : Nat) (st : List (List Int × Nat) × List (List Int)) (room : List Int) (j : Nat) : List (List Int × Nat) × List (List Int) := (List.range j).foldl (fun st l => ins d st (chg M room l)) st
def layerSt (M : List (List Int)) (d : Nat) (st : List (List Int × Nat) × List (List Int)) (layer : List (List Int)) : List (List Int × Nat) × List (List Int) := layer.foldl (fun st room => roomSt M d st room M.length) st
def bfsSt (M : List (List Int)) : Nat → List (List Int × Nat) × List (List Int)
  | 0 => ([(ones M.length, 0)], [ones M.length])
  | t + 1 => layerSt M (t + 1) ((bfsSt M t).1, []) (bfsSt M t).2
def fk (f : List (List Int × Nat)) : List (List Key × V) := f.map fun p => ((p.1.map Sum.inl : List Key), V.int ((p.2 : Nat) : Int))
theorem inl_inj {a b : List Int} (h : (a.map Sum.inl : List Key) = b.map Sum.inl) : a = b := (List.map_inj_right (fun x y z => Sum.inl.inj z)).mp h
theorem fk_val (f : List (List Int × Nat)) (x : List Int) : (valV (fk f) (x.map Sum.inl)).isSome = decide (x ∈ f.map Prod.fst) := by
  induction f with
  | nil => rfl
  | cons p r ih =>
    by_cases e : p.1 = x
    · subst e
      rw [fk, List.map_cons, valV_pos rfl]
      simp
    · have : valV (fk (p :: r)) (x.map Sum.inl) = valV (fk r) (x.map Sum.inl) := by
        unfold fk valV
        rw [List.map_cons, List.find?_cons]
        have : ¬ ((p.1.map Sum.inl : List Key) = x.map Sum.inl) := fun z => e (inl_inj z)
        simp [this]
      rw [this, ih]
      have h2 : ¬ x = p.1 := fun z => e z.symm
      simp [h2]
theorem fk_put {f : List (List Int × Nat)} {x : List Int} {d : Nat} (h : x ∉ f.map Prod.fst) : putK (fk f) (x.map Sum.inl) (V.int ((d : Nat) : Int)) = fk (f ++ [(x, d)]) := by
  unfold putK
  rw [if_neg]
  · unfold fk
    rw [List.map_append]
    rfl
  · intro z
    rw [List.any_eq_true] at z
    obtain ⟨p, hp, e⟩ := z
    unfold fk at hp
    obtain ⟨m, hm, rfl⟩ := List.mem_map.mp hp
    have e2 := inl_inj (of_decide_eq_true e)
    exact h (List.mem_map.mpr ⟨m, hm, e2⟩)
theorem keyI (x : List Int) : (x.map Sum.inl : List Key).map kV = x.map V.int := by rw [List.map_map]; rfl
/-- the same but for what stands at D and at B -/
def But2 (D B : Addr) (H H' : Hp) : Prop := ∀ b o, b ≠ D → b ≠ B → H b = some o → H' b = some o
theorem But2.refl (D B : Addr) (H : Hp) : But2 D B H H := fun _ _ _ _ e => e
theorem But2.same {D B : Addr} {H H1 H2 : Hp} (a : But2 D B H H1) (b : Same H1 H2) : But2 D B H H2 := fun c o n1 n2 e => b c o (a c o n1 n2 e)
theorem But2.upd1 {D B : Addr} {H H1 : Hp} {o : HO} (a : But2 D B H H1) : But2 D B H (upd H1 D o) := fun c x n1 n2 e => by rw [upd_ne n1]; exact a c x n1 n2 e
theorem But2.upd2 {D B : Addr} {H H1 : Hp} {o : HO} (a : But2 D B H H1) : But2 D B H (upd H1 B o) := fun c x n1 n2 e => by rw [upd_ne n2]; exact a c x n1 n2 e
/-- the state of the search: the dict at D1, the list of the new rooms at D3; Ht: the heap as the turn began -/
def SrchAt (n : Nat) (Ht : Hp) (D1 D3 : Addr) (st : List (List Int × Nat) × List (List Int)) (H : Hp) : Prop := But2 D1 D3 Ht H ∧ H D1 = some (.dT (fk st.1)) ∧ TupsAt H D3 st.2 ∧ (∀ x ∈ st.2, x.length = n) ∧ D1 ≠ D3
theorem SrchAt.same {n : Nat} {Ht H H' : Hp} {D1 D3 : Addr} {st : List (List Int × Nat) × List (List Int)} (s : Same H H') (h : SrchAt n Ht D1 D3 st H) : SrchAt n Ht D1 D3 st H' := ⟨h.1.same s, s _ _ h.2.1, h.2.2.1.same s, h.2.2.2.1, h.2.2.2.2⟩
theorem SrchAt.tup {n : Nat} {Ht H : Hp} {D1 D3 t : Addr} {st : List (List Int × Nat) × List (List Int)} {xs : List V} {o1 : List (List Key × V)} {o3 : List V} (h : SrchAt n Ht D1 D3 st H) (h1 : Ht D1 = some (.dT o1)) (h3 : Ht D3 = some (.lst o3)) (e : Ht t = some (.tup xs)) : H t = some (.tup xs) := by
  refine h.1 _ _ ?_ ?_ e
  · intro z; rw [z, h1] at e; cases e
  · intro z; rw [z, h3] at e; cases e
theorem SrchAt.mat {n : Nat} {Ht H : Hp} {D1 D3 p : Addr} {st : List (List Int × Nat) × List (List Int)} {M : List (List Int)} {o1 : List (List Key × V)} {o3 : List V} (h : SrchAt n Ht D1 D3 st H) (h1 : Ht D1 = some (.dT o1)) (h3 : Ht D3 = some (.lst o3)) (m : MatAt Ht p M) : MatAt H p M := by
  obtain ⟨ts, e, pr⟩ := m
  exact ⟨ts, h.tup h1 h3 e, Paired.mono (fun _ _ z => h.tup h1 h3 z) pr⟩
/-- a new room is kept -/
theorem SrchAt.add {n : Nat} {Ht H : Hp} {D1 D3 t : Addr} {st : List (List Int × Nat) × List (List Int)} {x : List Int} {d : Nat} (h : SrchAt n Ht D1 D3 st H) (et : H t = some (.tup (x.map V.int))) (hx : x.length = n) (hn : x ∉ st.1.map Prod.fst) {ts : List V} (e3 : H D3 = some (.lst ts)) :
    SrchAt n Ht D1 D3 (ins d st x) (upd (upd H D1 (.dT (fk (st.1 ++ [(x, d)])))) D3 (.lst (ts ++ [.ref t]))) := by
  obtain ⟨b, e1, ⟨ts', e3', pr⟩, hl, ne⟩ := h
  have : ts = ts'.map V.ref := by rw [e3] at e3'; have := Option.some.inj e3'; injection this
  subst this
  unfold ins
  rw [if_neg hn]
  refine ⟨b.upd1.upd2, by rw [upd_ne ne]; exact upd_same, ⟨ts' ++ [t], by rw [upd_same, List.map_append]; rfl, ?_⟩, fun y hy => ?_, ne⟩
  · have tk : ∀ (a : Addr) (xs : List V), H a = some (.tup xs) → (upd (upd H D1 (.dT (fk (st.1 ++ [(x, d)])))) D3 (.lst (ts'.map V.ref ++ [.ref t]))) a = some (.tup xs) := fun a xs e => by
      rw [upd_ne, upd_ne]
      · exact e
      · intro z; rw [z, e1] at e; cases e
      · intro z; rw [z, e3] at e; cases e
    exact paired_app (Paired.mono (fun _ _ z => tk _ _ z) pr) (paired_single (tk _ _ et))
  · rcases List.mem_append.mp hy with z | z
    · exact hl y z
    · rw [List.mem_singleton.mp z]; exact hx
theorem ins_old {d : Nat} {st : List (List Int × Nat) × List (List Int)} {x : List Int} (h : x ∈ st.1.map Prod.fst) : ins d st x = st := if_pos h
theorem roomSt_succ (M : List (List Int)) (d : Nat) (st : List (List Int × Nat) × List (List Int)) (room : List Int) (j : Nat) : roomSt M d st room (j + 1) = ins d (roomSt M d st room j) (chg M room j) := by
  unfold roomSt
  rw [List.range_succ, List.foldl_append]
  rfl
theorem ins_len {d : Nat} {st : List (List Int × Nat) × List (List Int)} {x : List Int} : (ins d st x).1.length ≤ st.1.length + 1 ∧ (ins d st x).2.length ≤ st.2.length + 1 ∧ st.1.length ≤ (ins d st x).1.length ∧ (ins d st x).1.length + st.2.length = st.1.length + (ins d st x).2.length := by
  unfold ins
  split
  · exact ⟨by omega, by omega, by omega, by omega⟩
  · simp only [List.length_append, List.length_cons, List.length_nil]
    exact ⟨by omega, by omega, by omega, by omega⟩
def spRooms : Sp := fun vs H Q _ => ∃ (pa : Addr) (M : List (List Int)) (most deep : Nat), vs = [.ref pa, .int (most : Nat), .int (deep : Nat)] ∧ MatAt H pa M ∧ SqM M ∧ most ≤ 1000 ∧ deep ≤ 1000 ∧ (∀ t, t ≤ deep → (bfsSt M t).1.length ≤ most) ∧
  ∀ H' p, Same H H' → H p = none → H' p = some (.dT (fk (bfsSt M deep).1)) → Q (.ref p) H'
theorem roomSt_len (M : List (List Int)) (d : Nat) (st : List (List Int × Nat) × List (List Int)) (room : List Int) : ∀ j, (roomSt M d st room j).1.length ≤ st.1.length + j ∧ (roomSt M d st room j).2.length ≤ st.2.length + j ∧ (roomSt M d st room j).1.length + st.2.length = st.1.length + (roomSt M d st room j).2.length
  | 0 => ⟨Nat.le_refl _, Nat.le_refl _, rfl⟩
  | j + 1 => by
    obtain ⟨a, b, c⟩ := roomSt_len M d st room j
    obtain ⟨a2, b2, _, c2⟩ := ins_len (d := d) (st := roomSt M d st room j) (x := chg M room j)
    rw [roomSt_succ]
    exact ⟨by omega, by omega, by omega⟩
theorem layerSt_len (M : List (List Int)) (d : Nat) : ∀ (layer : List (List Int)) (st : List (List Int × Nat) × List (List Int)), (layerSt M d st layer).1.length ≤ st.1.length + M.length * layer.length ∧ (layerSt M d st layer).2.length ≤ st.2.length + M.length * layer.length ∧ (layerSt M d st layer).1.length + st.2.length = st.1.length + (layerSt M d st layer).2.length
  | [], st => ⟨by simp [layerSt], by simp [layerSt], rfl⟩
  | r :: layer, st => by
    obtain ⟨a, b, c⟩ := roomSt_len M d st r M.length
    obtain ⟨a2, b2, c2⟩ := layerSt_len M d layer (roomSt M d st r M.length)
    show (layerSt M d (roomSt M d st r M.length) layer).1.length ≤ _ ∧ (layerSt M d (roomSt M d st r M.length) layer).2.length ≤ _ ∧ (layerSt M d (roomSt M d st r M.length) layer).1.length + _ = _ + (layerSt M d (roomSt M d st r M.length) layer).2.length
    rw [List.length_cons, Nat.mul_succ]
    exact ⟨by omega, by omega, by omega⟩
theorem bfs_layer_le (M : List (List Int)) : ∀ t, (bfsSt M t).2.length ≤ (bfsSt M t).1.length
  | 0 => Nat.le_refl _
  | t + 1 => by
    have := (layerSt_len M (t + 1) (bfsSt M t).2 ((bfsSt M t).1, [])).2.2
    show (layerSt M (t + 1) ((bfsSt M t).1, []) (bfsSt M t).2).2.length ≤ (layerSt M (t + 1) ((bfsSt M t).1, []) (bfsSt M t).2).1.length
    simp at this
    omega
theorem layerSt_take {M : List (List Int)} {d : Nat} {st : List (List Int × Nat) × List (List Int)} {layer : List (List Int)} {k : Nat} (h : k < layer.length) : layerSt M d st (layer.take (k + 1)) = roomSt M d (layerSt M d st (layer.take k)) (layer.getD k []) M.length := by
  have : layer.take (k + 1) = layer.take k ++ [layer.getD k []] := by
    rw [List.take_succ, List.getD_eq_getElem?_getD, List.getElem?_eq_getElem h]
    rfl
  unfold layerSt
  rw [this, List.foldl_append]
  rfl
section
variable {P : Program} {w : World} {K : PySem.W.Frag} {mg : Str → Option Value} {base : Heap} {C : Addr}
abbrev nLRooms : List Str := ["_law_pushes", "_law_most", "_law_deep", "_law_first", "_law_found", "_law_layer", "_law_turn", "_law_later", "_law_room", "_law_lamp", "_law_there"]
theorem scLRooms : FnScope nLRooms ["_law_pushes", "_law_most", "_law_deep"] (defScope sDLRooms) := ⟨rfl, rfl, rfl, by decide +kernel, rfl, by decide +kernel, by decide +kernel⟩
theorem c_lRooms (T : Txt K mg C) (F : Fn K mg "_law_rooms" "_law_rooms" sDLRooms ["_law_pushes", "_law_most", "_law_deep"]) (c_lPress : Cal P w K mg base 1 "_law_press" (spPress) []) : Cal P w K mg base 2 "_law_rooms" (spRooms) [] := by
  refine F.cal scLRooms (fun vs H Q E h => by obtain ⟨_, _, _, _, rfl, _⟩ := h; rfl) (fun cdv A outer s f H vs Q E hr h => ?_)
  have nd := scLRooms.nd
  have hu := hu_of hr
  obtain ⟨pa, M, most, deep, rfl, mt, S, hmost, hdeep, hb, q⟩ := h
  have h1 := S.pos
  have h8 := S.most
  obtain ⟨tsP, eP, lP⟩ := mt.len
  refine ⟨_, (pss_cut (ps_set (i := 3) nd rfl (.inl rfl) (pe_op op_mulT (pe_tup (pa_cons pe_int pa_nil)) (pe_callB call_len_seq rfl T.len (by decide +kernel) (pa_cons (pv 0) pa_nil))))
      (pss_cons (ps_par (i := 4) (j := 5) rfl nd rfl rfl (by decide) rfl rfl (pa_cons (pe_disp1 hr.units0 (pv 3) pe_int) (pa_cons (pe_lst (pa_cons (pv 3) pa_nil)) pa_nil)) (by rfl))
      (pss_cons (ps_for PassesOwn.never rfl (pi_range1 rfl T.range (pa_cons (pv 2) pa_nil)) (pg_name (i := 6) nd rfl (.inl rfl)) (pss_cons (ps_set (i := 7) nd rfl (.inl rfl) (pe_lst pa_nil))
      (pss_cut (ps_for PassesOwn.never rfl (pi_list (pv 5)) (pg_name (i := 8) nd rfl (.inl rfl)) (pss_one (ps_for PassesOwn.never rfl (pi_range1 rfl T.range (pa_cons (pe_callB call_len_seq rfl T.len (by decide +kernel) (pa_cons (pv 0) pa_nil)) pa_nil)) (pg_name (i := 9) nd rfl (.inl rfl)) (pss_cons (ps_set (i := 10) nd rfl (.inl rfl) (pe_c c_lPress hr (by decide) rfl (pa_cons (pv 0) (pa_cons (pv 8) (pa_cons (pv 9) pa_nil)))))
      (pss_one (ps_if (pt_cmp (pc_dnotin hu (pv 10) (pv 4))) (pss_cons (ps_dput hu (pv 4) (pv 10) (pe_op op_add (pv 6) pe_int) rfl)
      (pss_one (ps_expr (pe_bm PySem.F.plainAttrs_list PySem.F.slot_list_append PySem.F.type_list_append mt_append (pv 7) (pa_cons (pv 10) pa_nil))))) pss_nil))))))
      (pss_cons (ps_if (pt_cmpR op_gt (pe_callB call_len_dT rfl T.len (by decide +kernel) (pa_cons (pv 4) pa_nil)) (pv 1) (nomark _)) (pss_one (ps_ret pe_non)) pss_nil)
      (pss_one (ps_set (i := 5) nd rfl (.inl rfl) (pv 7)))))))
      (pss_one (ps_ret (pv 4)))))), ?_⟩
  refine ⟨fun σ' H' => ∃ f1, σ' = [some (.ref pa), some (.int (most : Nat)), some (.int (deep : Nat)), some (.ref f1), none, none, none, none, none, none, none] ∧ Same H H' ∧ H' f1 = some (.tup ((ones M.length).map V.int)), ?_, ?_⟩
  · refine ⟨small (n := 1) (by decide), fun t ht => ?_⟩
    refine ⟨_, rfl, pa, _, rfl, .inr (SqT.of (up eP ht)), t, _, _, rfl, rfl, SqT.of upd_same, by simp, by omega, by omega, by simp, fun e => ?_, fun e p hp => ?_⟩
    · refine ⟨t, rfl, sameUpd ht, ?_⟩
      rw [upd_same]
      have : M.length = 1 := by omega
      rw [this]
      rfl
    · refine ⟨p, rfl, (sameUpd ht).trans (sameUpd hp), ?_⟩
      rw [upd_same, ← ones_flat, lP]
      rfl
  · rintro σ' H1 ⟨f1, rfl, s1, e1⟩
    refine fun D1 n1 => ⟨_, rfl, upd_same, f1, (ones M.length).map Sum.inl, rfl, by rw [keyI]; exact up e1 n1, ?_⟩
    have sA : Same H1 (upd (upd H1 D1 (.dT [])) D1 (.dT [((ones M.length).map Sum.inl, V.int 0)])) := sameOfBut (sameUpd n1) n1 But.upd
    have dA : (upd (upd H1 D1 (.dT [])) D1 (.dT [((ones M.length).map Sum.inl, V.int 0)])) D1 = some (.dT (fk (bfsSt M 0).1)) := upd_same
    generalize upd (upd H1 D1 (.dT [])) D1 (.dT [((ones M.length).map Sum.inl, V.int 0)]) = HA at *
    refine ⟨_, rfl, small (n := 1) (by decide), fun D2 n2 => ⟨_, _, rfl, ?_⟩⟩
    have sB := sA.trans (sameUpd (o := HO.lst [.ref f1]) n2)
    have hD1 : H D1 = none := s1.free n1
    refine ⟨_, rfl, _, rfl, by omega, by omega, ?_⟩
    have en : ((deep : Nat) : Int).toNat = deep := Int.toNat_natCast _
    rw [en]
    refine for_it walk_range (fun t σ H' => ∃ D2 x6 x7 x8 x9 x10, σ = [some (.ref pa), some (.int (most : Nat)), some (.int (deep : Nat)), some (.ref f1), some (.ref D1), some (.ref D2), x6, x7, x8, x9, x10] ∧ Same H H' ∧ H' D1 = some (.dT (fk (bfsSt M t).1)) ∧ TupsAt H' D2 (bfsSt M t).2 ∧ ∀ x ∈ (bfsSt M t).2, x.length = M.length)
      ⟨D2, none, none, none, none, none, rfl, s1.trans sB, up dA n2, ⟨[f1], upd_same, paired_single (sB _ _ e1)⟩, fun x hx => by rw [List.mem_singleton.mp hx]; simp [ones]⟩ (fun _ _ _ _ _ => True.intro) (fun t x σ H2 H3 ht p y => ?_) (fun σ H2 p => ?_)
    · obtain ⟨D2, x6, x7, x8, x9, x10, rfl, s2, d1, tl, hl⟩ := p
      obtain ⟨rfl, rfl⟩ := y
      have hf1000 := Nat.le_trans (hb t (by omega)) hmost
      have hl1000 := Nat.le_trans (bfs_layer_le M t) hf1000
      refine ⟨small (n := 0) (by decide), fun D3 n3 => ?_⟩
      have s3 := s2.trans (sameUpd (o := HO.lst []) n3)
      have hD3 : H D3 = none := s2.free n3
      have d1' := up d1 n3 (o' := HO.lst [])
      have tl' := tl.same (sameUpd (o := HO.lst []) n3)
      have d13 : D1 ≠ D3 := ne_of_none d1 n3
      have d32 : ∀ l, (upd H3 D3 (HO.lst [])) D2 = some (.lst l) → D2 ≠ D3 := fun l e => by
        obtain ⟨ts, e2, _⟩ := tl
        exact ne_of_none e2 n3
      have e3' : (upd H3 D3 (HO.lst [])) D3 = some (.lst (([] : List Addr).map V.ref)) := upd_same
      generalize upd H3 D3 (HO.lst []) = Ht at *
      have sq0 : SrchAt M.length Ht D1 D3 ((bfsSt M t).1, []) Ht := ⟨But2.refl _ _ _, d1', ⟨[], e3', .nil⟩, (fun x hx => by cases hx), d13⟩
      have mtT : MatAt Ht pa M := mt.same s3
      obtain ⟨tsL, eL, pL⟩ := tl'
      have lL := Paired.length pL
      have d23 := d32 _ eL
      have dL1 : D2 ≠ D1 := by
        intro z
        rw [z, d1'] at eL
        cases eL
      refine ⟨fun σ' H' => ∃ x8 x9 x10, σ' = [some (.ref pa), some (.int (most : Nat)), some (.int (deep : Nat)), some (.ref f1), some (.ref D1), some (.ref D2), some (.int (0 + (t : Nat))), some (.ref D3), x8, x9, x10] ∧ SrchAt M.length Ht D1 D3 (bfsSt M (t + 1)) H', ?_, ?_⟩
      · refine ⟨_, rfl, _, rfl, ⟨_, SqL.of eL⟩, ?_⟩
        refine for_it (walk_list (xs := tsL.map V.ref)) (fun k σ' H' => ∃ x8 x9 x10, σ' = [some (.ref pa), some (.int (most : Nat)), some (.int (deep : Nat)), some (.ref f1), some (.ref D1), some (.ref D2), some (.int (0 + (t : Nat))), some (.ref D3), x8, x9, x10] ∧ SrchAt M.length Ht D1 D3 (layerSt M (t + 1) ((bfsSt M t).1, []) ((bfsSt M t).2.take k)) H')
          ⟨x8, x9, x10, rfl, sq0⟩ (fun k σ' H' _ p => ?_) (fun k x σ' H4 H5 hk p y => ?_) (fun σ' H' p => ?_)
        · obtain ⟨_, _, _, _, sr⟩ := p
          exact SqL.of (sr.1 _ _ dL1 d23 eL)
        · obtain ⟨x8, x9, x10, rfl, sr⟩ := p
          obtain ⟨rfl, hx⟩ := y
          have hk2 : k < (bfsSt M t).2.length := by rw [← lL]; simpa using hk
          obtain ⟨ra, hra1, hra2⟩ := paired_get pL (List.getElem?_eq_getElem hk2)
          rw [List.getElem?_map, hra1] at hx
          cases hx
          have hroom : (bfsSt M t).2.getD k [] = (bfsSt M t).2[k] := by rw [List.getD_eq_getElem?_getD, List.getElem?_eq_getElem hk2]; rfl
          rw [← hroom] at hra2
          have hrl : ((bfsSt M t).2.getD k []).length = M.length := by rw [hroom]; exact hl _ (List.getElem_mem hk2)
          rw [layerSt_take hk2]
          have kl := layerSt_len M (t + 1) ((bfsSt M t).2.take k) ((bfsSt M t).1, [])
          have ktl : ((bfsSt M t).2.take k).length ≤ 1000 := by rw [List.length_take]; omega
          have kmul : M.length * ((bfsSt M t).2.take k).length ≤ 8 * 1000 := Nat.mul_le_mul h8 ktl
          generalize layerSt M (t + 1) ((bfsSt M t).1, []) ((bfsSt M t).2.take k) = st at *
          generalize (bfsSt M t).2.getD k [] = room at *
          have etsP := sr.tup d1' e3' (s3 _ _ eP)
          refine ⟨_, rfl, pa, _, rfl, .inr (SqT.of etsP), _, rfl, by omega, by rw [lP]; omega, ?_⟩
          rw [lP, Int.toNat_natCast]
          refine for_it walk_range (fun j σ' H' => ∃ x9 x10, σ' = [some (.ref pa), some (.int (most : Nat)), some (.int (deep : Nat)), some (.ref f1), some (.ref D1), some (.ref D2), some (.int (0 + (t : Nat))), some (.ref D3), some (.ref ra), x9, x10] ∧ SrchAt M.length Ht D1 D3 (roomSt M (t + 1) st room j) H')
            ⟨x9, x10, rfl, sr⟩ (fun _ _ _ _ _ => True.intro) (fun j x σ' H6 H7 hj p y => ?_) (fun σ' H' p => ?_)
          · obtain ⟨x9, x10, rfl, sr6⟩ := p
            obtain ⟨rfl, rfl⟩ := y
            have ej : ((0 : Int) + ((j : Nat) : Int)) = ((j : Nat) : Int) := by omega
            refine ⟨_, rfl, _, rfl, _, rfl, pa, M, ra, room, j, (by show [V.ref pa, V.ref ra, V.int (0 + ((j : Nat) : Int))] = _; rw [ej]), sr6.mat d1' e3' mtT, S, sr6.tup d1' e3' hra2, hrl, hj, fun H8 th s8 e8 => ?_⟩
            have sr8 := sr6.same s8
            rw [roomSt_succ]
            have rl := roomSt_len M (t + 1) st room j
            generalize roomSt M (t + 1) st room j = st2 at *
            refine ⟨_, rfl, _, rfl, D1, _, rfl, DGet.t sr8.2.1 (by rw [keyI (chg M room j)]; exact e8), ?_⟩
            rw [fk_val]
            by_cases c : chg M room j ∈ st2.1.map Prod.fst
            · rw [decide_eq_true c]
              refine ⟨_, rfl, iteN rfl ?_⟩
              rw [ins_old c]
              exact ⟨_, _, rfl, sr8⟩
            · rw [decide_eq_false c]
              refine ⟨_, rfl, iteP rfl ?_⟩
              have ed : ((0 : Int) + ((t : Nat) : Int) + 1) = ((t + 1 : Nat) : Int) := by omega
              refine ⟨_, rfl, _, _, rfl, rfl, _, rfl, _, rfl, D1, _, rfl, DPut.t sr8.2.1 (by rw [keyI (chg M room j)]; exact e8) ?_, ?_⟩
              · unfold fk
                rw [List.length_map]
                dsimp only [List.length_nil] at kl
                exact smallLt (by omega)
              have epn : putK (fk st2.1) ((chg M room j).map Sum.inl) (V.int (0 + ((t : Nat) : Int) + 1)) = fk (st2.1 ++ [(chg M room j, t + 1)]) := by
                rw [ed]; exact fk_put c
              have eput : (fun (i j : Int) => V.int (i + j)) (0 + ((t : Nat) : Int)) 1 = V.int (0 + ((t : Nat) : Int) + 1) := rfl
              rw [eput, epn]
              obtain ⟨ts3, e3s, _⟩ := id sr8.2.2.1
              have e3u : (upd H8 D1 (.dT (fk (st2.1 ++ [(chg M room j, t + 1)])))) D3 = some (.lst (ts3.map V.ref)) := by rw [upd_ne (Ne.symm d13)]; exact e3s
              refine ⟨_, rfl, .inl ⟨rfl, _, SqL.of e3u⟩, _, rfl, D3, _, _, rfl, rfl, e3u, ?_, _, _, rfl, sr8.add e8 (chg_len S hrl hj) c e3s⟩
              have := Paired.length sr8.2.2.1.choose_spec.2
              have l3 : ts3.length = st2.2.length := by
                obtain ⟨ts3', e3s', p3'⟩ := sr8.2.2.1
                rw [e3s] at e3s'
                have z := Option.some.inj e3s'
                injection z with z
                have z2 := congrArg List.length z
                rw [List.length_map, List.length_map] at z2
                rw [z2]
                exact Paired.length p3'
              rw [List.length_map, l3]
              dsimp only [List.length_nil] at kl
              exact smallLt (by omega)
          · obtain ⟨x9, x10, rfl, sr6⟩ := p
            exact ⟨_, _, _, rfl, sr6⟩
        · obtain ⟨x8, x9, x10, rfl, sr⟩ := p
          rw [List.length_map, lL, List.take_length] at sr
          exact ⟨_, _, _, rfl, sr⟩
      · rintro σ2 H4 ⟨x8, x9, x10, rfl, sr⟩
        have hS : Same H H4 := fun b o e => sr.1 _ _ (ne_of_none e hD1) (ne_of_none e hD3) (s3 _ _ e)
        refine ⟨_, rfl, D1, _, rfl, sr.2.1, _, rfl, _, _, rfl, rfl, _, rfl, iteN ?_ ?_⟩
        · unfold fk
          rw [List.length_map]
          exact decide_eq_false (by have := hb (t + 1) (by omega); omega)
        exact ⟨_, rfl, D3, _, _, _, _, _, rfl, hS, sr.2.1, sr.2.2.1, sr.2.2.2.1⟩
    · obtain ⟨D2, x6, x7, x8, x9, x10, rfl, s2, d1, _, _⟩ := p
      exact ⟨_, rfl, q _ D1 s2 hD1 d1⟩
end
end Kal

set_option Elab.async false
set_option linter.all false
set_option maxRecDepth 100000
set_option maxHeartbeats 4000000
/-! KD21: _law_places. -/
namespace Kal
open PySem PySem.Spec PyProof.Rows L2 SX C8
theorem lc_tups {J : It} {n : Nat} {G : Hp → Prop} {Y : Nat → Hp → V → Hp → Prop} (w : Walk J n G Y) (F : Nat → Option (List Int)) (hn : n ≤ 1000) {g : TG} {tt : TT} {te : TE} {vs : List Nat} {σ : L2.St} {H1 : Hp} {D : Addr} {Qd : Hp → Prop} (hD : H1 D = none)
    (hG : ∀ H, Same H1 H → G H)
    (hs : ∀ i x H H', i < n → Same H1 H → Y i H x H' → ∀ (M : V → Hp → Prop) (N : Hp → Prop), (∀ r, F i = some r → ∀ H4 t, Same H H4 → H4 t = some (.tup (r.map V.int)) → M (.ref t) H4) → (F i = none → ∀ H4, Same H H4 → N H4) →
      g x (wipe σ vs) H' fun σ2 H2 => wipe σ2 vs = wipe σ vs ∧ tt σ2 H2 fun b H3 => if b = true then te σ2 H3 M else N H3)
    (hd : ∀ H, Same H1 H → TupsAt H D ((List.range n).filterMap F) → Qd H) :
    ∃ W : Nat → Nat → Hp → Prop, (∃ m, W 0 m (upd H1 D (.lst []))) ∧ ∀ i m H, W i m H →
      (J.stop i H ∧ Qd H) ∨ (J.go i H ∧ ∃ Nx : Hp → Prop, (∀ H', Nx H' → ∃ m', m' < m ∧ W (i + 1) m' H') ∧ ∀ x H', J.yld i H x H' → g x (wipe σ vs) H' fun σ2 H2 => wipe σ2 vs = wipe σ vs ∧ tt σ2 H2 fun b H3 =>
        if b = true then te σ2 H3 fun y H4 => ∃ acc, H4 D = some (.lst acc) ∧ acc.length < sizeLine ∧ Nx (upd H4 D (.lst (acc ++ [y]))) else Nx H3) := by
  refine lc_it w (fun i H => Same H1 H ∧ TupsAt H D ((List.range i).filterMap F)) ⟨sameUpd hD, [], upd_same, .nil⟩ (fun i H _ p => hG H p.1) (fun i x H H' hi p y => ?_) (fun H p => hd H p.1 p.2)
  obtain ⟨s, ts, e, pr⟩ := p
  refine hs i x H H' hi s y _ _ (fun r er H4 t s4 e4 => ?_) (fun e0 H4 s4 => ?_)
  · have l := Paired.length pr
    have l2 : ((List.range i).filterMap F).length ≤ i := by
      have := List.length_filterMap_le F (List.range i)
      rwa [List.length_range] at this
    have e' := s4 _ _ e
    refine ⟨_, e', by rw [List.length_map]; exact smallLt (by omega), sameOfBut (s.trans s4) hD But.upd, ts ++ [t], by rw [upd_same, List.map_append]; rfl, ?_⟩
    have tk : ∀ (a : Addr) (xs : List V), H4 a = some (.tup xs) → (upd H4 D (.lst (ts.map V.ref ++ [.ref t]))) a = some (.tup xs) := fun a xs ea => by
      rw [upd_ne]
      · exact ea
      · intro z; rw [z, e'] at ea; cases ea
    rw [List.range_succ, List.filterMap_append]
    refine paired_app (Paired.mono (fun _ _ z => tk _ _ (s4 _ _ z)) pr) ?_
    simp only [List.filterMap_cons, er, List.filterMap_nil]
    exact paired_single (tk _ _ e4)
  · refine ⟨s.trans s4, ?_⟩
    rw [List.range_succ, List.filterMap_append]
    simp only [List.filterMap_cons, e0, List.filterMap_nil, List.append_nil]
    exact TupsAt.same s4 ⟨ts, e, pr⟩
def plSt (size : Nat) : Nat → List (List Nat)
  | 0 => [[]]
  | p + 1 => plSt size p ++ ((plSt size p).filter fun s => decide (s.length < size)).map fun s => s ++ [p]
theorem plSt_len (size : Nat) : ∀ p, (plSt size p).length ≤ 2 ^ p
  | 0 => Nat.le_refl _
  | p + 1 => by
    have a := plSt_len size p
    have b := List.length_filter_le (fun s : List Nat => decide (s.length < size)) (plSt size p)
    show (plSt size p ++ _).length ≤ _
    rw [List.length_append, List.length_map, Nat.pow_succ]
    omega
theorem plSt_item (size : Nat) : ∀ p, ∀ s ∈ plSt size p, s.length ≤ p
  | 0, s, h => by rw [List.mem_singleton.mp h]; exact Nat.le_refl _
  | p + 1, s, h => by
    rcases List.mem_append.mp h with h | h
    · exact Nat.le_succ_of_le (plSt_item size p s h)
    · obtain ⟨t, ht, rfl⟩ := List.mem_map.mp h
      rw [List.length_append]
      exact Nat.succ_le_succ (plSt_item size p t (List.mem_filter.mp ht).1)
def plOk (size many : Nat) : List (List Nat) := (plSt size many).filter fun s => decide (s.length = size)
def spPlaces : Sp := fun vs H Q _ => ∃ (many size : Nat), vs = [.int (many : Nat), .int (size : Nat)] ∧ many ≤ 8 ∧
  ∀ H' p rows, Same H H' → TupsAt H' p rows → rows.Perm ((plOk size many).map natI) → rows.Pairwise (fun a b => ¬ b < a) → Q (.ref p) H'
theorem filterMap_range {α β : Type} (l : List α) (d : α) (F : α → Option β) : (List.range l.length).filterMap (fun i => F (l.getD i d)) = l.filterMap F := by
  have : l.filterMap F = ((List.range l.length).map (fun i => l.getD i d)).filterMap F := by
    rw [range_map_get l d (fun x => x), List.map_id']
  rw [this, List.filterMap_map]
  rfl
theorem filt_some {α β : Type} (p : α → Bool) (v : α → β) : ∀ l : List α, l.filterMap (fun i => if p i = true then some (v i) else none) = (l.filter p).map v
  | [] => rfl
  | i :: l => by
    rw [List.filterMap_cons, List.filter_cons, filt_some p v l]
    cases p i <;> rfl
theorem plSt0 : ∀ p, plSt 0 p = [[]]
  | 0 => rfl
  | p + 1 => by
    show plSt 0 p ++ _ = _
    rw [plSt0 p]
    rfl
theorem refs_back {k : V → List Int} {H : Hp} : ∀ {ys : List V}, (∀ y ∈ ys, ∃ t, y = V.ref t ∧ H t = some (.tup ((k y).map V.int))) → ∃ ts : List Addr, ys = ts.map V.ref ∧ Paired (fun t (row : List Int) => H t = some (.tup (row.map V.int))) ts (ys.map k)
  | [], _ => ⟨[], rfl, .nil⟩
  | y :: ys, h => by
    obtain ⟨t, e, ht⟩ := h y List.mem_cons_self
    obtain ⟨ts, e2, p⟩ := refs_back (ys := ys) (fun z hz => h z (List.mem_cons_of_mem _ hz))
    exact ⟨t :: ts, by rw [List.map_cons, e, e2], .cons ht p⟩
theorem refs_map {k : V → List Int} {H : Hp} (hk : ∀ (t : Addr) (ns : List Int), H t = some (.tup (ns.map V.int)) → k (.ref t) = ns) : ∀ {ts : List Addr} {rows : List (List Int)}, Paired (fun t (row : List Int) => H t = some (.tup (row.map V.int))) ts rows →
    (ts.map V.ref).map k = rows ∧ ∀ y ∈ ts.map V.ref, (∃ t, y = V.ref t ∧ H t = some (.tup ((k y).map V.int))) ∧ k y ∈ rows
  | _, _, .nil => ⟨rfl, fun y h => by cases h⟩
  | _, _, .cons (a := t) (b := row) r p => by
    obtain ⟨e, h⟩ := refs_map hk p
    have e1 := hk _ _ r
    refine ⟨by rw [List.map_cons, List.map_cons, e, e1], fun y hy => ?_⟩
    rcases List.mem_cons.mp hy with z | z
    · subst z
      rw [e1]
      exact ⟨⟨t, rfl, r⟩, List.mem_cons_self⟩
    · exact ⟨(h y z).1, List.mem_cons_of_mem _ (h y z).2⟩
section
variable {P : Program} {w : World} {K : PySem.W.Frag} {mg : Str → Option Value} {base : Heap} {C : Addr}
abbrev nLPlaces : List Str := ["_law_many", "_law_size", "_law_found", "_law_place", "_law_some"]
theorem scLPlaces : FnScope nLPlaces ["_law_many", "_law_size"] (defScope sDLPlaces) := ⟨rfl, rfl, rfl, by decide +kernel, rfl, by decide +kernel, by decide +kernel⟩
theorem c_lPlaces (T : Txt K mg C) (F : Fn K mg "_law_places" "_law_places" sDLPlaces ["_law_many", "_law_size"])  : Cal P w K mg base 1 "_law_places" (spPlaces) [] := by
  refine F.cal scLPlaces (fun vs H Q E h => by obtain ⟨_, _, rfl, _⟩ := h; rfl) (fun cdv A outer s f H vs Q E hr h => ?_)
  have nd := scLPlaces.nd
  obtain ⟨many, size, rfl, h8, q⟩ := h
  have two : ∀ p, p ≤ 8 → 2 ^ p ≤ 256 := fun p hp => Nat.pow_le_pow_right (by decide) hp
  refine ⟨_, (pss_cons (ps_set (i := 2) nd rfl (.inl rfl) (pe_lst (pa_cons (pe_tup pa_nil) pa_nil)))
      (pss_cons (ps_for PassesOwn.never rfl (pi_range1 rfl T.range (pa_cons (pv 0) pa_nil)) (pg_name (i := 3) nd rfl (.inr rfl)) (pss_one (ps_set (i := 2) nd rfl (.inl rfl) (pe_op op_cat (pv 2) (pe_lc (own := [("_law_some", 4)]) (g := (gName 4)) rfl nd (pi_list (pv 2)) (blkOk_by (own := [("_law_some", 4)]) (N := nLPlaces) (sc := (defScope sDLPlaces)) (by decide +kernel)) (fun _ _ _ _ _ => (pg_name (i := 4) nd rfl (.inl rfl))) (fun _ _ _ _ _ => (pts_one (pt_cmpR op_lt (pe_callB (call_len_seqK (K := K) rfl) rfl T.len (by decide +kernel) (pa_cons (pv 4) pa_nil)) (pv 1) (nomark _)))) (fun _ _ _ _ _ => (pe_op (op_catAK (K := K) rfl) (pv 4) (pe_tup (pa_cons (pv 3) pa_nil)))))))))
      (pss_one (ps_ret (pe_callB (CallR.or cr_sort1 (cr_sortL hr.units)) rfl T.sorted (by decide +kernel) (pa_cons (pe_lc (own := [("_law_some", 4)]) (g := (gName 4)) rfl nd (pi_list (pv 2)) (blkOk_by (own := [("_law_some", 4)]) (N := nLPlaces) (sc := (defScope sDLPlaces)) (by decide +kernel)) (fun _ _ _ _ _ => (pg_name (i := 4) nd rfl (.inl rfl))) (fun _ _ _ _ _ => (pts_one (pt_cmpR op_eq (pe_callB (call_len_seqK (K := K) rfl) rfl T.len (by decide +kernel) (pa_cons (pv 4) pa_nil)) (pv 1) (nomark _)))) (fun _ _ _ _ _ => (pv 4))) pa_nil)))))), ?_⟩
  refine ⟨small (n := 0) (by decide), fun t0 h0 => ⟨small (n := 1) (by decide), fun D0 n0 => ?_⟩⟩
  refine ⟨_, rfl, _, rfl, by omega, by omega, ?_⟩
  rw [Int.toNat_natCast]
  refine for_it walk_range (fun i σ H' => ∃ D x3, σ = [some (.int (many : Nat)), some (.int (size : Nat)), some (.ref D), x3, none] ∧ Same H H' ∧ TupsAt H' D ((plSt size i).map natI))
    ⟨D0, none, rfl, (sameUpd h0).trans (sameUpd n0), [t0], upd_same, paired_single (up upd_same n0)⟩ (fun _ _ _ _ _ => True.intro) (fun i x σ H2 H3 hi p y => ?_) (fun σ H2 p => ?_)
  · obtain ⟨D, x3, rfl, s, tl⟩ := p
    obtain ⟨rfl, rfl⟩ := y
    obtain ⟨ts, e, pr⟩ := id tl
    have lt := Paired.length pr
    rw [List.length_map] at lt
    have l256 := Nat.le_trans (plSt_len size i) (two i (by omega))
    refine ⟨_, rfl, _, rfl, _, rfl, ⟨_, SqL.of e⟩, fun D5 n5 => ?_⟩
    refine lc_tups (walk_list (xs := ts.map V.ref)) (fun k => if decide (((plSt size i).getD k []).length < size) = true then some (natI ((plSt size i).getD k [] ++ [i])) else none) (by rw [List.length_map]; omega) n5 (fun H' s => SqL.of (s _ _ e)) (fun k x H4 H5 hk s4 y M' N' h1 h2 => ?_) (fun H6 s6 t6 => ?_)
    · obtain ⟨rfl, hx⟩ := y
      have hk2 : k < ((plSt size i).map natI).length := by rw [List.length_map, ← lt]; simpa using hk
      obtain ⟨t, g1, g2⟩ := paired_get pr (List.getElem?_eq_getElem hk2)
      rw [List.getElem?_map, g1] at hx
      cases hx
      have hk3 : k < (plSt size i).length := by simpa using hk2
      have ek : ((plSt size i).map natI)[k] = natI ((plSt size i).getD k []) := by
        rw [List.getElem_map, List.getD_eq_getElem?_getD, List.getElem?_eq_getElem hk3]; rfl
      rw [ek] at g2
      have hitem : ((plSt size i).getD k []).length ≤ i := plSt_item size i _ (by rw [List.getD_eq_getElem?_getD, List.getElem?_eq_getElem hk3]; exact List.getElem_mem hk3)
      generalize (plSt size i).getD k [] = s1 at *
      refine ⟨rfl, _, rfl, t, _, rfl, .inr (SqT.of (s4 _ _ g2)), _, rfl, _, _, rfl, rfl, _, rfl, ?_⟩
      rw [List.length_map, natI_len]
      by_cases c : s1.length < size
      · refine iteP (decide_eq_true (by omega)) ?_
        refine ⟨_, rfl, _, rfl, small (n := 1) (by decide), fun t2 n2 => ?_⟩
        have fin := h1 (natI (s1 ++ [i])) (if_pos (decide_eq_true c))
        have ei : natI (s1 ++ [i]) = natI s1 ++ [((i : Nat) : Int)] := natI_app _ _
        have ez : V.int (0 + ((i : Nat) : Int)) = V.int ((i : Nat) : Int) := by rw [Int.zero_add]
        refine ⟨t, t2, (natI s1).map V.int, [V.int (0 + ((i : Nat) : Int))], rfl, rfl, SqT.of (up (s4 _ _ g2) n2), SqT.of upd_same, ?_, fun z => ?_, fun _ z => (by cases z), fun _ _ t3 n3 => ?_⟩
        · rw [List.length_map, natI_len]
          exact small (by simp; omega)
        · refine fin _ t2 (sameUpd n2) ?_
          rw [upd_same, ei, List.map_append, z]
          exact congrArg (fun v => some (HO.tup [v])) ez
        · refine fin _ t3 ((sameUpd n2).trans (sameUpd n3)) ?_
          rw [upd_same, ei, List.map_append]
          exact congrArg (fun v => some (HO.tup ((natI s1).map V.int ++ [v]))) ez
      · refine iteN (decide_eq_false (by omega)) ?_
        exact h2 (if_neg (by simpa using c)) _ (Same.refl _)
    · have ef : (List.range (ts.map V.ref).length).filterMap (fun k => if decide (((plSt size i).getD k []).length < size) = true then some (natI ((plSt size i).getD k [] ++ [i])) else none) = (((plSt size i).filter fun s => decide (s.length < size)).map fun s => s ++ [i]).map natI := by
        rw [List.length_map, lt, filterMap_range (plSt size i) [] (fun s => if decide (s.length < size) = true then some (natI (s ++ [i])) else none), filt_some (fun s : List Nat => decide (s.length < size)) (fun s => natI (s ++ [i])), List.map_map]
        rfl
      rw [ef] at t6
      obtain ⟨ts6, e6, p6⟩ := t6
      have l6 := Paired.length p6
      have lf := List.length_filter_le (fun s : List Nat => decide (s.length < size)) (plSt size i)
      refine ⟨D, D5, _, _, rfl, rfl, s6 _ _ e, e6, ?_, fun L nL => ?_⟩
      · rw [List.length_map, List.length_map, l6, List.length_map, List.length_map]
        exact small (by omega)
      refine ⟨L, _, rfl, (s.trans s6).trans (sameUpd nL), ts ++ ts6, by rw [upd_same, List.map_append], ?_⟩
      show Paired _ _ ((plSt size i ++ ((plSt size i).filter fun s => decide (s.length < size)).map fun s => s ++ [i]).map natI)
      rw [List.map_append]
      exact paired_app (Paired.mono (fun _ _ z => sameUpd nL _ _ (s6 _ _ z)) pr) (Paired.mono (fun _ _ z => sameUpd nL _ _ z) p6)
  · obtain ⟨D, x3, rfl, s, tl⟩ := p
    obtain ⟨ts, e, pr⟩ := id tl
    have lt := Paired.length pr
    rw [List.length_map] at lt
    have l256 := Nat.le_trans (plSt_len size many) (two many (by omega))
    refine ⟨_, rfl, _, rfl, ⟨_, SqL.of e⟩, fun D5 n5 => ?_⟩
    refine lc_tups (walk_list (xs := ts.map V.ref)) (fun k => if decide (((plSt size many).getD k []).length = size) = true then some (natI ((plSt size many).getD k [])) else none) (by rw [List.length_map]; omega) n5 (fun H' s => SqL.of (s _ _ e)) (fun k x H4 H5 hk s4 y M' N' h1 h2 => ?_) (fun H6 s6 t6 => ?_)
    · obtain ⟨rfl, hx⟩ := y
      have hk2 : k < ((plSt size many).map natI).length := by rw [List.length_map, ← lt]; simpa using hk
      obtain ⟨t, g1, g2⟩ := paired_get pr (List.getElem?_eq_getElem hk2)
      rw [List.getElem?_map, g1] at hx
      cases hx
      have hk3 : k < (plSt size many).length := by simpa using hk2
      have ek : ((plSt size many).map natI)[k] = natI ((plSt size many).getD k []) := by
        rw [List.getElem_map, List.getD_eq_getElem?_getD, List.getElem?_eq_getElem hk3]; rfl
      rw [ek] at g2
      generalize (plSt size many).getD k [] = s1 at *
      refine ⟨rfl, _, rfl, t, _, rfl, .inr (SqT.of (s4 _ _ g2)), _, rfl, rfl, _, rfl, ?_⟩
      rw [List.length_map, natI_len, dec_int]
      by_cases c : s1.length = size
      · refine iteP (by rw [c]; simp) ?_
        exact ⟨_, rfl, h1 _ (if_pos (decide_eq_true c)) _ t (Same.refl _) (s4 _ _ g2)⟩
      · refine iteN (by simp; omega) ?_
        exact h2 (if_neg (by simpa using c)) _ (Same.refl _)
    · have ef : (List.range (ts.map V.ref).length).filterMap (fun k => if decide (((plSt size many).getD k []).length = size) = true then some (natI ((plSt size many).getD k [])) else none) = (plOk size many).map natI := by
        rw [List.length_map, lt, filterMap_range (plSt size many) [] (fun s => if decide (s.length = size) = true then some (natI s) else none), filt_some (fun s : List Nat => decide (s.length = size)) natI]
        rfl
      rw [ef] at t6
      obtain ⟨ts6, e6, p6⟩ := t6
      by_cases c : size = 0
      · subst c
        have e0 : (plOk 0 many).map natI = [[]] := by unfold plOk; rw [plSt0]; rfl
        have l6 := Paired.length p6
        rw [e0] at l6 p6
        refine .inl ⟨D5, _, rfl, SqL.of e6, by rw [List.length_map, l6]; decide, fun p np => ?_⟩
        refine q _ p [[]] ((s.trans s6).trans (sameUpd np)) ⟨ts6, upd_same, Paired.mono (fun _ _ z => sameUpd np _ _ z) p6⟩ (by rw [e0]) (List.pairwise_singleton _ _)
      · obtain ⟨k, kOk⟩ := backL H6
        obtain ⟨em, hm⟩ := refs_map kOk p6
        refine .inr ⟨D5, _, k, rfl, SqL.of e6, fun x hx => (hm x hx).1, fun x hx z => ?_, fun p np => ?_⟩
        · obtain ⟨s1, hs1, es1⟩ := List.mem_map.mp (hm x hx).2
          rw [z] at es1
          have : s1.length = size := by simpa using (List.mem_filter.mp hs1).2
          have : s1 = [] := natI_inj es1
          subst this
          exact c (by rw [← ‹([] : List Nat).length = size›]; rfl)
        · have mem : ∀ x, x ∈ (ts6.map V.ref).mergeSort (leK k) ↔ x ∈ ts6.map V.ref := fun x => (List.mergeSort_perm _ _).mem_iff
          obtain ⟨ts7, e7, p7⟩ := refs_back (k := k) (H := H6) (ys := (ts6.map V.ref).mergeSort (leK k)) (fun y hy => (hm y ((mem y).mp hy)).1)
          refine q _ p (((ts6.map V.ref).mergeSort (leK k)).map k) ((s.trans s6).trans (sameUpd np)) ⟨ts7, by rw [upd_same, ← e7], Paired.mono (fun _ _ z => sameUpd np _ _ z) p7⟩ ?_ ?_
          · rw [← em]
            exact (List.mergeSort_perm _ _).map k
          · rw [List.pairwise_map]
            exact leK_sorted k _
end
end Kal

set_option Elab.async false
set_option linter.all false
set_option maxRecDepth 100000
set_option maxHeartbeats 4000000
/-! KD22: what law's walk leans on. -/
namespace Kal
open PySem PySem.Spec PyProof.Rows L2 SX C8
/-- what the law needs of a hall's numbers -/
structure LawM (M : List (List Int)) (Rm : List Int → Prop) (pl : List Int → List Nat) : Prop where
  hall : HallM M
  good : Good M
  plays : Plays M Rm pl
  small : ∀ t, t ≤ 12 → (bfsSt M t).1.length ≤ 60
  dist : ∀ p ∈ (bfsSt M 12).1, Rm p.1 ∧ (pl p.1).length = p.2
  some : (bfsSt M 12).1 ≠ []
  due : ∀ ws : List Nat, ws.length ≤ 8 → (∀ x ∈ ws, x < M.length) → ∀ r, Rm r → ∀ rows : List (List Int), rows.Perm ((plOk (pl r).length ws.length).map natI) → rows.Pairwise (fun a b => ¬ b < a) →
    (lets M pl ws r).map natI = rows.find? (fun row => decide (goW M (ones M.length) (pick ws row) = r))
/-- what stands in the heap from the word on -/
structure LawAt (K : PySem.W.Frag) (C : Addr) (M : List (List Int)) (f : List (List Int × Nat)) (r sc pu hl f1 to ev : Addr) (ts : List Addr) (H : Hp) : Prop where
  row : RowAt K r sc H
  pu : MatAt H pu M
  hl : HallAt C H hl M
  f1 : H f1 = some (.tup ((ones M.length).map V.int))
  to : H to = some (.dT (fk f))
  ev : H ev = some (.lst (ts.map V.ref))
  it : ∀ t ∈ ts, ∃ p ∈ f, H t = some (.tup (p.1.map V.int))
theorem row_ne {K : PySem.W.Frag} {r sc p : Addr} {H : Hp} {o : HO} (h : RowAt K r sc H) (e : H p = some o) (n : ∀ xs, o ≠ .lst xs) : p ≠ r := by
  obtain ⟨ns, i, st, car, ne, er, _⟩ := h
  intro z
  rw [z, er] at e
  exact n _ (Option.some.inj e).symm
theorem tup_but {K : PySem.W.Frag} {r sc p : Addr} {H H' : Hp} {xs : List V} (h : RowAt K r sc H) (b : But r H H') (e : H p = some (.tup xs)) : H' p = some (.tup xs) := b _ _ (row_ne h e (fun _ z => by cases z)) e
theorem MatAt.but {K : PySem.W.Frag} {r sc p : Addr} {H H' : Hp} {M : List (List Int)} (h : RowAt K r sc H) (b : But r H H') (m : MatAt H p M) : MatAt H' p M := by
  obtain ⟨ts, e, pr⟩ := m
  exact ⟨ts, tup_but h b e, Paired.mono (fun _ _ z => tup_but h b z) pr⟩
theorem HallAt.but {K : PySem.W.Frag} {C r sc p : Addr} {H H' : Hp} {M : List (List Int)} (h : RowAt K r sc H) (b : But r H H') (m : HallAt C H p M) : HallAt C H' p M := by
  obtain ⟨dx, tp, e, m⟩ := m
  exact ⟨dx, tp, b _ _ (row_ne h e (fun _ z => by cases z)) e, m.but h b⟩
theorem LawAt.but {K : PySem.W.Frag} {C : Addr} {M : List (List Int)} {f : List (List Int × Nat)} {r sc pu hl f1 to ev : Addr} {ts : List Addr} {H H' : Hp} (b : But r H H') (r' : RowAt K r sc H') (h : LawAt K C M f r sc pu hl f1 to ev ts H) : LawAt K C M f r sc pu hl f1 to ev ts H' where
  row := r'
  pu := h.pu.but h.row b
  hl := h.hl.but h.row b
  f1 := tup_but h.row b h.f1
  to := b _ _ (row_ne h.row h.to (fun _ z => by cases z)) h.to
  ev := b _ _ (list_ne h.row h.ev) h.ev
  it := fun t ht => by
    obtain ⟨p, hp, e⟩ := h.it t ht
    exact ⟨p, hp, tup_but h.row b e⟩
theorem LawAt.same {K : PySem.W.Frag} {C : Addr} {M : List (List Int)} {f : List (List Int × Nat)} {r sc pu hl f1 to ev : Addr} {ts : List Addr} {H H' : Hp} (s : Same H H') (h : LawAt K C M f r sc pu hl f1 to ev ts H) : LawAt K C M f r sc pu hl f1 to ev ts H' := h.but ((But.refl r H).same s) (h.row.same s)
theorem fk_get {M : List (List Int)} {pl : List Int → List Nat} {f : List (List Int × Nat)} (hf : ∀ p ∈ f, (pl p.1).length = p.2) {p : List Int × Nat} (hp : p ∈ f) : valV (fk f) (p.1.map Sum.inl) = some (V.int (((pl p.1).length : Nat) : Int)) := by
  induction f with
  | nil => cases hp
  | cons q f ih =>
    by_cases e : q.1 = p.1
    · have h1 : (pl q.1).length = q.2 := hf q List.mem_cons_self
      rw [fk, List.map_cons, valV_pos (by show (q.1.map Sum.inl : List Key) = _; rw [e]), ← e, h1]
    · have hp2 : p ∈ f := by
        rcases List.mem_cons.mp hp with z | z
        · exact absurd (by rw [z]) e
        · exact z
      have : valV (fk (q :: f)) (p.1.map Sum.inl) = valV (fk f) (p.1.map Sum.inl) := by
        unfold fk valV
        rw [List.map_cons, List.find?_cons]
        have : ¬ ((q.1.map Sum.inl : List Key) = p.1.map Sum.inl) := fun z => e (inl_inj z)
        simp [this]
      rw [this]
      exact ih (fun p hp => hf p (List.mem_cons_of_mem _ hp)) hp2
def spLaw (K : PySem.W.Frag) : Sp := fun vs H Q _ => ∃ (a : Addr) (ns : List Int), vs = [.ref a] ∧ SqL K H a (ns.map V.int) ∧ ∀ H', Q (.bl true) H'
/-- a row of places of the word ws -/
structure RowOk (n : Nat) (row : List Int) : Prop where
  lt : ∀ p ∈ row, 0 ≤ p ∧ p < (n : Nat)
  asc : asc row = true
  len : row.length ≤ 1000
theorem asc_of {s : List Nat} (h : s.Pairwise (· < ·)) : asc (natI s) = true := by
  unfold asc
  rw [List.all_eq_true]
  intro i hi
  rw [List.mem_range, natI_len] at hi
  rw [natI_getD, natI_getD]
  have := List.pairwise_iff_getElem.mp h i (i + 1) (by omega) (by omega) (by omega)
  rw [List.getD_eq_getElem?_getD, List.getD_eq_getElem?_getD, List.getElem?_eq_getElem (by omega), List.getElem?_eq_getElem (by omega)]
  exact decide_eq_true (by show ((s[i] : Nat) : Int) < (s[i + 1] : Nat); omega)
theorem plSt_asc (size : Nat) : ∀ p, ∀ s ∈ plSt size p, s.Pairwise (· < ·) ∧ ∀ x ∈ s, x < p
  | 0, s, h => by rw [List.mem_singleton.mp h]; exact ⟨.nil, fun x h => by cases h⟩
  | p + 1, s, h => by
    rcases List.mem_append.mp h with h | h
    · obtain ⟨a, b⟩ := plSt_asc size p s h
      exact ⟨a, fun x hx => Nat.lt_succ_of_lt (b x hx)⟩
    · obtain ⟨t, ht, rfl⟩ := List.mem_map.mp h
      obtain ⟨a, b⟩ := plSt_asc size p t (List.mem_filter.mp ht).1
      refine ⟨List.pairwise_append.mpr ⟨a, List.pairwise_singleton _ _, fun x hx y hy => ?_⟩, fun x hx => ?_⟩
      · rw [List.mem_singleton.mp hy]; exact b x hx
      · rcases List.mem_append.mp hx with z | z
        · exact Nat.lt_succ_of_lt (b x z)
        · rw [List.mem_singleton.mp z]; exact Nat.lt_succ_self p
theorem natI_rowOk {n : Nat} {s : List Nat} (h : s.Pairwise (· < ·)) (b : ∀ x ∈ s, x < n) (l : s.length ≤ 1000) : RowOk n (natI s) where
  lt := fun p hp => by
    unfold natI at hp
    obtain ⟨x, hx, rfl⟩ := List.mem_map.mp hp
    have := b x hx
    omega
  asc := asc_of h
  len := by rw [natI_len]; exact l
theorem plOk_row {size n : Nat} {row : List Int} (hs : size ≤ 1000) (h : row ∈ (plOk size n).map natI) : RowOk n row ∧ row.length = size := by
  obtain ⟨s, hs1, rfl⟩ := List.mem_map.mp h
  obtain ⟨h1, h2⟩ := List.mem_filter.mp hs1
  have hl : s.length = size := by simpa using h2
  obtain ⟨a, b⟩ := plSt_asc size n s h1
  exact ⟨natI_rowOk a b (by omega), by rw [natI_len]; exact hl⟩
/-- None, or a tuple of ints -/
def DueAt (H : Hp) (v : V) : Option (List Int) → Prop
  | none => v = .non
  | some row => ∃ t, v = .ref t ∧ H t = some (.tup (row.map V.int))
theorem DueAt.same {H H' : Hp} {v : V} {o : Option (List Int)} (s : Same H H') (h : DueAt H v o) : DueAt H' v o := by
  cases o with
  | none => exact h
  | some row =>
    obtain ⟨t, e, ht⟩ := h
    exact ⟨t, e, s _ _ ht⟩
theorem DueAt.but {K : PySem.W.Frag} {r sc : Addr} {H H' : Hp} {v : V} {o : Option (List Int)} (hr : RowAt K r sc H) (b : But r H H') (h : DueAt H v o) : DueAt H' v o := by
  cases o with
  | none => exact h
  | some row =>
    obtain ⟨t, e, ht⟩ := h
    exact ⟨t, e, tup_but hr b ht⟩
theorem LetV.same {K : PySem.W.Frag} {M : List (List Int)} {ws : List Nat} {r : List Int} {n : Nat} {H H' : Hp} {v : V} {b : Bool} (s : Same H H') (h : LetV K M ws r n H v b) : LetV K M ws r n H' v b := by
  cases h with
  | nums a ps e hl => exact .nums a ps (s _ _ e) hl
  | one a x e f => exact .one a x (s _ _ e) (f.same s)
  | not v t ty k => exact .not v t (fun H2 s2 => ty H2 (s.trans s2)) k
/-- whether a value is the letters, as the law says it -/
def isSo (M : List (List Int)) (ws : List Nat) (r : List Int) (n : Nat) : Option (List Int) → Bool
  | none => false
  | some row => decide (row.length = n) && decide (goW M (ones M.length) (pick ws row) = r)
theorem letB_row {M : List (List Int)} {ws : List Nat} {r : List Int} {n : Nat} {row : List Int} (h : RowOk ws.length row) : letB M ws r n row = isSo M ws r n (some row) := by
  unfold letB isSo
  have h1 : row.all (inB ((ws.length : Nat) - 1)) = true := by
    rw [List.all_eq_true]
    intro p hp
    have := h.lt p hp
    unfold inB
    rw [Bool.and_eq_true]
    exact ⟨decide_eq_true this.1, decide_eq_true (by omega)⟩
  rw [h1, h.asc]
  rfl
theorem letV_due {K : PySem.W.Frag} {M : List (List Int)} {ws : List Nat} {r : List Int} {n : Nat} {H : Hp} {v : V} {o : Option (List Int)} (h : DueAt H v o) (hr : ∀ row, o = some row → RowOk ws.length row) : LetV K M ws r n H v (isSo M ws r n o) := by
  cases o with
  | none =>
    have : v = .non := h
    subst this
    exact .not _ _ (fun _ _ => .base .non) kNT
  | some row =>
    obtain ⟨t, rfl, e⟩ := h
    rw [← letB_row (hr row rfl)]
    exact .nums t row e (hr row rfl).len
/-- [word[at] for at in places] -/
theorem lc_pick {K : PySem.W.Frag} {ws : List Nat} {row : List Int} {t wo D : Addr} {σ : L2.St} {H1 : Hp} {Qd : Hp → Prop} {i j : Nat} (et : H1 t = some (.tup (row.map V.int))) (ew : H1 wo = some (.tup ((natI ws).map V.int))) (hr : RowOk ws.length row) (hD : H1 D = none)
    (h1 : ∀ x, ((wipe σ [j]).set j (some x))[i]? = some (some (V.ref wo))) (h2 : ∀ x, ((wipe σ [j]).set j (some x))[j]? = some (some x)) (h3 : ∀ x, wipe ((wipe σ [j]).set j (some x)) [j] = wipe σ [j])
    (hd : ∀ H, Same H1 H → H D = some (.lst ((natI (pick ws row)).map V.int)) → Qd H) :
    ∃ W : Nat → Nat → Hp → Prop, (∃ m, W 0 m (upd H1 D (.lst []))) ∧ ∀ i' m H, W i' m H →
      ((Itt K t).stop i' H ∧ Qd H) ∨ ((Itt K t).go i' H ∧ ∃ Nx : Hp → Prop, (∀ H', Nx H' → ∃ m', m' < m ∧ W (i' + 1) m' H') ∧ ∀ x H', (Itt K t).yld i' H x H' → gName j x (wipe σ [j]) H' fun σ2 H2 => wipe σ2 [j] = wipe σ [j] ∧ tYes σ2 H2 fun b H3 =>
        if b = true then tOp (rIxT K) (tVar i) (tVar j) σ2 H3 fun y H4 => ∃ acc, H4 D = some (.lst acc) ∧ acc.length < sizeLine ∧ Nx (upd H4 D (.lst (acc ++ [y]))) else Nx H3) := by
  refine lc_told walk_tupI (fun k => .int (((pick ws row).getD k 0 : Nat) : Int)) (Nat.le_trans hr.len (by decide)) hD (fun H' s => SqT.of (s _ _ et)) (fun k x H' H'' hk s y M' hM => ?_) (fun H s e => hd H s ?_)
  · obtain ⟨rfl, rfl⟩ := y
    have hb := hr.lt (row.getD k 0) (by rw [List.getD_eq_getElem?_getD, List.getElem?_eq_getElem hk]; exact List.getElem_mem hk)
    have ep : (pick ws row).getD k 0 = ws.getD (row.getD k 0).toNat 0 := by
      unfold pick
      rw [List.getD_eq_getElem?_getD, List.getElem?_map, List.getD_eq_getElem?_getD (l := row), List.getElem?_eq_getElem hk]
      rfl
    refine ⟨h3 _, _, h1 _, _, h2 _, wo, _, _, _, rfl, rfl, SqT.of (s _ _ ew), ?_, hM _ (Same.refl _)⟩
    rw [ep, ← natI_getD]
    have zi : row.getD k 0 = (((row.getD k 0).toNat : Nat) : Int) := by omega
    rw [zi]
    exact atI_nat (at_ints (by rw [natI_len]; omega))
  · rw [e]
    refine congrArg (fun z => some (HO.lst z)) ?_
    unfold natI
    rw [List.map_map]
    refine List.ext_getElem (by simp [pick]) fun i h1 h2 => ?_
    have a1 : i < (pick ws row).length := by simpa using h2
    simp [List.getD_eq_getElem?_getD, a1]
theorem pick_lt {M : List (List Int)} {ws : List Nat} {row : List Int} (hin : ∀ x ∈ ws, x < M.length) (hr : RowOk ws.length row) : ∀ x ∈ pick ws row, x < M.length := fun x hx => by
  obtain ⟨y, hy, rfl⟩ := List.mem_map.mp hx
  have := hr.lt y hy
  exact getD_lt hin (by omega)
theorem find_take {P : List Int → Bool} {rows : List (List Int)} {i : Nat} (hi : i < rows.length) : (rows.take (i + 1)).find? P = match (rows.take i).find? P with | some x => some x | none => if P rows[i] = true then some rows[i] else none := by
  rw [List.take_succ, List.getElem?_eq_getElem hi]
  show (rows.take i ++ [rows[i]]).find? P = _
  rw [List.find?_append]
  cases (rows.take i).find? P with
  | some x => rfl
  | none =>
    show (none : Option (List Int)).or _ = _
    rw [List.find?_cons]
    cases P rows[i] <;> rfl
end Kal

set_option Elab.async false
set_option linter.all false
set_option maxRecDepth 100000
set_option maxHeartbeats 4000000
/-! KD23: law. -/
namespace Kal
open PySem PySem.Spec PyProof.Rows L2 SX C8
theorem mulOnes {K : PySem.W.Frag} {t : Addr} {n : Nat} {H : Hp} {Q : VK} (e : H t = some (.tup [V.int 1])) (h1 : 1 ≤ n) (h8 : n ≤ 1000) (q : ∀ p H', Same H H' → H' p = some (.tup ((ones n).map V.int)) → Q (.ref p) H') : rMulT K (.ref t) (.int (n : Nat)) H Q := by
  refine ⟨t, _, _, rfl, rfl, SqT.of e, by simp, by omega, by omega, by simp, fun z => ?_, fun _ p hp => ?_⟩
  · refine q _ _ (Same.refl _) ?_
    have : n = 1 := by omega
    rw [this]
    exact e
  · refine q _ _ (sameUpd hp) ?_
    rw [upd_same, ← ones_flat]
    rfl
theorem permM_len (M : List (List Int)) (o : List Nat) : (permM M o).length = o.length := by unfold permM; rw [List.length_map]
section
variable {P : Program} {w : World} {K : PySem.W.Frag} {mg : Str → Option Value} {base : Heap} {C : Addr}
abbrev nLaw : List Str := ["_law_script", "_law_row", "_law_pushes", "_law_hall", "_law_many", "_law_first", "_law_told", "_law_every", "_law_word", "_law_great", "_law_lamp", "_law_turn", "_law_room", "_law_due", "_law_places_here", "_law_some", "_law_value", "_law_is_so", "_law_odd", "_law_place", "_law_at"]
theorem scLaw : FnScope nLaw ["_law_script"] (defScope sDLaw) := ⟨rfl, rfl, rfl, by decide +kernel, rfl, by decide +kernel, by decide +kernel⟩
theorem law_ok (T : Txt K mg C) {f : Addr} {fd : FuncData} (D : FunD K "law" "law" (defArgs sDLaw) (defBody sDLaw) (defScope sDLaw) [] [] f fd) (c_lAlike : Cal P w K mg base 2 "_law_alike" (spAlike) []) (c_areLetters : Cal P w K mg base 8 "are_letters" (spAreLet K C) []) (c_lGo : Cal P w K mg base 2 "_law_go" (spLGo) []) (c_lTaken : Cal P w K mg base 1 "_law_taken" (spTaken K) []) (c_isWithin : Cal P w K mg base 10 "is_within" (spWithin C) []) (c_lettersFor : Cal P w K mg base 8 "letters_for" (spLetters C) []) (c_lPlaces : Cal P w K mg base 1 "_law_places" (spPlaces) []) (c_lPick : Cal P w K mg base 2 "_law_pick" (spPick K) []) (c_greatestBy : Cal P w K mg base 6 "greatest_by" (spGrtBy C) []) (c_lPress : Cal P w K mg base 1 "_law_press" (spPress) []) (c_lRooms : Cal P w K mg base 2 "_law_rooms" (spRooms) []) (c_lSmall : Cal P w K mg base 3 "_law_small" (spSmall K) []) (c_hall : Mak P w K mg base 3 "Hall" C (spInit C) []) (HM : ∀ sh ∈ shapes1 ++ shapes2, ∀ o : List Nat, o.Perm (List.range (accM sh).length) → ∃ Rm pl, LawM (permM (accM sh) o) Rm pl) : FnOk P w K mg base L2.CX0 11 f fd ["_law_script"] (spLaw K) := by
  refine funNox D scLaw (fun vs H Q E h => by obtain ⟨_, _, rfl, _⟩ := h; rfl) (fun cdv A outer s H vs Q E hr h => ?_)
  have nd := scLaw.nd
  have hu := hu_of hr
  obtain ⟨a, sns, rfl, hsc, q⟩ := h
  refine ⟨_, (pss_cons (ps_set (i := 1) nd rfl (.inr rfl) (pe_lst (pa_cons (pv 0) (pa_cons pe_int (pa_cons pe_int (pa_cons pe_int pa_nil))))))
      (pss_cons (ps_set (i := 2) nd rfl (.inl rfl) (pe_c c_lSmall hr (by decide) rfl (pa_cons (pv 1) pa_nil)))
      (pss_cut (ps_asg (pe_tup (pa_cons (pe_mk c_hall hr (by decide) rfl (pa_cons (pv 2) pa_nil)) (pa_cons (pe_callB call_len_seq rfl T.len (by decide +kernel) (pa_cons (pv 2) pa_nil)) (pa_cons (pe_op op_mulT (pe_tup (pa_cons pe_int pa_nil)) (pe_callB call_len_seq rfl T.len (by decide +kernel) (pa_cons (pv 2) pa_nil))) pa_nil)))) (pg_tup rfl (pgs_cons (pg_name (i := 3) nd rfl (.inl rfl)) (pgs_cons (pg_name (i := 4) nd rfl (.inr rfl)) (pgs_cons (pg_name (i := 5) nd rfl (.inl rfl)) pgs_nil)))))
      (pss_cons (ps_set (i := 6) nd rfl (.inl rfl) (pe_c c_lRooms hr (by decide) rfl (pa_cons (pv 2) (pa_cons pe_int (pa_cons pe_int pa_nil)))))
      (pss_cut (ps_set (i := 7) nd rfl (.inl rfl) (pe_callB (CallR.or cr_sort1 (cr_sortL hr.units)) rfl T.sorted (by decide +kernel) (pa_cons (pe_callTy (call_list_dT rfl) rfl T.list (by decide +kernel) (pa_cons (pv 6) pa_nil)) pa_nil)))
      (pss_cut (ps_set (i := 8) nd rfl (.inr rfl) (pe_callTy call_tuple_of rfl T.tuple (by decide +kernel) (pa_cons (pe_lc (own := [("_law_turn", 11)]) (g := (gName 11)) rfl nd (pi_range1 rfl T.range (pa_cons (pe_c c_lTaken hr (by decide) rfl (pa_cons (pv 1) (pa_cons pe_int pa_nil))) pa_nil)) (blkOk_by (own := [("_law_turn", 11)]) (N := nLaw) (sc := (defScope sDLaw)) (by decide +kernel)) (fun _ _ _ _ _ => (pg_name (i := 11) nd rfl (.inl rfl))) (fun _ _ _ _ _ => pts_nil) (fun _ _ _ _ _ => (pe_c c_lTaken hr (by decide) rfl (pa_cons (pv 1) (pa_cons (pv 4) pa_nil))))) pa_nil)))
      (pss_cons (ps_set (i := 9) nd rfl (.inl rfl) (pv 5))
      (pss_cut (ps_for PassesOwn.never rfl (pi_tup (pv 8)) (pg_name (i := 10) nd rfl (.inl rfl)) (pss_one (ps_set (i := 9) nd rfl (.inl rfl) (pe_ifExp (pt_cmpR op_gt (pe_ix ix_tup (pv 9) (pv 10) (fun _ _ => rfl)) pe_int (nomark _)) (pe_c c_lPress hr (by decide) rfl (pa_cons (pv 2) (pa_cons (pv 9) (pa_cons (pv 10) pa_nil)))) (pv 9)))))
      (pss_cons (ps_if (pt_not (pt_val (pe_c c_lAlike hr (by decide) rfl (pa_cons (pe_c c_greatestBy hr (by decide) rfl (pa_cons (pv 3) (pa_cons (pv 8) pa_nil))) (pa_cons (pv 9) pa_nil))))) (pss_one (ps_ret pe_bl)) pss_nil)
      (pss_cons (ps_for PassesOwn.never rfl (pi_range1 rfl T.range (pa_cons pe_int pa_nil)) (pg_name (i := 11) nd rfl (.inl rfl)) (pss_cons (ps_par (i := 12) (j := 13) rfl nd rfl rfl (by decide) rfl rfl (pa_cons (pe_c c_lPick hr (by decide) rfl (pa_cons (pv 1) (pa_cons (pv 7) pa_nil))) (pa_cons pe_non pa_nil)) (by rfl))
      (pss_cut (ps_for PassesOwn.never rfl (pi_list (pe_c c_lPlaces hr (by decide) rfl (pa_cons (pe_callB call_len_seq rfl T.len (by decide +kernel) (pa_cons (pv 8) pa_nil)) (pa_cons (pe_dget hu (pv 6) (pv 12) (fun _ _ => rfl)) pa_nil)))) (pg_name (i := 14) nd rfl (.inl rfl)) (pss_one (ps_if (PW.pt (pw_and (pt_cmpR op_isN (pv 13) pe_non (nomark _)) (pw_and1 (pt_cmpR (op_eqD hr.units) (pe_c c_lGo hr (by decide) rfl (pa_cons (pv 2) (pa_cons (pv 5) (pa_cons (pe_lc (own := [("_law_at", 20)]) (g := (gName 20)) rfl nd (pi_tup (pv 14)) (blkOk_by (own := [("_law_at", 20)]) (N := nLaw) (sc := (defScope sDLaw)) (by decide +kernel)) (fun _ _ _ _ _ => (pg_name (i := 20) nd rfl (.inl rfl))) (fun _ _ _ _ _ => pts_nil) (fun _ _ _ _ _ => (pe_ix (ix_tupK (K := K) rfl) (pv 8) (pv 20) (fun _ _ => rfl)))) pa_nil)))) (pv 12) (nomark _))))) (pss_one (ps_set (i := 13) nd rfl (.inl rfl) (pv 14))) pss_nil)))
      (pss_cons (ps_if (PW.pt (pw_or (pt_not (pt_val (pe_c c_lAlike hr (by decide) rfl (pa_cons (pe_c c_lettersFor hr (by decide) rfl (pa_cons (pv 3) (pa_cons (pv 8) (pa_cons (pv 12) pa_nil)))) (pa_cons (pv 13) pa_nil))))) (pw_or1 (pt_cmpR op_ne (pe_c c_isWithin hr (by decide) rfl (pa_cons (pv 3) (pa_cons (pv 12) (pa_cons (pv 9) pa_nil)))) (pe_cmpR op_notN (pv 13) pe_non (nomark _)) (nomark _))))) (pss_one (ps_ret pe_bl)) pss_nil)
      (pss_cut (ps_set (i := 15) nd rfl (.inl rfl) (pe_callTy call_tuple_of rfl T.tuple (by decide +kernel) (pa_cons (pe_lc (own := [("_law_place", 19)]) (g := (gName 19)) rfl nd (pi_range1 rfl T.range (pa_cons (pe_callB call_len_seq rfl T.len (by decide +kernel) (pa_cons (pv 8) pa_nil)) pa_nil)) (blkOk_by (own := [("_law_place", 19)]) (N := nLaw) (sc := (defScope sDLaw)) (by decide +kernel)) (fun _ _ _ _ _ => (pg_name (i := 19) nd rfl (.inl rfl))) (fun _ _ _ _ _ => (pts_one (pt_cmpR op_eq (pe_c c_lTaken hr (by decide) rfl (pa_cons (pv 1) (pa_cons pe_int pa_nil))) pe_int (nomark _)))) (fun _ _ _ _ _ => (pv 19))) pa_nil)))
      (pss_cut (ps_for PassesOwn.never rfl (pi_list (pe_lst (pa_cons (pv 15) (pa_cons (pv 13) (pa_cons (pe_tup pa_nil) pa_nil))))) (pg_name (i := 16) nd rfl (.inl rfl)) (pss_cons (ps_set (i := 17) nd rfl (.inl rfl) (pe_and (pe_cmpR op_notN (pv 16) pe_non (nomark _)) (pe_one (pe_cmpR op_eq (pe_callB call_len_seq rfl T.len (by decide +kernel) (pa_cons (pv 16) pa_nil)) (pe_dget hu (pv 6) (pv 12) (fun _ _ => rfl)) (nomark _)))))
      (pss_cut (ps_set (i := 17) nd rfl (.inl rfl) (pe_and (pv 17) (pe_one (pe_cmpR (op_eqD hr.units) (pe_c c_lGo hr (by decide) rfl (pa_cons (pv 2) (pa_cons (pv 5) (pa_cons (pe_lc (own := [("_law_at", 20)]) (g := (gName 20)) rfl nd (pi_tup (pv 16)) (blkOk_by (own := [("_law_at", 20)]) (N := nLaw) (sc := (defScope sDLaw)) (by decide +kernel)) (fun _ _ _ _ _ => (pg_name (i := 20) nd rfl (.inl rfl))) (fun _ _ _ _ _ => pts_nil) (fun _ _ _ _ _ => (pe_ix (ix_tupK (K := K) rfl) (pv 8) (pv 20) (fun _ _ => rfl)))) pa_nil)))) (pv 12) (nomark _)))))
      (pss_one (ps_if (pt_not (pt_val (pe_c c_lAlike hr (by decide) rfl (pa_cons (pe_c c_areLetters hr (by decide) rfl (pa_cons (pv 3) (pa_cons (pv 8) (pa_cons (pv 12) (pa_cons (pv 16) pa_nil))))) (pa_cons (pv 17) pa_nil))))) (pss_one (ps_ret pe_bl)) pss_nil)))))
      (pss_cut (ps_set (i := 18) nd rfl (.inl rfl) (pe_lst (pa_cons pe_non (pa_cons (pe_callTy call_list_of rfl T.list (by decide +kernel) (pa_cons (pv 15) pa_nil)) (pa_cons (pe_tup (pa_cons pe_int (pa_cons pe_int pa_nil))) (pa_cons (pe_tup (pa_cons pe_int (pa_cons pe_int pa_nil))) (pa_cons (pe_tup (pa_cons (pe_callB call_len_seq rfl T.len (by decide +kernel) (pa_cons (pv 8) pa_nil)) pa_nil)) (pa_cons (pe_tup (pa_cons pe_bl pa_nil)) (pa_cons (pe_tup (pa_cons pe_non pa_nil)) (pa_cons (pe_tup (pa_cons pe_str pa_nil)) (pa_cons (pe_tup (pa_cons (pe_lst pa_nil) pa_nil)) (pa_cons (pe_tup (pa_cons (pe_un un_neg pe_int) pa_nil)) (pa_cons pe_int (pa_cons pe_str (pa_cons pe_dnewK pa_nil)))))))))))))))
      (pss_one (ps_for PassesOwn.never rfl (pi_list (pv 18)) (pg_name (i := 16) nd rfl (.inl rfl)) (pss_one (ps_if (pt_not (pt_val (pe_c c_lAlike hr (by decide) rfl (pa_cons (pe_c c_areLetters hr (by decide) rfl (pa_cons (pv 3) (pa_cons (pv 8) (pa_cons (pv 12) (pa_cons (pv 16) pa_nil))))) (pa_cons pe_bl pa_nil))))) (pss_one (ps_ret pe_bl)) pss_nil)))))))))))
      (pss_one (ps_ret pe_bl)))))))))))), ?_⟩
  refine ⟨_, rfl, small (n := 4) (by decide), fun r hr0 => ?_⟩
  have r0 : RowAt K r a (upd H r (.lst [.ref a, .int 0, .int 1743, .int 0])) := by
    have hs2 : ∀ H', Same H H' → SqL K H' a (sns.map V.int) := fun H' s => Same.seq s hsc
    rcases hsc with (e | ⟨o, e⟩) | e
    · exact ⟨sns, 0, 1743, 0, .inl (ne_of_none e hr0), upd_same, hs2 _ (sameUpd hr0), by decide, by decide, by decide⟩
    · exact ⟨sns, 0, 1743, 0, .inl (ne_of_none e hr0), upd_same, hs2 _ (sameUpd hr0), by decide, by decide, by decide⟩
    · exact ⟨sns, 0, 1743, 0, .inr (fun _ => .inr e), upd_same, .inr e, by decide, by decide, by decide⟩
  refine ⟨_, rfl, r, a, rfl, r0, fun H1 pu sh o b1 r1 hsh hpo mt => ?_⟩
  obtain ⟨Rm, pl, LM⟩ := HM sh hsh o hpo
  generalize permM (accM sh) o = M at *
  have S := LM.hall.sq
  have h1 := S.pos
  have h8 := S.most
  refine ⟨fun σ' H' => ∃ hl f1, σ' = [some (.ref a), some (.ref r), some (.ref pu), some (.ref hl), some (.int (M.length : Nat)), some (.ref f1), none, none, none, none, none, none, none, none, none, none, none, none, none, none, none] ∧ RowAt K r a H' ∧ MatAt H' pu M ∧ HallAt C H' hl M ∧ H' f1 = some (.tup ((ones M.length).map V.int)), ?_, ?_⟩
  · obtain ⟨tsP, eP, lP⟩ := mt.len
    refine ⟨_, rfl, fun x dx hx hdx ne => ?_⟩
    have hx2 : (upd H1 dx (.own x)) x = none := by rw [upd_ne (Ne.symm ne)]; exact hx
    have sI := (sameUpd (o := HO.own x) hdx).trans (sameUpd (o := HO.ins C dx []) hx2)
    refine ⟨x, dx, pu, M, rfl, upd_same, mt.same sI, LM.hall, fun H' H2 s e => ⟨rfl, ?_⟩⟩
    have s2 : Same H1 H2 := by rw [e]; exact sameOfBut (sI.trans s) hx But.upd
    have eh : HallAt C H2 x M := ⟨dx, pu, by rw [e]; exact upd_same, mt.same s2⟩
    refine ⟨_, rfl, pu, _, rfl, .inr (SqT.of (s2 _ _ eP)), small (n := 1) (by decide), fun t ht => ?_⟩
    refine ⟨_, rfl, pu, _, rfl, .inr (SqT.of (up (s2 _ _ eP) ht)), ?_⟩
    rw [lP]
    refine mulOnes upd_same h1 (by omega) (fun f1 H3 s3 e3 => ?_)
    refine ⟨small (n := 3) (by decide), fun tt htt => ?_⟩
    have s4 := ((sameUpd (o := HO.tup [V.int 1]) ht).trans s3).trans (sameUpd (o := HO.tup [V.ref x, V.int (M.length : Nat), V.ref f1]) htt)
    refine ⟨tt, _, rfl, SqT.of upd_same, rfl, _, _, rfl, _, _, rfl, _, _, rfl, rfl, ?_⟩
    exact ⟨x, f1, rfl, r1.same (s2.trans s4), mt.same (s2.trans s4), eh.same s4, up e3 htt⟩
  rintro σ2 H2 ⟨hl, f1, rfl, r2, m2, h2, e2⟩
  -- the rooms
  refine ⟨_, rfl, pu, M, 60, 12, rfl, m2, S, by decide, by decide, LM.small, fun H3 to s3 n3 e3 => ?_⟩
  have hfn : ∀ p ∈ (bfsSt M 12).1, p.1 ≠ [] := fun p hp z => by
    have := (LM.plays.room _ (LM.dist p hp).1).len
    rw [z] at this
    simp at this
    omega
  refine ⟨fun σ' H' => ∃ ev ts, σ' = [some (.ref a), some (.ref r), some (.ref pu), some (.ref hl), some (.int (M.length : Nat)), some (.ref f1), some (.ref to), some (.ref ev), none, none, none, none, none, none, none, none, none, none, none, none, none] ∧ LawAt K C M (bfsSt M 12).1 r a pu hl f1 to ev ts H' ∧ 1 ≤ ts.length ∧ ts.length ≤ 60, ?_, ?_⟩
  · refine ⟨_, rfl, to, _, rfl, .inl e3, fun p bs np hk => ?_⟩
    have lk : bs.length = (bfsSt M 12).1.length := by
      have := Paired.length hk
      unfold fk at this
      rw [List.length_map] at this
      exact this.symm
    have hb : ∀ b ∈ bs, ∃ x ∈ (bfsSt M 12).1, H3 b = some (.tup (x.1.map V.int)) := by
      intro b hb
      obtain ⟨q, hq, e⟩ := (paired_at hk).2 b hb
      unfold fk at hq
      obtain ⟨x, hx, rfl⟩ := List.mem_map.mp hq
      exact ⟨x, hx, by rw [← keyI]; exact e⟩
    obtain ⟨k, kOk⟩ := backL (upd H3 p (.lst (bs.map V.ref)))
    have sp := sameUpd (o := HO.lst (bs.map V.ref)) np
    refine .inr ⟨p, _, k, rfl, SqL.of upd_same, fun x hx => ?_, fun x hx z => ?_, fun p2 np2 => ?_⟩
    · obtain ⟨b, hb1, rfl⟩ := List.mem_map.mp hx
      obtain ⟨y, hy, e⟩ := hb b hb1
      have e' := sp _ _ e
      exact ⟨b, rfl, by rw [kOk _ _ e']; exact e'⟩
    · obtain ⟨b, hb1, rfl⟩ := List.mem_map.mp hx
      obtain ⟨y, hy, e⟩ := hb b hb1
      rw [kOk _ _ (sp _ _ e)] at z
      exact hfn y hy z
    · have mem : ∀ x, x ∈ (bs.map V.ref).mergeSort (leK k) ↔ x ∈ bs.map V.ref := fun x => (List.mergeSort_perm _ _).mem_iff
      have hall : ∀ y ∈ (bs.map V.ref).mergeSort (leK k), ∃ b, b ∈ bs ∧ y = V.ref b := fun y hy => by
        obtain ⟨b, hb1, rfl⟩ := List.mem_map.mp ((mem y).mp hy)
        exact ⟨b, hb1, rfl⟩
      obtain ⟨ts, ets, hts⟩ : ∃ ts : List Addr, (bs.map V.ref).mergeSort (leK k) = ts.map V.ref ∧ ∀ t ∈ ts, t ∈ bs := by
        clear mem
        generalize (bs.map V.ref).mergeSort (leK k) = l at hall
        induction l with
        | nil => exact ⟨[], rfl, fun t h => by cases h⟩
        | cons y l ih =>
          obtain ⟨ts, e, h⟩ := ih (fun z hz => hall z (List.mem_cons_of_mem _ hz))
          obtain ⟨b, hb1, e1⟩ := hall y List.mem_cons_self
          refine ⟨b :: ts, by rw [List.map_cons, e, e1], fun t ht => ?_⟩
          rcases List.mem_cons.mp ht with z | z
          · rw [z]; exact hb1
          · exact h t z
      have lts : ts.length = (bfsSt M 12).1.length := by
        have := congrArg List.length ets
        rw [List.length_mergeSort, List.length_map, List.length_map] at this
        omega
      have sf := s3.trans (sp.trans (sameUpd (o := HO.lst ((bs.map V.ref).mergeSort (leK k))) np2))
      have sf3 := sp.trans (sameUpd (o := HO.lst ((bs.map V.ref).mergeSort (leK k))) np2)
      refine ⟨p2, ts, rfl, ⟨r2.same sf, m2.same sf, h2.same sf, sf _ _ e2, sf3 _ _ e3, by rw [upd_same, ets], fun t ht => ?_⟩, ?_, ?_⟩
      · obtain ⟨x, hx, e⟩ := hb t (hts t ht)
        exact ⟨x, hx, sf3 _ _ e⟩
      · rw [lts]
        exact List.length_pos_iff.mpr LM.some
      · rw [lts]
        exact LM.small 12 (by decide)
  rintro σ3 H4 ⟨ev, ts, rfl, L4, lt1, lt60⟩
  -- the word
  refine ⟨fun σ' H' => ∃ wo ws, σ' = [some (.ref a), some (.ref r), some (.ref pu), some (.ref hl), some (.int (M.length : Nat)), some (.ref f1), some (.ref to), some (.ref ev), some (.ref wo), none, none, none, none, none, none, none, none, none, none, none, none] ∧ LawAt K C M (bfsSt M 12).1 r a pu hl f1 to ev ts H' ∧ H' wo = some (.tup ((natI ws).map V.int)) ∧ ws.length ≤ 8 ∧ ∀ x ∈ ws, x < M.length, ?_, ?_⟩
  · refine ⟨_, rfl, r, a, 9, rfl, by decide, by decide, L4.row, fun H5 kk hk b5 r5 => ?_⟩
    refine ⟨_, rfl, by omega, by omega, fun D hD => ?_⟩
    rw [Int.toNat_natCast]
    have Dr : D ≠ r := by
      obtain ⟨_, _, _, _, _, er5, _⟩ := r5
      exact (ne_of_none er5 hD).symm
    refine lc_it walk_range (fun i H' => But r H5 H' ∧ RowAt K r a H' ∧ ∃ ws : List Nat, H' D = some (.lst ((natI ws).map V.int)) ∧ ws.length = i ∧ ∀ x ∈ ws, x < M.length) ⟨(But.refl r H5).same (sameUpd hD), r5.same (sameUpd hD), [], upd_same, rfl, fun x hx => by cases hx⟩ (fun _ _ _ _ => True.intro) (fun i x H6 H7 hi p y => ?_) (fun H6 p => ?_)
    · obtain ⟨b6, r6, ws, e6, l6, w6⟩ := p
      obtain ⟨rfl, rfl⟩ := y
      refine ⟨rfl, _, rfl, _, rfl, r, a, M.length, rfl, h1, by omega, r6, fun H8 k2 hk2 b8 r8 => ?_⟩
      refine ⟨_, b8 _ _ Dr e6, by rw [List.length_map, natI_len]; exact smallLt (by omega), butOfBut (b6.trans b8) hD But.upd, RowAt.keep r5 r8 hD, ws ++ [k2], ?_, by rw [List.length_append, l6]; rfl, fun x hx => ?_⟩
      · rw [upd_same, natI_app, List.map_append]
        rfl
      · rcases List.mem_append.mp hx with z | z
        · exact w6 x z
        · rw [List.mem_singleton.mp z]; exact hk2
    · obtain ⟨b6, r6, ws, e6, l6, w6⟩ := p
      refine ⟨_, _, rfl, .inl ⟨SqL.of e6, fun wo nw => ⟨wo, ws, rfl, ?_, upd_same, by omega, w6⟩⟩⟩
      exact (L4.but (b5.trans b6) r6).same (sameUpd nw)
  rintro σ4 H5 ⟨wo, ws, rfl, L5, ew, hw8, hwin⟩
  -- the greatest room
  refine ⟨_, rfl, ?_⟩
  refine ⟨fun σ' H' => ∃ gr x10, σ' = [some (.ref a), some (.ref r), some (.ref pu), some (.ref hl), some (.int (M.length : Nat)), some (.ref f1), some (.ref to), some (.ref ev), some (.ref wo), some (.ref gr), x10, none, none, none, none, none, none, none, none, none, none] ∧ Same H5 H' ∧ H' gr = some (.tup ((grt M ws).map V.int)), ?_, ?_⟩
  · refine ⟨_, rfl, _, rfl, ⟨_, SqT.of ew⟩, ?_⟩
    refine for_it walk_tupN (fun i σ H' => ∃ gr x10, σ = [some (.ref a), some (.ref r), some (.ref pu), some (.ref hl), some (.int (M.length : Nat)), some (.ref f1), some (.ref to), some (.ref ev), some (.ref wo), some (.ref gr), x10, none, none, none, none, none, none, none, none, none, none] ∧ Same H5 H' ∧ H' gr = some (.tup ((grt M (ws.take i)).map V.int)))
      ⟨f1, none, rfl, Same.refl _, by rw [List.take_zero]; exact L5.f1⟩ (fun i σ H' _ p => by obtain ⟨_, _, _, s, _⟩ := p; exact SqT.of (s _ _ ew)) (fun i x σ H' H'' hi p y => ?_) (fun σ H' p => ?_)
    · obtain ⟨gr, x10, rfl, s, eg⟩ := p
      obtain ⟨rfl, rfl⟩ := y
      have hgl : (grt M (ws.take i)).length = M.length := foldl_len (fun r l h1 h2 => fr_len S h1 h2) (fun x hx => hwin x (List.mem_of_mem_take hx)) (by simp [ones])
      have hlt := getD_lt hwin hi
      have egr : grt M (ws.take (i + 1)) = fr M (grt M (ws.take i)) (ws.getD i 0) := by
        rw [take_snoc hi, grt, List.foldl_append]
        rfl
      rw [egr]
      generalize grt M (ws.take i) = g at *
      refine ⟨_, rfl, _, rfl, gr, _, _, _, rfl, rfl, SqT.of eg, atI_nat (at_ints (by omega)), _, _, rfl, rfl, _, rfl, ?_⟩
      by_cases c : g.getD (ws.getD i 0) 0 > 0
      · refine iteP (decide_eq_true c) ⟨_, rfl, _, rfl, _, rfl, pu, M, gr, g, ws.getD i 0, rfl, L5.pu.same s, S, eg, hgl, hlt, fun H6 p6 s6 e6 => ⟨p6, _, rfl, s.trans s6, ?_⟩⟩
        unfold fr
        rw [if_pos c]
        exact e6
      · refine iteN (decide_eq_false c) ⟨_, rfl, gr, _, rfl, s, ?_⟩
        unfold fr
        rw [if_neg c]
        exact eg
    · obtain ⟨gr, x10, rfl, s, eg⟩ := p
      rw [List.take_length] at eg
      exact ⟨gr, x10, rfl, s, eg⟩
  rintro σ5 H6 ⟨gr, x10, rfl, s6, eg⟩
  have L6 := L5.same s6
  have ew6 := s6 _ _ ew
  refine ⟨_, rfl, _, rfl, hl, M, wo, ws, rfl, L6.hl, LM.good, ew6, by omega, hwin, fun H7 g2 s7 e7 => ?_⟩
  have hgl : (grt M ws).length = M.length := foldl_len (fun r l h1 h2 => fr_len S h1 h2) hwin (by simp [ones])
  refine ⟨_, rfl, _, _, rfl, .inr ⟨g2, gr, grt M ws, rfl, rfl, e7, s7 _ _ eg, by omega⟩, fun H8 s8 => ⟨_, rfl, iteN rfl ?_⟩⟩
  have L8 := (L6.same s7).same s8
  have ew8 := s8 _ _ (s7 _ _ ew6)
  have eg8 := s8 _ _ (s7 _ _ eg)
  refine ⟨_, rfl, by decide, by decide, ?_⟩
  refine for_it walk_range (fun _ σ H' => ∃ x11 x12 x13 x14 x15 x16 x17 x18, σ = [some (.ref a), some (.ref r), some (.ref pu), some (.ref hl), some (.int (M.length : Nat)), some (.ref f1), some (.ref to), some (.ref ev), some (.ref wo), some (.ref gr), x10, x11, x12, x13, x14, x15, x16, x17, x18, none, none] ∧ LawAt K C M (bfsSt M 12).1 r a pu hl f1 to ev ts H' ∧ H' wo = some (.tup ((natI ws).map V.int)) ∧ H' gr = some (.tup ((grt M ws).map V.int)))
    ⟨none, none, none, none, none, none, none, none, rfl, L8, ew8, eg8⟩ (fun _ _ _ _ _ => True.intro) (fun i x σ H9 H9' hi p y => ?_) (fun σ H' p => ?_)
  · obtain ⟨x11, x12, x13, x14, x15, x16, x17, x18, rfl, L9, ew9, eg9⟩ := p
    obtain ⟨rfl, rfl⟩ := y
    refine ⟨_, rfl, _, rfl, r, a, ev, ts.map V.ref, rfl, SqL.of L9.ev, fun H' b => SqL.of (b _ _ (list_ne L9.row L9.ev) L9.ev), by rw [List.length_map]; exact lt1, by rw [List.length_map]; omega, L9.row, fun H10 x hx b10 r10 => ⟨_, _, rfl, ?_⟩⟩
    obtain ⟨ra, hra, rfl⟩ := List.mem_map.mp hx
    have L10 := L9.but b10 r10
    obtain ⟨p, hp, era⟩ := L10.it ra hra
    obtain ⟨hR, _⟩ := LM.dist p hp
    have hget : valV (fk (bfsSt M 12).1) (p.1.map Sum.inl) = some (V.int (((pl p.1).length : Nat) : Int)) := fk_get (M := M) (fun p hp => (LM.dist p hp).2) hp
    have ew10 := tup_but L9.row b10 ew9
    have eg10 := tup_but L9.row b10 eg9
    generalize p.1 = room at *
    have RO := LM.plays.room _ hR
    have n60 := LM.plays.short room hR
    have hgetD : ∀ H', H' to = some (.dT (fk (bfsSt M 12).1)) → H' ra = some (.tup (room.map V.int)) → DGet H' to (.ref ra) (some (V.int (((pl room).length : Nat) : Int))) := fun H' e1 e2 => by
      rw [← hget]
      exact DGet.t e1 (by rw [keyI]; exact e2)
    refine ⟨fun σ' H' => ∃ x14 dv rows, σ' = [some (.ref a), some (.ref r), some (.ref pu), some (.ref hl), some (.int (M.length : Nat)), some (.ref f1), some (.ref to), some (.ref ev), some (.ref wo), some (.ref gr), x10, some (.int (0 + (i : Nat))), some (.ref ra), some dv, x14, x15, x16, x17, x18, none, none] ∧ Same H10 H' ∧ DueAt H' dv (List.find? (fun row => decide (goW M (ones M.length) (pick ws row) = room)) rows) ∧ rows.Perm ((plOk (pl room).length ws.length).map natI) ∧ rows.Pairwise (fun a b => ¬ b < a), ?_, ?_⟩
    · refine ⟨_, rfl, wo, _, rfl, .inr (SqT.of ew10), _, rfl, _, rfl, to, _, rfl, hgetD _ L10.to era, ws.length, (pl room).length, (by rw [List.length_map, natI_len]; rfl), hw8, fun H11 pr rows s11 t11 perm pw => ?_⟩
      obtain ⟨trs, etr, ptr⟩ := t11
      refine ⟨_, rfl, ⟨_, SqL.of etr⟩, ?_⟩
      have L11 := L10.same s11
      refine for_it (walk_list (xs := trs.map V.ref)) (fun k σ' H' => ∃ x14 dv, σ' = [some (.ref a), some (.ref r), some (.ref pu), some (.ref hl), some (.int (M.length : Nat)), some (.ref f1), some (.ref to), some (.ref ev), some (.ref wo), some (.ref gr), x10, some (.int (0 + (i : Nat))), some (.ref ra), some dv, x14, x15, x16, x17, x18, none, none] ∧ Same H11 H' ∧ DueAt H' dv (List.find? (fun row => decide (goW M (ones M.length) (pick ws row) = room)) (rows.take k)))
        ⟨x14, .non, rfl, Same.refl _, rfl⟩ (fun k σ' H' _ p => by obtain ⟨_, _, _, s, _⟩ := p; exact SqL.of (s _ _ etr)) (fun k x σ' H12 H12' hk p y => ?_) (fun σ' H' p => ?_)
      · obtain ⟨x14, dv, rfl, s12, dd⟩ := p
        obtain ⟨rfl, hx⟩ := y
        have hk2 : k < rows.length := by rw [← Paired.length ptr]; simpa using hk
        obtain ⟨tr, g1, g2⟩ := paired_get ptr (List.getElem?_eq_getElem hk2)
        rw [List.getElem?_map, g1] at hx
        cases hx
        obtain ⟨rok, _⟩ := plOk_row (by omega) (perm.mem_iff.mp (List.getElem_mem hk2))
        have g3 := s12 _ _ g2
        rw [find_take hk2]
        refine ⟨_, rfl, rfl, _, rfl, ?_⟩
        cases hf : List.find? (fun row => decide (goW M (ones M.length) (pick ws row) = room)) (rows.take k) with
        | some r0 =>
          rw [hf] at dd
          obtain ⟨t0, rfl, et0⟩ := dd
          refine iteN (decide_eq_false (fun z => by cases z)) (iteN rfl ?_)
          exact ⟨_, _, rfl, s12, t0, rfl, et0⟩
        | none =>
          rw [hf] at dd
          have : dv = .non := dd
          subst this
          refine iteP (decide_eq_true rfl) ?_
          have L12 := L11.same s12
          have ew12 := s12 _ _ (s11 _ _ ew10)
          refine ⟨_, rfl, _, rfl, _, rfl, _, rfl, ⟨_, SqT.of g3⟩, fun D hD => ?_⟩
          refine lc_pick g3 ew12 rok hD (fun _ => rfl) (fun _ => rfl) (fun _ => rfl) (fun H13 s13 e13 => ?_)
          refine ⟨pu, M, f1, ones M.length, D, pick ws rows[k], rfl, L12.pu.same s13, S, s13 _ _ L12.f1, by simp [ones], e13, pick_lt hwin rok, fun H14 g s14 e14 => ?_⟩
          have era14 := s14 _ _ (s13 _ _ (s12 _ _ (s11 _ _ era)))
          refine ⟨_, rfl, _, _, dpT e14, dpT era14, shaped_tupI _, shaped_tupI _, _, rfl, ?_⟩
          rw [eqv_tupI]
          by_cases c : goW M (ones M.length) (pick ws rows[k]) = room
          · refine iteP (decide_eq_true c) ⟨_, rfl, _, _, rfl, (s12.trans s13).trans s14, ?_⟩
            show DueAt H14 _ (if decide (goW M (ones M.length) (pick ws rows[k]) = room) = true then some rows[k] else none)
            rw [if_pos (decide_eq_true c)]
            exact ⟨tr, rfl, s14 _ _ (s13 _ _ g3)⟩
          · refine iteN (decide_eq_false c) ⟨_, _, rfl, (s12.trans s13).trans s14, ?_⟩
            show DueAt H14 _ (if decide (goW M (ones M.length) (pick ws rows[k]) = room) = true then some rows[k] else none)
            rw [if_neg (by simpa using c)]
            exact rfl
      · obtain ⟨x14, dv, rfl, s12, dd⟩ := p
        rw [List.length_map, Paired.length ptr, List.take_length] at dd
        exact ⟨x14, dv, rows, rfl, s11.trans s12, dd, perm, pw⟩
    rintro σ6 H11 ⟨y14, dv, rows, rfl, s11, dd, perm, pw⟩
    have hdue := LM.due ws hw8 hwin room hR rows perm pw
    have L11 := L10.same s11
    have ew11 := s11 _ _ ew10
    have eg11 := s11 _ _ eg10
    have era11 := s11 _ _ era
    have hrok : ∀ row, List.find? (fun row => decide (goW M (ones M.length) (pick ws row) = room)) rows = some row → RowOk ws.length row := fun row e =>
      (plOk_row (by omega) (perm.mem_iff.mp (List.mem_of_find?_eq_some e))).1
    generalize List.find? (fun row => decide (goW M (ones M.length) (pick ws row) = room)) rows = due at *
    have key : (und M room (pl (grt M ws)) = true ∧ ∃ fs, lets M pl ws room = some fs ∧ due = some (natI fs)) ∨ (und M room (pl (grt M ws)) = false ∧ lets M pl ws room = none ∧ due = none) := by
      by_cases c : und M room (pl (grt M ws)) = true
      · have e : lets M pl ws room = some (letSt M pl ws room ws.length).1 := by unfold lets; rw [if_pos c]
        rw [e] at hdue
        exact .inl ⟨c, _, e, hdue.symm⟩
      · have e : lets M pl ws room = none := by unfold lets; rw [if_neg c]
        rw [e] at hdue
        exact .inr ⟨by simpa using c, e, hdue.symm⟩
    refine ⟨_, rfl, _, rfl, _, rfl, hl, M, Rm, pl, wo, ws, ra, room, rfl, L11.hl, LM.good, LM.plays, ew11, by omega, hwin, era11, hR, fun H12 v s12 ov => ?_⟩
    have L12 := L11.same s12
    have dd12 := dd.same s12
    have alk : Alk v dv ∨ ∃ (a b : Addr) (ns : List Int), v = .ref a ∧ dv = .ref b ∧ H12 a = some (.tup (ns.map V.int)) ∧ H12 b = some (.tup (ns.map V.int)) ∧ ns.length ≤ 1000 := by
      rcases key with ⟨_, fs, e1, e2⟩ | ⟨_, e1, e2⟩
      · rw [e1] at ov
        rw [e2] at dd12 hrok
        obtain ⟨a1, rfl, ea⟩ := ov
        obtain ⟨b1, rfl, eb⟩ := dd12
        exact .inr ⟨a1, b1, natI fs, rfl, rfl, ea, eb, (hrok _ rfl).len⟩
      · rw [e1] at ov
        rw [e2] at dd12
        have h1 : v = .non := ov
        have h2 : dv = .non := dd12
        subst h1 h2
        exact .inl .non
    refine ⟨_, rfl, v, dv, rfl, alk, fun H13 s13 => ⟨_, rfl, ?_⟩⟩
    have L13 := L12.same s13
    have era13 := s13 _ _ (s12 _ _ era11)
    have eg13 := s13 _ _ (s12 _ _ eg11)
    have ew13 := s13 _ _ (s12 _ _ ew11)
    have hund : und M room (pl (grt M ws)) = !decide (dv = V.non) := by
      rcases key with ⟨c, fs, e1, e2⟩ | ⟨c, e1, e2⟩
      · rw [e2] at dd
        obtain ⟨b1, rfl, eb⟩ := dd
        rw [c, decide_eq_false (fun z => by cases z)]
        rfl
      · rw [e2] at dd
        have h2 : dv = .non := dd
        rw [c, h2]
        rfl
    refine ⟨_, rfl, _, rfl, _, rfl, hl, M, ra, room, pl room, gr, grt M ws, pl (grt M ws), rfl, L13.hl, LM.good, era13, RO, eg13, LM.plays.room _ (LM.plays.great ws hwin), fun H14 s14 => ?_⟩
    refine ⟨_, rfl, rfl, rfl, _, rfl, ?_⟩
    refine iteN (by rw [dec_bl, hund]; simp) ?_
    have L14 := L13.same s14
    have era14 := s14 _ _ era13
    have eg14 := s14 _ _ eg13
    have ew14 := s14 _ _ ew13
    have dd14 := (dd12.same s13).same s14
    -- some of the places
    refine ⟨fun σ' H' => ∃ so sm, σ' = [some (.ref a), some (.ref r), some (.ref pu), some (.ref hl), some (.int (M.length : Nat)), some (.ref f1), some (.ref to), some (.ref ev), some (.ref wo), some (.ref gr), x10, some (.int (0 + (i : Nat))), some (.ref ra), some dv, y14, some (.ref so), x16, x17, x18, none, none] ∧ But r H14 H' ∧ RowAt K r a H' ∧ H' so = some (.tup ((natI sm).map V.int)) ∧ RowOk ws.length (natI sm), ?_, ?_⟩
    · refine ⟨_, rfl, wo, _, rfl, .inr (SqT.of ew14), _, rfl, by omega, by rw [List.length_map, natI_len]; omega, fun D hD => ?_⟩
      rw [List.length_map, natI_len, Int.toNat_natCast]
      have Dr : D ≠ r := by
        obtain ⟨_, _, _, _, _, er5, _⟩ := L14.row
        exact (ne_of_none er5 hD).symm
      refine lc_it walk_range (fun k H' => But r H14 H' ∧ RowAt K r a H' ∧ ∃ sm : List Nat, H' D = some (.lst ((natI sm).map V.int)) ∧ sm.Pairwise (· < ·) ∧ (∀ x ∈ sm, x < k) ∧ sm.length ≤ k) ⟨(But.refl r H14).same (sameUpd hD), L14.row.same (sameUpd hD), [], upd_same, .nil, (fun x hx => by cases hx), Nat.le_refl _⟩ (fun _ _ _ _ => True.intro) (fun k x H6 H7 hk p y => ?_) (fun H6 p => ?_)
      · obtain ⟨b6, r6, sm, e6, p6, w6, l6⟩ := p
        obtain ⟨rfl, rfl⟩ := y
        refine ⟨rfl, _, rfl, r, a, 2, rfl, by decide, by decide, r6, fun H8 k2 hk2 b8 r8 => ⟨rfl, _, rfl, ?_⟩⟩
        have e8 := b8 _ _ Dr e6
        refine ite2 (fun _ => ?_) (fun _ => ?_)
        · refine ⟨_, rfl, _, e8, by rw [List.length_map, natI_len]; exact smallLt (by omega), butOfBut (b6.trans b8) hD But.upd, RowAt.keep L14.row r8 hD, sm ++ [k], ?_, ?_, fun x hx => ?_, by rw [List.length_append]; show sm.length + 1 ≤ k + 1; omega⟩
          · rw [upd_same, natI_app, List.map_append]
            have ez : V.int (0 + ((k : Nat) : Int)) = V.int ((k : Nat) : Int) := by rw [Int.zero_add]
            exact congrArg (fun v => some (HO.lst ((natI sm).map V.int ++ [v]))) ez
          · exact List.pairwise_append.mpr ⟨p6, List.pairwise_singleton _ _, fun x hx y hy => by rw [List.mem_singleton.mp hy]; exact w6 x hx⟩
          · rcases List.mem_append.mp hx with z | z
            · exact Nat.lt_succ_of_lt (w6 x z)
            · rw [List.mem_singleton.mp z]; exact Nat.lt_succ_self k
        · exact ⟨b6.trans b8, r8, sm, e8, p6, fun x hx => Nat.lt_succ_of_lt (w6 x hx), Nat.le_succ_of_le l6⟩
      · obtain ⟨b6, r6, sm, e6, p6, w6, l6⟩ := p
        refine ⟨_, _, rfl, .inl ⟨SqL.of e6, fun so nso => ⟨so, sm, rfl, b6.same (sameUpd nso), r6.same (sameUpd nso), upd_same, natI_rowOk p6 w6 (by omega)⟩⟩⟩
    rintro σ7 H15 ⟨so, sm, rfl, b15, r15, eso, smok⟩
    have L15 := L14.but b15 r15
    have era15 := tup_but L14.row b15 era14
    have eg15 := tup_but L14.row b15 eg14
    have ew15 := tup_but L14.row b15 ew14
    have dd15 := dd14.but L14.row b15
    have n1000 : (pl room).length ≤ 1000 := by omega
    -- the three values
    refine ⟨fun σ' H' => ∃ x16 x17, σ' = [some (.ref a), some (.ref r), some (.ref pu), some (.ref hl), some (.int (M.length : Nat)), some (.ref f1), some (.ref to), some (.ref ev), some (.ref wo), some (.ref gr), x10, some (.int (0 + (i : Nat))), some (.ref ra), some dv, y14, some (.ref so), x16, x17, x18, none, none] ∧ Same H15 H', ?_, ?_⟩
    · refine ⟨_, rfl, _, rfl, small (n := 0) (by decide), fun t0 h0 => ⟨small (n := 3) (by decide), fun L hL => ⟨_, rfl, ⟨_, SqL.of upd_same⟩, ?_⟩⟩⟩
      have sL := (sameUpd (o := HO.tup []) h0).trans (sameUpd (o := HO.lst [V.ref so, dv, V.ref t0]) hL)
      have et0 := up (upd_same (H := H15) (a := t0) (o := HO.tup [])) hL (o' := HO.lst [V.ref so, dv, V.ref t0])
      have eL := upd_same (H := upd H15 t0 (HO.tup [])) (a := L) (o := HO.lst [V.ref so, dv, V.ref t0])
      generalize upd (upd H15 t0 (HO.tup [])) L (HO.lst [V.ref so, dv, V.ref t0]) = H16 at *
      refine for_it (walk_list (xs := [V.ref so, dv, V.ref t0])) (fun k σ' H' => ∃ x16 x17, σ' = [some (.ref a), some (.ref r), some (.ref pu), some (.ref hl), some (.int (M.length : Nat)), some (.ref f1), some (.ref to), some (.ref ev), some (.ref wo), some (.ref gr), x10, some (.int (0 + (i : Nat))), some (.ref ra), some dv, y14, some (.ref so), x16, x17, x18, none, none] ∧ Same H16 H')
        ⟨x16, x17, rfl, Same.refl _⟩ (fun k σ' H' _ p => by obtain ⟨_, _, _, s⟩ := p; exact SqL.of (s _ _ eL)) (fun k x σ' H17' H17 hk p y => ?_) (fun σ' H' p => ?_)
      · obtain ⟨x16, x17, rfl, s17⟩ := p
        obtain ⟨rfl, hx⟩ := y
        have hv : ∃ o, DueAt H17 x o ∧ ∀ row, o = some row → RowOk ws.length row := by
          rcases three hk hx with ⟨_, rfl⟩ | ⟨_, rfl⟩ | ⟨_, rfl⟩
          · exact ⟨some (natI sm), ⟨so, rfl, s17 _ _ (sL _ _ eso)⟩, fun row e => by cases e; exact smok⟩
          · exact ⟨due, (dd15.same sL).same s17, hrok⟩
          · exact ⟨some [], ⟨t0, rfl, s17 _ _ et0⟩, fun row e => by cases e; exact ⟨fun p hp => (by cases hp), rfl, by decide⟩⟩
        obtain ⟨o, hvo, hvr⟩ := hv
        have L17 := (L15.same sL).same s17
        have era17 := s17 _ _ (sL _ _ era15)
        have ew17 := s17 _ _ (sL _ _ ew15)
        have hcut : ∀ (bb : Bool), (o = none ∧ bb = false) ∨ (∃ row, o = some row ∧ bb = decide (row.length = (pl room).length)) → True := fun _ _ => True.intro
        refine ⟨_, rfl, rfl, _, rfl, ?_⟩
        cases o with
        | none =>
          have : x = .non := hvo
          subst this
          refine iteN rfl ?_
          refine ⟨fun σ' H' => σ' = [some (.ref a), some (.ref r), some (.ref pu), some (.ref hl), some (.int (M.length : Nat)), some (.ref f1), some (.ref to), some (.ref ev), some (.ref wo), some (.ref gr), x10, some (.int (0 + (i : Nat))), some (.ref ra), some dv, y14, some (.ref so), some .non, some (.bl (isSo M ws room (pl room).length none)), x18, none, none] ∧ Same H17 H', ?_, ?_⟩
          · exact ⟨_, rfl, _, rfl, iteN rfl ⟨rfl, Same.refl _⟩⟩
          · rintro σ8 H18 ⟨rfl, s18⟩
            refine ⟨_, rfl, _, rfl, _, rfl, _, rfl, hl, M, wo, ws, ra, room, pl room, .non, _, rfl, (L17.same s18).hl, LM.good, s18 _ _ ew17, by omega, hwin, s18 _ _ era17, RO, letV_due (hvo.same s18) hvr, fun H19 s19 => ?_⟩
            refine ⟨_, rfl, _, _, rfl, .inl (.bl _), fun H20 s20 => ⟨_, rfl, iteN rfl ?_⟩⟩
            exact ⟨_, _, rfl, ((s17.trans s18).trans s19).trans s20⟩
        | some row =>
          obtain ⟨tr, rfl, etr⟩ := id hvo
          have rok := hvr row rfl
          refine iteP rfl ?_
          refine ⟨_, rfl, tr, _, rfl, .inr (SqT.of etr), _, rfl, _, rfl, to, _, rfl, hgetD _ L17.to era17, rfl, ?_⟩
          rw [List.length_map, dec_int]
          refine ⟨fun σ' H' => σ' = [some (.ref a), some (.ref r), some (.ref pu), some (.ref hl), some (.int (M.length : Nat)), some (.ref f1), some (.ref to), some (.ref ev), some (.ref wo), some (.ref gr), x10, some (.int (0 + (i : Nat))), some (.ref ra), some dv, y14, some (.ref so), some (.ref tr), some (.bl (isSo M ws room (pl room).length (some row))), x18, none, none] ∧ Same H17 H', ?_, ?_⟩
          · refine ⟨_, rfl, _, rfl, ?_⟩
            by_cases c : row.length = (pl room).length
            · refine iteP (by rw [c]; simp) ?_
              refine ⟨_, rfl, _, rfl, _, rfl, _, rfl, ⟨_, SqT.of etr⟩, fun D hD => ?_⟩
              refine lc_pick etr ew17 rok hD (fun _ => rfl) (fun _ => rfl) (fun _ => rfl) (fun H18 s18 e18 => ?_)
              refine ⟨pu, M, f1, ones M.length, D, pick ws row, rfl, L17.pu.same s18, S, s18 _ _ L17.f1, by simp [ones], e18, pick_lt hwin rok, fun H19 g s19 e19 => ?_⟩
              refine ⟨_, rfl, _, _, dpT e19, dpT (s19 _ _ (s18 _ _ era17)), shaped_tupI _, shaped_tupI _, ?_⟩
              rw [eqv_tupI]
              have so1 : isSo M ws room (pl room).length (some row) = decide (goW M (ones M.length) (pick ws row) = room) := by
                show (decide (row.length = (pl room).length) && decide (goW M (ones M.length) (pick ws row) = room)) = _
                rw [decide_eq_true c]
                rfl
              refine ⟨?_, s18.trans s19⟩
              rw [so1]
              rfl
            · have so2 : isSo M ws room (pl room).length (some row) = false := by
                show (decide (row.length = (pl room).length) && decide (goW M (ones M.length) (pick ws row) = room)) = _
                rw [decide_eq_false c]
                rfl
              refine iteN (by simp; omega) ⟨?_, Same.refl _⟩
              rw [so2]
              rfl
          · rintro σ8 H18 ⟨rfl, s18⟩
            refine ⟨_, rfl, _, rfl, _, rfl, _, rfl, hl, M, wo, ws, ra, room, pl room, .ref tr, _, rfl, (L17.same s18).hl, LM.good, s18 _ _ ew17, by omega, hwin, s18 _ _ era17, RO, letV_due (hvo.same s18) hvr, fun H19 s19 => ?_⟩
            refine ⟨_, rfl, _, _, rfl, .inl (.bl _), fun H20 s20 => ⟨_, rfl, iteN rfl ?_⟩⟩
            exact ⟨_, _, rfl, ((s17.trans s18).trans s19).trans s20⟩
      · obtain ⟨x16, x17, rfl, s17⟩ := p
        exact ⟨x16, x17, rfl, sL.trans s17⟩
    rintro σ8 H16 ⟨x16', x17', rfl, s16⟩
    have L16 := L15.same s16
    have era16 := s16 _ _ era15
    have eg16 := s16 _ _ eg15
    have ew16 := s16 _ _ ew15
    have eso16 := s16 _ _ eso
    -- the odd values
    refine ⟨fun σ' H' => ∃ L xs, σ' = [some (.ref a), some (.ref r), some (.ref pu), some (.ref hl), some (.int (M.length : Nat)), some (.ref f1), some (.ref to), some (.ref ev), some (.ref wo), some (.ref gr), x10, some (.int (0 + (i : Nat))), some (.ref ra), some dv, y14, some (.ref so), x16', x17', some (.ref L), none, none] ∧ Same H16 H' ∧ H' L = some (.lst xs) ∧ xs.length ≤ 1000 ∧ ∀ x ∈ xs, LetV K M ws room (pl room).length H' x false, ?_, ?_⟩
    · refine ⟨_, rfl, so, _, rfl, .inr (SqT.of eso16), fun l1 hl1 => ?_⟩
      refine ⟨small (n := 2) (by decide), fun t1 ht1 => ⟨small (n := 2) (by decide), fun t2 ht2 => ?_⟩⟩
      refine ⟨_, rfl, wo, _, rfl, .inr (SqT.of (up (up (up ew16 hl1) ht1) ht2)), small (n := 1) (by decide), fun t3 ht3 => ?_⟩
      refine ⟨small (n := 1) (by decide), fun t4 ht4 => ⟨small (n := 1) (by decide), fun t5 ht5 => ⟨small (n := 1) (by decide), fun t6 ht6 => ?_⟩⟩⟩
      refine ⟨small (n := 0) (by decide), fun e0 he0 => ⟨small (n := 1) (by decide), fun t7 ht7 => ?_⟩⟩
      refine ⟨_, rfl, small (n := 1) (by decide), fun t8 ht8 => ?_⟩
      intro d hd
      refine ⟨small (n := 13) (by decide), fun L hL => ?_⟩
      refine ⟨L, _, rfl, ?_, upd_same, (show 13 ≤ 1000 by decide), ?_⟩
      · exact ((sameUpd hl1).trans ((sameUpd ht1).trans ((sameUpd ht2).trans ((sameUpd ht3).trans ((sameUpd ht4).trans ((sameUpd ht5).trans ((sameUpd ht6).trans ((sameUpd he0).trans ((sameUpd ht7).trans ((sameUpd ht8).trans ((sameUpd hd).trans (sameUpd hL))))))))))))
      have lb : ∀ (t : Addr) (ps : List Int) (Hx : Hp), Hx t = some (.tup (ps.map V.int)) → ps.length ≤ 1000 → letB M ws room (pl room).length ps = false → LetV K M ws room (pl room).length Hx (.ref t) false := fun t ps Hx e hl z => by
        rw [← z]
        exact .nums t ps e hl
      have z1 : letB M ws room (pl room).length [1, 0] = false := by
        unfold letB
        rw [show asc [1, 0] = false from by decide]
        simp
      have z2 : letB M ws room (pl room).length [0, 0] = false := by
        unfold letB
        rw [show asc [0, 0] = false from by decide]
        simp
      have z3 : letB M ws room (pl room).length [((((natI ws).map V.int).length : Nat) : Int)] = false := by
        unfold letB
        have : ([((((natI ws).map V.int).length : Nat) : Int)] : List Int).all (inB ((ws.length : Nat) - 1)) = false := by
          rw [List.length_map, natI_len]
          simp [inB]
          omega
        rw [this]
        rfl
      have z4 : letB M ws room (pl room).length [-1] = false := by
        unfold letB
        have : ([-1] : List Int).all (inB ((ws.length : Nat) - 1)) = false := by simp [inB]
        rw [this]
        rfl
      intro x hx
      rcases List.mem_cons.mp hx with rfl | hx
      · exact .not _ _ (fun _ _ => .base .non) kNT
      rcases List.mem_cons.mp hx with rfl | hx
      · exact .not _ _ (fun H' s => .base (.lst (s _ _ (up (up (up (up (up (up (up (up (up (up (up upd_same ht1) ht2) ht3) ht4) ht5) ht6) he0) ht7) ht8) hd) hL)))) kLT
      rcases List.mem_cons.mp hx with rfl | hx
      · exact lb t1 [1, 0] _ (up (up (up (up (up (up (up (up (up (up upd_same ht2) ht3) ht4) ht5) ht6) he0) ht7) ht8) hd) hL) (show 2 ≤ 1000 by decide) z1
      rcases List.mem_cons.mp hx with rfl | hx
      · exact lb t2 [0, 0] _ (up (up (up (up (up (up (up (up (up upd_same ht3) ht4) ht5) ht6) he0) ht7) ht8) hd) hL) (show 2 ≤ 1000 by decide) z2
      rcases List.mem_cons.mp hx with rfl | hx
      · exact lb t3 [_] _ (up (up (up (up (up (up (up (up upd_same ht4) ht5) ht6) he0) ht7) ht8) hd) hL) (show 1 ≤ 1000 by decide) z3
      rcases List.mem_cons.mp hx with rfl | hx
      · exact .one t4 _ (up (up (up (up (up (up (up upd_same ht5) ht6) he0) ht7) ht8) hd) hL) (.bl true)
      rcases List.mem_cons.mp hx with rfl | hx
      · exact .one t5 _ (up (up (up (up (up (up upd_same ht6) he0) ht7) ht8) hd) hL) .non
      rcases List.mem_cons.mp hx with rfl | hx
      · exact .one t6 _ (up (up (up (up (up upd_same he0) ht7) ht8) hd) hL) (.str "0")
      rcases List.mem_cons.mp hx with rfl | hx
      · exact .one t7 _ (up (up (up upd_same ht8) hd) hL) (.lst e0 [] (up (up (up (up upd_same ht7) ht8) hd) hL))
      rcases List.mem_cons.mp hx with rfl | hx
      · exact lb t8 [-1] _ (up (up upd_same hd) hL) (show 1 ≤ 1000 by decide) z4
      rcases List.mem_cons.mp hx with rfl | hx
      · exact .not _ _ (fun _ _ => .base (.int 0)) kIT
      rcases List.mem_cons.mp hx with rfl | hx
      · exact .not _ _ (fun _ _ => .base (.str "0")) kST
      rcases List.mem_cons.mp hx with rfl | hx
      · exact .not _ _ (fun H' s => .base (.dK (s _ _ (up upd_same hL)))) kDT
      cases hx
    rintro σ9 H17 ⟨L, xs, rfl, s17, eL, lx, hlet⟩
    have L17 := L16.same s17
    have era17 := s17 _ _ era16
    have ew17 := s17 _ _ ew16
    have eg17 := s17 _ _ eg16
    refine ⟨_, rfl, _, rfl, ⟨_, SqL.of eL⟩, ?_⟩
    refine for_it (walk_list (xs := xs)) (fun k σ' H' => ∃ x16, σ' = [some (.ref a), some (.ref r), some (.ref pu), some (.ref hl), some (.int (M.length : Nat)), some (.ref f1), some (.ref to), some (.ref ev), some (.ref wo), some (.ref gr), x10, some (.int (0 + (i : Nat))), some (.ref ra), some dv, y14, some (.ref so), x16, x17', some (.ref L), none, none] ∧ Same H17 H')
      ⟨x16', rfl, Same.refl _⟩ (fun k σ' H' _ p => by obtain ⟨_, _, s⟩ := p; exact SqL.of (s _ _ eL)) (fun k x σ' H18' H18 hk p y => ?_) (fun σ' H' p => ?_)
    · obtain ⟨x16, rfl, s18⟩ := p
      obtain ⟨rfl, hx⟩ := y
      refine ⟨_, rfl, _, rfl, _, rfl, _, rfl, hl, M, wo, ws, ra, room, pl room, x, false, rfl, (L17.same s18).hl, LM.good, s18 _ _ ew17, by omega, hwin, s18 _ _ era17, RO, (hlet x (List.mem_of_getElem? hx)).same s18, fun H19 s19 => ?_⟩
      exact ⟨_, _, rfl, .inl (.bl _), fun H20 s20 => ⟨_, rfl, iteN rfl ⟨_, rfl, (s18.trans s19).trans s20⟩⟩⟩
    · obtain ⟨x16, rfl, s18⟩ := p
      exact ⟨_, _, _, _, _, _, _, _, rfl, L17.same s18, s18 _ _ ew17, s18 _ _ eg17⟩
  · obtain ⟨x11, x12, x13, x14, x15, x16, x17, x18, rfl, _, _, _⟩ := p
    exact q _
end
end Kal

set_option Elab.async false
set_option linter.all false
set_option maxRecDepth 100000
set_option maxHeartbeats 4000000
/-! KM1: the plain law: the greedy reading is the first row that leads to the room. -/
namespace Kal
open PySem
def demL (M : List (List Int)) (pl : List Int → List Nat) (l : Nat) (g : List Int) : List Int := if (pl g).length < (pl (lm M pl g l)).length then lm M pl g l else g
structure FinM (M : List (List Int)) (Rm : List Int → Prop) (pl : List Int → List Nat) : Prop where
  one : Rm (ones M.length)
  plone : pl (ones M.length) = []
  chgc : ∀ r l, Rm r → l < M.length → Rm (chg M r l)
  lmc : ∀ r l, Rm r → l < M.length → Rm (lm M pl r l)
  inv : ∀ r l, Rm r → l < M.length → lm M pl (lm M pl r l) l = r
  len : ∀ r l, Rm r → l < M.length → (pl (lm M pl r l)).length + 1 = (pl r).length ∨ (pl (lm M pl r l)).length = (pl r).length + 1
  com : ∀ r l m, Rm r → l < M.length → m < M.length → lm M pl (chg M r m) l = chg M (lm M pl r l) m
  lone : ∀ l, l < M.length → lm M pl (ones M.length) l = chg M (ones M.length) l
  dem : ∀ g l m, Rm g → l < M.length → m < M.length → fr M (demL M pl l g) m = demL M pl l (fr M g m)
  lift : ∀ g r l, Rm g → Rm r → l < M.length → und M r (pl (demL M pl l g)) = (und M r (pl g) || (decide ((pl (lm M pl r l)).length < (pl r).length) && und M (lm M pl r l) (pl g)))
section
variable {M : List (List Int)} {Rm : List Int → Prop} {pl : List Int → List Nat}
theorem FinM.frc (F : FinM M Rm pl) {g : List Int} {m : Nat} (hg : Rm g) (hm : m < M.length) : Rm (fr M g m) := by
  unfold fr
  split
  · exact F.chgc g m hg hm
  · exact hg
theorem FinM.demc (F : FinM M Rm pl) {g : List Int} {l : Nat} (hg : Rm g) (hl : l < M.length) : Rm (demL M pl l g) := by
  unfold demL
  split
  · exact F.lmc g l hg hl
  · exact hg
theorem FinM.foldc (F : FinM M Rm pl) : ∀ {ws : List Nat} {g : List Int}, (∀ x ∈ ws, x < M.length) → Rm g → Rm (ws.foldl (fr M) g)
  | [], _, _, h => h
  | m :: ws, g, hw, h => F.foldc (ws := ws) (g := fr M g m) (fun x hx => hw x (List.mem_cons_of_mem _ hx)) (F.frc h (hw m List.mem_cons_self))
theorem FinM.great (F : FinM M Rm pl) {ws : List Nat} (hw : ∀ x ∈ ws, x < M.length) : Rm (grt M ws) := F.foldc hw F.one
theorem FinM.goc (F : FinM M Rm pl) : ∀ {ws : List Nat} {g : List Int}, (∀ x ∈ ws, x < M.length) → Rm g → Rm (goW M g ws)
  | [], _, _, h => h
  | m :: ws, g, hw, h => F.goc (ws := ws) (g := chg M g m) (fun x hx => hw x (List.mem_cons_of_mem _ hx)) (F.chgc g m h (hw m List.mem_cons_self))
theorem FinM.demFold (F : FinM M Rm pl) {l : Nat} (hl : l < M.length) : ∀ {ws : List Nat} {g : List Int}, (∀ x ∈ ws, x < M.length) → Rm g → ws.foldl (fr M) (demL M pl l g) = demL M pl l (ws.foldl (fr M) g)
  | [], _, _, _ => rfl
  | m :: ws, g, hw, h => by
    show ws.foldl (fr M) (fr M (demL M pl l g) m) = demL M pl l (ws.foldl (fr M) (fr M g m))
    rw [F.dem g l m h hl (hw m List.mem_cons_self)]
    exact F.demFold hl (ws := ws) (fun x hx => hw x (List.mem_cons_of_mem _ hx)) (F.frc h (hw m List.mem_cons_self))
theorem ones_get {n l : Nat} (h : l < n) : (ones n).getD l 0 = 1 := by
  unfold ones
  rw [List.getD_eq_getElem?_getD, List.getElem?_eq_getElem (by simpa using h)]
  simp
/-- the greatest room of a word, from the left -/
theorem FinM.grt_cons (F : FinM M Rm pl) {l : Nat} {ws : List Nat} (hl : l < M.length) (hw : ∀ x ∈ ws, x < M.length) : grt M (l :: ws) = demL M pl l (grt M ws) := by
  have e : fr M (ones M.length) l = demL M pl l (ones M.length) := by
    unfold fr demL
    rw [ones_get hl, if_pos (by decide), F.lone l hl]
    have h := F.len _ l F.one hl
    rw [F.plone, F.lone l hl] at h
    rw [F.plone, if_pos]
    rcases h with h | h
    · exact absurd h (by simp)
    · rw [h]; exact Nat.lt_succ_self _
  show ws.foldl (fr M) (fr M (ones M.length) l) = _
  rw [e]
  exact F.demFold hl hw F.one
/-- a word with one letter ahead -/
theorem FinM.go_cons (F : FinM M Rm pl) {l : Nat} (hl : l < M.length) : ∀ {ws : List Nat} {g : List Int}, (∀ x ∈ ws, x < M.length) → Rm g → goW M (lm M pl g l) ws = lm M pl (goW M g ws) l
  | [], _, _, _ => rfl
  | m :: ws, g, hw, h => by
    show goW M (chg M (lm M pl g l) m) ws = lm M pl (goW M (chg M g m) ws) l
    rw [← F.com g l m h hl (hw m List.mem_cons_self)]
    exact F.go_cons hl (ws := ws) (fun x hx => hw x (List.mem_cons_of_mem _ hx)) (F.chgc g m h (hw m List.mem_cons_self))
theorem FinM.go_one (F : FinM M Rm pl) {l : Nat} {ws : List Nat} (hl : l < M.length) (hw : ∀ x ∈ ws, x < M.length) : goW M (ones M.length) (l :: ws) = lm M pl (goW M (ones M.length) ws) l := by
  show goW M (chg M (ones M.length) l) ws = _
  rw [← F.lone l hl]
  exact F.go_cons hl hw F.one
theorem FinM.go_len (F : FinM M Rm pl) : ∀ {ws : List Nat}, (∀ x ∈ ws, x < M.length) → (pl (goW M (ones M.length) ws)).length ≤ ws.length
  | [], _ => by show (pl (ones M.length)).length ≤ 0; rw [F.plone]; exact Nat.le_refl _
  | l :: ws, hw => by
    have hl := hw l List.mem_cons_self
    have hw2 : ∀ x ∈ ws, x < M.length := fun x hx => hw x (List.mem_cons_of_mem _ hx)
    rw [F.go_one hl hw2, List.length_cons]
    have i := F.go_len hw2
    rcases F.len _ l (F.goc hw2 F.one) hl with h | h <;> omega
/-- the greedy reading, from the left -/
def grd (M : List (List Int)) (pl : List Int → List Nat) : List Nat → Nat → List Int → List Nat
  | [], _, _ => []
  | l :: w, i, r => if (pl (lm M pl r l)).length < (pl r).length ∧ und M (lm M pl r l) (pl (grt M w)) = true then i :: grd M pl w (i + 1) (lm M pl r l) else grd M pl w (i + 1) r
/-- places of a word that begins at place i -/
def At (i : Nat) (w : List Nat) (s : List Nat) : Prop := s.Pairwise (· < ·) ∧ ∀ x ∈ s, i ≤ x ∧ x < i + w.length
def letters (w : List Nat) (i : Nat) (s : List Nat) : List Nat := s.map fun x => w.getD (x - i) 0
theorem und_one (F : FinM M Rm pl) (r : List Int) : und M r (pl (ones M.length)) = decide (r = ones M.length) := by
  rw [F.plone]
  rfl
theorem letters_tail {l : Nat} {w : List Nat} {i : Nat} {s : List Nat} (h : ∀ x ∈ s, i + 1 ≤ x) : letters (l :: w) i s = letters w (i + 1) s := by
  unfold letters
  refine List.map_congr_left fun x hx => ?_
  have := h x hx
  have e : x - i = (x - (i + 1)) + 1 := by omega
  rw [e]
  rfl
theorem letters_lt {w : List Nat} {i n : Nat} {s : List Nat} (hw : ∀ x ∈ w, x < n) (h : ∀ x ∈ s, i ≤ x ∧ x < i + w.length) : ∀ y ∈ letters w i s, y < n := fun y hy => by
  obtain ⟨x, hx, rfl⟩ := List.mem_map.mp hy
  have := h x hx
  exact getD_lt hw (by omega)
theorem und_lift (F : FinM M Rm pl) {l : Nat} {w : List Nat} {r : List Int} (hl : l < M.length) (hw : ∀ x ∈ w, x < M.length) (hr : Rm r) :
    und M r (pl (grt M (l :: w))) = (und M r (pl (grt M w)) || (decide ((pl (lm M pl r l)).length < (pl r).length) && und M (lm M pl r l) (pl (grt M w)))) := by
  rw [F.grt_cons hl hw]
  exact F.lift _ r l (F.great hw) hr hl
/-- the greedy reading leads to the room -/
theorem claimA (F : FinM M Rm pl) : ∀ {w : List Nat} {i : Nat} {r : List Int}, (∀ x ∈ w, x < M.length) → Rm r → und M r (pl (grt M w)) = true →
    At i w (grd M pl w i r) ∧ (grd M pl w i r).length = (pl r).length ∧ goW M (ones M.length) (letters w i (grd M pl w i r)) = r
  | [], i, r, _, hr, h => by
    have e : und M r (pl (ones M.length)) = true := h
    rw [und_one F] at e
    have e := of_decide_eq_true e
    refine ⟨⟨.nil, fun x hx => by cases hx⟩, ?_, e.symm⟩
    rw [e, F.plone]
    rfl
  | l :: w, i, r, hw, hr, h => by
    have hl := hw l List.mem_cons_self
    have hw2 : ∀ x ∈ w, x < M.length := fun x hx => hw x (List.mem_cons_of_mem _ hx)
    rw [und_lift F hl hw2 hr] at h
    by_cases c : (pl (lm M pl r l)).length < (pl r).length ∧ und M (lm M pl r l) (pl (grt M w)) = true
    · have eg : grd M pl (l :: w) i r = i :: grd M pl w (i + 1) (lm M pl r l) := if_pos c
      obtain ⟨⟨a1, a2⟩, b, d⟩ := claimA F (w := w) (i := i + 1) (r := lm M pl r l) hw2 (F.lmc r l hr hl) c.2
      rw [eg]
      refine ⟨⟨List.pairwise_cons.mpr ⟨fun x hx => by have := a2 x hx; omega, a1⟩, fun x hx => ?_⟩, ?_, ?_⟩
      · rw [List.length_cons]
        rcases List.mem_cons.mp hx with z | z
        · omega
        · have := a2 x z; omega
      · rw [List.length_cons, b]
        rcases F.len r l hr hl with z | z <;> omega
      · have e1 : letters (l :: w) i (i :: grd M pl w (i + 1) (lm M pl r l)) = l :: letters w (i + 1) (grd M pl w (i + 1) (lm M pl r l)) := by
          have z := letters_tail (l := l) (w := w) (i := i) (s := grd M pl w (i + 1) (lm M pl r l)) (fun x hx => (a2 x hx).1)
          show (l :: w).getD (i - i) 0 :: letters (l :: w) i _ = _
          rw [z, Nat.sub_self]
          rfl
        rw [e1, F.go_one hl (letters_lt hw2 a2), d]
        exact F.inv r l hr hl
    · have eg : grd M pl (l :: w) i r = grd M pl w (i + 1) r := if_neg c
      have hu : und M r (pl (grt M w)) = true := by
        cases hx : und M r (pl (grt M w)) with
        | true => rfl
        | false =>
          rw [hx, Bool.false_or, Bool.and_eq_true, decide_eq_true_eq] at h
          exact absurd h c
      obtain ⟨⟨a1, a2⟩, b, d⟩ := claimA F (w := w) (i := i + 1) (r := r) hw2 hr hu
      rw [eg]
      refine ⟨⟨a1, fun x hx => ?_⟩, b, ?_⟩
      · have := a2 x hx
        rw [List.length_cons]
        omega
      · rw [letters_tail (fun x hx => (a2 x hx).1)]
        exact d
/-- no row that leads to the room is below the greedy one -/
theorem claimB (F : FinM M Rm pl) : ∀ {w : List Nat} {i : Nat} {r : List Int} {s : List Nat}, (∀ x ∈ w, x < M.length) → Rm r → At i w s → s.length = (pl r).length → goW M (ones M.length) (letters w i s) = r →
    und M r (pl (grt M w)) = true ∧ ¬ s < grd M pl w i r
  | [], i, r, s, _, hr, hs, hl, hg => by
    have : s = [] := by
      cases s with
      | nil => rfl
      | cons x s =>
        have := hs.2 x List.mem_cons_self
        simp at this
        omega
    subst this
    have e : r = ones M.length := hg.symm
    refine ⟨?_, ?_⟩
    · show und M r (pl (ones M.length)) = true
      rw [und_one F]
      exact decide_eq_true e
    · show ¬ ([] : List Nat) < []
      exact List.lt_irrefl []
  | l :: w, i, r, s, hw, hr, hs, hlen, hg => by
    have hl := hw l List.mem_cons_self
    have hw2 : ∀ x ∈ w, x < M.length := fun x hx => hw x (List.mem_cons_of_mem _ hx)
    obtain ⟨p1, p2⟩ := hs
    by_cases hi : ∃ s', s = i :: s'
    · obtain ⟨s', rfl⟩ := hi
      obtain ⟨q1, q2⟩ := List.pairwise_cons.mp p1
      have a2 : ∀ x ∈ s', i + 1 ≤ x ∧ x < i + 1 + w.length := fun x hx => by
        have h1 := q1 x hx
        have h2 := p2 x (List.mem_cons_of_mem _ hx)
        rw [List.length_cons] at h2
        omega
      have e1 : letters (l :: w) i (i :: s') = l :: letters w (i + 1) s' := by
        show (l :: w).getD (i - i) 0 :: letters (l :: w) i s' = _
        rw [letters_tail (fun x hx => (a2 x hx).1), Nat.sub_self]
        rfl
      have hll := letters_lt hw2 a2
      rw [e1, F.go_one hl hll] at hg
      have hRs := F.goc hll F.one
      have e2 : lm M pl r l = goW M (ones M.length) (letters w (i + 1) s') := by
        rw [← hg]
        exact F.inv _ l hRs hl
      have hle := F.go_len hll
      rw [← e2] at hle
      have hls : (letters w (i + 1) s').length = s'.length := List.length_map _
      rw [hls] at hle
      rw [List.length_cons] at hlen
      have hlt : (pl (lm M pl r l)).length + 1 = (pl r).length := by
        rcases F.len r l hr hl with z | z <;> omega
      obtain ⟨u, v⟩ := claimB F (w := w) (i := i + 1) (r := lm M pl r l) (s := s') hw2 (F.lmc r l hr hl) ⟨q2, a2⟩ (by omega) e2.symm
      have c : (pl (lm M pl r l)).length < (pl r).length ∧ und M (lm M pl r l) (pl (grt M w)) = true := ⟨by omega, u⟩
      have eg : grd M pl (l :: w) i r = i :: grd M pl w (i + 1) (lm M pl r l) := if_pos c
      refine ⟨?_, ?_⟩
      · rw [und_lift F hl hw2 hr, u, decide_eq_true c.1]
        simp
      · rw [eg]
        intro z
        rcases List.cons_lt_cons_iff.mp z with z | ⟨_, z⟩
        · exact Nat.lt_irrefl _ z
        · exact v z
    · have a2 : ∀ x ∈ s, i + 1 ≤ x ∧ x < i + 1 + w.length := by
        intro x hx
        have h2 := p2 x hx
        rw [List.length_cons] at h2
        cases s with
        | nil => cases hx
        | cons y s =>
          have hy : y ≠ i := fun z => hi ⟨s, by rw [z]⟩
          have h3 := p2 y List.mem_cons_self
          rcases List.mem_cons.mp hx with z | z
          · subst z; omega
          · have := (List.pairwise_cons.mp p1).1 x z
            omega
      rw [letters_tail (fun x hx => (a2 x hx).1)] at hg
      obtain ⟨u, v⟩ := claimB F (w := w) (i := i + 1) (r := r) (s := s) hw2 hr ⟨p1, a2⟩ hlen hg
      refine ⟨by rw [und_lift F hl hw2 hr, u]; rfl, ?_⟩
      by_cases c : (pl (lm M pl r l)).length < (pl r).length ∧ und M (lm M pl r l) (pl (grt M w)) = true
      · have eg : grd M pl (l :: w) i r = i :: grd M pl w (i + 1) (lm M pl r l) := if_pos c
        rw [eg]
        cases s with
        | nil =>
          rw [List.length_nil] at hlen
          omega
        | cons y s =>
          intro z
          have := (a2 y List.mem_cons_self).1
          rcases List.cons_lt_cons_iff.mp z with z | ⟨z, _⟩
          · omega
          · omega
      · have eg : grd M pl (l :: w) i r = grd M pl w (i + 1) r := if_neg c
        rw [eg]
        exact v
end
end Kal

set_option Elab.async false
set_option linter.all false
set_option maxRecDepth 100000
set_option maxHeartbeats 4000000
/-! KM2: letters_for's answer is the first row that leads to the room. -/
namespace Kal
open PySem
theorem plSt_all (size : Nat) : ∀ p (s : List Nat), s.Pairwise (· < ·) → (∀ x ∈ s, x < p) → s.length ≤ size → s ∈ plSt size p
  | 0, s, _, h, _ => by
    have : s = [] := by
      cases s with
      | nil => rfl
      | cons x s => exact absurd (h x List.mem_cons_self) (Nat.not_lt_zero _)
    subst this
    exact List.mem_singleton.mpr rfl
  | p + 1, s, hp, h, hl => by
    by_cases c : p ∈ s
    · have hne : s ≠ [] := fun z => by rw [z] at c; cases c
      have e := List.dropLast_concat_getLast hne
      have hp2 := hp
      rw [← e] at hp2
      obtain ⟨q1, _, q3⟩ := List.pairwise_append.mp hp2
      have hlast : s.getLast hne = p := by
        have h1 := h _ (List.getLast_mem hne)
        rw [← e] at c
        rcases List.mem_append.mp c with z | z
        · have := q3 p z _ (List.mem_singleton.mpr rfl)
          omega
        · exact (List.mem_singleton.mp z).symm
      have hin : s.dropLast ∈ plSt size p := plSt_all size p s.dropLast q1 (fun x hx => by
        have := q3 x hx _ (List.mem_singleton.mpr rfl)
        rw [hlast] at this
        exact this) (by rw [List.length_dropLast]; omega)
      refine List.mem_append.mpr (.inr (List.mem_map.mpr ⟨s.dropLast, List.mem_filter.mpr ⟨hin, ?_⟩, ?_⟩))
      · have : 0 < s.length := List.length_pos_iff.mpr hne
        rw [List.length_dropLast]
        exact decide_eq_true (by omega)
      · rw [hlast] at e
        exact e
    · refine List.mem_append.mpr (.inl (plSt_all size p s hp (fun x hx => ?_) hl))
      have h1 := h x hx
      have h2 : x ≠ p := fun z => c (z ▸ hx)
      omega
theorem plOk_mem {size n : Nat} {s : List Nat} : s ∈ plOk size n ↔ (s.Pairwise (· < ·) ∧ ∀ x ∈ s, x < n) ∧ s.length = size := by
  unfold plOk
  rw [List.mem_filter]
  refine ⟨fun h => ⟨plSt_asc size n s h.1, by simpa using h.2⟩, fun h => ⟨plSt_all size n s h.1.1 h.1.2 (by omega), decide_eq_true h.2⟩⟩
theorem natI_lt : ∀ {a b : List Nat}, natI a < natI b ↔ a < b
  | [], [] => ⟨fun h => absurd h (List.lt_irrefl []), fun h => absurd h (List.lt_irrefl [])⟩
  | [], y :: b => ⟨fun _ => List.nil_lt_cons y b, fun _ => List.nil_lt_cons _ _⟩
  | x :: a, [] => ⟨fun h => absurd h (List.not_lt_nil _), fun h => absurd h (List.not_lt_nil _)⟩
  | x :: a, y :: b => by
    show ((x : Int) :: natI a) < ((y : Int) :: natI b) ↔ _
    rw [List.cons_lt_cons_iff, List.cons_lt_cons_iff, natI_lt (a := a) (b := b)]
    refine ⟨fun h => ?_, fun h => ?_⟩
    · rcases h with h | ⟨h, k⟩
      · exact .inl (by omega)
      · exact .inr ⟨by omega, k⟩
    · rcases h with h | ⟨h, k⟩
      · exact .inl (by omega)
      · exact .inr ⟨by omega, k⟩
theorem lex_eq : ∀ {a b : List Nat}, ¬ a < b → ¬ b < a → a = b
  | [], [], _, _ => rfl
  | [], y :: b, h, _ => absurd (List.nil_lt_cons y b) h
  | x :: a, [], _, h => absurd (List.nil_lt_cons x a) h
  | x :: a, y :: b, h, k => by
    rw [List.cons_lt_cons_iff] at h k
    have e : x = y := by
      rcases Nat.lt_trichotomy x y with z | z | z
      · exact absurd (.inl z) h
      · exact z
      · exact absurd (.inl z) k
    subst e
    rw [lex_eq (fun z => h (.inr ⟨rfl, z⟩)) (fun z => k (.inr ⟨rfl, z⟩))]
section
variable {M : List (List Int)} {Rm : List Int → Prop} {pl : List Int → List Nat}
theorem letSt_grd (ws : List Nat) (r : List Int) : ∀ i, i ≤ ws.length → (letSt M pl ws r i).1 ++ grd M pl (ws.drop i) i (letSt M pl ws r i).2 = grd M pl ws 0 r
  | 0, _ => rfl
  | i + 1, h => by
    have ih := letSt_grd ws r i (by omega)
    have hi : i < ws.length := by omega
    have ed : ws.drop i = ws.getD i 0 :: ws.drop (i + 1) := by
      rw [List.drop_eq_getElem_cons hi, List.getD_eq_getElem?_getD, List.getElem?_eq_getElem hi]
      rfl
    rw [letSt_succ]
    rw [ed] at ih
    generalize letSt M pl ws r i = st at *
    rw [← ih]
    unfold letStep
    by_cases c1 : (pl (lm M pl st.2 (ws.getD i 0))).length < (pl st.2).length
    · rw [if_pos c1]
      by_cases c2 : und M (lm M pl st.2 (ws.getD i 0)) (pl (grt M (ws.drop (i + 1)))) = true
      · have eg : grd M pl (ws.getD i 0 :: ws.drop (i + 1)) i st.2 = i :: grd M pl (ws.drop (i + 1)) (i + 1) (lm M pl st.2 (ws.getD i 0)) := if_pos ⟨c1, c2⟩
        rw [if_pos c2, eg, List.append_assoc]
        rfl
      · have eg : grd M pl (ws.getD i 0 :: ws.drop (i + 1)) i st.2 = grd M pl (ws.drop (i + 1)) (i + 1) st.2 := if_neg (fun z => c2 z.2)
        rw [if_neg c2, eg]
    · have eg : grd M pl (ws.getD i 0 :: ws.drop (i + 1)) i st.2 = grd M pl (ws.drop (i + 1)) (i + 1) st.2 := if_neg (fun z => c1 z.1)
      rw [if_neg c1, eg]
theorem letSt_end (ws : List Nat) (r : List Int) : (letSt M pl ws r ws.length).1 = grd M pl ws 0 r := by
  have := letSt_grd (M := M) (pl := pl) ws r ws.length (Nat.le_refl _)
  rw [List.drop_length] at this
  rw [← this]
  exact (List.append_nil _).symm
theorem pick_letters (ws s : List Nat) : pick ws (natI s) = letters ws 0 s := by
  unfold pick natI letters
  rw [List.map_map]
  refine List.map_congr_left fun x _ => ?_
  show ws.getD (Int.toNat (x : Int)) 0 = ws.getD (x - 0) 0
  rw [Int.toNat_natCast]
  rfl
theorem FinM.due (F : FinM M Rm pl) {ws : List Nat} (hw : ∀ x ∈ ws, x < M.length) {r : List Int} (hr : Rm r) {rows : List (List Int)} (perm : rows.Perm ((plOk (pl r).length ws.length).map natI)) (pw : rows.Pairwise (fun a b => ¬ b < a)) :
    (lets M pl ws r).map natI = rows.find? (fun row => decide (goW M (ones M.length) (pick ws row) = r)) := by
  have hrow : ∀ row ∈ rows, ∃ s, row = natI s ∧ At 0 ws s ∧ s.length = (pl r).length := fun row h => by
    obtain ⟨s, hs, rfl⟩ := List.mem_map.mp (perm.mem_iff.mp h)
    obtain ⟨⟨a, b⟩, c⟩ := plOk_mem.mp hs
    exact ⟨s, rfl, ⟨a, fun x hx => by have := b x hx; omega⟩, c⟩
  by_cases c : und M r (pl (grt M ws)) = true
  · have e : lets M pl ws r = some (grd M pl ws 0 r) := by
      unfold lets
      rw [if_pos c, letSt_end]
    obtain ⟨⟨a1, a2⟩, b, d⟩ := claimA F (i := 0) hw hr c
    have gin : natI (grd M pl ws 0 r) ∈ rows := perm.mem_iff.mpr (List.mem_map.mpr ⟨_, plOk_mem.mpr ⟨⟨a1, fun x hx => by have := (a2 x hx).2; omega⟩, b⟩, rfl⟩)
    have gP : decide (goW M (ones M.length) (pick ws (natI (grd M pl ws 0 r))) = r) = true := by
      rw [pick_letters]
      exact decide_eq_true d
    rw [e]
    cases hf : rows.find? (fun row => decide (goW M (ones M.length) (pick ws row) = r)) with
    | none =>
      have := List.find?_eq_none.mp hf _ gin
      exact absurd gP this
    | some x =>
      obtain ⟨hx, as, bs, er, has⟩ := List.find?_eq_some_iff_append.mp hf
      obtain ⟨s, rfl, hs, hl⟩ := hrow x (by rw [er]; simp)
      have hx2 : goW M (ones M.length) (letters ws 0 s) = r := by
        rw [← pick_letters]
        exact of_decide_eq_true hx
      have h1 := (claimB F hw hr hs hl hx2).2
      have h2 : ¬ grd M pl ws 0 r < s := by
        rw [er] at gin pw
        rcases List.mem_append.mp gin with z | z
        · have := has _ z
          rw [gP] at this
          cases this
        · rcases List.mem_cons.mp z with z | z
          · rw [natI_inj z]
            exact List.lt_irrefl _
          · have := (List.pairwise_cons.mp (List.pairwise_append.mp pw).2.1).1 _ z
            rwa [natI_lt] at this
      rw [lex_eq h1 h2]
      rfl
  · have e : lets M pl ws r = none := by
      unfold lets
      rw [if_neg c]
    rw [e]
    refine Eq.symm (List.find?_eq_none.mpr fun x hx z => ?_)
    obtain ⟨s, rfl, hs, hl⟩ := hrow x hx
    rw [pick_letters] at z
    exact c (claimB F hw hr hs hl (of_decide_eq_true z)).1
end
end Kal

set_option Elab.async false
set_option linter.all false
set_option maxRecDepth 100000
set_option maxHeartbeats 4000000
/-! KM3: tables of a hall's rooms, and what a look at them shows. -/
namespace Kal
open PySem
/-- a hall's rooms by number, their plays, and packed tables: right and left steps, what is under what -/
structure Tab where
  rm : List (List Int)
  pls : List (List Nat)
  tt : Nat
  ll : Nat
  un : Nat
def Tab.N (t : Tab) : Nat := t.rm.length
def Tab.r (t : Tab) (i : Nat) : List Int := t.rm.getD i []
def Tab.p (t : Tab) (i : Nat) : List Nat := t.pls.getD i []
def Tab.T (t : Tab) (i l : Nat) : Nat := Nat.mod (Nat.shiftRight t.tt (Nat.mul 6 (Nat.add (Nat.mul 8 i) l))) 64
def Tab.L (t : Tab) (i l : Nat) : Nat := Nat.mod (Nat.shiftRight t.ll (Nat.mul 6 (Nat.add (Nat.mul 8 i) l))) 64
def Tab.U (t : Tab) (g r : Nat) : Bool := Nat.beq (Nat.mod (Nat.shiftRight t.un (Nat.add (Nat.mul 64 g) r)) 2) 1
def allN : Nat → (Nat → Bool) → Bool
  | 0, _ => true
  | n + 1, p => p n && allN n p
theorem allN_at : ∀ {n : Nat} {p : Nat → Bool}, allN n p = true → ∀ i, i < n → p i = true
  | 0, _, _, i, h => absurd h (Nat.not_lt_zero i)
  | n + 1, p, h, i, hi => by
    rw [allN, Bool.and_eq_true] at h
    rcases Nat.lt_or_eq_of_le (Nat.le_of_lt_succ hi) with z | z
    · exact allN_at h.2 i z
    · rw [z]; exact h.1
def Tab.len (t : Tab) (i : Nat) : Nat := (t.p i).length
def Tab.nrI (t : Tab) (i m : Nat) : Nat := if (t.r i).getD m 0 < 0 then t.T i m else i
def Tab.frI (t : Tab) (i m : Nat) : Nat := if (t.r i).getD m 0 > 0 then t.T i m else i
def Tab.demI (t : Tab) (l g : Nat) : Nat := if t.len g < t.len (t.L g l) then t.L g l else g
/-- the rooms and their steps -/
def chk1 (M : List (List Int)) (t : Tab) : Bool :=
  decide (0 < t.N) && decide (t.r 0 = ones M.length) && decide (t.p 0 = []) &&
  allN t.N fun i => decide ((t.r i).length = M.length) && decide (t.len i ≤ 50) && (t.p i).all (fun x => decide (x < M.length)) &&
    (match able (t.r i) with | [] => decide (i = 0) && decide (t.p i = []) | l :: _ => decide (t.p i = l :: t.p (t.T i l)) && decide (i ≠ 0)) &&
    allN M.length fun l => decide (t.T i l < t.N) && decide (chg M (t.r i) l = t.r (t.T i l)) && decide (t.L i l < t.N) && decide (((t.p i).reverse.foldl t.T (t.T 0 l)) = t.L i l)
/-- the left steps -/
def chk2 (M : List (List Int)) (t : Tab) : Bool :=
  (allN M.length fun l => decide (t.L 0 l = t.T 0 l)) &&
  allN t.N fun i => allN M.length fun l => decide (t.L (t.L i l) l = i) && (decide (t.len (t.L i l) + 1 = t.len i) || decide (t.len (t.L i l) = t.len i + 1)) &&
    allN M.length fun m => decide (t.L (t.T i m) l = t.T (t.L i l) m) && decide (t.frI (t.demI l i) m = t.demI l (t.frI i m))
/-- what is under what -/
def chk3 (M : List (List Int)) (t : Tab) : Bool :=
  allN t.N fun g => (allN t.N fun r => match t.p g with | [] => (t.U g r == Nat.beq r 0) | l :: _ => (t.U g r == t.U (t.T g l) (t.nrI r l))) &&
    allN M.length fun l => allN t.N fun r => t.U (t.demI l g) r == (t.U g r || (decide (t.len (t.L r l) < t.len r) && t.U g (t.L r l)))
def plOf (M : List (List Int)) (r : List Int) : List Nat := ((playRun M 60 r).map Prod.fst).getD []
theorem playRun_mono {M : List (List Int)} : ∀ {f g : Nat} {r : List Int} {q : List Nat × List Int}, f ≤ g → playRun M f r = some q → playRun M g r = some q
  | 0, _, _, _, _, h => by cases h
  | f + 1, 0, _, _, hle, _ => absurd hle (by omega)
  | f + 1, g + 1, r, q, hle, h => by
    rw [playRun] at h ⊢
    cases hab : able r with
    | nil => rw [hab] at h; exact h
    | cons l tl =>
      rw [hab] at h
      dsimp only at h ⊢
      obtain ⟨q2, h2, h3⟩ := Option.map_eq_some_iff.mp h
      rw [playRun_mono (f := f) (g := g) (by omega) h2]
      exact congrArg some h3
section
variable {M : List (List Int)} {t : Tab}
structure Chk1 (M : List (List Int)) (t : Tab) : Prop where
  pos : 0 < t.N
  r0 : t.r 0 = ones M.length
  p0 : t.p 0 = []
  len : ∀ i, i < t.N → (t.r i).length = M.length
  short : ∀ i, i < t.N → t.len i ≤ 50
  lt : ∀ i, i < t.N → ∀ x ∈ t.p i, x < M.length
  abl : ∀ i, i < t.N → (able (t.r i) = [] ∧ i = 0 ∧ t.p i = []) ∨ ∃ l tl, able (t.r i) = l :: tl ∧ t.p i = l :: t.p (t.T i l) ∧ i ≠ 0
  Tlt : ∀ i l, i < t.N → l < M.length → t.T i l < t.N
  chg : ∀ i l, i < t.N → l < M.length → chg M (t.r i) l = t.r (t.T i l)
  Llt : ∀ i l, i < t.N → l < M.length → t.L i l < t.N
  go : ∀ i l, i < t.N → l < M.length → (t.p i).reverse.foldl t.T (t.T 0 l) = t.L i l
theorem chk1_ok (h : chk1 M t = true) : Chk1 M t := by
  unfold chk1 at h
  simp only [Bool.and_eq_true, decide_eq_true_eq] at h
  obtain ⟨⟨⟨h1, h2⟩, h3⟩, h4⟩ := h
  have at4 := fun i hi => allN_at h4 i hi
  simp only [Bool.and_eq_true, decide_eq_true_eq, List.all_eq_true] at at4
  have atl := fun i hi l hl => allN_at (at4 i hi).2 l hl
  simp only [Bool.and_eq_true, decide_eq_true_eq] at atl
  refine ⟨h1, h2, h3, fun i hi => (at4 i hi).1.1.1.1, fun i hi => (at4 i hi).1.1.1.2, fun i hi => (at4 i hi).1.1.2, fun i hi => ?_, fun i l hi hl => (atl i hi l hl).1.1.1, fun i l hi hl => (atl i hi l hl).1.1.2, fun i l hi hl => (atl i hi l hl).1.2, fun i l hi hl => (atl i hi l hl).2⟩
  have z := (at4 i hi).1.2
  cases hab : able (t.r i) with
  | nil =>
    rw [hab] at z
    simp only [Bool.and_eq_true, decide_eq_true_eq] at z
    exact .inl ⟨rfl, z⟩
  | cons l tl =>
    rw [hab] at z
    simp only [Bool.and_eq_true, decide_eq_true_eq] at z
    exact .inr ⟨l, tl, rfl, z⟩
theorem Chk1.play (C : Chk1 M t) : ∀ (k : Nat) (i : Nat), i < t.N → t.len i = k → playRun M (k + 1) (t.r i) = some (t.p i, ones M.length)
  | k, i, hi, hk => by
    rw [playRun]
    rcases C.abl i hi with ⟨e1, e2, e3⟩ | ⟨l, tl, e1, e2, e3⟩
    · rw [e1, e3]
      subst e2
      rw [C.r0]
    · rw [e1]
      dsimp only
      have hl : l < M.length := C.lt i hi l (by rw [e2]; exact List.mem_cons_self)
      have hT := C.Tlt i l hi hl
      unfold Tab.len at hk
      rw [e2, List.length_cons] at hk
      cases k with
      | zero => omega
      | succ k =>
        rw [C.chg i l hi hl, C.play k (t.T i l) hT (by unfold Tab.len; omega), e2]
        rfl
theorem Chk1.plOf (C : Chk1 M t) {i : Nat} (hi : i < t.N) : playRun M 60 (t.r i) = some (t.p i, ones M.length) ∧ plOf M (t.r i) = t.p i := by
  have h := playRun_mono (g := 60) (by have := C.short i hi; omega) (C.play _ i hi rfl)
  refine ⟨h, ?_⟩
  unfold Kal.plOf
  rw [h]
  rfl
def Tab.Rm (t : Tab) : List Int → Prop := fun r => ∃ i, i < t.N ∧ r = t.r i
theorem Chk1.go_fold (C : Chk1 M t) : ∀ {ws : List Nat} {i : Nat}, (∀ x ∈ ws, x < M.length) → i < t.N → goW M (t.r i) ws = t.r (ws.foldl t.T i) ∧ ws.foldl t.T i < t.N
  | [], _, _, h => ⟨rfl, h⟩
  | l :: ws, i, hw, h => by
    have hl := hw l List.mem_cons_self
    have := C.go_fold (ws := ws) (i := t.T i l) (fun x hx => hw x (List.mem_cons_of_mem _ hx)) (C.Tlt i l h hl)
    refine ⟨?_, this.2⟩
    show goW M (Kal.chg M (t.r i) l) ws = _
    rw [C.chg i l h hl]
    exact this.1
theorem Chk1.lm (C : Chk1 M t) {i l : Nat} (hi : i < t.N) (hl : l < M.length) : lm M (Kal.plOf M) (t.r i) l = t.r (t.L i l) := by
  unfold Kal.lm
  rw [(C.plOf hi).2]
  show goW M (Kal.chg M (ones M.length) l) (t.p i).reverse = _
  rw [← C.r0, C.chg 0 l C.pos hl, (C.go_fold (fun x hx => C.lt i hi x (List.mem_reverse.mp hx)) (C.Tlt 0 l C.pos hl)).1, C.go i l hi hl]
theorem Chk1.fr (C : Chk1 M t) {i m : Nat} (hi : i < t.N) (hm : m < M.length) : fr M (t.r i) m = t.r (t.frI i m) ∧ t.frI i m < t.N := by
  unfold Kal.fr Tab.frI
  split
  · exact ⟨C.chg i m hi hm, C.Tlt i m hi hm⟩
  · exact ⟨rfl, hi⟩
theorem Chk1.nr (C : Chk1 M t) {i m : Nat} (hi : i < t.N) (hm : m < M.length) : nr M (t.r i) m = t.r (t.nrI i m) ∧ t.nrI i m < t.N := by
  unfold Kal.nr Tab.nrI
  split
  · exact ⟨C.chg i m hi hm, C.Tlt i m hi hm⟩
  · exact ⟨rfl, hi⟩
theorem Chk1.dem (C : Chk1 M t) {g l : Nat} (hg : g < t.N) (hl : l < M.length) : demL M (Kal.plOf M) l (t.r g) = t.r (t.demI l g) ∧ t.demI l g < t.N := by
  unfold demL Tab.demI
  rw [C.lm hg hl, (C.plOf hg).2, (C.plOf (C.Llt g l hg hl)).2]
  show (if t.len g < t.len (t.L g l) then _ else _) = _ ∧ _
  split
  · exact ⟨rfl, C.Llt g l hg hl⟩
  · exact ⟨rfl, hg⟩
structure Chk3 (M : List (List Int)) (t : Tab) : Prop where
  u0 : ∀ g r, g < t.N → r < t.N → t.p g = [] → t.U g r = Nat.beq r 0
  u1 : ∀ g r l tl, g < t.N → r < t.N → t.p g = l :: tl → t.U g r = t.U (t.T g l) (t.nrI r l)
  lift : ∀ g l r, g < t.N → l < M.length → r < t.N → t.U (t.demI l g) r = (t.U g r || (decide (t.len (t.L r l) < t.len r) && t.U g (t.L r l)))
theorem chk3_ok (h : chk3 M t = true) : Chk3 M t := by
  unfold chk3 at h
  have hg := fun g hg => allN_at h g hg
  simp only [Bool.and_eq_true] at hg
  have hr := fun g h1 r h2 => allN_at (hg g h1).1 r h2
  have hl := fun g h1 l h2 r h3 => allN_at (allN_at (hg g h1).2 l h2) r h3
  refine ⟨fun g r h1 h2 e => ?_, fun g r l tl h1 h2 e => ?_, fun g l r h1 h2 h3 => ?_⟩
  · have := hr g h1 r h2
    rw [e] at this
    exact eq_of_beq this
  · have := hr g h1 r h2
    rw [e] at this
    exact eq_of_beq this
  · exact eq_of_beq (hl g h1 l h2 r h3)
theorem Chk1.und (C : Chk1 M t) (D : Chk3 M t) : ∀ (k g r : Nat), g < t.N → r < t.N → t.len g = k → und M (t.r r) (t.p g) = t.U g r
  | k, g, r, hg, hr, hk => by
    rcases C.abl g hg with ⟨e1, e2, e3⟩ | ⟨l, tl, e1, e2, e3⟩
    · rw [D.u0 g r hg hr e3, e3]
      show decide (t.r r = ones M.length) = _
      cases r with
      | zero => rw [C.r0]; simp
      | succ r =>
        have : ¬ t.r (r + 1) = ones M.length := by
          intro z
          rcases C.abl (r + 1) hr with ⟨_, q, _⟩ | ⟨l, tl, q, _, _⟩
          · cases q
          · rw [z, ← C.r0] at q
            rcases C.abl 0 C.pos with ⟨q2, _, _⟩ | ⟨_, _, _, _, q2⟩
            · rw [q2] at q; cases q
            · exact q2 rfl
        rw [decide_eq_false this]
        rfl
    · have hl : l < M.length := C.lt g hg l (by rw [e2]; exact List.mem_cons_self)
      have hT := C.Tlt g l hg hl
      rw [D.u1 g r l _ hg hr e2]
      unfold Tab.len at hk
      rw [e2, List.length_cons] at hk
      cases k with
      | zero => omega
      | succ k =>
        have n := C.nr (i := r) (m := l) hr hl
        rw [← C.und D k (t.T g l) (t.nrI r l) hT n.2 (by unfold Tab.len; omega), e2]
        have e : Kal.und M (t.r r) (l :: t.p (t.T g l)) = Kal.und M (Kal.nr M (t.r r) l) (t.p (t.T g l)) := rfl
        rw [e, n.1]
theorem fin_of (h1 : chk1 M t = true) (h2 : chk2 M t = true) (h3 : chk3 M t = true) : FinM M t.Rm (plOf M) := by
  have C := chk1_ok h1
  have D := chk3_ok h3
  unfold chk2 at h2
  simp only [Bool.and_eq_true] at h2
  have g0 := fun l hl => allN_at h2.1 l hl
  have g1 := fun i hi l hl => allN_at (allN_at h2.2 i hi) l hl
  simp only [Bool.and_eq_true, Bool.or_eq_true, decide_eq_true_eq] at g0 g1
  have g2 := fun i hi l hl m hm => allN_at (g1 i hi l hl).2 m hm
  simp only [Bool.and_eq_true, decide_eq_true_eq] at g2
  refine ⟨⟨0, C.pos, C.r0.symm⟩, ?_, ?_, ?_, ?_, ?_, ?_, ?_, ?_, ?_⟩
  · rw [← C.r0, (C.plOf C.pos).2, C.p0]
  · rintro r l ⟨i, hi, rfl⟩ hl
    exact ⟨_, C.Tlt i l hi hl, C.chg i l hi hl⟩
  · rintro r l ⟨i, hi, rfl⟩ hl
    exact ⟨_, C.Llt i l hi hl, C.lm hi hl⟩
  · rintro r l ⟨i, hi, rfl⟩ hl
    rw [C.lm hi hl, C.lm (C.Llt i l hi hl) hl, (g1 i hi l hl).1.1]
  · rintro r l ⟨i, hi, rfl⟩ hl
    rw [C.lm hi hl, (C.plOf hi).2, (C.plOf (C.Llt i l hi hl)).2]
    exact (g1 i hi l hl).1.2
  · rintro r l m ⟨i, hi, rfl⟩ hl hm
    rw [C.chg i m hi hm, C.lm (C.Tlt i m hi hm) hl, C.lm hi hl, C.chg _ m (C.Llt i l hi hl) hm, (g2 i hi l hl m hm).1]
  · intro l hl
    rw [← C.r0, C.lm C.pos hl, C.chg 0 l C.pos hl, g0 l hl]
  · rintro r l m ⟨i, hi, rfl⟩ hl hm
    have d := C.dem hi hl
    have f := C.fr hi hm
    rw [d.1, (C.fr d.2 hm).1, f.1, (C.dem f.2 hl).1, (g2 i hi l hl m hm).2]
  · rintro g r l ⟨i, hi, rfl⟩ ⟨j, hj, rfl⟩ hl
    have d := C.dem hi hl
    rw [d.1, (C.plOf d.2).2, (C.plOf hi).2, C.lm hj hl, (C.plOf hj).2, (C.plOf (C.Llt j l hj hl)).2, C.und D _ _ _ d.2 hj rfl, C.und D _ _ _ hi hj rfl, C.und D _ _ _ hi (C.Llt j l hj hl) rfl]
    exact D.lift i l j hi hl hj
end
end Kal

set_option Elab.async false
set_option linter.all false
set_option maxRecDepth 100000
set_option maxHeartbeats 4000000
/-! KM4: what else is looked up of a hall; LawM. -/
namespace Kal
open PySem
def ins1 (x : Nat) : List Nat → List Nat
  | [] => [x]
  | y :: l => if x ≤ y then x :: y :: l else y :: ins1 x l
def isrt (l : List Nat) : List Nat := l.foldr ins1 []
theorem ins1_perm (x : Nat) : ∀ l, (ins1 x l).Perm (x :: l)
  | [] => .refl _
  | y :: l => by
    unfold ins1
    split
    · exact .refl _
    · exact (List.Perm.cons y (ins1_perm x l)).trans (.swap x y l)
theorem isrt_perm : ∀ l, (isrt l).Perm l
  | [] => .refl _
  | x :: l => (ins1_perm x (isrt l)).trans (.cons x (isrt_perm l))
theorem ins1_sorted (x : Nat) : ∀ {l : List Nat}, l.Pairwise (· ≤ ·) → (ins1 x l).Pairwise (· ≤ ·)
  | [], _ => List.pairwise_singleton _ _
  | y :: l, h => by
    obtain ⟨h1, h2⟩ := List.pairwise_cons.mp h
    unfold ins1
    split
    · refine List.pairwise_cons.mpr ⟨fun z hz => ?_, h⟩
      rcases List.mem_cons.mp hz with e | e
      · omega
      · have := h1 z e; omega
    · refine List.pairwise_cons.mpr ⟨fun z hz => ?_, ins1_sorted x h2⟩
      rcases List.mem_cons.mp ((ins1_perm x l).mem_iff.mp hz) with e | e
      · omega
      · exact h1 z e
theorem isrt_sorted : ∀ l, (isrt l).Pairwise (· ≤ ·)
  | [] => .nil
  | x :: l => ins1_sorted x (isrt_sorted l)
theorem srt_isrt (l : List Nat) : srt l = isrt l := by
  refine (natI_inj (srt_of (ys := natI (isrt l)) ((isrt_perm l).map _) ?_)).symm
  unfold natI
  rw [List.pairwise_map]
  exact (isrt_sorted l).imp fun h => by omega
def endB (M : List (List Int)) (ws : List Nat) : Bool := match leastRun M ws 0 100 (ones ws.length) with
  | some ld => decide (signs M ws ld ≠ List.replicate ws.length 0)
  | none => false
def chk4 (M : List (List Int)) : Bool :=
  decide (1 ≤ M.length) && decide (M.length ≤ 8) && M.all (fun r => decide (r.length = M.length) && r.all fun m => decide (0 ≤ m) && decide (m ≤ 4)) &&
  allN M.length fun i => decide ((M.getD i []).getD i 0 = 0) && (allN M.length fun j => (decide ((M.getD i []).getD j 0 = 0) == decide ((M.getD j []).getD i 0 = 0))) &&
    match joinRun M 100 [i] [] with
    | some ks => decide (ks.length < 64) && decide (isrt ks ≠ []) && (isrt ks).all (fun x => decide (x < M.length)) && decide ((isrt ks).length < 64) && endB M (isrt ks)
    | none => false
theorem chk4_ok {M : List (List Int)} (h : chk4 M = true) : HallM M ∧ Good M := by
  unfold chk4 at h
  simp only [Bool.and_eq_true, decide_eq_true_eq, List.all_eq_true] at h
  obtain ⟨⟨⟨h1, h2⟩, h3⟩, h4⟩ := h
  have S : SqM M := ⟨h1, h2, fun r hr => (h3 r hr).1, fun r hr m hm => (h3 r hr).2 m hm⟩
  have g := fun i hi => allN_at h4 i hi
  simp only [Bool.and_eq_true, decide_eq_true_eq] at g
  refine ⟨⟨S, fun i hi => (g i hi).1.1, fun i j hi hj => eq_of_beq (allN_at (g i hi).1.2 j hj)⟩, S, fun l hl => ?_⟩
  have z := (g l hl).2
  cases hj : joinRun M 100 [l] [] with
  | none => rw [hj] at z; cases z
  | some ks =>
    rw [hj] at z
    simp only [Bool.and_eq_true, decide_eq_true_eq, List.all_eq_true] at z
    obtain ⟨⟨⟨⟨z1, z2⟩, z3⟩, z4⟩, z5⟩ := z
    refine ⟨ks, rfl, z1, ?_⟩
    rw [srt_isrt]
    refine ⟨z2, z3, z4, ?_⟩
    unfold endB at z5
    cases hr : leastRun M (isrt ks) 0 100 (ones (isrt ks).length) with
    | none => rw [hr] at z5; cases z5
    | some ld =>
      rw [hr] at z5
      exact ⟨ld, hr, of_decide_eq_true z5⟩
def Tab.lay (t : Tab) (d : Nat) : List (List Int) := ((List.range t.N).filter fun i => Nat.beq (t.len i) d).map t.r
def Tab.fnd (t : Tab) (d : Nat) : List (List Int × Nat) := ((List.range t.N).filter fun i => Nat.ble (t.len i) d).map fun i => (t.r i, t.len i)
def chk5 (M : List (List Int)) (t : Tab) : Bool :=
  decide (t.N ≤ 60) && decide (t.fnd 0 = [(ones M.length, 0)]) && decide (t.lay 0 = [ones M.length]) &&
  allN 12 fun d => decide (layerSt M (d + 1) (t.fnd d, []) (t.lay d) = (t.fnd (d + 1), t.lay (d + 1)))
theorem chk5_bfs {M : List (List Int)} {t : Tab} (h : chk5 M t = true) : t.N ≤ 60 ∧ ∀ d, d ≤ 12 → bfsSt M d = (t.fnd d, t.lay d) := by
  unfold chk5 at h
  simp only [Bool.and_eq_true, decide_eq_true_eq] at h
  obtain ⟨⟨⟨h1, h2⟩, h3⟩, h4⟩ := h
  refine ⟨h1, fun d => ?_⟩
  induction d with
  | zero =>
    intro _
    rw [h2, h3]
    rfl
  | succ d ih =>
    intro hd
    have e := of_decide_eq_true (allN_at h4 d (by omega))
    show layerSt M (d + 1) ((bfsSt M d).1, []) (bfsSt M d).2 = _
    rw [ih (by omega)]
    exact e
theorem law_of {M : List (List Int)} {t : Tab} (h1 : chk1 M t = true) (h2 : chk2 M t = true) (h3 : chk3 M t = true) (h4 : chk4 M = true) (h5 : chk5 M t = true) : LawM M t.Rm (plOf M) := by
  have C := chk1_ok h1
  have F := fin_of h1 h2 h3
  obtain ⟨hm, gd⟩ := chk4_ok h4
  obtain ⟨n60, bf⟩ := chk5_bfs h5
  refine ⟨hm, gd, ⟨?_, ?_, ?_, ?_, ?_⟩, fun d hd => ?_, ?_, ?_, ?_⟩
  · rintro r ⟨i, hi, rfl⟩
    rw [(C.plOf hi).2]
    exact ⟨C.len i hi, (C.plOf hi).1⟩
  · rintro r ⟨i, hi, rfl⟩
    rw [(C.plOf hi).2]
    exact C.lt i hi
  · rintro r ⟨i, hi, rfl⟩
    rw [(C.plOf hi).2]
    exact Nat.le_trans (C.short i hi) (by decide)
  · intro r l hr hl
    exact F.lmc r l hr hl
  · intro ws hw
    exact F.great hw
  · rw [bf d hd]
    unfold Tab.fnd
    rw [List.length_map]
    have := List.length_filter_le (fun i => Nat.ble (t.len i) d) (List.range t.N)
    rw [List.length_range] at this
    omega
  · intro p hp
    rw [bf 12 (Nat.le_refl _)] at hp
    obtain ⟨i, hi, rfl⟩ := List.mem_map.mp hp
    have hi2 : i < t.N := by simpa using (List.mem_filter.mp hi).1
    exact ⟨⟨i, hi2, rfl⟩, by show (plOf M (t.r i)).length = _; rw [(C.plOf hi2).2]; rfl⟩
  · rw [bf 12 (Nat.le_refl _)]
    intro z
    have : (t.r 0, t.len 0) ∈ t.fnd 12 := by
      refine List.mem_map.mpr ⟨0, List.mem_filter.mpr ⟨List.mem_range.mpr C.pos, ?_⟩, rfl⟩
      unfold Tab.len
      rw [C.p0]
      rfl
    have z2 : t.fnd 12 = [] := z
    rw [z2] at this
    cases this
  · intro ws _ hw r hr rows perm pw
    exact F.due hw hr perm pw
end Kal

set_option Elab.async false
set_option linter.all false
set_option maxRecDepth 100000
set_option maxHeartbeats 0
/-! KM5: the tables of the forty halls; every hall of the law is one of them. -/
namespace Kal
open PySem
def m0 : List (List Int) := [[0]]
def t0 : Tab := ⟨[[1], [-1]], [[], [0]], 1, 1, 55340232221128654849⟩
def m1 : List (List Int) := [[0, 1], [1, 0]]
def t1 : Tab := ⟨[[1, 1], [-1, 2], [2, -1], [1, -2], [-2, 1], [-1, -1]], [[], [0], [1], [1, 0], [0, 1], [0, 1, 0]], 457613389777603562588832847205160602142211215473049909729873254067518570625, 346302024696563761718346051833765573725583906005863015681018326251330338945, 134567183263017335193549585541140055714806674089699746598748069193292295385646786628564953946128385⟩
def m2 : List (List Int) := [[0, 2], [1, 0]]
def t2 : Tab := ⟨[[1, 1], [-1, 3], [2, -1], [2, -3], [-2, 3], [-2, 1], [1, -3], [-1, -1]], [[], [0], [1], [1, 0], [0, 1], [0, 1, 0], [1, 0, 1], [0, 1, 0, 1]], 45634799121872891586119062241265787058474843375640267725650307477258557426285521543323063312100670570625, 45634799121872859757431932014922455961075738373594834476386666565803155771114260755804883428469349810305, 185343874695379757093820761600098631785479622968042766018456125607298375958086364995671761246900692295272090599197589145556518028322013185⟩
def m3 : List (List Int) := [[0, 1], [2, 0]]
def t3 : Tab := ⟨[[1, 1], [-1, 2], [3, -1], [3, -2], [-3, 2], [-3, 1], [1, -2], [-1, -1]], [[], [0], [1], [1, 0], [0, 1], [0, 1, 0], [1, 0, 1], [0, 1, 0, 1]], 45634799121872891586119062241265787058474843375640267725650307477258557426285521543323063312100670570625, 45634799121872859757431932014922455961075738373594834476386666565803155771114260755804883428469349810305, 185343874695379757093820761600098631785479622968042766018456125607298375958086364995671761246900692295272090599197589145556518028322013185⟩
def m4 : List (List Int) := [[0, 3], [1, 0]]
def t4 : Tab := ⟨[[1, 1], [-1, 4], [2, -1], [3, -4], [-2, 5], [-3, 5], [3, -5], [2, -5], [-3, 4], [-2, 1], [1, -4], [-1, -1]], [[], [0], [1], [1, 0], [0, 1], [0, 1, 0], [1, 0, 1], [1, 0, 1, 0], [0, 1, 0, 1], [0, 1, 0, 1, 0], [1, 0, 1, 0, 1], [0, 1, 0, 1, 0, 1]], 514914742891078406175854230409319627626376607733463971475271084862595285404897531467403427924616241573878874950428964593522687491114097376628310176051080112111745, 514914742891078206383947010185827909882930371739822752964720991289504062135223701458183222047612068184772680795141702486746803427401740574946454921423225226264705, 344644104269449432201433003474356099827725481296431284396387499797130137333079057545442366769628920036932421131408397626988396302902698503976122419621393051538341490451137420190053680786109240970206075072332703989761⟩
def m5 : List (List Int) := [[0, 1], [3, 0]]
def t5 : Tab := ⟨[[1, 1], [-1, 2], [4, -1], [5, -2], [-4, 3], [-5, 3], [5, -3], [4, -3], [-5, 2], [-4, 1], [1, -2], [-1, -1]], [[], [0], [1], [1, 0], [0, 1], [0, 1, 0], [1, 0, 1], [1, 0, 1, 0], [0, 1, 0, 1], [0, 1, 0, 1, 0], [1, 0, 1, 0, 1], [0, 1, 0, 1, 0, 1]], 514914742891078406175854230409319627626376607733463971475271084862595285404897531467403427924616241573878874950428964593522687491114097376628310176051080112111745, 514914742891078206383947010185827909882930371739822752964720991289504062135223701458183222047612068184772680795141702486746803427401740574946454921423225226264705, 344644104269449432201433003474356099827725481296431284396387499797130137333079057545442366769628920036932421131408397626988396302902698503976122419621393051538341490451137420190053680786109240970206075072332703989761⟩
def m6 : List (List Int) := [[0, 1, 0], [1, 0, 1], [0, 1, 0]]
def t6 : Tab := ⟨[[1, 1, 1], [-1, 2, 1], [2, -1, 2], [1, 2, -1], [1, -2, 3], [-1, 3, -1], [-2, 1, 2], [2, 1, -2], [3, -2, 1], [-1, -1, 3], [1, 1, -3], [2, -3, 2], [-2, 3, -2], [3, -1, -1], [-3, 1, 1], [-1, 2, -3], [2, -1, -2], [-2, -1, 2], [1, -3, 1], [-3, 2, -1], [1, -2, -1], [-2, 1, -2], [-1, -2, 1], [-1, -1, -1]], [[], [0], [1], [2], [1, 0], [0, 2], [0, 1], [2, 1], [1, 2], [0, 1, 0], [2, 1, 0], [1, 0, 2], [0, 2, 1], [1, 2, 1], [0, 1, 2], [0, 2, 1, 0], [1, 2, 1, 0], [0, 1, 0, 2], [1, 0, 2, 1], [0, 1, 2, 1], [1, 0, 2, 1, 0], [0, 1, 2, 1, 0], [0, 1, 0, 2, 1], [0, 1, 0, 2, 1, 0]], 19880274598931532882844481850350076010538099752125145103909329340032811297623426264251242422341112301734595435424424854636062834334595303253722633233059374659716245992014803669018408581468544578341738357420567265102961418434149663075819951821753441442748767510233343798785522459932698335718820767798827728625720323905675328450136704561281, 18100360206465201758306692268491990375987034634061196348990228897100641383770796998177225579424915535420381091650324441020828962944824625361780053896425386603441275910254313606139517704556987674445740702239398655427841081481225206543184221116410348198905193021947808639768311616920538508585228330138668973375858358570205810024762409234561, 2192166251238828939933548634520561918120625061303068688689358564143035630290288949233982220239749793840445024256124528260568374331690636141812139262879404357843619367905865548716528806347808484785096656931517086791090188348309925977168857260961475024150387971845353636457132673355552276693676813554428095468376784467427472918611500722888802629867608485858776260048387044154566737893858946674523500845467651514903694389352770956264694107821587363266561⟩
def m7 : List (List Int) := [[0, 0, 1], [0, 0, 1], [1, 1, 0]]
def t7 : Tab := ⟨[[1, 1, 1], [-1, 1, 2], [1, -1, 2], [2, 2, -1], [-1, -1, 3], [1, 3, -2], [3, 1, -2], [-2, 2, 1], [2, -2, 1], [2, 2, -3], [-1, 3, -1], [1, -3, 1], [-3, 1, 1], [3, -1, -1], [-2, -2, 3], [-2, 2, -1], [2, -2, -1], [-1, -3, 2], [-3, -1, 2], [1, 1, -3], [-2, -2, 1], [1, -1, -2], [-1, 1, -2], [-1, -1, -1]], [[], [0], [1], [2], [0, 1], [2, 0], [2, 1], [0, 2], [1, 2], [2, 0, 1], [0, 2, 0], [1, 2, 0], [0, 2, 1], [1, 2, 1], [0, 1, 2], [0, 2, 0, 1], [1, 2, 0, 1], [0, 1, 2, 0], [0, 1, 2, 1], [2, 0, 1, 2], [0, 1, 2, 0, 1], [1, 2, 0, 1, 2], [0, 2, 0, 1, 2], [0, 1, 2, 0, 1, 2]], 18114051855638019861066670425051474585349406574659867007941075953301792720125508151932179832055869559910108054433580958376483079755670485164167310904233043167798770409537064745138345057785740936120998238287094169591980041502124513424553291244737920683497258103857437677599574056461385826613936661542027275733542151223133466037936428429441, 18100360206465192369530293736028253552289915174955777987985227728986908794970669166998994148530865499198594818281782201731186791725345222751610756918047844263587897357669006084654172009643574657116606803677682561100857518434132850844360690639835733591756440490966423331930454179233219201065022184412191576208769972792982359894048462876801, 2192166251238828939932845067318689135129785753664679189952730905946882755281244860380458279074350774275682408998801138190993189257458050784834570423065188459768835170665541113735323196944971588048681580475176484409469274760497665724259954402716529923672844024366630576775931530647995791276535250180743757589022423997834225271530365843839485329887499643384881178037896206995862838857800650434993971971286900522668818093933951788324332461454458045333505⟩
def m8 : List (List Int) := [[0, 1, 1], [1, 0, 0], [1, 0, 0]]
def t8 : Tab := ⟨[[1, 1, 1], [-1, 2, 2], [2, -1, 1], [2, 1, -1], [1, -2, 2], [1, 2, -2], [-2, 1, 3], [3, -1, -1], [-2, 3, 1], [-1, -1, 3], [3, -2, -2], [-1, 3, -1], [1, 1, -3], [-3, 2, 2], [1, -3, 1], [2, -1, -3], [-3, 1, 1], [2, -3, -1], [-1, 2, -2], [-1, -2, 2], [-2, 1, -1], [-2, -1, 1], [1, -2, -2], [-1, -1, -1]], [[], [0], [1], [2], [1, 0], [2, 0], [0, 1], [1, 2], [0, 2], [0, 1, 0], [1, 2, 0], [0, 2, 0], [2, 0, 1], [0, 1, 2], [1, 0, 2], [1, 2, 0, 1], [0, 1, 2, 0], [1, 0, 2, 0], [0, 2, 0, 1], [0, 1, 0, 2], [0, 1, 2, 0, 1], [0, 1, 0, 2, 0], [1, 0, 2, 0, 1], [0, 1, 0, 2, 0, 1]], 18976625753525544769342317772627314030481834265576650782738888662589653517821006152447348239968883928554122546014589469543515311636244273264772901980226378535823705574821337773084560517263331954024826688083620695047594260852711865173460173945388198377927456489082314346800784934010188768864006480522979455576950270189687714202216168435841, 18100360206465192270701068488317990684860546659235736558464277168573852629605015792039497375536244336601746472993435766698872227022080548647690283526452110265893214073536594185486475829484214694127434133995353090700256027208255816243337045700259525721120040160581249212516097159660124227327513779613196527192880966093301683920221098750081, 2192166251238828939933787992434601112333984411544721886804020831563508111854756423593124438538208648751159673119232206033207566931521362669131391021444935033944785657809621869350775514003120497741130342344411428887074058922408731608355538451504412007269823314506308778072773774734658957492199271491869394212671565905622129508697452791669542200358813105160206145194782534838424075933769769729161475640496810816863195355678314337831525988558582499508225⟩
def m9 : List (List Int) := [[0, 1, 0], [1, 0, 2], [0, 1, 0]]
def t9 : Tab := ⟨[[1, 1, 1], [-1, 2, 1], [2, -1, 3], [1, 2, -1], [1, -2, 5], [-1, 3, -1], [-2, 1, 3], [2, 2, -3], [3, -2, 3], [-1, -1, 5], [1, 3, -5], [2, -3, 5], [-2, 4, -3], [4, -2, 1], [-3, 1, 3], [3, 1, -3], [-1, 4, -5], [4, -3, 1], [-2, -1, 5], [2, 2, -5], [2, -4, 5], [-4, 2, 1], [4, -1, -1], [-3, 4, -3], [3, -4, 3], [-4, 1, 1], [4, -2, -1], [-2, 4, -5], [-2, -2, 5], [2, 1, -5], [-4, 3, -1], [1, -4, 5], [-3, -1, 3], [3, -1, -3], [-4, 2, -1], [2, -4, 3], [-2, 3, -5], [-1, -3, 5], [1, 1, -5], [-3, 2, -3], [-2, -2, 3], [2, -1, -3], [1, -3, 1], [-1, 2, -5], [-1, -2, 1], [-2, 1, -3], [1, -2, -1], [-1, -1, -1]], [[], [0], [1], [2], [1, 0], [0, 2], [0, 1], [2, 1], [1, 2], [0, 1, 0], [2, 1, 0], [1, 0, 2], [0, 2, 1], [1, 2, 1], [0, 1, 2], [2, 1, 2], [0, 2, 1, 0], [1, 2, 1, 0], [0, 1, 0, 2], [2, 1, 0, 2], [1, 0, 2, 1], [0, 1, 2, 1], [1, 2, 1, 2], [0, 2, 1, 2], [1, 0, 2, 1, 0], [0, 1, 2, 1, 0], [1, 2, 1, 0, 2], [0, 2, 1, 0, 2], [0, 1, 0, 2, 1], [2, 1, 0, 2, 1], [0, 1, 2, 1, 2], [1, 0, 2, 1, 2], [0, 1, 0, 2, 1, 0], [1, 2, 1, 0, 2, 1], [0, 1, 2, 1, 0, 2], [1, 0, 2, 1, 0, 2], [0, 2, 1, 0, 2, 1], [0, 1, 0, 2, 1, 2], [2, 1, 0, 2, 1, 2], [0, 1, 2, 1, 0, 2, 1], [0, 1, 0, 2, 1, 0, 2], [1, 2, 1, 0, 2, 1, 2], [1, 0, 2, 1, 0, 2, 1], [0, 2, 1, 0, 2, 1, 2], [0, 1, 0, 2, 1, 0, 2, 1], [0, 1, 2, 1, 0, 2, 1, 2], [1, 0, 2, 1, 0, 2, 1, 2], [0, 1, 0, 2, 1, 0, 2, 1, 2]], 2434877636975217862482688881972304581909139468932847687748512475943115255407616333746964866739524746837145950765814698494349948692764682773938320877664478465176186302517150927545456159694394384297308492720800791020137801521135747642088546464166746160841734695040753007677015605946873331581917107371915831312523088731992121095987437741705599087074419987984168015480622072463806708199165038707953408268715142546685865164757429663657013647846047557770101601083697230320744807190144288877409296835602552801505496592694992297452809685390583586262130062625118561131994927160315025607507354268236858187414505813003731508876378848311225628386933533766612641429069637145650751205348596783263873, 2434877636975217856437075149254335367893013909864301250722960956207835684180203535141591818487290117560564037057068710899685909253573123182289573479270747685353001776499700863466982881048006965880819773905885619965967500491538103188226142590568447999247386057489514801281778862773740211403238235242315621486735606581849053950696043007855385446098947882458453635578278464530409407111934378326566566527494734634594164134861172007790635589886939239952970063316612402664360198943580685783323328173293832074040835542061058615799387229637254402947968584275455712664875060187512371269359386680299929162606838514850023164354210936045722036859491840239046227292516892626603345487144961584410753, 88647552419585226792745414450586147361290291038091663280620517223606885562202122763778691903990811108454725828485128836390188255669549917362385988471242199531626396065487734008896750688292138734953314291987213479968941916955738446207328132431237908820380598446032839345139152727187113942192948516987040711354257765475857486823376476819139920086424747705047960217209055583673874543965777066278287329752357112390559465155347178976217809936706121923847218706292168234543829872688579799723295064199800738821031762710988397974570305656307397106908125703098164341442565618504725405144499728945481432089003099522672873031945216258787607660182679893345980066148848944511982715232088365143801048603410214257592338851653145434827877190645129833774768867984631467145361775020410852145662232050720828465190188727337738440452383084013507156418997712818490596404333732635156710799911874884000396444724978597287839864019565592136646657⟩
def m10 : List (List Int) := [[0, 0, 1], [0, 0, 1], [1, 2, 0]]
def t10 : Tab := ⟨[[1, 1, 1], [-1, 1, 2], [1, -1, 2], [2, 3, -1], [-1, -1, 3], [1, 5, -2], [3, 3, -2], [-2, 3, 1], [2, -3, 2], [2, 5, -3], [-1, 5, -1], [1, -5, 3], [-3, 3, 1], [3, -3, 1], [-2, -3, 4], [4, 1, -2], [-2, 5, -1], [2, -5, 2], [-1, -5, 4], [4, 1, -3], [-3, -3, 4], [4, -1, -1], [2, 5, -4], [-4, 1, 2], [-2, -5, 4], [4, -1, -2], [3, 3, -4], [-4, 1, 1], [1, 5, -4], [-4, -1, 3], [-2, 5, -2], [2, -5, 1], [2, 3, -4], [-4, -1, 2], [-3, 3, -1], [3, -3, -1], [-1, 5, -3], [1, -5, 1], [-2, -5, 3], [-2, 3, -2], [2, -3, -1], [-3, -3, 2], [-1, -5, 2], [1, 1, -3], [-2, -3, 1], [-1, 1, -2], [1, -1, -2], [-1, -1, -1]], [[], [0], [1], [2], [0, 1], [2, 0], [2, 1], [0, 2], [1, 2], [2, 0, 1], [0, 2, 0], [1, 2, 0], [0, 2, 1], [1, 2, 1], [0, 1, 2], [2, 1, 2], [0, 2, 0, 1], [1, 2, 0, 1], [0, 1, 2, 0], [2, 1, 2, 0], [0, 1, 2, 1], [1, 2, 1, 2], [2, 0, 1, 2], [0, 2, 1, 2], [0, 1, 2, 0, 1], [1, 2, 1, 2, 0], [2, 0, 1, 2, 0], [0, 2, 1, 2, 0], [2, 0, 1, 2, 1], [0, 1, 2, 1, 2], [0, 2, 0, 1, 2], [1, 2, 0, 1, 2], [2, 0, 1, 2, 0, 1], [0, 1, 2, 1, 2, 0], [0, 2, 0, 1, 2, 0], [1, 2, 0, 1, 2, 0], [0, 2, 0, 1, 2, 1], [1, 2, 0, 1, 2, 1], [0, 1, 2, 0, 1, 2], [0, 2, 0, 1, 2, 0, 1], [1, 2, 0, 1, 2, 0, 1], [0, 1, 2, 0, 1, 2, 0], [0, 1, 2, 0, 1, 2, 1], [2, 0, 1, 2, 0, 1, 2], [0, 1, 2, 0, 1, 2, 0, 1], [0, 2, 0, 1, 2, 0, 1, 2], [1, 2, 0, 1, 2, 0, 1, 2], [0, 1, 2, 0, 1, 2, 0, 1, 2]], 2434877636975217862482688881972992224215476674582418898901184955239007154649329855694686086304193667223207335869355722370444430810266059299222781257748956375947012746782177336551014203792008215549880103997288685843969034719110996335348006124106268946221536914699619002388502679220817445740414906225006834903672711325856213920776934627828231735284027028072045932056661201292874545662709965765406137147934065141919630130937791733169121505110287988337516342028355589752527959943173421587312343547232225441997196830818100007888342753986774001735143987130858527672407551712302102280558338615197913993517412379727406652480586649868102971627236988230436455293075046067877169887809345081585793, 2434877636975217475563409988065554064705094109766572145441346152613142336077558570244800295018119265919016569528805530347533268461505682572678776213222804854332490670583563997761919799392711251914200990732739697459001392622944348456995643596705229828692369433718008816802909977362403074269049476174161249097579828701768393332510860901084253808954876940544838885986010916045223501998100213094739292153952270333062441266324468166053735900708168391912998858563871948796461482135285630396123582550568458624972379848127216611982206153481075999826475954000382213380266179290889696814451211038604954623545179822527941010647470623117836386119325005707248947730019321866824897664056978021822593, 88647552419585226792726567555037083513887095421000708963297360983257854111652750028146578223114314779175092384527700610316268257809052311011859886696312775841071556488968907246363583587942302553378855675220806459195375879417408203096975972720977601027143364733113393595873288493876440697756688388599246230274918580043141961110419012971772251468202335107106398990122221439767206581713266360462833341483448932430576432350881645423683082408698421997259100047500737360544593383450972935359920898608183491150493929014870566330320920893237417047494568251613397473952611313855928787354397707337677279823234208448122713752059759352323481350824210258722537337148578605885488476404450965420888061695363916385031560483430064039868611856680580086846774363198152202647535003723865468222703220313636004238768659163698651448183992157883320636408699787204166032067062870388384403223859385433595258690355020193589420687137403009815805953⟩
def m11 : List (List Int) := [[0, 1, 2], [1, 0, 0], [1, 0, 0]]
def t11 : Tab := ⟨[[1, 1, 1], [-1, 2, 3], [2, -1, 1], [2, 1, -1], [1, -2, 3], [2, 2, -3], [-2, 1, 5], [3, -1, -1], [-2, 3, 3], [-1, -1, 5], [4, -2, -3], [-2, 4, 1], [3, 1, -5], [-3, 2, 5], [1, -3, 3], [1, 3, -3], [4, -1, -5], [-4, 2, 5], [2, -4, 1], [-1, 4, -1], [-3, 4, 1], [-1, -2, 5], [2, 2, -5], [4, -3, -3], [-4, 3, 3], [-2, -2, 5], [1, 2, -5], [3, -4, -1], [1, -4, 1], [-2, 4, -1], [4, -2, -5], [-4, 1, 5], [-1, -3, 3], [-1, 3, -3], [3, -2, -5], [-3, -1, 5], [2, -4, -1], [-4, 2, 3], [1, 1, -5], [2, -3, -3], [-3, 1, 1], [2, -1, -5], [-2, -2, 3], [-1, 2, -3], [-2, -1, 1], [-2, 1, -1], [1, -2, -3], [-1, -1, -1]], [[], [0], [1], [2], [1, 0], [2, 0], [0, 1], [1, 2], [0, 2], [0, 1, 0], [1, 2, 0], [0, 2, 0], [2, 0, 1], [0, 1, 2], [1, 0, 2], [2, 0, 2], [1, 2, 0, 1], [0, 1, 2, 0], [1, 0, 2, 0], [0, 2, 0, 2], [0, 2, 0, 1], [0, 1, 0, 2], [2, 0, 1, 2], [1, 2, 0, 2], [0, 1, 2, 0, 1], [0, 1, 0, 2, 0], [2, 0, 1, 2, 0], [1, 0, 2, 0, 2], [1, 0, 2, 0, 1], [0, 2, 0, 1, 2], [1, 2, 0, 1, 2], [0, 1, 2, 0, 2], [0, 1, 0, 2, 0, 1], [0, 2, 0, 1, 2, 0], [1, 2, 0, 1, 2, 0], [0, 1, 0, 2, 0, 2], [1, 0, 2, 0, 1, 2], [0, 1, 2, 0, 1, 2], [2, 0, 1, 2, 0, 2], [1, 0, 2, 0, 1, 2, 0], [0, 1, 2, 0, 1, 2, 0], [1, 2, 0, 1, 2, 0, 2], [0, 1, 0, 2, 0, 1, 2], [0, 2, 0, 1, 2, 0, 2], [0, 1, 0, 2, 0, 1, 2, 0], [0, 1, 2, 0, 1, 2, 0, 2], [1, 0, 2, 0, 1, 2, 0, 2], [0, 1, 0, 2, 0, 1, 2, 0, 2]], 2434877636975217862482688881972304581909139468969212443702297983255039702826033658367781042543873172224944549249077642865927188699644511688471578871429539607283643629197506840013682408129843031641791057009737812835804268360556904063816306715382675305135136104512536344784478096516908703655800213387775703309754305079721149044516462560420139070180504337392482619783463089201422226806226215392504146951707317303956955913413366658832476883690604236131865778527561858837321734976027147008041858290176432480975709525430197107185830774021480710948024123066578023225125883126267967298675189113682869068960945201191638601559784594981029984145389273573711752502299119834744196725649335004442753, 2434877636975217276058156808395927355456876074574578189986982577906794834473927675393723824494593472062154148525123121410032191691826692164878601877812001053468065898643776341477585724957456378740768078967601585631627122390040424776370208953066985594748983461843366499670967760908907498891383680179940894259316267174423777204725388214567488199659818866998425118140934948878350845507322483634046225014164984652783364949377625919476727677588584276859358239157898574444068479017147579653758749322971662656801470750046804371968784463512810870632452579153949991999011139150225414145807669926564941008625304155590275523349515224439748262603249864399239707586246694913670549715080133493141633, 88647552419585226792755167585840191921976054858256570839618424468379613014490906857325167962794394210413671693069588209473370350098595438688515938551218616195417543702596454285601429137356554434244315785653105618741039551712337975970879263921035047342614540282529429215551488257306777857796995128054726421704639770976965352053339736919881480466766901870693143929266478532029233770464913797657748522470597503905062096539553400053999294345758212252142283861393574199478588306379695764800043046462800318728511914020531680490356150309502056728645791815519210774084510963455146061490690510762771464817157346991090589423164547244560962516643354720115284947541154713253903456131972802611428624202598786333306391197802372592558872574345912601293065558285854407100695731874653387738872055357586657313141254880603304047623694489554986372848913771964639772106818100252508771862276619885997577812136555341719867041351032454214844417⟩
def m12 : List (List Int) := [[0, 2, 1], [1, 0, 0], [1, 0, 0]]
def t12 : Tab := ⟨[[1, 1, 1], [-1, 3, 2], [2, -1, 1], [2, 1, -1], [2, -3, 2], [1, 3, -2], [-2, 3, 3], [3, -1, -1], [-2, 5, 1], [-2, 1, 4], [4, -3, -2], [-1, 5, -1], [1, -3, 3], [1, 3, -3], [-3, 5, 2], [3, -5, 1], [-1, -1, 4], [2, 1, -4], [-4, 5, 2], [4, -5, -1], [4, -3, -3], [-1, 5, -2], [2, -5, 2], [-3, 1, 4], [3, -1, -4], [-2, 5, -2], [1, -5, 2], [-4, 3, 3], [-4, 5, 1], [4, -5, -2], [-2, -1, 4], [1, 1, -4], [-3, 5, -1], [3, -5, -2], [-1, -3, 3], [-1, 3, -3], [1, -5, 1], [-4, 3, 2], [2, -1, -4], [2, -5, -1], [-3, 1, 1], [2, -3, -3], [-1, -3, 2], [-2, 3, -2], [-2, -1, 1], [-2, 1, -1], [1, -3, -2], [-1, -1, -1]], [[], [0], [1], [2], [1, 0], [2, 0], [0, 1], [1, 2], [0, 2], [0, 1, 0], [1, 2, 0], [0, 2, 0], [1, 0, 1], [2, 0, 1], [0, 1, 2], [1, 0, 2], [0, 1, 0, 1], [2, 0, 1, 0], [0, 1, 2, 0], [1, 0, 2, 0], [1, 2, 0, 1], [0, 2, 0, 1], [1, 0, 1, 2], [0, 1, 0, 2], [1, 2, 0, 1, 0], [0, 2, 0, 1, 0], [1, 0, 1, 2, 0], [0, 1, 0, 2, 0], [0, 1, 2, 0, 1], [1, 0, 2, 0, 1], [0, 1, 0, 1, 2], [2, 0, 1, 0, 2], [0, 1, 2, 0, 1, 0], [1, 0, 2, 0, 1, 0], [0, 1, 0, 1, 2, 0], [0, 2, 0, 1, 0, 2], [1, 0, 1, 2, 0, 1], [0, 1, 0, 2, 0, 1], [1, 2, 0, 1, 0, 2], [1, 0, 1, 2, 0, 1, 0], [0, 1, 0, 2, 0, 1, 0], [1, 0, 2, 0, 1, 0, 2], [0, 1, 0, 1, 2, 0, 1], [0, 1, 2, 0, 1, 0, 2], [0, 1, 0, 1, 2, 0, 1, 0], [0, 1, 0, 2, 0, 1, 0, 2], [1, 0, 1, 2, 0, 1, 0, 2], [0, 1, 0, 1, 2, 0, 1, 0, 2]], 2434877636975217862482688881972304581909139468969212443702297983255039702826033658367780927917053407588408327545367781486492945633705187158545344709094369533059813164783763227497944705360150418460656719800686919968125836453760570131477888101225576807237651240812976412900898468916412799179777299222014817068536170147455468769979066027325145514186416437652121998677702383134886894932177509889969285732293418520405481426182845183344569477699442472422773417558150367694769938320559664932529140007062913860024022256528607559221067716922405152663324285745041091125174059552385302372136367684149895369670932233258078623569397467675863207895856361753005135570002516326427582498478027404488833, 2434877636975217276058156808395927355456876074574578189986973496234490028685833626190488808350527978878470688890898199870834355636809873696929010288850539985373172298353704199893289614937753080759864264035813392900205405465532802062408829720487428714072776377603916757892219433793233999244888509996261761110048285057456436063019111346156064508937708322206326851182360161357032476258235701890963394698947766824757844360274920231353105208048790085416710041832916459960991381998937076490668142446052880371468195258663014480961873099725119230512351138126824433904534094665969225540309525644120127218427886822513310960923878385849397738423413832449489768549171373459372973156595112488218753, 88647552419585226792755167585840191921976059081793659278062432455119314532519593123075225188201173162263518135465496158787991435055134649556945394395331373921726489945710399833387244120151021605177252459265990476091826910331824003437646490991199162789097496789732857735269875520616599103219376278390057578365673106164438426460399361545315774445585271456209838773214862015009179928237224375467027608621665623496658765149824492625538680755553236272399807499179218386290743871328188681493101703622960566544602811820603411693723694178505840015292429460064792654316391078315919592432413660521417992415698812091206952752913848905851426644540267774469439978631412061171716354239262543059295626987437507316503370065585190278988621643061896223468525442868804942574779947535989616086621191772206203840267522293979255645113648462243782973106537283899838181506418470524028790685030753606011086619695674588479611823558770808082923521⟩
def m13 : List (List Int) := [[0, 0, 1], [0, 0, 1], [2, 1, 0]]
def t13 : Tab := ⟨[[1, 1, 1], [-1, 1, 2], [1, -1, 2], [3, 2, -1], [-1, -1, 3], [3, 3, -2], [5, 1, -2], [-3, 2, 2], [3, -2, 1], [5, 2, -3], [-3, 3, 1], [3, -3, 1], [-5, 1, 3], [5, -1, -1], [-3, -2, 4], [1, 4, -2], [-5, 2, 2], [5, -2, -1], [-3, -3, 4], [-1, 4, -1], [-5, -1, 4], [1, 4, -3], [5, 2, -4], [1, -4, 2], [-5, -2, 4], [-1, 4, -2], [5, 1, -4], [-1, -4, 3], [3, 3, -4], [1, -4, 1], [-5, 2, 1], [5, -2, -2], [3, 2, -4], [-1, -4, 2], [-5, 1, 1], [5, -1, -3], [-3, 3, -1], [3, -3, -1], [-5, -2, 3], [-3, 2, -1], [3, -2, -2], [-5, -1, 2], [-3, -3, 2], [1, 1, -3], [-3, -2, 1], [-1, 1, -2], [1, -1, -2], [-1, -1, -1]], [[], [0], [1], [2], [0, 1], [2, 0], [2, 1], [0, 2], [1, 2], [2, 0, 1], [0, 2, 0], [1, 2, 0], [0, 2, 1], [1, 2, 1], [0, 1, 2], [2, 0, 2], [0, 2, 0, 1], [1, 2, 0, 1], [0, 1, 2, 0], [0, 2, 0, 2], [0, 1, 2, 1], [2, 0, 2, 1], [2, 0, 1, 2], [1, 2, 0, 2], [0, 1, 2, 0, 1], [0, 2, 0, 2, 1], [2, 0, 1, 2, 0], [0, 1, 2, 0, 2], [2, 0, 1, 2, 1], [1, 2, 0, 2, 1], [0, 2, 0, 1, 2], [1, 2, 0, 1, 2], [2, 0, 1, 2, 0, 1], [0, 1, 2, 0, 2, 1], [0, 2, 0, 1, 2, 0], [1, 2, 0, 1, 2, 0], [0, 2, 0, 1, 2, 1], [1, 2, 0, 1, 2, 1], [0, 1, 2, 0, 1, 2], [0, 2, 0, 1, 2, 0, 1], [1, 2, 0, 1, 2, 0, 1], [0, 1, 2, 0, 1, 2, 0], [0, 1, 2, 0, 1, 2, 1], [2, 0, 1, 2, 0, 1, 2], [0, 1, 2, 0, 1, 2, 0, 1], [0, 2, 0, 1, 2, 0, 1, 2], [1, 2, 0, 1, 2, 0, 1, 2], [0, 1, 2, 0, 1, 2, 0, 1, 2]], 2434877636975217862482688881972992224215476674582418898901184955239007154649329855694686086304193667221651328626713674459669266375237336014499090549454283411253664202782399824298420090072756431996999707778387756999993659546859642980825823416646044763143559547157596911516948059142589365832186753202134549700006731367999562956668569166779295144664512972659507792572958309403012285382078273778965009400912463391040599430711387912254745613521435999985632295496408057624663960812338232346444950320772549888291052223576833579077756163957734041470933336165886777217693123316071915855673607454126975357070023595469585627076014120243805284003860608327624303834433895290799955231162849313173633, 2434877636975217475563409988065554064705094109766572145441346152613142335954278975551383781203393409777709325649052138213187704671421632546187064569071131480613280257448437001159694064629018421260846943120946099801650957524440312440910632737787386914945409294080593960923398424077208345701439498928454332377246624220712564478885222598774821711694616008706578021836932675311407888752039625587999706158472142432400462142905689400806338496833702763526701051577357472895013843302202573999357687540769055916445248424714264233257631798117106047226746896670955273293104194429797667304331191343861282404502039570027407129401398025995462847969289555945598225188397738366442167164643264237154433, 88647552419585226792726716501596029275166290998529867252598139532632960466420220800637896600688082250132385617337948833435046127181125197007225378099508328426397488670457327564289506608030162192010388531224056645643725119651884693302729065854372938883459186854439595688856252523642628340202754160847850231922105322680261910098040291116386632379130435363022057729473116604827673202578595178591293641233932068934133658032933831338399764449563119542382608284497775687865217816899475927733061628147321831567099699355674103936912837926950149129449082912253790294229875376488666666221863550660898725264977346813382549022642058644035275137012676330456105421813711494627049578069222382625695462558385301721809261109498592444207465251135927336462051580956292133328452888811549247820884220219868992184209164699864536184047735234720706448868399930647361947843824477687886943741686415335877023546978156168802771509340295417391218689⟩
def m14 : List (List Int) := [[0, 1, 0], [2, 0, 1], [0, 1, 0]]
def t14 : Tab := ⟨[[1, 1, 1], [-1, 2, 1], [3, -1, 2], [1, 2, -1], [3, -2, 3], [-1, 3, -1], [-3, 2, 2], [3, 1, -2], [5, -2, 1], [-3, 1, 3], [3, 1, -3], [5, -3, 2], [1, -2, 4], [-3, 4, -2], [5, -1, -1], [-5, 3, 1], [-1, -1, 4], [-3, 4, -3], [5, -1, -2], [-5, 2, 2], [1, 2, -4], [5, -4, 2], [-5, 4, -1], [1, -3, 4], [-1, 3, -4], [5, -4, 1], [-5, 4, -2], [-1, -2, 4], [5, -2, -2], [-5, 1, 2], [3, -4, 3], [1, 1, -4], [5, -3, -1], [-5, 1, 1], [3, -4, 2], [-1, 2, -4], [-5, 3, -2], [-3, -1, 3], [3, -1, -3], [-5, 2, -1], [-3, -1, 2], [3, -2, -2], [1, -3, 1], [-3, 2, -3], [-1, -2, 1], [-3, 1, -2], [1, -2, -1], [-1, -1, -1]], [[], [0], [1], [2], [1, 0], [0, 2], [0, 1], [2, 1], [1, 2], [0, 1, 0], [2, 1, 0], [1, 0, 2], [1, 0, 1], [0, 2, 1], [1, 2, 1], [0, 1, 2], [0, 1, 0, 1], [0, 2, 1, 0], [1, 2, 1, 0], [0, 1, 0, 2], [2, 1, 0, 1], [1, 0, 2, 1], [0, 1, 2, 1], [1, 0, 1, 2], [0, 2, 1, 0, 1], [1, 0, 2, 1, 0], [0, 1, 2, 1, 0], [0, 1, 0, 1, 2], [1, 2, 1, 0, 1], [0, 1, 0, 2, 1], [1, 0, 1, 2, 1], [2, 1, 0, 1, 2], [1, 0, 2, 1, 0, 1], [0, 1, 0, 2, 1, 0], [1, 0, 1, 2, 1, 0], [0, 2, 1, 0, 1, 2], [0, 1, 2, 1, 0, 1], [0, 1, 0, 1, 2, 1], [1, 2, 1, 0, 1, 2], [0, 1, 0, 2, 1, 0, 1], [0, 1, 0, 1, 2, 1, 0], [1, 0, 2, 1, 0, 1, 2], [1, 0, 1, 2, 1, 0, 1], [0, 1, 2, 1, 0, 1, 2], [0, 1, 0, 1, 2, 1, 0, 1], [0, 1, 0, 2, 1, 0, 1, 2], [1, 0, 1, 2, 1, 0, 1, 2], [0, 1, 0, 1, 2, 1, 0, 1, 2]], 2434877636975217862482688881972304581909139468932847687748512475943115255407616333746964752112704982200603650908813262485086127174488538310630768962586355997147371237129179640969184597690377808208367586710629380568240810530209509003259856022223553333655463605893555265867741095278621930101083379541512396581168553267037398234635937008106680691667879940959587395160340834287997905307207141609628453809410404587579905335313613790802979284356821121388139636643234113607463370532986838810133213069073118177460204988080224660433782900341203921264619922935919609165882143914487450525127726764830456668873247047446661789268263754470581605587093016366843830924232900237245068978655550773407873, 2434877636975217856437075149254335367893013909864301250722960549565792185407592477971990085922811172071903914965244500696790733421922025844200352495511372493238417198396239229701428188129379406148133259171832120283700282880185236364700397114393829719964700882340502598332980620451209478328469223722537978495380171054380057072708713286735907338820350493102187275151082848245707475448313227049436401963697287538145181927913772384160459660855587592500916588313334143657312449190162856463713513589447560287866147343097252596501959297863861980482998167888979083480446156428244073219610390004507516157367878591499392614679979539211218784325402339621927624040943556205902537134364117304356993, 88647552419585226792745635006067663200107573920677371122861620398411792618019162679341773286608023933546838633792854964004152167528965889462958514559596691453089822998824404783663348075081058921711040404921398212475880157650427116848077043479834269587428127395933591189848586271477843865713462339884588499433475519393512150394921666168838320073678677943475670994022399192742214638507996426221245430149568074513980812280692848245811895182130203741728521536140445576311524200943963922624696133632921281832123767912880449649688838834417635422960687979462689964734956368562951136529784279646351779743647103831252995603008153050209000713655807770908621881371392538108070498195406617776771317749429928892041116307989734971590806932106230588954193420321977925807307749667417239798643687361322381303837770210241965823466168141553109131674847628228948184972028932165268057501835571624669510645541921783774074309939615166420221953⟩
def m15 : List (List Int) := [[0, 1, 0], [1, 0, 1], [0, 2, 0]]
def t15 : Tab := ⟨[[1, 1, 1], [-1, 2, 1], [2, -1, 2], [1, 3, -1], [1, -2, 3], [-1, 4, -1], [-2, 1, 2], [2, 3, -2], [4, -3, 2], [-1, -1, 3], [1, 4, -3], [3, -4, 3], [-2, 5, -2], [5, -3, 1], [-4, 1, 2], [4, 1, -2], [-1, 5, -3], [5, -4, 1], [-3, -1, 3], [3, 2, -3], [3, -5, 3], [-5, 2, 1], [5, -1, -1], [-4, 5, -2], [4, -5, 2], [-5, 1, 1], [5, -2, -1], [-3, 5, -3], [-3, -2, 3], [3, 1, -3], [-5, 4, -1], [1, -5, 3], [-4, -1, 2], [4, -1, -2], [-5, 3, -1], [2, -5, 2], [-3, 4, -3], [-1, -4, 3], [1, 1, -3], [-4, 3, -2], [-2, -3, 2], [2, -1, -2], [1, -4, 1], [-1, 2, -3], [-1, -3, 1], [-2, 1, -2], [1, -2, -1], [-1, -1, -1]], [[], [0], [1], [2], [1, 0], [0, 2], [0, 1], [2, 1], [1, 2], [0, 1, 0], [2, 1, 0], [1, 0, 2], [0, 2, 1], [1, 2, 1], [0, 1, 2], [2, 1, 2], [0, 2, 1, 0], [1, 2, 1, 0], [0, 1, 0, 2], [2, 1, 0, 2], [1, 0, 2, 1], [0, 1, 2, 1], [1, 2, 1, 2], [0, 2, 1, 2], [1, 0, 2, 1, 0], [0, 1, 2, 1, 0], [1, 2, 1, 0, 2], [0, 2, 1, 0, 2], [0, 1, 0, 2, 1], [2, 1, 0, 2, 1], [0, 1, 2, 1, 2], [1, 0, 2, 1, 2], [0, 1, 0, 2, 1, 0], [1, 2, 1, 0, 2, 1], [0, 1, 2, 1, 0, 2], [1, 0, 2, 1, 0, 2], [0, 2, 1, 0, 2, 1], [0, 1, 0, 2, 1, 2], [2, 1, 0, 2, 1, 2], [0, 1, 2, 1, 0, 2, 1], [0, 1, 0, 2, 1, 0, 2], [1, 2, 1, 0, 2, 1, 2], [1, 0, 2, 1, 0, 2, 1], [0, 2, 1, 0, 2, 1, 2], [0, 1, 0, 2, 1, 0, 2, 1], [0, 1, 2, 1, 0, 2, 1, 2], [1, 0, 2, 1, 0, 2, 1, 2], [0, 1, 0, 2, 1, 0, 2, 1, 2]], 2434877636975217862482688881972304581909139468932847687748512475943115255407616333746964866739524746837145950765814698494349948692764682773938320877664478465176186302517150927545456159694394384297308492720800791020137801521135747642088546464166746160841734695040753007677015605946873331581917107371915831312523088731992121095987437741705599087074419987984168015480622072463806708199165038707953408268715142546685865164757429663657013647846047557770101601083697230320744807190144288877409296835602552801505496592694992297452809685390583586262130062625118561131994927160315025607507354268236858187414505813003731508876378848311225628386933533766612641429069637145650751205348596783263873, 2434877636975217856437075149254335367893013909864301250722960956207835684180203535141591818487290117560564037057068710899685909253573123182289573479270747685353001776499700863466982881048006965880819773905885619965967500491538103188226142590568447999247386057489514801281778862773740211403238235242315621486735606581849053950696043007855385446098947882458453635578278464530409407111934378326566566527494734634594164134861172007790635589886939239952970063316612402664360198943580685783323328173293832074040835542061058615799387229637254402947968584275455712664875060187512371269359386680299929162606838514850023164354210936045722036859491840239046227292516892626603345487144961584410753, 88647552419585226792745414450586147361290291038091663280620517223606885562202122763778691903990811108454725828485128836390188255669549917362385988471242199531626396065487734008896750688292138734953314291987213479968941916955738446207328132431237908820380598446032839345139152727187113942192948516987040711354257765475857486823376476819139920086424747705047960217209055583673874543965777066278287329752357112390559465155347178976217809936706121923847218706292168234543829872688579799723295064199800738821031762710988397974570305656307397106908125703098164341442565618504725405144499728945481432089003099522672873031945216258787607660182679893345980066148848944511982715232088365143801048603410214257592338851653145434827877190645129833774768867984631467145361775020410852145662232050720828465190188727337738440452383084013507156418997712818490596404333732635156710799911874884000396444724978597287839864019565592136646657⟩
def m16 : List (List Int) := [[0, 0, 1], [0, 0, 2], [1, 1, 0]]
def t16 : Tab := ⟨[[1, 1, 1], [-1, 1, 2], [1, -1, 3], [2, 2, -1], [-1, -1, 4], [1, 3, -2], [4, 2, -3], [-2, 2, 1], [2, -2, 3], [3, 3, -4], [-1, 3, -1], [1, -3, 4], [-4, 2, 1], [4, -2, 1], [-2, -2, 5], [5, 1, -3], [-3, 3, -1], [3, -3, 2], [-1, -3, 5], [5, 1, -4], [-4, -2, 5], [5, -1, -1], [3, 3, -5], [-5, 1, 2], [-3, -3, 5], [5, -1, -2], [4, 2, -5], [-5, 1, 1], [1, 3, -5], [-5, -1, 4], [-3, 3, -2], [3, -3, 1], [2, 2, -5], [-5, -1, 3], [-4, 2, -1], [4, -2, -1], [-1, 3, -4], [1, -3, 1], [-3, -3, 4], [-2, 2, -3], [2, -2, -1], [-4, -2, 3], [-1, -3, 2], [1, 1, -4], [-2, -2, 1], [-1, 1, -3], [1, -1, -2], [-1, -1, -1]], [[], [0], [1], [2], [0, 1], [2, 0], [2, 1], [0, 2], [1, 2], [2, 0, 1], [0, 2, 0], [1, 2, 0], [0, 2, 1], [1, 2, 1], [0, 1, 2], [2, 1, 2], [0, 2, 0, 1], [1, 2, 0, 1], [0, 1, 2, 0], [2, 1, 2, 0], [0, 1, 2, 1], [1, 2, 1, 2], [2, 0, 1, 2], [0, 2, 1, 2], [0, 1, 2, 0, 1], [1, 2, 1, 2, 0], [2, 0, 1, 2, 0], [0, 2, 1, 2, 0], [2, 0, 1, 2, 1], [0, 1, 2, 1, 2], [0, 2, 0, 1, 2], [1, 2, 0, 1, 2], [2, 0, 1, 2, 0, 1], [0, 1, 2, 1, 2, 0], [0, 2, 0, 1, 2, 0], [1, 2, 0, 1, 2, 0], [0, 2, 0, 1, 2, 1], [1, 2, 0, 1, 2, 1], [0, 1, 2, 0, 1, 2], [0, 2, 0, 1, 2, 0, 1], [1, 2, 0, 1, 2, 0, 1], [0, 1, 2, 0, 1, 2, 0], [0, 1, 2, 0, 1, 2, 1], [2, 0, 1, 2, 0, 1, 2], [0, 1, 2, 0, 1, 2, 0, 1], [0, 2, 0, 1, 2, 0, 1, 2], [1, 2, 0, 1, 2, 0, 1, 2], [0, 1, 2, 0, 1, 2, 0, 1, 2]], 2434877636975217862482688881972992224215476674582418898901184955239007154649329855694686086304193667223207335869355722370444430810266059299222781257748956375947012746782177336551014203792008215549880103997288685843969034719110996335348006124106268946221536914699619002388502679220817445740414906225006834903672711325856213920776934627828231735284027028072045932056661201292874545662709965765406137147934065141919630130937791733169121505110287988337516342028355589752527959943173421587312343547232225441997196830818100007888342753986774001735143987130858527672407551712302102280558338615197913993517412379727406652480586649868102971627236988230436455293075046067877169887809345081585793, 2434877636975217475563409988065554064705094109766572145441346152613142336077558570244800295018119265919016569528805530347533268461505682572678776213222804854332490670583563997761919799392711251914200990732739697459001392622944348456995643596705229828692369433718008816802909977362403074269049476174161249097579828701768393332510860901084253808954876940544838885986010916045223501998100213094739292153952270333062441266324468166053735900708168391912998858563871948796461482135285630396123582550568458624972379848127216611982206153481075999826475954000382213380266179290889696814451211038604954623545179822527941010647470623117836386119325005707248947730019321866824897664056978021822593, 88647552419585226792726567555037083513887095421000708963297360983257854111652750028146578223114314779175092384527700610316268257809052311011859886696312775841071556488968907246363583587942302553378855675220806459195375879417408203096975972720977601027143364733113393595873288493876440697756688388599246230274918580043141961110419012971772251468202335107106398990122221439767206581713266360462833341483448932430576432350881645423683082408698421997259100047500737360544593383450972935359920898608183491150493929014870566330320920893237417047494568251613397473952611313855928787354397707337677279823234208448122713752059759352323481350824210258722537337148578605885488476404450965420888061695363916385031560483430064039868611856680580086846774363198152202647535003723865468222703220313636004238768659163698651448183992157883320636408699787204166032067062870388384403223859385433595258690355020193589420687137403009815805953⟩
def m17 : List (List Int) := [[0, 1, 1], [1, 0, 0], [2, 0, 0]]
def t17 : Tab := ⟨[[1, 1, 1], [-1, 2, 2], [2, -1, 1], [3, 1, -1], [1, -2, 2], [3, 2, -2], [-2, 1, 3], [4, -1, -1], [-3, 4, 2], [-1, -1, 3], [5, -2, -2], [-3, 5, 1], [4, 1, -3], [-4, 3, 3], [1, -4, 2], [1, 4, -2], [5, -1, -3], [-5, 3, 3], [2, -5, 1], [-1, 5, -1], [-4, 5, 1], [-1, -3, 3], [2, 3, -3], [5, -4, -2], [-5, 4, 2], [-2, -3, 3], [1, 3, -3], [4, -5, -1], [1, -5, 1], [-2, 5, -1], [5, -3, -3], [-5, 1, 3], [-1, -4, 2], [-1, 4, -2], [4, -3, -3], [-4, -1, 3], [3, -5, -1], [-5, 2, 2], [1, 1, -3], [3, -4, -2], [-4, 1, 1], [2, -1, -3], [-3, -2, 2], [-1, 2, -2], [-3, -1, 1], [-2, 1, -1], [1, -2, -2], [-1, -1, -1]], [[], [0], [1], [2], [1, 0], [2, 0], [0, 1], [1, 2], [0, 2], [0, 1, 0], [1, 2, 0], [0, 2, 0], [2, 0, 1], [0, 1, 2], [1, 0, 2], [2, 0, 2], [1, 2, 0, 1], [0, 1, 2, 0], [1, 0, 2, 0], [0, 2, 0, 2], [0, 2, 0, 1], [0, 1, 0, 2], [2, 0, 1, 2], [1, 2, 0, 2], [0, 1, 2, 0, 1], [0, 1, 0, 2, 0], [2, 0, 1, 2, 0], [1, 0, 2, 0, 2], [1, 0, 2, 0, 1], [0, 2, 0, 1, 2], [1, 2, 0, 1, 2], [0, 1, 2, 0, 2], [0, 1, 0, 2, 0, 1], [0, 2, 0, 1, 2, 0], [1, 2, 0, 1, 2, 0], [0, 1, 0, 2, 0, 2], [1, 0, 2, 0, 1, 2], [0, 1, 2, 0, 1, 2], [2, 0, 1, 2, 0, 2], [1, 0, 2, 0, 1, 2, 0], [0, 1, 2, 0, 1, 2, 0], [1, 2, 0, 1, 2, 0, 2], [0, 1, 0, 2, 0, 1, 2], [0, 2, 0, 1, 2, 0, 2], [0, 1, 0, 2, 0, 1, 2, 0], [0, 1, 2, 0, 1, 2, 0, 2], [1, 0, 2, 0, 1, 2, 0, 2], [0, 1, 0, 2, 0, 1, 2, 0, 2]], 2434877636975217862482688881972304581909139468969212443702297983255039702826033658367781042543873172224944549249077642865927188699644511688471578871429539607283643629197506840013682408129843031641791057009737812835804268360556904063816306715382675305135136104512536344784478096516908703655800213387775703309754305079721149044516462560420139070180504337392482619783463089201422226806226215392504146951707317303956955913413366658832476883690604236131865778527561858837321734976027147008041858290176432480975709525430197107185830774021480710948024123066578023225125883126267967298675189113682869068960945201191638601559784594981029984145389273573711752502299119834744196725649335004442753, 2434877636975217276058156808395927355456876074574578189986982577906794834473927675393723824494593472062154148525123121410032191691826692164878601877812001053468065898643776341477585724957456378740768078967601585631627122390040424776370208953066985594748983461843366499670967760908907498891383680179940894259316267174423777204725388214567488199659818866998425118140934948878350845507322483634046225014164984652783364949377625919476727677588584276859358239157898574444068479017147579653758749322971662656801470750046804371968784463512810870632452579153949991999011139150225414145807669926564941008625304155590275523349515224439748262603249864399239707586246694913670549715080133493141633, 88647552419585226792755167585840191921976054858256570839618424468379613014490906857325167962794394210413671693069588209473370350098595438688515938551218616195417543702596454285601429137356554434244315785653105618741039551712337975970879263921035047342614540282529429215551488257306777857796995128054726421704639770976965352053339736919881480466766901870693143929266478532029233770464913797657748522470597503905062096539553400053999294345758212252142283861393574199478588306379695764800043046462800318728511914020531680490356150309502056728645791815519210774084510963455146061490690510762771464817157346991090589423164547244560962516643354720115284947541154713253903456131972802611428624202598786333306391197802372592558872574345912601293065558285854407100695731874653387738872055357586657313141254880603304047623694489554986372848913771964639772106818100252508771862276619885997577812136555341719867041351032454214844417⟩
def m18 : List (List Int) := [[0, 1, 1], [2, 0, 0], [1, 0, 0]]
def t18 : Tab := ⟨[[1, 1, 1], [-1, 2, 2], [3, -1, 1], [2, 1, -1], [3, -2, 2], [1, 2, -2], [-3, 2, 4], [4, -1, -1], [-2, 3, 1], [-3, 1, 5], [5, -2, -2], [-1, 3, -1], [1, -2, 4], [1, 2, -4], [-4, 3, 3], [4, -3, 1], [-1, -1, 5], [2, 1, -5], [-5, 3, 3], [5, -3, -1], [5, -2, -4], [-1, 3, -3], [2, -3, 3], [-4, 1, 5], [4, -1, -5], [-2, 3, -3], [1, -3, 3], [-5, 2, 4], [-5, 3, 1], [5, -3, -3], [-2, -1, 5], [1, 1, -5], [-4, 3, -1], [4, -3, -3], [-1, -2, 4], [-1, 2, -4], [1, -3, 1], [-5, 2, 2], [3, -1, -5], [2, -3, -1], [-4, 1, 1], [3, -2, -4], [-1, -2, 2], [-3, 2, -2], [-2, -1, 1], [-3, 1, -1], [1, -2, -2], [-1, -1, -1]], [[], [0], [1], [2], [1, 0], [2, 0], [0, 1], [1, 2], [0, 2], [0, 1, 0], [1, 2, 0], [0, 2, 0], [1, 0, 1], [2, 0, 1], [0, 1, 2], [1, 0, 2], [0, 1, 0, 1], [2, 0, 1, 0], [0, 1, 2, 0], [1, 0, 2, 0], [1, 2, 0, 1], [0, 2, 0, 1], [1, 0, 1, 2], [0, 1, 0, 2], [1, 2, 0, 1, 0], [0, 2, 0, 1, 0], [1, 0, 1, 2, 0], [0, 1, 0, 2, 0], [0, 1, 2, 0, 1], [1, 0, 2, 0, 1], [0, 1, 0, 1, 2], [2, 0, 1, 0, 2], [0, 1, 2, 0, 1, 0], [1, 0, 2, 0, 1, 0], [0, 1, 0, 1, 2, 0], [0, 2, 0, 1, 0, 2], [1, 0, 1, 2, 0, 1], [0, 1, 0, 2, 0, 1], [1, 2, 0, 1, 0, 2], [1, 0, 1, 2, 0, 1, 0], [0, 1, 0, 2, 0, 1, 0], [1, 0, 2, 0, 1, 0, 2], [0, 1, 0, 1, 2, 0, 1], [0, 1, 2, 0, 1, 0, 2], [0, 1, 0, 1, 2, 0, 1, 0], [0, 1, 0, 2, 0, 1, 0, 2], [1, 0, 1, 2, 0, 1, 0, 2], [0, 1, 0, 1, 2, 0, 1, 0, 2]], 2434877636975217862482688881972304581909139468969212443702297983255039702826033658367780927917053407588408327545367781486492945633705187158545344709094369533059813164783763227497944705360150418460656719800686919968125836453760570131477888101225576807237651240812976412900898468916412799179777299222014817068536170147455468769979066027325145514186416437652121998677702383134886894932177509889969285732293418520405481426182845183344569477699442472422773417558150367694769938320559664932529140007062913860024022256528607559221067716922405152663324285745041091125174059552385302372136367684149895369670932233258078623569397467675863207895856361753005135570002516326427582498478027404488833, 2434877636975217276058156808395927355456876074574578189986973496234490028685833626190488808350527978878470688890898199870834355636809873696929010288850539985373172298353704199893289614937753080759864264035813392900205405465532802062408829720487428714072776377603916757892219433793233999244888509996261761110048285057456436063019111346156064508937708322206326851182360161357032476258235701890963394698947766824757844360274920231353105208048790085416710041832916459960991381998937076490668142446052880371468195258663014480961873099725119230512351138126824433904534094665969225540309525644120127218427886822513310960923878385849397738423413832449489768549171373459372973156595112488218753, 88647552419585226792755167585840191921976059081793659278062432455119314532519593123075225188201173162263518135465496158787991435055134649556945394395331373921726489945710399833387244120151021605177252459265990476091826910331824003437646490991199162789097496789732857735269875520616599103219376278390057578365673106164438426460399361545315774445585271456209838773214862015009179928237224375467027608621665623496658765149824492625538680755553236272399807499179218386290743871328188681493101703622960566544602811820603411693723694178505840015292429460064792654316391078315919592432413660521417992415698812091206952752913848905851426644540267774469439978631412061171716354239262543059295626987437507316503370065585190278988621643061896223468525442868804942574779947535989616086621191772206203840267522293979255645113648462243782973106537283899838181506418470524028790685030753606011086619695674588479611823558770808082923521⟩
def m19 : List (List Int) := [[0, 0, 2], [0, 0, 1], [1, 1, 0]]
def t19 : Tab := ⟨[[1, 1, 1], [-1, 1, 3], [1, -1, 2], [2, 2, -1], [-1, -1, 4], [2, 4, -3], [3, 1, -2], [-2, 2, 3], [2, -2, 1], [3, 3, -4], [-2, 4, 1], [2, -4, 1], [-3, 1, 4], [3, -1, -1], [-2, -2, 5], [1, 5, -3], [-3, 3, 2], [3, -3, -1], [-2, -4, 5], [-1, 5, -1], [-3, -1, 5], [1, 5, -4], [3, 3, -5], [1, -5, 2], [-3, -3, 5], [-1, 5, -2], [3, 1, -5], [-1, -5, 4], [2, 4, -5], [1, -5, 1], [-3, 3, 1], [3, -3, -2], [2, 2, -5], [-1, -5, 3], [-3, 1, 1], [3, -1, -4], [-2, 4, -1], [2, -4, -1], [-3, -3, 4], [-2, 2, -1], [2, -2, -3], [-3, -1, 2], [-2, -4, 3], [1, 1, -4], [-2, -2, 1], [-1, 1, -2], [1, -1, -3], [-1, -1, -1]], [[], [0], [1], [2], [0, 1], [2, 0], [2, 1], [0, 2], [1, 2], [2, 0, 1], [0, 2, 0], [1, 2, 0], [0, 2, 1], [1, 2, 1], [0, 1, 2], [2, 0, 2], [0, 2, 0, 1], [1, 2, 0, 1], [0, 1, 2, 0], [0, 2, 0, 2], [0, 1, 2, 1], [2, 0, 2, 1], [2, 0, 1, 2], [1, 2, 0, 2], [0, 1, 2, 0, 1], [0, 2, 0, 2, 1], [2, 0, 1, 2, 0], [0, 1, 2, 0, 2], [2, 0, 1, 2, 1], [1, 2, 0, 2, 1], [0, 2, 0, 1, 2], [1, 2, 0, 1, 2], [2, 0, 1, 2, 0, 1], [0, 1, 2, 0, 2, 1], [0, 2, 0, 1, 2, 0], [1, 2, 0, 1, 2, 0], [0, 2, 0, 1, 2, 1], [1, 2, 0, 1, 2, 1], [0, 1, 2, 0, 1, 2], [0, 2, 0, 1, 2, 0, 1], [1, 2, 0, 1, 2, 0, 1], [0, 1, 2, 0, 1, 2, 0], [0, 1, 2, 0, 1, 2, 1], [2, 0, 1, 2, 0, 1, 2], [0, 1, 2, 0, 1, 2, 0, 1], [0, 2, 0, 1, 2, 0, 1, 2], [1, 2, 0, 1, 2, 0, 1, 2], [0, 1, 2, 0, 1, 2, 0, 1, 2]], 2434877636975217862482688881972992224215476674582418898901184955239007154649329855694686086304193667221651328626713674459669266375237336014499090549454283411253664202782399824298420090072756431996999707778387756999993659546859642980825823416646044763143559547157596911516948059142589365832186753202134549700006731367999562956668569166779295144664512972659507792572958309403012285382078273778965009400912463391040599430711387912254745613521435999985632295496408057624663960812338232346444950320772549888291052223576833579077756163957734041470933336165886777217693123316071915855673607454126975357070023595469585627076014120243805284003860608327624303834433895290799955231162849313173633, 2434877636975217475563409988065554064705094109766572145441346152613142335954278975551383781203393409777709325649052138213187704671421632546187064569071131480613280257448437001159694064629018421260846943120946099801650957524440312440910632737787386914945409294080593960923398424077208345701439498928454332377246624220712564478885222598774821711694616008706578021836932675311407888752039625587999706158472142432400462142905689400806338496833702763526701051577357472895013843302202573999357687540769055916445248424714264233257631798117106047226746896670955273293104194429797667304331191343861282404502039570027407129401398025995462847969289555945598225188397738366442167164643264237154433, 88647552419585226792726716501596029275166290998529867252598139532632960466420220800637896600688082250132385617337948833435046127181125197007225378099508328426397488670457327564289506608030162192010388531224056645643725119651884693302729065854372938883459186854439595688856252523642628340202754160847850231922105322680261910098040291116386632379130435363022057729473116604827673202578595178591293641233932068934133658032933831338399764449563119542382608284497775687865217816899475927733061628147321831567099699355674103936912837926950149129449082912253790294229875376488666666221863550660898725264977346813382549022642058644035275137012676330456105421813711494627049578069222382625695462558385301721809261109498592444207465251135927336462051580956292133328452888811549247820884220219868992184209164699864536184047735234720706448868399930647361947843824477687886943741686415335877023546978156168802771509340295417391218689⟩
def m20 : List (List Int) := [[0, 2, 0], [1, 0, 1], [0, 1, 0]]
def t20 : Tab := ⟨[[1, 1, 1], [-1, 3, 1], [2, -1, 2], [1, 2, -1], [2, -3, 4], [-1, 4, -1], [-2, 3, 2], [2, 1, -2], [3, -2, 1], [-2, 1, 4], [2, 1, -4], [3, -4, 3], [1, -3, 5], [-2, 5, -2], [3, -1, -1], [-3, 4, 1], [-1, -1, 5], [-2, 5, -4], [3, -1, -3], [-3, 2, 3], [1, 2, -5], [3, -5, 3], [-3, 5, -1], [1, -4, 5], [-1, 4, -5], [3, -5, 1], [-3, 5, -3], [-1, -2, 5], [3, -2, -3], [-3, 1, 3], [2, -5, 4], [1, 1, -5], [3, -4, -1], [-3, 1, 1], [2, -5, 2], [-1, 3, -5], [-3, 4, -3], [-2, -1, 4], [2, -1, -4], [-3, 2, -1], [-2, -1, 2], [2, -3, -2], [1, -4, 1], [-2, 3, -4], [-1, -2, 1], [-2, 1, -2], [1, -3, -1], [-1, -1, -1]], [[], [0], [1], [2], [1, 0], [0, 2], [0, 1], [2, 1], [1, 2], [0, 1, 0], [2, 1, 0], [1, 0, 2], [1, 0, 1], [0, 2, 1], [1, 2, 1], [0, 1, 2], [0, 1, 0, 1], [0, 2, 1, 0], [1, 2, 1, 0], [0, 1, 0, 2], [2, 1, 0, 1], [1, 0, 2, 1], [0, 1, 2, 1], [1, 0, 1, 2], [0, 2, 1, 0, 1], [1, 0, 2, 1, 0], [0, 1, 2, 1, 0], [0, 1, 0, 1, 2], [1, 2, 1, 0, 1], [0, 1, 0, 2, 1], [1, 0, 1, 2, 1], [2, 1, 0, 1, 2], [1, 0, 2, 1, 0, 1], [0, 1, 0, 2, 1, 0], [1, 0, 1, 2, 1, 0], [0, 2, 1, 0, 1, 2], [0, 1, 2, 1, 0, 1], [0, 1, 0, 1, 2, 1], [1, 2, 1, 0, 1, 2], [0, 1, 0, 2, 1, 0, 1], [0, 1, 0, 1, 2, 1, 0], [1, 0, 2, 1, 0, 1, 2], [1, 0, 1, 2, 1, 0, 1], [0, 1, 2, 1, 0, 1, 2], [0, 1, 0, 1, 2, 1, 0, 1], [0, 1, 0, 2, 1, 0, 1, 2], [1, 0, 1, 2, 1, 0, 1, 2], [0, 1, 0, 1, 2, 1, 0, 1, 2]], 2434877636975217862482688881972304581909139468932847687748512475943115255407616333746964752112704982200603650908813262485086127174488538310630768962586355997147371237129179640969184597690377808208367586710629380568240810530209509003259856022223553333655463605893555265867741095278621930101083379541512396581168553267037398234635937008106680691667879940959587395160340834287997905307207141609628453809410404587579905335313613790802979284356821121388139636643234113607463370532986838810133213069073118177460204988080224660433782900341203921264619922935919609165882143914487450525127726764830456668873247047446661789268263754470581605587093016366843830924232900237245068978655550773407873, 2434877636975217856437075149254335367893013909864301250722960549565792185407592477971990085922811172071903914965244500696790733421922025844200352495511372493238417198396239229701428188129379406148133259171832120283700282880185236364700397114393829719964700882340502598332980620451209478328469223722537978495380171054380057072708713286735907338820350493102187275151082848245707475448313227049436401963697287538145181927913772384160459660855587592500916588313334143657312449190162856463713513589447560287866147343097252596501959297863861980482998167888979083480446156428244073219610390004507516157367878591499392614679979539211218784325402339621927624040943556205902537134364117304356993, 88647552419585226792745635006067663200107573920677371122861620398411792618019162679341773286608023933546838633792854964004152167528965889462958514559596691453089822998824404783663348075081058921711040404921398212475880157650427116848077043479834269587428127395933591189848586271477843865713462339884588499433475519393512150394921666168838320073678677943475670994022399192742214638507996426221245430149568074513980812280692848245811895182130203741728521536140445576311524200943963922624696133632921281832123767912880449649688838834417635422960687979462689964734956368562951136529784279646351779743647103831252995603008153050209000713655807770908621881371392538108070498195406617776771317749429928892041116307989734971590806932106230588954193420321977925807307749667417239798643687361322381303837770210241965823466168141553109131674847628228948184972028932165268057501835571624669510645541921783774074309939615166420221953⟩
def m21 : List (List Int) := [[0, 0, 0], [0, 0, 1], [0, 1, 0]]
def t21 : Tab := ⟨[[1, 1, 1], [-1, 1, 1], [1, -1, 2], [1, 2, -1], [-1, -1, 2], [-1, 2, -1], [1, 1, -2], [1, -2, 1], [-1, 1, -2], [-1, -2, 1], [1, -1, -1], [-1, -1, -1]], [[], [0], [1], [2], [0, 1], [0, 2], [2, 1], [1, 2], [0, 2, 1], [0, 1, 2], [1, 2, 1], [0, 1, 2, 1]], 32850857641170391514817219974580009596866712675380066651910605244894047416154772592282383782687050961534208716080130714155514987027141301833941107782898444742439041, 29307963027967611776463766025382888831177638340283697086834394471657592533732898573246818602448042689564889591124712192158370426051689481437757829669587152267128961, 344644104269449432200036896645363708090742137056615601800070811067185790893510499743638231080505041246561673931493649602304049632571458611723932836472399760397990219528175522741147130278226177699556310812502226108417⟩
def m22 : List (List Int) := [[0, 0, 1], [0, 0, 0], [1, 0, 0]]
def t22 : Tab := ⟨[[1, 1, 1], [-1, 1, 2], [1, -1, 1], [2, 1, -1], [-1, -1, 2], [1, 1, -2], [2, -1, -1], [-2, 1, 1], [1, -1, -2], [-1, 1, -1], [-2, -1, 1], [-1, -1, -1]], [[], [0], [1], [2], [0, 1], [2, 0], [1, 2], [0, 2], [1, 2, 0], [0, 2, 0], [0, 1, 2], [0, 1, 2, 0]], 36504467711035796470675159991153092586356684965131847170786774380267437009979816688166439374441713350363068082420369497455866233166545678977543456739569292923646081, 29307963027967586203099641836819956773401607305324653132310836668957029746387852185069471012538726629125486100714338033351022194997503566859981350587417149973737601, 344644104269449432200119020576480907604672731537488744953237679129895872028460221128300945205502735079749306641586162942873937491486437887175334918450287968699325087749142960045205193734219412072943603343316433764353⟩
def m23 : List (List Int) := [[0, 1, 0], [1, 0, 0], [0, 0, 0]]
def t23 : Tab := ⟨[[1, 1, 1], [-1, 2, 1], [2, -1, 1], [1, 1, -1], [1, -2, 1], [-1, 2, -1], [-2, 1, 1], [2, -1, -1], [-1, -1, 1], [1, -2, -1], [-2, 1, -1], [-1, -1, -1]], [[], [0], [1], [2], [1, 0], [0, 2], [0, 1], [1, 2], [0, 1, 0], [1, 0, 2], [0, 1, 2], [0, 1, 0, 2]], 29363320756298905799886014753052509036309137338278326944918981027628537280076730959654457549580578546701951627407578146772991913848737917819317169805806690751230081, 29307963027967611376879951584935883214333192924236681554444522828102645678770063475029824339729002685216308311645711432830830421661851992650913725811884150933696641, 344644104269449432200192019626362862728175936891209411705116644524115044227266209328246878202345036866658014092976456013764533999674075049214988554668319841463062783264387989598249879456244419535567426349310425432065⟩
def m24 : List (List Int) := [[0, 0, 0], [0, 0, 2], [0, 1, 0]]
def t24 : Tab := ⟨[[1, 1, 1], [-1, 1, 1], [1, -1, 3], [1, 2, -1], [-1, -1, 3], [-1, 2, -1], [1, 2, -3], [1, -2, 3], [-1, 2, -3], [-1, -2, 3], [1, -2, 1], [1, 1, -3], [-1, -2, 1], [-1, 1, -3], [1, -1, -1], [-1, -1, -1]], [[], [0], [1], [2], [0, 1], [0, 2], [2, 1], [1, 2], [0, 2, 1], [0, 1, 2], [1, 2, 1], [2, 1, 2], [0, 1, 2, 1], [0, 2, 1, 2], [1, 2, 1, 2], [0, 1, 2, 1, 2]], 275771581850573977684068972467266517414798098836899567949239469894371172455626483647947891460907636240110617182842079628254922537979402005731527799480092153672901075060456969557751205906757902166351739229050422211356143745, 275771581850573977684068972466981364876196711651563640418158292735401872462274412290948769110179491348731389373916489400228837970436344976041147956097121208494224571296001801665659729750424660371144178884818848371554922625, 638659153737098939741345713566058780362129439598566234762110212832732760656845378871930281169149546529699969854963171639338877755788661315379477639165842078291867213145510040613072615043035608334884496428683438600220728882654378871238073598933388850756393822733423078302641112217651075356819457⟩
def m25 : List (List Int) := [[0, 0, 0], [0, 0, 1], [0, 2, 0]]
def t25 : Tab := ⟨[[1, 1, 1], [-1, 1, 1], [1, -1, 2], [1, 3, -1], [-1, -1, 2], [-1, 3, -1], [1, 3, -2], [1, -3, 2], [-1, 3, -2], [-1, -3, 2], [1, -3, 1], [1, 1, -2], [-1, -3, 1], [-1, 1, -2], [1, -1, -1], [-1, -1, -1]], [[], [0], [1], [2], [0, 1], [0, 2], [2, 1], [1, 2], [0, 2, 1], [0, 1, 2], [1, 2, 1], [2, 1, 2], [0, 1, 2, 1], [0, 2, 1, 2], [1, 2, 1, 2], [0, 1, 2, 1, 2]], 275771581850573977684068972467266517414798098836899567949239469894371172455626483647947891460907636240110617182842079628254922537979402005731527799480092153672901075060456969557751205906757902166351739229050422211356143745, 275771581850573977684068972466981364876196711651563640418158292735401872462274412290948769110179491348731389373916489400228837970436344976041147956097121208494224571296001801665659729750424660371144178884818848371554922625, 638659153737098939741345713566058780362129439598566234762110212832732760656845378871930281169149546529699969854963171639338877755788661315379477639165842078291867213145510040613072615043035608334884496428683438600220728882654378871238073598933388850756393822733423078302641112217651075356819457⟩
def m26 : List (List Int) := [[0, 0, 2], [0, 0, 0], [1, 0, 0]]
def t26 : Tab := ⟨[[1, 1, 1], [-1, 1, 3], [1, -1, 1], [2, 1, -1], [-1, -1, 3], [2, 1, -3], [2, -1, -1], [-2, 1, 3], [2, -1, -3], [-2, 1, 1], [-2, -1, 3], [1, 1, -3], [-2, -1, 1], [-1, 1, -1], [1, -1, -3], [-1, -1, -1]], [[], [0], [1], [2], [0, 1], [2, 0], [1, 2], [0, 2], [1, 2, 0], [0, 2, 0], [0, 1, 2], [2, 0, 2], [0, 1, 2, 0], [0, 2, 0, 2], [1, 2, 0, 2], [0, 1, 2, 0, 2]], 275771581850573977684068972467266517414798098852234052840571951006122328759025670846044367601045637265626824107487224490456914726829948478827697244823115029980696535526036373427849842547018597736556973567130179604838363265, 275771581850573817157460648847469543507636145723802152659019908858868246862443615639275423445734845742650371856374169721745420634785619515570943436179546479183154645400514704051818440650669833194118861314295775751766552705, 638659153737098939741507371692586293927503518345418407356895477727962364397529686596059974919156706386825790603912494622630098861342791222910821095976758452270858016019791557861244150213460206685959287901115483038354333446046131295690938541214715908827779197594591204848832880744791451866497025⟩
def m27 : List (List Int) := [[0, 2, 0], [1, 0, 0], [0, 0, 0]]
def t27 : Tab := ⟨[[1, 1, 1], [-1, 3, 1], [2, -1, 1], [1, 1, -1], [2, -3, 1], [-1, 3, -1], [-2, 3, 1], [2, -1, -1], [-2, 1, 1], [2, -3, -1], [1, -3, 1], [-2, 3, -1], [-1, -1, 1], [-2, 1, -1], [1, -3, -1], [-1, -1, -1]], [[], [0], [1], [2], [1, 0], [0, 2], [0, 1], [1, 2], [0, 1, 0], [1, 0, 2], [1, 0, 1], [0, 1, 2], [0, 1, 0, 1], [0, 1, 0, 2], [1, 0, 1, 2], [0, 1, 0, 1, 2]], 275771581850573977684068972466981225641558722677140175840468778793029265447650685680323845473219336896424386027221595992641113935175924262876482630020094743552761983450199362775147060282498542011598073316405638518441783425, 275771581850573975175840717410422037158897306118095017208496423725332452855315788305901551451850701720481270980422467902168983628021929383215582567135339117799757293179269609876420300690554848789824256992025234528385642625, 638659153737098939741642615092557024230579454557689317094972749317662296470205394345865047842964038618963456406447418683276430314299248314541839618038795353243084802186424322810289746605162271445310271439577753786994750844731412886823102324240578450075301727662150230156799419866443540173160449⟩
def m28 : List (List Int) := [[0, 0, 1], [0, 0, 0], [2, 0, 0]]
def t28 : Tab := ⟨[[1, 1, 1], [-1, 1, 2], [1, -1, 1], [3, 1, -1], [-1, -1, 2], [3, 1, -2], [3, -1, -1], [-3, 1, 2], [3, -1, -2], [-3, 1, 1], [-3, -1, 2], [1, 1, -2], [-3, -1, 1], [-1, 1, -1], [1, -1, -2], [-1, -1, -1]], [[], [0], [1], [2], [0, 1], [2, 0], [1, 2], [0, 2], [1, 2, 0], [0, 2, 0], [0, 1, 2], [2, 0, 2], [0, 1, 2, 0], [0, 2, 0, 2], [1, 2, 0, 2], [0, 1, 2, 0, 2]], 275771581850573977684068972467266517414798098852234052840571951006122328759025670846044367601045637265626824107487224490456914726829948478827697244823115029980696535526036373427849842547018597736556973567130179604838363265, 275771581850573817157460648847469543507636145723802152659019908858868246862443615639275423445734845742650371856374169721745420634785619515570943436179546479183154645400514704051818440650669833194118861314295775751766552705, 638659153737098939741507371692586293927503518345418407356895477727962364397529686596059974919156706386825790603912494622630098861342791222910821095976758452270858016019791557861244150213460206685959287901115483038354333446046131295690938541214715908827779197594591204848832880744791451866497025⟩
def m29 : List (List Int) := [[0, 1, 0], [2, 0, 0], [0, 0, 0]]
def t29 : Tab := ⟨[[1, 1, 1], [-1, 2, 1], [3, -1, 1], [1, 1, -1], [3, -2, 1], [-1, 2, -1], [-3, 2, 1], [3, -1, -1], [-3, 1, 1], [3, -2, -1], [1, -2, 1], [-3, 2, -1], [-1, -1, 1], [-3, 1, -1], [1, -2, -1], [-1, -1, -1]], [[], [0], [1], [2], [1, 0], [0, 2], [0, 1], [1, 2], [0, 1, 0], [1, 0, 2], [1, 0, 1], [0, 1, 2], [0, 1, 0, 1], [0, 1, 0, 2], [1, 0, 1, 2], [0, 1, 0, 1, 2]], 275771581850573977684068972466981225641558722677140175840468778793029265447650685680323845473219336896424386027221595992641113935175924262876482630020094743552761983450199362775147060282498542011598073316405638518441783425, 275771581850573975175840717410422037158897306118095017208496423725332452855315788305901551451850701720481270980422467902168983628021929383215582567135339117799757293179269609876420300690554848789824256992025234528385642625, 638659153737098939741642615092557024230579454557689317094972749317662296470205394345865047842964038618963456406447418683276430314299248314541839618038795353243084802186424322810289746605162271445310271439577753786994750844731412886823102324240578450075301727662150230156799419866443540173160449⟩
def m30 : List (List Int) := [[0, 0, 0], [0, 0, 3], [0, 1, 0]]
def t30 : Tab := ⟨[[1, 1, 1], [-1, 1, 1], [1, -1, 4], [1, 2, -1], [-1, -1, 4], [-1, 2, -1], [1, 3, -4], [1, -2, 5], [-1, 3, -4], [-1, -2, 5], [1, -3, 5], [1, 3, -5], [-1, -3, 5], [-1, 3, -5], [1, 2, -5], [1, -3, 4], [-1, 2, -5], [-1, -3, 4], [1, -2, 1], [1, 1, -4], [-1, -2, 1], [-1, 1, -4], [1, -1, -1], [-1, -1, -1]], [[], [0], [1], [2], [0, 1], [0, 2], [2, 1], [1, 2], [0, 2, 1], [0, 1, 2], [1, 2, 1], [2, 1, 2], [0, 1, 2, 1], [0, 2, 1, 2], [2, 1, 2, 1], [1, 2, 1, 2], [0, 2, 1, 2, 1], [0, 1, 2, 1, 2], [1, 2, 1, 2, 1], [2, 1, 2, 1, 2], [0, 1, 2, 1, 2, 1], [0, 2, 1, 2, 1, 2], [1, 2, 1, 2, 1, 2], [0, 1, 2, 1, 2, 1, 2]], 18100360206465201857135917516224724407602182098004153996666867764491408914044020981400335108759461869059773795368327862830733719646945058924086173031721970665171956633493569379498491659670736073293054963526938052081422818072936739122255727149183397650241878154614941089512983647047968585152517534503445739893306302252763774190689120694401, 18100360206465201857135917516213488825509292624204545935953894488065545322259247876516258044254626948929432547618295825844505263019153006804795798471769254517385437152903817167398669268177579467508996189828601600044826649552726412777127697381229328322441101684066831965088721646186131161175881905579027688078846218994907191813249060319361, 2192166251238828939932766740501293141710899452463327153723715385440892218231399911989260620815510218433511827129800833743942827109790019581822042041628582786937675393709507887625731290356257468084129768870235687085801561905113417180191230236600597698736336448316678674828550402359095712710423681598947002664670764140955866458657089174833374068628794247720093028612527638002724747135310837407462420439177208257246881444993515472292257031920202146643969⟩
def m31 : List (List Int) := [[0, 0, 0], [0, 0, 1], [0, 3, 0]]
def t31 : Tab := ⟨[[1, 1, 1], [-1, 1, 1], [1, -1, 2], [1, 4, -1], [-1, -1, 2], [-1, 4, -1], [1, 5, -2], [1, -4, 3], [-1, 5, -2], [-1, -4, 3], [1, -5, 3], [1, 5, -3], [-1, -5, 3], [-1, 5, -3], [1, 4, -3], [1, -5, 2], [-1, 4, -3], [-1, -5, 2], [1, -4, 1], [1, 1, -2], [-1, -4, 1], [-1, 1, -2], [1, -1, -1], [-1, -1, -1]], [[], [0], [1], [2], [0, 1], [0, 2], [2, 1], [1, 2], [0, 2, 1], [0, 1, 2], [1, 2, 1], [2, 1, 2], [0, 1, 2, 1], [0, 2, 1, 2], [2, 1, 2, 1], [1, 2, 1, 2], [0, 2, 1, 2, 1], [0, 1, 2, 1, 2], [1, 2, 1, 2, 1], [2, 1, 2, 1, 2], [0, 1, 2, 1, 2, 1], [0, 2, 1, 2, 1, 2], [1, 2, 1, 2, 1, 2], [0, 1, 2, 1, 2, 1, 2]], 18100360206465201857135917516224724407602182098004153996666867764491408914044020981400335108759461869059773795368327862830733719646945058924086173031721970665171956633493569379498491659670736073293054963526938052081422818072936739122255727149183397650241878154614941089512983647047968585152517534503445739893306302252763774190689120694401, 18100360206465201857135917516213488825509292624204545935953894488065545322259247876516258044254626948929432547618295825844505263019153006804795798471769254517385437152903817167398669268177579467508996189828601600044826649552726412777127697381229328322441101684066831965088721646186131161175881905579027688078846218994907191813249060319361, 2192166251238828939932766740501293141710899452463327153723715385440892218231399911989260620815510218433511827129800833743942827109790019581822042041628582786937675393709507887625731290356257468084129768870235687085801561905113417180191230236600597698736336448316678674828550402359095712710423681598947002664670764140955866458657089174833374068628794247720093028612527638002724747135310837407462420439177208257246881444993515472292257031920202146643969⟩
def m32 : List (List Int) := [[0, 0, 3], [0, 0, 0], [1, 0, 0]]
def t32 : Tab := ⟨[[1, 1, 1], [-1, 1, 4], [1, -1, 1], [2, 1, -1], [-1, -1, 4], [3, 1, -4], [2, -1, -1], [-2, 1, 5], [3, -1, -4], [-3, 1, 5], [-2, -1, 5], [3, 1, -5], [-3, -1, 5], [2, 1, -5], [3, -1, -5], [-3, 1, 4], [2, -1, -5], [-2, 1, 1], [-3, -1, 4], [1, 1, -4], [-2, -1, 1], [-1, 1, -1], [1, -1, -4], [-1, -1, -1]], [[], [0], [1], [2], [0, 1], [2, 0], [1, 2], [0, 2], [1, 2, 0], [0, 2, 0], [0, 1, 2], [2, 0, 2], [0, 1, 2, 0], [2, 0, 2, 0], [1, 2, 0, 2], [0, 2, 0, 2], [1, 2, 0, 2, 0], [0, 2, 0, 2, 0], [0, 1, 2, 0, 2], [2, 0, 2, 0, 2], [0, 1, 2, 0, 2, 0], [0, 2, 0, 2, 0, 2], [1, 2, 0, 2, 0, 2], [0, 1, 2, 0, 2, 0, 2]], 18100360206465201857135917516224724407602182098608363465373667707473318622099416839706603268927054755144026604174182681851240606362569503557207018965118946803463754490973922685725710205800780443016772591850212206354389976136286011670893889782338264697415555796331115114386867901506246202830441105788698335315349047312875330543088067162241, 18100360206465195532065501662767900892122597132462008794750878950226091311673721734311261923859615093117922106154334809518515295786946933303251560512809327816873993883903765875272701250627494473081636118582015398102763234019333244928157083447931367445936224352581102549007292975092803110670192641748659445451578329722253765881579966574721, 2192166251238828939933323783146767523556513367206019724368658747193054008328833085929647701962521918615092122484464580815805925529737142196727155950205863736108565307849992373318021029215929990628858409391852674544495022362878563751443115514241849572254538093137259223092926628186233080602901944298776144132739710969277428591411832334231943602301676406125444093621079518062120815233642999279252218454185737053806595988228263142681098409059085008764929⟩
def m33 : List (List Int) := [[0, 3, 0], [1, 0, 0], [0, 0, 0]]
def t33 : Tab := ⟨[[1, 1, 1], [-1, 4, 1], [2, -1, 1], [1, 1, -1], [3, -4, 1], [-1, 4, -1], [-2, 5, 1], [2, -1, -1], [-3, 5, 1], [3, -4, -1], [3, -5, 1], [-2, 5, -1], [2, -5, 1], [-3, 5, -1], [-3, 4, 1], [3, -5, -1], [-2, 1, 1], [2, -5, -1], [1, -4, 1], [-3, 4, -1], [-1, -1, 1], [-2, 1, -1], [1, -4, -1], [-1, -1, -1]], [[], [0], [1], [2], [1, 0], [0, 2], [0, 1], [1, 2], [0, 1, 0], [1, 0, 2], [1, 0, 1], [0, 1, 2], [1, 0, 1, 0], [0, 1, 0, 2], [0, 1, 0, 1], [1, 0, 1, 2], [0, 1, 0, 1, 0], [1, 0, 1, 0, 2], [1, 0, 1, 0, 1], [0, 1, 0, 1, 2], [0, 1, 0, 1, 0, 1], [0, 1, 0, 1, 0, 2], [1, 0, 1, 0, 1, 2], [0, 1, 0, 1, 0, 1, 2]], 18100360206465201857135917516213483339385223829892162583288043151979796419992982180640187637133434533485755398515770978623994927547790214866708294318283409035075479003963196640158350413972319397727465439807801822605242145414250820720233414632297080143535057011308036038955370993523727231558141194270506388194557425969136668824427030392961, 18100360206465201758306692268503225958079924108484504506432941711824624036448309064952593826706231902590045773579486004174767882088857503234022980188899683548727487443256110540771330139158340973670783810952478152518128946195519927023030415825736218810883825836036597560402670422617354729889841180374044456982974869393824900489555197571201, 2192166251238828939933787992434601112333998566764925680966993909912396780453287990905200164866682931411367825104395384327027855064469316231692878779822770910326759736187540714569725270395800264211662603301008157863117773276473342120393528395651708137126640292900936835473758150771948420110523532609464130314868027108598079354982586026632874452846448494589738797510011757303681489401431570397770650526124957817777940934199612110737857701723048987590657⟩
def m34 : List (List Int) := [[0, 0, 1], [0, 0, 0], [3, 0, 0]]
def t34 : Tab := ⟨[[1, 1, 1], [-1, 1, 2], [1, -1, 1], [4, 1, -1], [-1, -1, 2], [5, 1, -2], [4, -1, -1], [-4, 1, 3], [5, -1, -2], [-5, 1, 3], [-4, -1, 3], [5, 1, -3], [-5, -1, 3], [4, 1, -3], [5, -1, -3], [-5, 1, 2], [4, -1, -3], [-4, 1, 1], [-5, -1, 2], [1, 1, -2], [-4, -1, 1], [-1, 1, -1], [1, -1, -2], [-1, -1, -1]], [[], [0], [1], [2], [0, 1], [2, 0], [1, 2], [0, 2], [1, 2, 0], [0, 2, 0], [0, 1, 2], [2, 0, 2], [0, 1, 2, 0], [2, 0, 2, 0], [1, 2, 0, 2], [0, 2, 0, 2], [1, 2, 0, 2, 0], [0, 2, 0, 2, 0], [0, 1, 2, 0, 2], [2, 0, 2, 0, 2], [0, 1, 2, 0, 2, 0], [0, 2, 0, 2, 0, 2], [1, 2, 0, 2, 0, 2], [0, 1, 2, 0, 2, 0, 2]], 18100360206465201857135917516224724407602182098608363465373667707473318622099416839706603268927054755144026604174182681851240606362569503557207018965118946803463754490973922685725710205800780443016772591850212206354389976136286011670893889782338264697415555796331115114386867901506246202830441105788698335315349047312875330543088067162241, 18100360206465195532065501662767900892122597132462008794750878950226091311673721734311261923859615093117922106154334809518515295786946933303251560512809327816873993883903765875272701250627494473081636118582015398102763234019333244928157083447931367445936224352581102549007292975092803110670192641748659445451578329722253765881579966574721, 2192166251238828939933323783146767523556513367206019724368658747193054008328833085929647701962521918615092122484464580815805925529737142196727155950205863736108565307849992373318021029215929990628858409391852674544495022362878563751443115514241849572254538093137259223092926628186233080602901944298776144132739710969277428591411832334231943602301676406125444093621079518062120815233642999279252218454185737053806595988228263142681098409059085008764929⟩
def m35 : List (List Int) := [[0, 1, 0], [3, 0, 0], [0, 0, 0]]
def t35 : Tab := ⟨[[1, 1, 1], [-1, 2, 1], [4, -1, 1], [1, 1, -1], [5, -2, 1], [-1, 2, -1], [-4, 3, 1], [4, -1, -1], [-5, 3, 1], [5, -2, -1], [5, -3, 1], [-4, 3, -1], [4, -3, 1], [-5, 3, -1], [-5, 2, 1], [5, -3, -1], [-4, 1, 1], [4, -3, -1], [1, -2, 1], [-5, 2, -1], [-1, -1, 1], [-4, 1, -1], [1, -2, -1], [-1, -1, -1]], [[], [0], [1], [2], [1, 0], [0, 2], [0, 1], [1, 2], [0, 1, 0], [1, 0, 2], [1, 0, 1], [0, 1, 2], [1, 0, 1, 0], [0, 1, 0, 2], [0, 1, 0, 1], [1, 0, 1, 2], [0, 1, 0, 1, 0], [1, 0, 1, 0, 2], [1, 0, 1, 0, 1], [0, 1, 0, 1, 2], [0, 1, 0, 1, 0, 1], [0, 1, 0, 1, 0, 2], [1, 0, 1, 0, 1, 2], [0, 1, 0, 1, 0, 1, 2]], 18100360206465201857135917516213483339385223829892162583288043151979796419992982180640187637133434533485755398515770978623994927547790214866708294318283409035075479003963196640158350413972319397727465439807801822605242145414250820720233414632297080143535057011308036038955370993523727231558141194270506388194557425969136668824427030392961, 18100360206465201758306692268503225958079924108484504506432941711824624036448309064952593826706231902590045773579486004174767882088857503234022980188899683548727487443256110540771330139158340973670783810952478152518128946195519927023030415825736218810883825836036597560402670422617354729889841180374044456982974869393824900489555197571201, 2192166251238828939933787992434601112333998566764925680966993909912396780453287990905200164866682931411367825104395384327027855064469316231692878779822770910326759736187540714569725270395800264211662603301008157863117773276473342120393528395651708137126640292900936835473758150771948420110523532609464130314868027108598079354982586026632874452846448494589738797510011757303681489401431570397770650526124957817777940934199612110737857701723048987590657⟩
def m36 : List (List Int) := [[0, 1, 0, 0], [1, 0, 0, 0], [0, 0, 0, 1], [0, 0, 1, 0]]
def t36 : Tab := ⟨[[1, 1, 1, 1], [-1, 2, 1, 1], [2, -1, 1, 1], [1, 1, -1, 2], [1, 1, 2, -1], [1, -2, 1, 1], [-1, 2, -1, 2], [-1, 2, 2, -1], [-2, 1, 1, 1], [2, -1, -1, 2], [2, -1, 2, -1], [1, 1, 1, -2], [1, 1, -2, 1], [-1, -1, 1, 1], [1, -2, -1, 2], [1, -2, 2, -1], [-1, 2, 1, -2], [-1, 2, -2, 1], [-2, 1, -1, 2], [-2, 1, 2, -1], [2, -1, 1, -2], [2, -1, -2, 1], [1, 1, -1, -1], [-1, -1, -1, 2], [-1, -1, 2, -1], [1, -2, 1, -2], [1, -2, -2, 1], [-1, 2, -1, -1], [-2, 1, 1, -2], [-2, 1, -2, 1], [2, -1, -1, -1], [-1, -1, 1, -2], [-1, -1, -2, 1], [1, -2, -1, -1], [-2, 1, -1, -1], [-1, -1, -1, -1]], [[], [0], [1], [2], [3], [1, 0], [0, 2], [0, 3], [0, 1], [1, 2], [1, 3], [3, 2], [2, 3], [0, 1, 0], [1, 0, 2], [1, 0, 3], [0, 3, 2], [0, 2, 3], [0, 1, 2], [0, 1, 3], [1, 3, 2], [1, 2, 3], [2, 3, 2], [0, 1, 0, 2], [0, 1, 0, 3], [1, 0, 3, 2], [1, 0, 2, 3], [0, 2, 3, 2], [0, 1, 3, 2], [0, 1, 2, 3], [1, 2, 3, 2], [0, 1, 0, 3, 2], [0, 1, 0, 2, 3], [1, 0, 2, 3, 2], [0, 1, 2, 3, 2], [0, 1, 0, 2, 3, 2]], 457846393017823544876338672631037774507482398698996466940021701580687463030716956730061375730051283551426586026477064363824020763802631026681399870936565668655483803588971195324023162573200679835763259498676863903383960187600462664797415327078808793087874122706546100744689638109004552248314818456193295257832968999337927265857202920567217823047292841351296859320423626437249644955589375020456416293560032951490625170695752975902472619224343024476408316317278176814513471382076252079174657834319268157011193245825, 443972471645441814881286669235109583667269995256815279517152587939108072998856090373118453523809729891593722334814112912916224213347690696445455609051502886553982199345692469515135598511142972579409447228662868276252805358333161884308514287380420150900813686591882407148982433516318234782139477713043276864113091900551244555000742187573809218481031230886204625959761516214549526356782608409817979758844524960138327564018538495995814638814248904347231739373732995956236007838895974777121097311613937502587236397185, 13940236161789593789416919348472003644851265031293267101303228822242344510804701135712896855961643070728296002031693294409278357386100542987260882250817295192511777567733478974448431499805478249497208100913984133590611216457392051560695506627123214760783318262942569902289920554097683413563824964660627682734123701456960157513615142488456884912048958932419463964586320528164949620914561220421179098606797345228207203868446015159781527997471136510068159366974050374450559432350793415064876479807707683351815047424171963034168988554908643684292567742874634690971778980631942849440368783444142828292757034461852606069327891623366585267895603966537816894879995999661487723789076927585714177⟩
def m37 : List (List Int) := [[0, 0, 1, 0], [0, 0, 0, 1], [1, 0, 0, 0], [0, 1, 0, 0]]
def t37 : Tab := ⟨[[1, 1, 1, 1], [-1, 1, 2, 1], [1, -1, 1, 2], [2, 1, -1, 1], [1, 2, 1, -1], [-1, -1, 2, 2], [1, 1, -2, 1], [-1, 2, 2, -1], [2, -1, -1, 2], [1, 1, 1, -2], [-2, 1, 1, 1], [2, 2, -1, -1], [1, -2, 1, 1], [1, -1, -2, 2], [-1, 1, 2, -2], [-1, 1, -1, 1], [1, 2, -2, -1], [-1, -2, 2, 1], [-2, -1, 1, 2], [2, 1, -1, -2], [1, -1, 1, -1], [-2, 2, 1, -1], [2, -2, -1, 1], [-1, -1, -1, 2], [1, 1, -2, -2], [-1, -1, 2, -1], [-1, 2, -1, -1], [1, -2, -2, 1], [-2, 1, 1, -2], [2, -1, -1, -1], [-2, -2, 1, 1], [-1, 1, -1, -2], [1, -1, -2, -1], [-1, -2, -1, 1], [-2, -1, 1, -1], [-1, -1, -1, -1]], [[], [0], [1], [2], [3], [0, 1], [2, 0], [0, 3], [1, 2], [3, 1], [0, 2], [2, 3], [1, 3], [1, 2, 0], [0, 3, 1], [0, 2, 0], [2, 0, 3], [0, 1, 3], [0, 1, 2], [2, 3, 1], [1, 3, 1], [0, 2, 3], [1, 2, 3], [0, 1, 2, 0], [2, 0, 3, 1], [0, 1, 3, 1], [0, 2, 0, 3], [1, 2, 0, 3], [0, 2, 3, 1], [1, 2, 3, 1], [0, 1, 2, 3], [0, 2, 0, 3, 1], [1, 2, 0, 3, 1], [0, 1, 2, 0, 3], [0, 1, 2, 3, 1], [0, 1, 2, 0, 3, 1]], 472587222828411214614594935949436304241255083367673201741213938856521281351566539688551931219596582277884515773193613236189892283712879776221159894243560487327740784798992948678238426970771850176743541451097433326865162715511195483496327197447893827318659318849047407502819265928965236974095533021726173489285970769970278630351365181879445349770065184852167857543601298260240135495324776454838006420110533199353427325811362247444849763469877708013671033614639862735602728470970974429039035413711860602956690763905, 443972471645441811789187466574061299773298950836239102825781497242065294876595397631723337444515599997384205197150761210642482001599292501772631679219108790848561464685770046792061598987448558585279053199345828384794233757776975970146280062096708686891640663759436815919079164342623823672362518217784888191376815093634766809638071126578213789637859088563267877992530336899923469033913465977942913121043550033755788921928726441053828234574890644445144157171900155217875156220219316589382537511765438244269088321665, 13940236161789593789415811822663703493751669154171340366698279046706744240382207461278444935257574750029395704825196785557818150343174403577673024884445114575529536679320687693761256363467762264538190615459134761360978034223642324555286070935065984049358631351356218664107608329476880166728486317404756542793086782706524807525555329717572698653751620069038804976046087463388969588720551032994946433327503093679060973377829566606270620029530652906483159221177958223022177263233517034989690774962755504711591879338010095969979401897603819473550287248015530710022095047503625579054654074800896640578775181111902524716251533064352163085558112055065305682897303716153066809280920233478979585⟩
def m38 : List (List Int) := [[0, 0, 0, 1], [0, 0, 1, 0], [0, 1, 0, 0], [1, 0, 0, 0]]
def t38 : Tab := ⟨[[1, 1, 1, 1], [-1, 1, 1, 2], [1, -1, 2, 1], [1, 2, -1, 1], [2, 1, 1, -1], [-1, -1, 2, 2], [-1, 2, -1, 2], [1, 1, 1, -2], [1, 1, -2, 1], [2, -1, 2, -1], [1, -2, 1, 1], [2, 2, -1, -1], [-2, 1, 1, 1], [-1, 1, -2, 2], [1, -1, 2, -2], [-1, -2, 1, 2], [1, 2, -1, -2], [-1, 1, 1, -1], [1, -1, -1, 1], [2, 1, -2, -1], [-2, -1, 2, 1], [2, -2, 1, -1], [-2, 2, -1, 1], [-1, -1, -1, 2], [1, 1, -2, -2], [-1, -1, 2, -1], [1, -2, 1, -2], [-1, 2, -1, -1], [2, -1, -1, -1], [-2, 1, -2, 1], [-2, -2, 1, 1], [1, -1, -1, -2], [-1, 1, -2, -1], [-1, -2, 1, -1], [-2, -1, -1, 1], [-1, -1, -1, -1]], [[], [0], [1], [2], [3], [0, 1], [0, 2], [3, 0], [2, 1], [1, 3], [1, 2], [2, 3], [0, 3], [0, 2, 1], [1, 3, 0], [0, 1, 2], [2, 3, 0], [0, 3, 0], [1, 2, 1], [2, 1, 3], [0, 1, 3], [1, 2, 3], [0, 2, 3], [0, 1, 2, 1], [2, 1, 3, 0], [0, 1, 3, 0], [1, 2, 3, 0], [0, 2, 3, 0], [1, 2, 1, 3], [0, 2, 1, 3], [0, 1, 2, 3], [1, 2, 1, 3, 0], [0, 2, 1, 3, 0], [0, 1, 2, 3, 0], [0, 1, 2, 1, 3], [0, 1, 2, 1, 3, 0]], 486461144200793141637016513625880654240890941554449882144922124936921155393141501271254324596776708199372297935633722613711259682924260839439606712502755444169038407928718268974681166020007053912199375417409559226276331999656752679585741036813606368405029310864925519113544676560150800860764635749053030980277082674676532236340343454760302248737297712030642134050685137121278156729648588639337623541716710709136030630033967140605757456525043271605813210956882537764853599586874384513161795034894615828812249706625, 443972471645441564616799029381296679587796607246128395267835196105537584750027582167833078068720889115467754177272210723843684477024922927430128272776746894149746355931468809475388865905769416962555475828956769955455263247645736959260701251867519902732750413579041098979240128341537391786360346515795838351738864902865475712568631061291371621283464327029381192368725124848672166997032944364122577951753329320641552624534386487488634502058971135495910277059413126012469683711003305468183732548690056580168588210305, 13940236161789593789415533904599157056151829894219278214039655513820219488051577778700815152130915016740299125271653788483612341844011145769673046996174326300900329230018126723903703412263182144252505400095353688512095912618592906184959492336413057668987313321184419371233994882765519372653081608267077668652449338252665998072606621967188757894805024696936156266260676518060625767170828001416824578917421941171605641319787176374038610934555023901931162596171914866653917714739001107096288241070897132012438947993377253104141469768937253474915830680267001314130245086402048535559905050665370977818851340796377787153217482695850478443170689315868702835924682538496337264204045732846501889⟩
def m39 : List (List Int) := [[0, 0, 0], [0, 0, 0], [0, 0, 0]]
def t39 : Tab := ⟨[[1, 1, 1], [-1, 1, 1], [1, -1, 1], [1, 1, -1], [-1, -1, 1], [-1, 1, -1], [1, -1, -1], [-1, -1, -1]], [[], [0], [1], [2], [0, 1], [0, 2], [1, 2], [0, 1, 2]], 2339133415111948445440205496296417172379285210086071316217055974458023422177851895180594385534843350954113, 2339133415111948445440205496296417172379285210086071316217055974458023422177851895180594385534843350954113, 185343874695379757093111525488563531159615880505521762768316789866306606875771203961337792879530218657373650166095551238888872698550681601⟩

theorem law0 : LawM m0 t0.Rm (plOf m0) := law_of (by decide +kernel) (by decide +kernel) (by decide +kernel) (by decide +kernel) (by decide +kernel)
theorem law1 : LawM m1 t1.Rm (plOf m1) := law_of (by decide +kernel) (by decide +kernel) (by decide +kernel) (by decide +kernel) (by decide +kernel)
theorem law2 : LawM m2 t2.Rm (plOf m2) := law_of (by decide +kernel) (by decide +kernel) (by decide +kernel) (by decide +kernel) (by decide +kernel)
theorem law3 : LawM m3 t3.Rm (plOf m3) := law_of (by decide +kernel) (by decide +kernel) (by decide +kernel) (by decide +kernel) (by decide +kernel)
theorem law4 : LawM m4 t4.Rm (plOf m4) := law_of (by decide +kernel) (by decide +kernel) (by decide +kernel) (by decide +kernel) (by decide +kernel)
theorem law5 : LawM m5 t5.Rm (plOf m5) := law_of (by decide +kernel) (by decide +kernel) (by decide +kernel) (by decide +kernel) (by decide +kernel)
theorem law6 : LawM m6 t6.Rm (plOf m6) := law_of (by decide +kernel) (by decide +kernel) (by decide +kernel) (by decide +kernel) (by decide +kernel)
theorem law7 : LawM m7 t7.Rm (plOf m7) := law_of (by decide +kernel) (by decide +kernel) (by decide +kernel) (by decide +kernel) (by decide +kernel)
theorem law8 : LawM m8 t8.Rm (plOf m8) := law_of (by decide +kernel) (by decide +kernel) (by decide +kernel) (by decide +kernel) (by decide +kernel)
theorem law9 : LawM m9 t9.Rm (plOf m9) := law_of (by decide +kernel) (by decide +kernel) (by decide +kernel) (by decide +kernel) (by decide +kernel)
theorem law10 : LawM m10 t10.Rm (plOf m10) := law_of (by decide +kernel) (by decide +kernel) (by decide +kernel) (by decide +kernel) (by decide +kernel)
theorem law11 : LawM m11 t11.Rm (plOf m11) := law_of (by decide +kernel) (by decide +kernel) (by decide +kernel) (by decide +kernel) (by decide +kernel)
theorem law12 : LawM m12 t12.Rm (plOf m12) := law_of (by decide +kernel) (by decide +kernel) (by decide +kernel) (by decide +kernel) (by decide +kernel)
theorem law13 : LawM m13 t13.Rm (plOf m13) := law_of (by decide +kernel) (by decide +kernel) (by decide +kernel) (by decide +kernel) (by decide +kernel)
theorem law14 : LawM m14 t14.Rm (plOf m14) := law_of (by decide +kernel) (by decide +kernel) (by decide +kernel) (by decide +kernel) (by decide +kernel)
theorem law15 : LawM m15 t15.Rm (plOf m15) := law_of (by decide +kernel) (by decide +kernel) (by decide +kernel) (by decide +kernel) (by decide +kernel)
theorem law16 : LawM m16 t16.Rm (plOf m16) := law_of (by decide +kernel) (by decide +kernel) (by decide +kernel) (by decide +kernel) (by decide +kernel)
theorem law17 : LawM m17 t17.Rm (plOf m17) := law_of (by decide +kernel) (by decide +kernel) (by decide +kernel) (by decide +kernel) (by decide +kernel)
theorem law18 : LawM m18 t18.Rm (plOf m18) := law_of (by decide +kernel) (by decide +kernel) (by decide +kernel) (by decide +kernel) (by decide +kernel)
theorem law19 : LawM m19 t19.Rm (plOf m19) := law_of (by decide +kernel) (by decide +kernel) (by decide +kernel) (by decide +kernel) (by decide +kernel)
theorem law20 : LawM m20 t20.Rm (plOf m20) := law_of (by decide +kernel) (by decide +kernel) (by decide +kernel) (by decide +kernel) (by decide +kernel)
theorem law21 : LawM m21 t21.Rm (plOf m21) := law_of (by decide +kernel) (by decide +kernel) (by decide +kernel) (by decide +kernel) (by decide +kernel)
theorem law22 : LawM m22 t22.Rm (plOf m22) := law_of (by decide +kernel) (by decide +kernel) (by decide +kernel) (by decide +kernel) (by decide +kernel)
theorem law23 : LawM m23 t23.Rm (plOf m23) := law_of (by decide +kernel) (by decide +kernel) (by decide +kernel) (by decide +kernel) (by decide +kernel)
theorem law24 : LawM m24 t24.Rm (plOf m24) := law_of (by decide +kernel) (by decide +kernel) (by decide +kernel) (by decide +kernel) (by decide +kernel)
theorem law25 : LawM m25 t25.Rm (plOf m25) := law_of (by decide +kernel) (by decide +kernel) (by decide +kernel) (by decide +kernel) (by decide +kernel)
theorem law26 : LawM m26 t26.Rm (plOf m26) := law_of (by decide +kernel) (by decide +kernel) (by decide +kernel) (by decide +kernel) (by decide +kernel)
theorem law27 : LawM m27 t27.Rm (plOf m27) := law_of (by decide +kernel) (by decide +kernel) (by decide +kernel) (by decide +kernel) (by decide +kernel)
theorem law28 : LawM m28 t28.Rm (plOf m28) := law_of (by decide +kernel) (by decide +kernel) (by decide +kernel) (by decide +kernel) (by decide +kernel)
theorem law29 : LawM m29 t29.Rm (plOf m29) := law_of (by decide +kernel) (by decide +kernel) (by decide +kernel) (by decide +kernel) (by decide +kernel)
theorem law30 : LawM m30 t30.Rm (plOf m30) := law_of (by decide +kernel) (by decide +kernel) (by decide +kernel) (by decide +kernel) (by decide +kernel)
theorem law31 : LawM m31 t31.Rm (plOf m31) := law_of (by decide +kernel) (by decide +kernel) (by decide +kernel) (by decide +kernel) (by decide +kernel)
theorem law32 : LawM m32 t32.Rm (plOf m32) := law_of (by decide +kernel) (by decide +kernel) (by decide +kernel) (by decide +kernel) (by decide +kernel)
theorem law33 : LawM m33 t33.Rm (plOf m33) := law_of (by decide +kernel) (by decide +kernel) (by decide +kernel) (by decide +kernel) (by decide +kernel)
theorem law34 : LawM m34 t34.Rm (plOf m34) := law_of (by decide +kernel) (by decide +kernel) (by decide +kernel) (by decide +kernel) (by decide +kernel)
theorem law35 : LawM m35 t35.Rm (plOf m35) := law_of (by decide +kernel) (by decide +kernel) (by decide +kernel) (by decide +kernel) (by decide +kernel)
theorem law36 : LawM m36 t36.Rm (plOf m36) := law_of (by decide +kernel) (by decide +kernel) (by decide +kernel) (by decide +kernel) (by decide +kernel)
theorem law37 : LawM m37 t37.Rm (plOf m37) := law_of (by decide +kernel) (by decide +kernel) (by decide +kernel) (by decide +kernel) (by decide +kernel)
theorem law38 : LawM m38 t38.Rm (plOf m38) := law_of (by decide +kernel) (by decide +kernel) (by decide +kernel) (by decide +kernel) (by decide +kernel)
theorem law39 : LawM m39 t39.Rm (plOf m39) := law_of (by decide +kernel) (by decide +kernel) (by decide +kernel) (by decide +kernel) (by decide +kernel)
def hallsL : List (List (List Int)) := [m0, m1, m2, m3, m4, m5, m6, m7, m8, m9, m10, m11, m12, m13, m14, m15, m16, m17, m18, m19, m20, m21, m22, m23, m24, m25, m26, m27, m28, m29, m30, m31, m32, m33, m34, m35, m36, m37, m38, m39]
def HasLaw (M : List (List Int)) : Prop := ∃ Rm pl, LawM M Rm pl
theorem all_cons {M : List (List Int)} {l : List (List (List Int))} (h : HasLaw M) (t : ∀ N ∈ l, HasLaw N) : ∀ N ∈ M :: l, HasLaw N := fun N hN => by
  rcases List.mem_cons.mp hN with e | e
  · rw [e]; exact h
  · exact t N e
theorem halls_law : ∀ M ∈ hallsL, HasLaw M := (all_cons ⟨_, _, law0⟩ (all_cons ⟨_, _, law1⟩ (all_cons ⟨_, _, law2⟩ (all_cons ⟨_, _, law3⟩ (all_cons ⟨_, _, law4⟩ (all_cons ⟨_, _, law5⟩ (all_cons ⟨_, _, law6⟩ (all_cons ⟨_, _, law7⟩ (all_cons ⟨_, _, law8⟩ (all_cons ⟨_, _, law9⟩ (all_cons ⟨_, _, law10⟩ (all_cons ⟨_, _, law11⟩ (all_cons ⟨_, _, law12⟩ (all_cons ⟨_, _, law13⟩ (all_cons ⟨_, _, law14⟩ (all_cons ⟨_, _, law15⟩ (all_cons ⟨_, _, law16⟩ (all_cons ⟨_, _, law17⟩ (all_cons ⟨_, _, law18⟩ (all_cons ⟨_, _, law19⟩ (all_cons ⟨_, _, law20⟩ (all_cons ⟨_, _, law21⟩ (all_cons ⟨_, _, law22⟩ (all_cons ⟨_, _, law23⟩ (all_cons ⟨_, _, law24⟩ (all_cons ⟨_, _, law25⟩ (all_cons ⟨_, _, law26⟩ (all_cons ⟨_, _, law27⟩ (all_cons ⟨_, _, law28⟩ (all_cons ⟨_, _, law29⟩ (all_cons ⟨_, _, law30⟩ (all_cons ⟨_, _, law31⟩ (all_cons ⟨_, _, law32⟩ (all_cons ⟨_, _, law33⟩ (all_cons ⟨_, _, law34⟩ (all_cons ⟨_, _, law35⟩ (all_cons ⟨_, _, law36⟩ (all_cons ⟨_, _, law37⟩ (all_cons ⟨_, _, law38⟩ (all_cons ⟨_, _, law39⟩ (fun M h => by cases h)))))))))))))))))))))))))))))))))))))))))
def listsN (n : Nat) : Nat → List (List Nat)
  | 0 => [[]]
  | k + 1 => (listsN n k).flatMap fun s => (List.range n).map fun x => x :: s
theorem listsN_mem {n : Nat} : ∀ {k : Nat} {s : List Nat}, s.length = k → (∀ x ∈ s, x < n) → s ∈ listsN n k
  | 0, s, h, _ => by
    rw [List.length_eq_zero_iff.mp h]
    exact List.mem_singleton.mpr rfl
  | k + 1, [], h, _ => by cases h
  | k + 1, x :: s, h, b => List.mem_flatMap.mpr ⟨s, listsN_mem (by simpa using h) (fun y hy => b y (List.mem_cons_of_mem _ hy)), List.mem_map.mpr ⟨x, List.mem_range.mpr (b x List.mem_cons_self), rfl⟩⟩
def permB (sh : List (Str × Nat)) : Bool := (listsN (accM sh).length (accM sh).length).all fun o => !decide o.Nodup || hallsL.any fun M => decide (permM (accM sh) o = M)
theorem perm_ok : ∀ sh ∈ shapes1 ++ shapes2, permB sh = true := by decide +kernel
theorem lawAll : ∀ sh ∈ shapes1 ++ shapes2, ∀ o : List Nat, o.Perm (List.range (accM sh).length) → ∃ Rm pl, LawM (permM (accM sh) o) Rm pl := by
  intro sh hsh o hp
  have h := List.all_eq_true.mp (perm_ok sh hsh) o (listsN_mem (by rw [hp.length_eq, List.length_range]) (fun x hx => by simpa using hp.mem_iff.mp hx))
  rw [decide_eq_true (hp.nodup_iff.mpr List.nodup_range)] at h
  have h2 : permM (accM sh) o ∈ hallsL := by simpa using h
  exact halls_law _ h2
end Kal

set_option Elab.async false
set_option linter.all false
set_option maxRecDepth 100000
set_option maxHeartbeats 0
/-! KH2: the end. -/
namespace Kal
open PySem PySem.Spec PyProof.Rows L2 SX C8
theorem toFn {K : PySem.W.Frag} {mg : Str → Option Value} {x qual : Str} {st : Stmt} {ps : List Str} {f : Addr} {fd : FuncData} (D : FunD K qual qual (defArgs st) (defBody st) (defScope st) [] [] f fd) (hm : mg x = some (.ref f)) (hb : Binds K fd ps []) : Fn K mg x qual st ps := ⟨⟨f, fd, D, hm, hb⟩⟩
theorem facts {P : Program} {w : World} {K : PySem.W.Frag} {h : Heap} {mg : Str → Option Value} {f : Addr} (X : K.In h) (G : h.Ns mainGlobals mg) (hfa : mg ("law" : Str) = some (.ref f)) (c : He.SaysD fa fn K) (x : exB K = true) :
    ∃ fd : FuncData, (∀ (s : Shared) (v : Value), BindsTo s fd ⟨[v], []⟩ [("_law_script", v)]) ∧ ∀ base : Heap, K.In base → base.Ns mainGlobals mg → FnOk P w K mg base L2.CX0 11 f fd ["_law_script"] (spLaw K) := by
  have cl : Cls K (He.ga K "Hall") := He.cls_ok (c.fact 46 (f := .cls "Hall") rfl)
  have ic : InsC K (He.ga K "Hall") := by
    obtain ⟨x1, x⟩ := He.ba x
    obtain ⟨x2, x⟩ := He.ba x
    obtain ⟨x3, x⟩ := He.ba x
    obtain ⟨x4, x5⟩ := He.ba x
    exact ⟨cl, He.eqO_ok x1, He.eqO_ok x2, of_decide_eq_true x3, of_decide_eq_true x4, of_decide_eq_true x5⟩
  have mi : ∀ {n : Str} {i : Int}, (∃ t, mg n = some (.int i t)) → ∃ u, mg n = some u ∧ RelV (.int i) u := fun ⟨t, e⟩ => ⟨_, e, t, rfl⟩
  have ms : ∀ {n z : Str}, (∃ t, mg n = some (.str z t)) → ∃ u, mg n = some u ∧ RelV (.str z) u := fun ⟨t, e⟩ => ⟨_, e, t, rfl⟩
  have gH : mg "Hall" = some (.ref (He.ga K "Hall")) := He.glo_ok X G (c.fact 45 (f := .glo "Hall") rfl)
  have T : Txt K mg (He.ga K "Hall") := by
    exact ⟨He.free_ok X G (c.fact 58 (f := .free "isinstance") rfl), He.free_ok X G (c.fact 59 (f := .free "int") rfl), He.free_ok X G (c.fact 60 (f := .free "bool") rfl), He.free_ok X G (c.fact 61 (f := .free "tuple") rfl), He.free_ok X G (c.fact 62 (f := .free "len") rfl), He.free_ok X G (c.fact 63 (f := .free "all") rfl), He.free_ok X G (c.fact 64 (f := .free "enumerate") rfl), He.free_ok X G (c.fact 65 (f := .free "range") rfl), He.free_ok X G (c.fact 66 (f := .free "sorted") rfl), He.free_ok X G (c.fact 67 (f := .free "sum") rfl), He.free_ok X G (c.fact 68 (f := .free "zip") rfl), He.free_ok X G (c.fact 69 (f := .free "max") rfl), He.free_ok X G (c.fact 70 (f := .free "list") rfl), He.free_ok X G (c.fact 71 (f := .free "str") rfl), mi (He.int_ok X G (c.fact 50 (f := .int "MOST_LAMPS" 8) rfl)), mi (He.int_ok X G (c.fact 51 (f := .int "MOST_PUSH" 4) rfl)), mi (He.int_ok X G (c.fact 52 (f := .int "MOST_LOAD" 400) rfl)), mi (He.int_ok X G (c.fact 53 (f := .int "MOST_PRESSES" 5000) rfl)), mi (He.int_ok X G (c.fact 54 (f := .int "MOST_LETTERS" 60) rfl)), ms (He.str_ok X G (c.fact 55 (f := .str "ENDING" "ending") rfl)), ms (He.str_ok X G (c.fact 56 (f := .str "FLAT" "flat") rfl)), ms (He.str_ok X G (c.fact 57 (f := .str "WILD" "wild") rfl)), ⟨_, gH, rfl⟩, ic, cl, He.noat_ok (c.fact 48 (f := .noat "Hall" "told") rfl)⟩
  have F_is_from : Fn K mg "is_from" "is_from" sDIsFrom ["value", "low", "high"] := by
    obtain ⟨fd, D⟩ := c.def_ 0 (d := dDIsFrom) rfl
    exact toFn D (He.glo_ok X G (c.fact 0 (f := .glo "is_from") rfl)) (D.bindsN fun _ _ _ _ _ _ us hl => match us, hl with | [_, _, _], _ => rfl)
  have F_changed : Fn K mg "changed" "changed" sDChanged ["hall", "numbers", "lamp"] := by
    obtain ⟨fd, D⟩ := c.def_ 11 (d := dDChanged) rfl
    exact toFn D (He.glo_ok X G (c.fact 11 (f := .glo "changed") rfl)) (D.bindsN fun _ _ _ _ _ _ us hl => match us, hl with | [_, _, _], _ => rfl)
  have F_able_of : Fn K mg "able_of" "able_of" sDAbleOf ["numbers"] := by
    obtain ⟨fd, D⟩ := c.def_ 12 (d := dDAbleOf) rfl
    exact toFn D (He.glo_ok X G (c.fact 12 (f := .glo "able_of") rfl)) (D.bindsN fun _ _ _ _ _ _ us hl => match us, hl with | [_], _ => rfl)
  have F_first_of : Fn K mg "first_of" "first_of" sDFirstOf ["hall"] := by
    obtain ⟨fd, D⟩ := c.def_ 15 (d := dDFirstOf) rfl
    exact toFn D (He.glo_ok X G (c.fact 15 (f := .glo "first_of") rfl)) (D.bindsN fun _ _ _ _ _ _ us hl => match us, hl with | [_], _ => rfl)
  have F_neighbours_of : Fn K mg "neighbours_of" "neighbours_of" sDNeighboursOf ["hall", "lamp"] := by
    obtain ⟨fd, D⟩ := c.def_ 3 (d := dDNeighboursOf) rfl
    exact toFn D (He.glo_ok X G (c.fact 3 (f := .glo "neighbours_of") rfl)) (D.bindsN fun _ _ _ _ _ _ us hl => match us, hl with | [_, _], _ => rfl)
  have F_weight : Fn K mg "weight" "weight" sDWeight ["hall", "wing", "load", "lamp"] := by
    obtain ⟨fd, D⟩ := c.def_ 6 (d := dDWeight) rfl
    exact toFn D (He.glo_ok X G (c.fact 6 (f := .glo "weight") rfl)) (D.bindsN fun _ _ _ _ _ _ us hl => match us, hl with | [_, _, _, _], _ => rfl)
  have F_least_over : Fn K mg "least_over" "least_over" sDLeastOver ["hall", "wing", "more"] := by
    obtain ⟨fd, D⟩ := c.def_ 7 (d := dDLeastOver) rfl
    exact toFn D (He.glo_ok X G (c.fact 7 (f := .glo "least_over") rfl)) (D.bindsN fun _ _ _ _ _ _ us hl => match us, hl with | [_, _, _], _ => rfl)
  have F_word_of_loads : Fn K mg "word_of_loads" "word_of" sDWordofl ["hall", "wing", "load"] := by
    obtain ⟨fd, D⟩ := c.def_ 8 (d := dDWordofl) rfl
    exact toFn D (He.glo_ok X G (c.fact 8 (f := .glo "word_of_loads") rfl)) (D.bindsN fun _ _ _ _ _ _ us hl => match us, hl with | [_, _, _], _ => rfl)
  have F_kind_of : Fn K mg "kind_of" "kind_of" sDKindOf ["hall", "wing"] := by
    obtain ⟨fd, D⟩ := c.def_ 9 (d := dDKindOf) rfl
    exact toFn D (He.glo_ok X G (c.fact 9 (f := .glo "kind_of") rfl)) (D.bindsN fun _ _ _ _ _ _ us hl => match us, hl with | [_, _], _ => rfl)
  have F_joined_to : Fn K mg "joined_to" "joined_to" sDJoinedTo ["hall", "lamp"] := by
    obtain ⟨fd, D⟩ := c.def_ 4 (d := dDJoinedTo) rfl
    exact toFn D (He.glo_ok X G (c.fact 4 (f := .glo "joined_to") rfl)) (D.bindsN fun _ _ _ _ _ _ us hl => match us, hl with | [_, _], _ => rfl)
  have F_wings_of : Fn K mg "wings_of" "wings_of" sDWingsOf ["hall"] := by
    obtain ⟨fd, D⟩ := c.def_ 5 (d := dDWingsOf) rfl
    exact toFn D (He.glo_ok X G (c.fact 5 (f := .glo "wings_of") rfl)) (D.bindsN fun _ _ _ _ _ _ us hl => match us, hl with | [_], _ => rfl)
  have F_need_hall : Fn K mg "need_hall" "need_hall" sDNeedHall ["hall"] := by
    obtain ⟨fd, D⟩ := c.def_ 2 (d := dDNeedHall) rfl
    exact toFn D (He.glo_ok X G (c.fact 2 (f := .glo "need_hall") rfl)) (D.bindsN fun _ _ _ _ _ _ us hl => match us, hl with | [_], _ => rfl)
  have F_is_lamp_of : Fn K mg "is_lamp_of" "is_lamp_of" sDIsLampOf ["hall", "value"] := by
    obtain ⟨fd, D⟩ := c.def_ 21 (d := dDIsLampOf) rfl
    exact toFn D (He.glo_ok X G (c.fact 21 (f := .glo "is_lamp_of") rfl)) (D.bindsN fun _ _ _ _ _ _ us hl => match us, hl with | [_, _], _ => rfl)
  have F_need_ending : Fn K mg "need_ending" "need_ending" sDNeedEnding ["hall"] := by
    obtain ⟨fd, D⟩ := c.def_ 18 (d := dDNeedEnding) rfl
    exact toFn D (He.glo_ok X G (c.fact 18 (f := .glo "need_ending") rfl)) (D.bindsN fun _ _ _ _ _ _ us hl => match us, hl with | [_], _ => rfl)
  have F_never_wing_of : Fn K mg "never_wing_of" "never_wing_of" sDNeverWingOf ["hall", "start"] := by
    obtain ⟨fd, D⟩ := c.def_ 13 (d := dDNeverWingOf) rfl
    exact toFn D (He.glo_ok X G (c.fact 13 (f := .glo "never_wing_of") rfl)) (D.bindsN fun _ _ _ _ _ _ us hl => match us, hl with | [_, _], _ => rfl)
  have F_need_word : Fn K mg "need_word" "need_word" sDNeedWord ["hall", "word"] := by
    obtain ⟨fd, D⟩ := c.def_ 22 (d := dDNeedWord) rfl
    exact toFn D (He.glo_ok X G (c.fact 22 (f := .glo "need_word") rfl)) (D.bindsN fun _ _ _ _ _ _ us hl => match us, hl with | [_, _], _ => rfl)
  have F_are_numbers : Fn K mg "are_numbers" "are_numbers" sDAreNumbers ["hall", "value"] := by
    obtain ⟨fd, D⟩ := c.def_ 10 (d := dDAreNumbers) rfl
    exact toFn D (He.glo_ok X G (c.fact 10 (f := .glo "are_numbers") rfl)) (D.bindsN fun _ _ _ _ _ _ us hl => match us, hl with | [_, _], _ => rfl)
  have F_played : Fn K mg "played" "played" sDPlayed ["hall", "start"] := by
    obtain ⟨fd, D⟩ := c.def_ 14 (d := dDPlayed) rfl
    exact toFn D (He.glo_ok X G (c.fact 14 (f := .glo "played") rfl)) (D.bindsN fun _ _ _ _ _ _ us hl => match us, hl with | [_, _], _ => rfl)
  have F_is_room_of : Fn K mg "is_room_of" "is_room_of" sDIsRoomOf ["hall", "value"] := by
    obtain ⟨fd, D⟩ := c.def_ 16 (d := dDIsRoomOf) rfl
    exact toFn D (He.glo_ok X G (c.fact 16 (f := .glo "is_room_of") rfl)) (D.bindsN fun _ _ _ _ _ _ us hl => match us, hl with | [_, _], _ => rfl)
  have F_need_room : Fn K mg "need_room" "need_room" sDNeedRoom ["hall", "room"] := by
    obtain ⟨fd, D⟩ := c.def_ 17 (d := dDNeedRoom) rfl
    exact toFn D (He.glo_ok X G (c.fact 17 (f := .glo "need_room") rfl)) (D.bindsN fun _ _ _ _ _ _ us hl => match us, hl with | [_, _], _ => rfl)
  have F_need_one : Fn K mg "need_one" "need_one" sDNeedOne ["hall", "room"] := by
    obtain ⟨fd, D⟩ := c.def_ 19 (d := dDNeedOne) rfl
    exact toFn D (He.glo_ok X G (c.fact 19 (f := .glo "need_one") rfl)) (D.bindsN fun _ _ _ _ _ _ us hl => match us, hl with | [_, _], _ => rfl)
  have F_need_two : Fn K mg "need_two" "need_two" sDNeedTwo ["hall", "one", "other"] := by
    obtain ⟨fd, D⟩ := c.def_ 20 (d := dDNeedTwo) rfl
    exact toFn D (He.glo_ok X G (c.fact 20 (f := .glo "need_two") rfl)) (D.bindsN fun _ _ _ _ _ _ us hl => match us, hl with | [_, _, _], _ => rfl)
  have F_word_of_within : Fn K mg "word_of_within" "word_of" sDWordOf ["hall", "room"] := by
    obtain ⟨fd, D⟩ := c.def_ 24 (d := dDWordOf) rfl
    exact toFn D (He.glo_ok X G (c.fact 24 (f := .glo "word_of_within") rfl)) (D.bindsN fun _ _ _ _ _ _ us hl => match us, hl with | [_, _], _ => rfl)
  have F_go_from : Fn K mg "go_from" "go_from" sDGoFrom ["hall", "room", "word"] := by
    obtain ⟨fd, D⟩ := c.def_ 23 (d := dDGoFrom) rfl
    exact toFn D (He.glo_ok X G (c.fact 23 (f := .glo "go_from") rfl)) (D.bindsN fun _ _ _ _ _ _ us hl => match us, hl with | [_, _, _], _ => rfl)
  have F_nearer : Fn K mg "nearer" "nearer" sDNearer ["hall", "room", "lamp"] := by
    obtain ⟨fd, D⟩ := c.def_ 25 (d := dDNearer) rfl
    exact toFn D (He.glo_ok X G (c.fact 25 (f := .glo "nearer") rfl)) (D.bindsN fun _ _ _ _ _ _ us hl => match us, hl with | [_, _, _], _ => rfl)
  have F_farther : Fn K mg "farther" "farther" sDFarther ["hall", "room", "lamp"] := by
    obtain ⟨fd, D⟩ := c.def_ 26 (d := dDFarther) rfl
    exact toFn D (He.glo_ok X G (c.fact 26 (f := .glo "farther") rfl)) (D.bindsN fun _ _ _ _ _ _ us hl => match us, hl with | [_, _, _], _ => rfl)
  have F_is_under : Fn K mg "is_under" "is_under" sDIsUnder ["hall", "room", "other"] := by
    obtain ⟨fd, D⟩ := c.def_ 27 (d := dDIsUnder) rfl
    exact toFn D (He.glo_ok X G (c.fact 27 (f := .glo "is_under") rfl)) (D.bindsN fun _ _ _ _ _ _ us hl => match us, hl with | [_, _, _], _ => rfl)
  have F_is_within : Fn K mg "is_within" "is_within" sDIsWithin ["hall", "room", "other"] := by
    obtain ⟨fd, D⟩ := c.def_ 28 (d := dDIsWithin) rfl
    exact toFn D (He.glo_ok X G (c.fact 28 (f := .glo "is_within") rfl)) (D.bindsN fun _ _ _ _ _ _ us hl => match us, hl with | [_, _, _], _ => rfl)
  have F_greatest_of : Fn K mg "greatest_of" "greatest_of" sDGreatestOf ["hall", "word"] := by
    obtain ⟨fd, D⟩ := c.def_ 29 (d := dDGreatestOf) rfl
    exact toFn D (He.glo_ok X G (c.fact 29 (f := .glo "greatest_of") rfl)) (D.bindsN fun _ _ _ _ _ _ us hl => match us, hl with | [_, _], _ => rfl)
  have F_greatest_by : Fn K mg "greatest_by" "greatest_by" sDGreatestBy ["hall", "word"] := by
    obtain ⟨fd, D⟩ := c.def_ 30 (d := dDGreatestBy) rfl
    exact toFn D (He.glo_ok X G (c.fact 30 (f := .glo "greatest_by") rfl)) (D.bindsN fun _ _ _ _ _ _ us hl => match us, hl with | [_, _], _ => rfl)
  have F_letters_for : Fn K mg "letters_for" "letters_for" sDLettersFor ["hall", "word", "room"] := by
    obtain ⟨fd, D⟩ := c.def_ 31 (d := dDLettersFor) rfl
    exact toFn D (He.glo_ok X G (c.fact 31 (f := .glo "letters_for") rfl)) (D.bindsN fun _ _ _ _ _ _ us hl => match us, hl with | [_, _, _], _ => rfl)
  have F_are_letters : Fn K mg "are_letters" "are_letters" sDAreLetters ["hall", "word", "room", "value"] := by
    obtain ⟨fd, D⟩ := c.def_ 32 (d := dDAreLetters) rfl
    exact toFn D (He.glo_ok X G (c.fact 32 (f := .glo "are_letters") rfl)) (D.bindsN fun _ _ _ _ _ _ us hl => match us, hl with | [_, _, _, _], _ => rfl)
  have F_are_pushes : Fn K mg "are_pushes" "are_pushes" sDArePushes ["value", "lamp", "many"] := by
    obtain ⟨fd, D⟩ := c.def_ 1 (d := dDArePushes) rfl
    exact toFn D (He.glo_ok X G (c.fact 1 (f := .glo "are_pushes") rfl)) (D.bindsN fun _ _ _ _ _ _ us hl => match us, hl with | [_, _, _], _ => rfl)
  have F__law_taken : Fn K mg "_law_taken" "_law_taken" sDLTaken ["_law_row", "_law_many"] := by
    obtain ⟨fd, D⟩ := c.def_ 33 (d := dDLTaken) rfl
    exact toFn D (He.glo_ok X G (c.fact 33 (f := .glo "_law_taken") rfl)) (D.bindsN fun _ _ _ _ _ _ us hl => match us, hl with | [_, _], _ => rfl)
  have F__law_pick : Fn K mg "_law_pick" "_law_pick" sDLPick ["_law_row", "_law_some"] := by
    obtain ⟨fd, D⟩ := c.def_ 34 (d := dDLPick) rfl
    exact toFn D (He.glo_ok X G (c.fact 34 (f := .glo "_law_pick") rfl)) (D.bindsN fun _ _ _ _ _ _ us hl => match us, hl with | [_, _], _ => rfl)
  have F__law_alike : Fn K mg "_law_alike" "_law_alike" sDLAlike ["_law_found", "_law_due"] := by
    obtain ⟨fd, D⟩ := c.def_ 35 (d := dDLAlike) rfl
    exact toFn D (He.glo_ok X G (c.fact 35 (f := .glo "_law_alike") rfl)) (D.bindsN fun _ _ _ _ _ _ us hl => match us, hl with | [_, _], _ => rfl)
  have F__law_press : Fn K mg "_law_press" "_law_press" sDLPress ["_law_pushes", "_law_numbers", "_law_lamp"] := by
    obtain ⟨fd, D⟩ := c.def_ 39 (d := dDLPress) rfl
    exact toFn D (He.glo_ok X G (c.fact 39 (f := .glo "_law_press") rfl)) (D.bindsN fun _ _ _ _ _ _ us hl => match us, hl with | [_, _, _], _ => rfl)
  have F__law_go : Fn K mg "_law_go" "_law_go" sDLGo ["_law_pushes", "_law_room", "_law_word"] := by
    obtain ⟨fd, D⟩ := c.def_ 40 (d := dDLGo) rfl
    exact toFn D (He.glo_ok X G (c.fact 40 (f := .glo "_law_go") rfl)) (D.bindsN fun _ _ _ _ _ _ us hl => match us, hl with | [_, _, _], _ => rfl)
  have F__law_beside : Fn K mg "_law_beside" "_law_beside" sDLBeside ["_law_one", "_law_other"] := by
    obtain ⟨fd, D⟩ := c.def_ 38 (d := dDLBeside) rfl
    exact toFn D (He.glo_ok X G (c.fact 38 (f := .glo "_law_beside") rfl)) (D.bindsN fun _ _ _ _ _ _ us hl => match us, hl with | [_, _], _ => rfl)
  have F__law_named : Fn K mg "_law_named" "_law_named" sDLNamed ["_law_letter", "_law_many"] := by
    obtain ⟨fd, D⟩ := c.def_ 36 (d := dDLNamed) rfl
    exact toFn D (He.glo_ok X G (c.fact 36 (f := .glo "_law_named") rfl)) (D.bindsN fun _ _ _ _ _ _ us hl => match us, hl with | [_, _], _ => rfl)
  have F__law_mixed : Fn K mg "_law_mixed" "_law_mixed" sDLMixed ["_law_row", "_law_pushes"] := by
    obtain ⟨fd, D⟩ := c.def_ 37 (d := dDLMixed) rfl
    exact toFn D (He.glo_ok X G (c.fact 37 (f := .glo "_law_mixed") rfl)) (D.bindsN fun _ _ _ _ _ _ us hl => match us, hl with | [_, _], _ => rfl)
  have F__law_small : Fn K mg "_law_small" "_law_small" sDLSmall ["_law_row"] := by
    obtain ⟨fd, D⟩ := c.def_ 41 (d := dDLSmall) rfl
    exact toFn D (He.glo_ok X G (c.fact 41 (f := .glo "_law_small") rfl)) (D.bindsN fun _ _ _ _ _ _ us hl => match us, hl with | [_], _ => rfl)
  have F__law_rooms : Fn K mg "_law_rooms" "_law_rooms" sDLRooms ["_law_pushes", "_law_most", "_law_deep"] := by
    obtain ⟨fd, D⟩ := c.def_ 42 (d := dDLRooms) rfl
    exact toFn D (He.glo_ok X G (c.fact 42 (f := .glo "_law_rooms") rfl)) (D.bindsN fun _ _ _ _ _ _ us hl => match us, hl with | [_, _, _], _ => rfl)
  have F__law_places : Fn K mg "_law_places" "_law_places" sDLPlaces ["_law_many", "_law_size"] := by
    obtain ⟨fd, D⟩ := c.def_ 43 (d := dDLPlaces) rfl
    exact toFn D (He.glo_ok X G (c.fact 43 (f := .glo "_law_places") rfl)) (D.bindsN fun _ _ _ _ _ _ us hl => match us, hl with | [_, _], _ => rfl)
  obtain ⟨fdI, DI⟩ := c.def_ 45 (d := dHInit) rfl
  obtain ⟨fdL, DL⟩ := c.def_ 46 (d := dHLen) rfl
  obtain ⟨fdw, DW⟩ := c.def_ 44 (d := dDLaw) rfl
  have eLaw := hfa.symm.trans (He.glo_ok X G (c.fact 44 (f := .glo "law") rfl))
  cases eLaw
  have bw := FunD.bindsA (ps := ["_law_script"]) DW fun _ _ _ _ _ _ us hl => match us, hl with | [_], _ => rfl
  obtain ⟨m1, m2, m3⟩ := He.meth_ok (c.fact 49 (f := .meth "Hall" "__len__") rfl)
  refine ⟨fdw, fun s v => bw s [v] rfl, fun base _ _ => ?_⟩
  have L : LenH P w K mg base (He.ga K "Hall") := ⟨⟨_, fdL, ["self"], cl, m1, m2, hallLen_ok T DL, DL.bindsN fun _ _ _ _ _ _ us hl => match us, hl with | [_], _ => rfl⟩⟩
  have h_isFrom := c_isFrom (P := P) (w := w) (base := base) T F_is_from 
  have h_changed := c_changed (P := P) (w := w) (base := base) T F_changed 
  have h_ableOf := c_ableOf (P := P) (w := w) (base := base) T F_able_of 
  have h_firstOf := c_firstOf (P := P) (w := w) (base := base) T F_first_of L
  have h_neighboursOf := c_neighboursOf (P := P) (w := w) (base := base) T F_neighbours_of 
  have h_weight := c_weight (P := P) (w := w) (base := base) T F_weight 
  have h_leastOver := c_leastOver (P := P) (w := w) (base := base) T F_least_over h_weight
  have h_wordOfLoads := c_wordOfLoads (P := P) (w := w) (base := base) T F_word_of_loads h_weight
  have h_kindOf := c_kindOf (P := P) (w := w) (base := base) T F_kind_of h_wordOfLoads h_leastOver
  have h_joinedTo := c_joinedTo (P := P) (w := w) (base := base) T F_joined_to h_neighboursOf
  have h_wingsOf := c_wingsOf (P := P) (w := w) (base := base) T F_wings_of L h_joinedTo
  have h_needHall := c_needHall (P := P) (w := w) (base := base) T F_need_hall 
  have h_isLampOf := c_isLampOf (P := P) (w := w) (base := base) T F_is_lamp_of L h_isFrom
  have h_needEnding := c_needEnding (P := P) (w := w) (base := base) T F_need_ending h_wingsOf h_kindOf h_needHall
  have h_neverWingOf := c_neverWingOf (P := P) (w := w) (base := base) T F_never_wing_of h_wingsOf h_kindOf
  have h_needWord := c_needWord (P := P) (w := w) (base := base) T F_need_word h_isLampOf h_needEnding
  have h_areNumbers := c_areNumbers (P := P) (w := w) (base := base) T F_are_numbers L
  have h_played := c_played (P := P) (w := w) (base := base) T F_played L h_ableOf h_changed h_neverWingOf
  have h_isRoomOf := c_isRoomOf (P := P) (w := w) (base := base) T F_is_room_of h_firstOf h_played h_areNumbers
  have h_needRoom := c_needRoom (P := P) (w := w) (base := base) T F_need_room h_isRoomOf h_needHall
  have h_needOne := c_needOne (P := P) (w := w) (base := base) T F_need_one h_needRoom h_needEnding
  have h_needTwo := c_needTwo (P := P) (w := w) (base := base) T F_need_two h_needRoom h_needOne
  have h_wordOfWithin := c_wordOfWithin (P := P) (w := w) (base := base) T F_word_of_within h_played
  have h_goFrom := c_goFrom (P := P) (w := w) (base := base) T F_go_from h_changed
  have h_goFromL := c_goFromL (P := P) (w := w) (base := base) T F_go_from h_changed
  have h_nearer := c_nearer (P := P) (w := w) (base := base) T F_nearer h_changed
  have h_farther := c_farther (P := P) (w := w) (base := base) T F_farther h_changed
  have h_isUnder := c_isUnder (P := P) (w := w) (base := base) T F_is_under h_firstOf h_ableOf h_changed h_nearer
  have h_isWithin := c_isWithin (P := P) (w := w) (base := base) T F_is_within h_isUnder h_needTwo
  have h_greatestOf := c_greatestOf (P := P) (w := w) (base := base) T F_greatest_of h_farther h_firstOf
  have h_greatestBy := c_greatestBy (P := P) (w := w) (base := base) T F_greatest_by h_greatestOf h_needWord
  have h_lettersFor := c_lettersFor (P := P) (w := w) (base := base) T F_letters_for h_wordOfWithin h_isUnder h_greatestOf h_goFrom h_firstOf h_needRoom h_needWord
  have h_areLetters := c_areLetters (P := P) (w := w) (base := base) T F_are_letters h_goFromL h_firstOf h_wordOfWithin h_isFrom h_needRoom h_needWord
  have h_arePushes := c_arePushes (P := P) (w := w) (base := base) T F_are_pushes h_isFrom
  have h_lTaken := c_lTaken (P := P) (w := w) (base := base) T F__law_taken 
  have h_lPick := c_lPick (P := P) (w := w) (base := base) T F__law_pick h_lTaken
  have h_lAlike0 := c_lAlike0 (P := P) (w := w) (base := base) T F__law_alike 
  have h_lAlike := c_lAlike (P := P) (w := w) (base := base) T F__law_alike h_lAlike0
  have h_lPress := c_lPress (P := P) (w := w) (base := base) T F__law_press 
  have h_lGo := c_lGo (P := P) (w := w) (base := base) T F__law_go h_lPress
  have h_lBeside := c_lBeside (P := P) (w := w) (base := base) T F__law_beside 
  have h_lNamed := c_lNamed (P := P) (w := w) (base := base) T F__law_named 
  have h_lMixed := c_lMixed (P := P) (w := w) (base := base) T F__law_mixed h_lTaken
  have h_lSmall := c_lSmall (P := P) (w := w) (base := base) T F__law_small h_lMixed h_lPick h_lBeside h_lNamed
  have h_lRooms := c_lRooms (P := P) (w := w) (base := base) T F__law_rooms h_lPress
  have h_lPlaces := c_lPlaces (P := P) (w := w) (base := base) T F__law_places 
  have h_hall := c_hall (P := P) (w := w) (base := base) T h_arePushes ⟨_, fdI, He.mkr_ok (c.fact 47 (f := .mkr "Hall") rfl), DI, gH, DI.bindsN fun _ _ _ _ _ _ us hl => match us, hl with | [_, _], _ => rfl⟩
  exact law_ok T DW h_lAlike h_areLetters h_lGo h_lTaken h_isWithin h_lettersFor h_lPlaces h_lPick h_greatestBy h_lPress h_lRooms h_lSmall h_hall lawAll
end Kal
open PySem PySem.W PySem.Calls PyProof.Rows
theorem PySem.Challenge.cw_kaleidorooms_k43_whole_letters_holds : PySem.Challenge.rw_kaleidorooms_k43_whole_letters.Holds := by
  w_on; o_law
  refine HandSHeadRun.head_any (r := OpenLaw.row PySem.Challenge.rw_kaleidorooms_k43_whole_letters) (q := view (OpenLaw.row PySem.Challenge.rw_kaleidorooms_k43_whole_letters).prog [75]) (H := Kal.hkX) (ob := Kal.obX) (M := 20000) (loose := Kal.loose) (d := HandSHeadRun.topDef (OpenLaw.row PySem.Challenge.rw_kaleidorooms_k43_whole_letters).prog 75) (kwd := []) Kal.obX_eq
    (by kernel_rfl) (fun s => by kernel_rfl) Kal.runX (by kernel_rfl) (by kernel_rfl) (by kernel_rfl) (by rfl) (by first | assumption | decide +kernel) (by decide +kernel) ⟨rfl, rfl, rfl, rfl, rfl, by decide +kernel⟩ ?hw ?hc
  case hw => w_witness2
  case hc =>
    refine L2.walk_ofE (l := PySem.Challenge.rw_kaleidorooms_k43_whole_letters) (n := 63) (k := 11) (x := "_law_script") (CX := L2.CX0) rfl (by decide) (by kernel_rfl) ⟨rfl, by decide, by decide⟩ ?F (fun _ _ _ _ z => z)
    intro w mg fa h Y G hmg0
    obtain ⟨K, KX, c, x⟩ := Y
    have hmg : mg ("law" : PySem.Str) = some (.ref fa) := by
      have e : (HandSHeadRun.topDef (OpenLaw.row PySem.Challenge.rw_kaleidorooms_k43_whole_letters).prog 75).name = ("law" : PySem.Str) := by kernel_rfl
      rw [← e]
      exact hmg0
    obtain ⟨fd, hb, hF⟩ := Kal.facts (P := (PySem.Challenge.rw_kaleidorooms_k43_whole_letters).prog) (w := w) KX G hmg c x
    exact ⟨K, fd, Kal.spLaw K, KX, hb, fun H a ns hl _ hS => ⟨a, ns, rfl, hS, fun _ => rfl⟩, hF⟩
