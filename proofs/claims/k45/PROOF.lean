import PyProof.Rows.All
import Wide.All
import OpenK.AllK
import Wide.FinOn
import KE.KStateDown
import Lean
import KE.DataMinMax
import HandS.Base
import HandS.Call
import HandS.List
import HandS.Comp
import HandS.Ends
import HandS.Dict
import HandS.Iter
import HandS.More
import HandS.Flow
import HandS.Exc
import HandS.Words
import HandS.WordsList
import HandS.WordsDict
import HandS.Defaults
import HandS.MakeKw
import HandS.MakeKwOnly
import HandS.Head0
import HandS.Head1
import HandS.Head2
import HandS.HeadEnd
import HandS.HeadHook1
import HandS.HeadHook2
import HandS.Codes
import PySem.Challenge.RW_turnpike_k45_whole_two_ends_agree
set_option Elab.async false
set_option linter.all false
set_option maxRecDepth 100000
set_option maxHeartbeats 0
/-! the text by places -/
namespace K45
open PySem PySem.Spec PyProof.Rows L2
def top (i : Nat) : Stmt := PySem.Challenge.pw_turnpike_k45_whole_two_ends_agree.main.body.getD i (.Pass ⟨0, 0, 0, 0⟩)
abbrev sChanges : Stmt := top 2
abbrev sFootInit : Stmt := inClass (top 3) 0
abbrev sCover : Stmt := inClass (top 3) 1
abbrev sCopyFoot : Stmt := top 4
abbrev sBorne : Stmt := top 5
abbrev sOpened : Stmt := top 7
abbrev sOpening : Stmt := top 9
abbrev sKeyOf : Stmt := top 14
abbrev sSums : Stmt := top 17
abbrev sFirst : Stmt := top 20
abbrev sDrInit : Stmt := inClass (top 21) 0
abbrev sMake : Stmt := inClass (top 21) 1
abbrev sCan : Stmt := inClass (top 21) 2
abbrev sLockAt : Stmt := inClass (top 21) 3
abbrev sPut : Stmt := inClass (top 21) 4
abbrev sPaid : Stmt := inClass (top 21) 5
abbrev sDrop : Stmt := inClass (top 21) 6
abbrev sBack : Stmt := inClass (top 21) 7
abbrev sHand : Stmt := inClass (top 21) 8
abbrev sFin : Stmt := inClass (top 21) 9
abbrev sAsState : Stmt := inClass (top 21) 10
abbrev sNext : Stmt := top 22
abbrev sAgM : Stmt := top 24
abbrev sAgr : Stmt := top 25
abbrev sEndInit : Stmt := inClass (top 28) 0
abbrev sStanding : Stmt := inClass (top 28) 1
abbrev sBusy : Stmt := inClass (top 28) 3
abbrev sTurn : Stmt := inClass (top 28) 4
abbrev sPropose : Stmt := inClass (top 28) 6
abbrev sHearStep : Stmt := inClass (top 28) 7
abbrev sClose : Stmt := inClass (top 28) 8
abbrev sHearAns : Stmt := inClass (top 28) 9
abbrev sCovWith : Stmt := inClass (top 28) 12
abbrev sMaySign : Stmt := inClass (top 28) 13
abbrev sSign : Stmt := inClass (top 28) 14
abbrev sSetInit : Stmt := inClass (top 36) 0
abbrev sRows : Stmt := top 38
abbrev sKey : Stmt := top 39
abbrev sMove : Stmt := top 41
abbrev sMoves : Stmt := top 42
abbrev sSay : Stmt := top 44
abbrev sHear : Stmt := top 45
abbrev sDeed : Stmt := top 46
abbrev sNoted : Stmt := top 47
abbrev sLClose : Stmt := top 48
abbrev sLaw : Stmt := top 49
/-- a def of the text that stands at f -/
abbrev FnP (K : PySem.W.Frag) (x qual : Str) (st : Stmt) (f : Addr) (fd : FuncData) : Prop := FunD K x qual (defArgs st) (defBody st) (defScope st) [] [] f fd
end K45
set_option Elab.async false
set_option linter.all false
set_option maxRecDepth 100000
set_option maxHeartbeats 4000000
/-! the facts of the text, by names -/
namespace K45
open PySem PySem.Spec PyProof.Rows L2
structure Tx (K : PySem.W.Frag) (mg : Str → Option Value) : Prop where
  g_changes : mg "changes" = some (.ref (He.ga K "changes"))
  g_Footing : mg "Footing" = some (.ref (He.ga K "Footing"))
  g_copy_footing : mg "copy_footing" = some (.ref (He.ga K "copy_footing"))
  g_is_borne : mg "is_borne" = some (.ref (He.ga K "is_borne"))
  g_was_opened : mg "was_opened" = some (.ref (He.ga K "was_opened"))
  g_opening_state : mg "opening_state" = some (.ref (He.ga K "opening_state"))
  g_key_of : mg "key_of" = some (.ref (He.ga K "key_of"))
  g_sums_with : mg "sums_with" = some (.ref (He.ga K "sums_with"))
  g_first_proposes : mg "first_proposes" = some (.ref (He.ga K "first_proposes"))
  g_Draft : mg "Draft" = some (.ref (He.ga K "Draft"))
  g_next_state : mg "next_state" = some (.ref (He.ga K "next_state"))
  g_agrees_move : mg "agrees_move" = some (.ref (He.ga K "agrees_move"))
  g_agrees : mg "agrees" = some (.ref (He.ga K "agrees"))
  g_End : mg "End" = some (.ref (He.ga K "End"))
  g_Settings : mg "Settings" = some (.ref (He.ga K "Settings"))
  g__law_rows : mg "_law_rows" = some (.ref (He.ga K "_law_rows"))
  g__law_key : mg "_law_key" = some (.ref (He.ga K "_law_key"))
  g__law_move : mg "_law_move" = some (.ref (He.ga K "_law_move"))
  g__law_moves : mg "_law_moves" = some (.ref (He.ga K "_law_moves"))
  g__law_say : mg "_law_say" = some (.ref (He.ga K "_law_say"))
  g__law_hear : mg "_law_hear" = some (.ref (He.ga K "_law_hear"))
  g__law_deed : mg "_law_deed" = some (.ref (He.ga K "_law_deed"))
  g__law_noted : mg "_law_noted" = some (.ref (He.ga K "_law_noted"))
  g__law_close : mg "_law_close" = some (.ref (He.ga K "_law_close"))
  g_law : mg "law" = some (.ref (He.ga K "law"))
  f_len : mg "len" = none
  f_int : mg "int" = none
  f_range : mg "range" = none
  f_tuple : mg "tuple" = none
  f_list : mg "list" = none
  f_min : mg "min" = none
  f_max : mg "max" = none
  f_all : mg "all" = none
  i_FACTOR : ∃ t, mg "FACTOR" = some (.int 1103515245 t)
  i_SHIFT : ∃ t, mg "SHIFT" = some (.int 12345 t)
  i_KEYS : ∃ t, mg "KEYS" = some (.int 4294967296 t)
  i_MOST_MONEY_reasons : ∃ t, mg "MOST_MONEY_reasons" = some (.int 1000000000000000 t)
  i_MOST_LOCKS : ∃ t, mg "MOST_LOCKS" = some (.int 8 t)
  i_MOST_OPEN : ∃ t, mg "MOST_OPEN" = some (.int 4 t)
  i_MOST_MONEY_settings : ∃ t, mg "MOST_MONEY_settings" = some (.int 1000000000000000 t)
  i_MOST_HEIGHT : ∃ t, mg "MOST_HEIGHT" = some (.int 1000000000000 t)
  i_MOST_SHARE : ∃ t, mg "MOST_SHARE" = some (.int 100000 t)
  c_Footing : Cls K (He.ga K "Footing")
  c_Draft : Cls K (He.ga K "Draft")
  c_End : Cls K (He.ga K "End")
  c_Settings : Cls K (He.ga K "Settings")
  k_Footing : Mk K (He.ga K "Footing") (He.ma K (He.ga K "Footing") "__init__")
  k_Draft : Mk K (He.ga K "Draft") (He.ma K (He.ga K "Draft") "__init__")
  k_End : Mk K (He.ga K "End") (He.ma K (He.ga K "End") "__init__")
  k_Settings : Mk K (He.ga K "Settings") (He.ma K (He.ga K "Settings") "__init__")
  n_Footing_sums : NoAttr K (He.ga K "Footing") "sums"
  n_Footing_taken : NoAttr K (He.ga K "Footing") "taken"
  n_Footing_splices : NoAttr K (He.ga K "Footing") "splices"
  n_Draft_from_first : NoAttr K (He.ga K "Draft") "from_first"
  n_Draft_own : NoAttr K (He.ga K "Draft") "own"
  n_Draft_others : NoAttr K (He.ga K "Draft") "others"
  n_Draft_spare : NoAttr K (He.ga K "Draft") "spare"
  n_Draft_locks : NoAttr K (He.ga K "Draft") "locks"
  n_Draft_closed : NoAttr K (He.ga K "Draft") "closed"
  n_End_opening : NoAttr K (He.ga K "End") "opening"
  n_End_as_first : NoAttr K (He.ga K "End") "as_first"
  n_End_last : NoAttr K (He.ga K "End") "last"
  n_End_step : NoAttr K (He.ga K "End") "step"
  n_End_next : NoAttr K (He.ga K "End") "next"
  n_End_frozen : NoAttr K (He.ga K "End") "frozen"
  n_End_leaving : NoAttr K (He.ga K "End") "leaving"
  n_End_footing : NoAttr K (He.ga K "End") "footing"
  n_End_there : NoAttr K (He.ga K "End") "there"
  n_Settings_fee : NoAttr K (He.ga K "Settings") "fee"
  n_Settings_lead : NoAttr K (He.ga K "Settings") "lead"
  n_Settings_margin : NoAttr K (He.ga K "Settings") "margin"
  n_Settings_delay : NoAttr K (He.ga K "Settings") "delay"
  n_Settings_far : NoAttr K (He.ga K "Settings") "far"
  n_Settings_least : NoAttr K (He.ga K "Settings") "least"
  n_Settings_farthest : NoAttr K (He.ga K "Settings") "farthest"
  n_Settings_reveal_lead : NoAttr K (He.ga K "Settings") "reveal_lead"
  n_Settings_base : NoAttr K (He.ga K "Settings") "base"
  n_Settings_per_mille : NoAttr K (He.ga K "Settings") "per_mille"
  n_Settings_gap : NoAttr K (He.ga K "Settings") "gap"
  m_Footing_cover : Meth K (He.ga K "Footing") "cover" (He.ma K (He.ga K "Footing") "cover")
  m_Draft_make : Meth K (He.ga K "Draft") "make" (He.ma K (He.ga K "Draft") "make")
  m_Draft_can_spend : Meth K (He.ga K "Draft") "can_spend" (He.ma K (He.ga K "Draft") "can_spend")
  m_Draft_lock_at : Meth K (He.ga K "Draft") "lock_at" (He.ma K (He.ga K "Draft") "lock_at")
  m_Draft_put_lock : Meth K (He.ga K "Draft") "put_lock" (He.ma K (He.ga K "Draft") "put_lock")
  m_Draft_take_paid : Meth K (He.ga K "Draft") "take_paid" (He.ma K (He.ga K "Draft") "take_paid")
  m_Draft_drop_lock : Meth K (He.ga K "Draft") "drop_lock" (He.ma K (He.ga K "Draft") "drop_lock")
  m_Draft_take_back : Meth K (He.ga K "Draft") "take_back" (He.ma K (He.ga K "Draft") "take_back")
  m_Draft_hand_over : Meth K (He.ga K "Draft") "hand_over" (He.ma K (He.ga K "Draft") "hand_over")
  m_Draft_finish_up : Meth K (He.ga K "Draft") "finish_up" (He.ma K (He.ga K "Draft") "finish_up")
  m_Draft_as_state : Meth K (He.ga K "Draft") "as_state" (He.ma K (He.ga K "Draft") "as_state")
  m_End_standing : Meth K (He.ga K "End") "standing" (He.ma K (He.ga K "End") "standing")
  m_End_is_busy : Meth K (He.ga K "End") "is_busy" (He.ma K (He.ga K "End") "is_busy")
  m_End_is_turn : Meth K (He.ga K "End") "is_turn" (He.ma K (He.ga K "End") "is_turn")
  m_End_propose : Meth K (He.ga K "End") "propose" (He.ma K (He.ga K "End") "propose")
  m_End_hear_step : Meth K (He.ga K "End") "hear_step" (He.ma K (He.ga K "End") "hear_step")
  m_End_close_step : Meth K (He.ga K "End") "close_step" (He.ma K (He.ga K "End") "close_step")
  m_End_hear_answer : Meth K (He.ga K "End") "hear_answer" (He.ma K (He.ga K "End") "hear_answer")
  m_End_cover_with : Meth K (He.ga K "End") "cover_with" (He.ma K (He.ga K "End") "cover_with")
  m_End_may_sign : Meth K (He.ga K "End") "may_sign" (He.ma K (He.ga K "End") "may_sign")
  m_End_sign : Meth K (He.ga K "End") "sign" (He.ma K (He.ga K "End") "sign")
  d_changes : ∃ fd, FnP K "changes" "changes" sChanges (He.ga K "changes") fd
  d_Footing___init__ : ∃ fd, FnP K "__init__" "Footing.__init__" sFootInit (He.ma K (He.ga K "Footing") "__init__") fd
  d_Footing_cover : ∃ fd, FnP K "cover" "Footing.cover" sCover (He.ma K (He.ga K "Footing") "cover") fd
  d_copy_footing : ∃ fd, FnP K "copy_footing" "copy_footing" sCopyFoot (He.ga K "copy_footing") fd
  d_is_borne : ∃ fd, FnP K "is_borne" "is_borne" sBorne (He.ga K "is_borne") fd
  d_was_opened : ∃ fd, FnP K "was_opened" "was_opened" sOpened (He.ga K "was_opened") fd
  d_opening_state : ∃ fd, FnP K "opening_state" "opening_state" sOpening (He.ga K "opening_state") fd
  d_key_of : ∃ fd, FnP K "key_of" "key_of" sKeyOf (He.ga K "key_of") fd
  d_sums_with : ∃ fd, FnP K "sums_with" "sums_with" sSums (He.ga K "sums_with") fd
  d_first_proposes : ∃ fd, FnP K "first_proposes" "first_proposes" sFirst (He.ga K "first_proposes") fd
  d_Draft___init__ : ∃ fd, FnP K "__init__" "Draft.__init__" sDrInit (He.ma K (He.ga K "Draft") "__init__") fd
  d_Draft_make : ∃ fd, FnP K "make" "Draft.make" sMake (He.ma K (He.ga K "Draft") "make") fd
  d_Draft_can_spend : ∃ fd, FnP K "can_spend" "Draft.can_spend" sCan (He.ma K (He.ga K "Draft") "can_spend") fd
  d_Draft_lock_at : ∃ fd, FnP K "lock_at" "Draft.lock_at" sLockAt (He.ma K (He.ga K "Draft") "lock_at") fd
  d_Draft_put_lock : ∃ fd, FnP K "put_lock" "Draft.put_lock" sPut (He.ma K (He.ga K "Draft") "put_lock") fd
  d_Draft_take_paid : ∃ fd, FnP K "take_paid" "Draft.take_paid" sPaid (He.ma K (He.ga K "Draft") "take_paid") fd
  d_Draft_drop_lock : ∃ fd, FnP K "drop_lock" "Draft.drop_lock" sDrop (He.ma K (He.ga K "Draft") "drop_lock") fd
  d_Draft_take_back : ∃ fd, FnP K "take_back" "Draft.take_back" sBack (He.ma K (He.ga K "Draft") "take_back") fd
  d_Draft_hand_over : ∃ fd, FnP K "hand_over" "Draft.hand_over" sHand (He.ma K (He.ga K "Draft") "hand_over") fd
  d_Draft_finish_up : ∃ fd, FnP K "finish_up" "Draft.finish_up" sFin (He.ma K (He.ga K "Draft") "finish_up") fd
  d_Draft_as_state : ∃ fd, FnP K "as_state" "Draft.as_state" sAsState (He.ma K (He.ga K "Draft") "as_state") fd
  d_next_state : ∃ fd, FnP K "next_state" "next_state" sNext (He.ga K "next_state") fd
  d_agrees_move : ∃ fd, FnP K "agrees_move" "agrees_move" sAgM (He.ga K "agrees_move") fd
  d_agrees : ∃ fd, FnP K "agrees" "agrees" sAgr (He.ga K "agrees") fd
  d_End___init__ : ∃ fd, FnP K "__init__" "End.__init__" sEndInit (He.ma K (He.ga K "End") "__init__") fd
  d_End_standing : ∃ fd, FnP K "standing" "End.standing" sStanding (He.ma K (He.ga K "End") "standing") fd
  d_End_is_busy : ∃ fd, FnP K "is_busy" "End.is_busy" sBusy (He.ma K (He.ga K "End") "is_busy") fd
  d_End_is_turn : ∃ fd, FnP K "is_turn" "End.is_turn" sTurn (He.ma K (He.ga K "End") "is_turn") fd
  d_End_propose : ∃ fd, FnP K "propose" "End.propose" sPropose (He.ma K (He.ga K "End") "propose") fd
  d_End_hear_step : ∃ fd, FnP K "hear_step" "End.hear_step" sHearStep (He.ma K (He.ga K "End") "hear_step") fd
  d_End_close_step : ∃ fd, FnP K "close_step" "End.close_step" sClose (He.ma K (He.ga K "End") "close_step") fd
  d_End_hear_answer : ∃ fd, FnP K "hear_answer" "End.hear_answer" sHearAns (He.ma K (He.ga K "End") "hear_answer") fd
  d_End_cover_with : ∃ fd, FnP K "cover_with" "End.cover_with" sCovWith (He.ma K (He.ga K "End") "cover_with") fd
  d_End_may_sign : ∃ fd, FnP K "may_sign" "End.may_sign" sMaySign (He.ma K (He.ga K "End") "may_sign") fd
  d_End_sign : ∃ fd, FnP K "sign" "End.sign" sSign (He.ma K (He.ga K "End") "sign") fd
  d_Settings___init__ : ∃ fd, FnP K "__init__" "Settings.__init__" sSetInit (He.ma K (He.ga K "Settings") "__init__") fd
  d__law_rows : ∃ fd, FnP K "_law_rows" "_law_rows" sRows (He.ga K "_law_rows") fd
  d__law_key : ∃ fd, FnP K "_law_key" "_law_key" sKey (He.ga K "_law_key") fd
  d__law_move : ∃ fd, FnP K "_law_move" "_law_move" sMove (He.ga K "_law_move") fd
  d__law_moves : ∃ fd, FnP K "_law_moves" "_law_moves" sMoves (He.ga K "_law_moves") fd
  d__law_say : ∃ fd, FnP K "_law_say" "_law_say" sSay (He.ga K "_law_say") fd
  d__law_hear : ∃ fd, FnP K "_law_hear" "_law_hear" sHear (He.ga K "_law_hear") fd
  d__law_deed : ∃ fd, FnP K "_law_deed" "_law_deed" sDeed (He.ga K "_law_deed") fd
  d__law_noted : ∃ fd, FnP K "_law_noted" "_law_noted" sNoted (He.ga K "_law_noted") fd
  d__law_close : ∃ fd, FnP K "_law_close" "_law_close" sLClose (He.ga K "_law_close") fd
  d_law : ∃ fd, FnP K "law" "law" sLaw (He.ga K "law") fd
end K45
set_option Elab.async false
set_option linter.all false
set_option maxRecDepth 100000
set_option maxHeartbeats 1000000
/-! plain mathematics: states, moves, drafts, the two ends and the letters -/
namespace K45
/-- a lock -/
structure Lck where
  key : Int
  am : Int
  dl : Int
  ff : Bool
/-- a state -/
structure Stt where
  ch : Int
  num : Int
  fst : Int
  snd : Int
  locks : List Lck
  fin : Bool
inductive Mv where
  | lock (k a d : Int) | paid (p s : Int) | dropped (p : Int) | back (p : Int) | finish | transfer (a : Int)
structure Dr where
  ff : Bool
  own : Int
  others : Int
  spare : Int
  locks : List Lck
  closed : Bool
def ams (ls : List Lck) : Int := (ls.map Lck.am).sum
def Stt.tot (s : Stt) : Int := s.fst + s.snd + ams s.locks
def Dr.tot (d : Dr) : Int := d.own + d.others + ams d.locks
def keyOf (s : Int) : Int := (s * 1103515245 + 12345) % 4294967296
def canSp (d : Dr) (a : Int) : Bool := !d.closed && (decide (1 ≤ a) && decide (a ≤ d.own + d.spare))
def lkAt (ls : List Lck) (p : Int) : Option Lck := if 0 ≤ p ∧ p < (ls.length : Int) then ls[p.toNat]? else none
def mkLock (d : Dr) (k a dl : Int) : Option Dr := if canSp d a = true ∧ d.locks.length < 8 then some { d with own := d.own - a, locks := d.locks ++ [⟨k, a, dl, d.ff⟩] } else none
def mkPaid (d : Dr) (p s : Int) : Option Dr := match lkAt d.locks p with
  | none => none
  | some l => if l.ff ≠ d.ff ∧ l.key = keyOf s then some { d with own := d.own + l.am, locks := d.locks.eraseIdx p.toNat } else none
def mkDrop (d : Dr) (p : Int) : Option Dr := match lkAt d.locks p with
  | none => none
  | some l => if l.ff ≠ d.ff then some { d with others := d.others + l.am, locks := d.locks.eraseIdx p.toNat } else none
def mkBack (d : Dr) (p : Int) : Option Dr := match lkAt d.locks p with
  | none => none
  | some l => if l.ff = d.ff then some { d with own := d.own + l.am, locks := d.locks.eraseIdx p.toNat } else none
def mkHand (d : Dr) (a : Int) : Option Dr := if canSp d a = true then some { d with own := d.own - a, others := d.others + a } else none
def mkFin (d : Dr) : Option Dr := if d.closed = false ∧ d.locks = [] then some { d with closed := true } else none
/-- one move -/
def mk (d : Dr) : Mv → Option Dr
  | .lock k a dl => mkLock d k a dl
  | .paid p s => mkPaid d p s
  | .dropped p => mkDrop d p
  | .back p => mkBack d p
  | .transfer a => mkHand d a
  | .finish => mkFin d
def run_ : Dr → List Mv → Option Dr
  | d, [] => some d
  | d, m :: ms => match mk d m with
    | none => none
    | some d' => run_ d' ms
def odd (n : Int) : Bool := decide (n % 2 = 1)
def init (s : Stt) (c : Int × Int) : Dr := if odd (s.num + 1) = true then ⟨true, s.fst, s.snd, c.1, s.locks, false⟩ else ⟨false, s.snd, s.fst, c.2, s.locks, false⟩
def Dr.asSt (d : Dr) (ch n : Int) : Stt := if d.ff = true then ⟨ch, n, d.own, d.others, d.locks, d.closed⟩ else ⟨ch, n, d.others, d.own, d.locks, d.closed⟩
def nxt (s : Stt) (ms : List Mv) (c : Int × Int) : Option Stt := if s.fin = true then none else match run_ (init s c) ms with
  | none => none
  | some d => some (d.asSt s.ch (s.num + 1))
/-! ### what a draft keeps -/
theorem ams_nil : ams [] = 0 := rfl
theorem ams_app (xs : List Lck) (l : Lck) : ams (xs ++ [l]) = ams xs + l.am := by
  unfold ams
  rw [List.map_append, List.sum_append]
  simp
theorem ams_erase : ∀ {xs : List Lck} {j : Nat} {l : Lck}, xs[j]? = some l → ams (xs.eraseIdx j) + l.am = ams xs
  | [], j, l, h => by simp at h
  | x :: r, 0, l, h => by
    have e : x = l := Option.some.inj h
    subst e
    show (r.map Lck.am).sum + x.am = (x.am :: r.map Lck.am).sum
    rw [List.sum_cons]
    omega
  | x :: r, j + 1, l, h => by
    have ih := ams_erase (xs := r) (j := j) (l := l) h
    show (x.am :: (r.eraseIdx j).map Lck.am).sum + l.am = (x.am :: r.map Lck.am).sum
    rw [List.sum_cons, List.sum_cons]
    unfold ams at ih
    omega
theorem lkAt_some {ls : List Lck} {p : Int} {l : Lck} (h : lkAt ls p = some l) : 0 ≤ p ∧ p < (ls.length : Int) ∧ ls[p.toNat]? = some l := by
  unfold lkAt at h
  split at h
  · rename_i c
    exact ⟨c.1, c.2, h⟩
  · cases h
/-- all but the spare -/
def Dr.core (d : Dr) : Bool × Int × Int × List Lck × Bool := (d.ff, d.own, d.others, d.locks, d.closed)
structure Keeps (d e : Dr) : Prop where
  tot : e.tot = d.tot
  len : d.locks.length ≤ 8 → e.locks.length ≤ 8
  ff : e.ff = d.ff
  sp : e.spare = d.spare
theorem Keeps.refl (d : Dr) : Keeps d d := ⟨rfl, id, rfl, rfl⟩
theorem Keeps.trans {a b c : Dr} (h : Keeps a b) (k : Keeps b c) : Keeps a c := ⟨k.tot.trans h.tot, fun z => k.len (h.len z), k.ff.trans h.ff, k.sp.trans h.sp⟩
theorem erase_len {xs : List Lck} {j : Nat} (h : xs.length ≤ 8) : (xs.eraseIdx j).length ≤ 8 := Nat.le_trans (List.length_eraseIdx_le _ _) h
theorem mk_keeps {d e : Dr} {m : Mv} (h : mk d m = some e) : Keeps d e := by
  cases m with
  | lock k a dl =>
    have h : mkLock d k a dl = some e := h
    unfold mkLock at h
    split at h
    · rename_i c
      cases h
      refine ⟨?_, fun _ => ?_, rfl, rfl⟩
      · show d.own - a + d.others + ams (d.locks ++ [⟨k, a, dl, d.ff⟩]) = d.own + d.others + ams d.locks
        rw [ams_app]
        show d.own - a + d.others + (ams d.locks + a) = _
        omega
      · show (d.locks ++ [(⟨k, a, dl, d.ff⟩ : Lck)]).length ≤ 8
        rw [List.length_append]
        show d.locks.length + 1 ≤ 8
        omega
    · cases h
  | paid p s =>
    have h : mkPaid d p s = some e := h
    unfold mkPaid at h
    split at h
    · cases h
    · rename_i l hl
      obtain ⟨_, _, hl⟩ := lkAt_some hl
      split at h
      · cases h
        refine ⟨?_, fun z => erase_len z, rfl, rfl⟩
        have z := ams_erase hl
        show d.own + l.am + d.others + ams (d.locks.eraseIdx p.toNat) = d.own + d.others + ams d.locks
        omega
      · cases h
  | dropped p =>
    have h : mkDrop d p = some e := h
    unfold mkDrop at h
    split at h
    · cases h
    · rename_i l hl
      obtain ⟨_, _, hl⟩ := lkAt_some hl
      split at h
      · cases h
        refine ⟨?_, fun z => erase_len z, rfl, rfl⟩
        have z := ams_erase hl
        show d.own + (d.others + l.am) + ams (d.locks.eraseIdx p.toNat) = d.own + d.others + ams d.locks
        omega
      · cases h
  | back p =>
    have h : mkBack d p = some e := h
    unfold mkBack at h
    split at h
    · cases h
    · rename_i l hl
      obtain ⟨_, _, hl⟩ := lkAt_some hl
      split at h
      · cases h
        refine ⟨?_, fun z => erase_len z, rfl, rfl⟩
        have z := ams_erase hl
        show d.own + l.am + d.others + ams (d.locks.eraseIdx p.toNat) = d.own + d.others + ams d.locks
        omega
      · cases h
  | finish =>
    have h : mkFin d = some e := h
    unfold mkFin at h
    split at h
    · cases h
      exact ⟨rfl, id, rfl, rfl⟩
    · cases h
  | transfer a =>
    have h : mkHand d a = some e := h
    unfold mkHand at h
    split at h
    · cases h
      refine ⟨?_, id, rfl, rfl⟩
      show d.own - a + (d.others + a) + ams d.locks = d.own + d.others + ams d.locks
      omega
    · cases h
theorem run_keeps : ∀ {ms : List Mv} {d e : Dr}, run_ d ms = some e → Keeps d e
  | [], d, e, h => by
    have e1 : d = e := Option.some.inj h
    rw [e1]
    exact Keeps.refl _
  | m :: ms, d, e, h => by
    unfold run_ at h
    split at h
    · cases h
    · rename_i d' hd
      exact (mk_keeps hd).trans (run_keeps h)
/-- the spare decides only whether -/
theorem mk_core {d d' e e' : Dr} {m : Mv} (hc : d.core = d'.core) (h : mk d m = some e) (h' : mk d' m = some e') : e.core = e'.core := by
  obtain ⟨ff, own, others, spare, locks, closed⟩ := d
  obtain ⟨ff', own', others', spare', locks', closed'⟩ := d'
  have hc : (ff, own, others, locks, closed) = (ff', own', others', locks', closed') := hc
  simp only [Prod.mk.injEq] at hc
  obtain ⟨rfl, rfl, rfl, rfl, rfl⟩ := hc
  cases m with
  | lock k a dl =>
    simp only [mk, mkLock] at h h'
    split at h <;> split at h' <;> first | (cases h; cases h'; rfl) | (cases h; done) | (cases h'; done)
  | paid p s =>
    simp only [mk, mkPaid] at h h'
    split at h
    · cases h
    · rename_i l hl
      rw [hl] at h'
      simp only at h'
      split at h <;> split at h' <;> first | (cases h; cases h'; rfl) | (cases h; done) | (cases h'; done)
  | dropped p =>
    simp only [mk, mkDrop] at h h'
    split at h
    · cases h
    · rename_i l hl
      rw [hl] at h'
      simp only at h'
      split at h <;> split at h' <;> first | (cases h; cases h'; rfl) | (cases h; done) | (cases h'; done)
  | back p =>
    simp only [mk, mkBack] at h h'
    split at h
    · cases h
    · rename_i l hl
      rw [hl] at h'
      simp only at h'
      split at h <;> split at h' <;> first | (cases h; cases h'; rfl) | (cases h; done) | (cases h'; done)
  | finish =>
    simp only [mk, mkFin] at h h'
    split at h <;> split at h' <;> first | (cases h; cases h'; rfl) | (cases h; done) | (cases h'; done)
  | transfer a =>
    simp only [mk, mkHand] at h h'
    split at h <;> split at h' <;> first | (cases h; cases h'; rfl) | (cases h; done) | (cases h'; done)
theorem run_core : ∀ {ms : List Mv} {d d' e e' : Dr}, d.core = d'.core → run_ d ms = some e → run_ d' ms = some e' → e.core = e'.core
  | [], d, d', e, e', hc, h, h' => by
    have e1 : d = e := Option.some.inj h
    have e2 : d' = e' := Option.some.inj h'
    rw [← e1, ← e2]
    exact hc
  | m :: ms, d, d', e, e', hc, h, h' => by
    unfold run_ at h h'
    split at h
    · cases h
    · rename_i a ha
      split at h'
      · cases h'
      · rename_i b hb
        exact run_core (mk_core hc ha hb) h h'
theorem asSt_core {d e : Dr} (h : d.core = e.core) (ch n : Int) : d.asSt ch n = e.asSt ch n := by
  obtain ⟨ff, own, others, spare, locks, closed⟩ := d
  obtain ⟨ff', own', others', spare', locks', closed'⟩ := e
  have hc : (ff, own, others, locks, closed) = (ff', own', others', locks', closed') := h
  simp only [Prod.mk.injEq] at hc
  obtain ⟨rfl, rfl, rfl, rfl, rfl⟩ := hc
  rfl
theorem init_core (s : Stt) (c c' : Int × Int) : (init s c).core = (init s c').core := by
  unfold init
  split <;> rfl
theorem init_tot (s : Stt) (c : Int × Int) : (init s c).tot = s.tot := by
  unfold init
  split
  · rfl
  · show s.snd + s.fst + ams s.locks = s.fst + s.snd + ams s.locks
    omega
theorem init_locks (s : Stt) (c : Int × Int) : (init s c).locks = s.locks := by
  unfold init
  split <;> rfl
theorem asSt_tot (d : Dr) (ch n : Int) : (d.asSt ch n).tot = d.tot := by
  unfold Dr.asSt
  split
  · rfl
  · show d.others + d.own + ams d.locks = d.own + d.others + ams d.locks
    omega
theorem asSt_locks (d : Dr) (ch n : Int) : (d.asSt ch n).locks = d.locks := by
  unfold Dr.asSt
  split <;> rfl
theorem asSt_num (d : Dr) (ch n : Int) : (d.asSt ch n).num = n := by
  unfold Dr.asSt
  split <;> rfl
/-! ### the next state -/
theorem nxt_run {s t : Stt} {ms : List Mv} {c : Int × Int} (h : nxt s ms c = some t) : ∃ d, run_ (init s c) ms = some d ∧ t = d.asSt s.ch (s.num + 1) := by
  unfold nxt at h
  split at h
  · cases h
  · split at h
    · cases h
    · rename_i d hd
      exact ⟨d, hd, (Option.some.inj h).symm⟩
theorem nxt_det {s t t' : Stt} {ms : List Mv} {c c' : Int × Int} (h : nxt s ms c = some t) (h' : nxt s ms c' = some t') : t = t' := by
  obtain ⟨d, hd, rfl⟩ := nxt_run h
  obtain ⟨e, he, rfl⟩ := nxt_run h'
  exact asSt_core (run_core (init_core s c c') hd he) _ _
theorem nxt_num {s t : Stt} {ms : List Mv} {c : Int × Int} (h : nxt s ms c = some t) : t.num = s.num + 1 := by
  obtain ⟨d, _, rfl⟩ := nxt_run h
  exact asSt_num _ _ _
theorem nxt_tot {s t : Stt} {ms : List Mv} {c : Int × Int} (h : nxt s ms c = some t) : t.tot = s.tot := by
  obtain ⟨d, hd, rfl⟩ := nxt_run h
  rw [asSt_tot, (run_keeps hd).tot, init_tot]
theorem nxt_len {s t : Stt} {ms : List Mv} {c : Int × Int} (h : nxt s ms c = some t) (hl : s.locks.length ≤ 8) : t.locks.length ≤ 8 := by
  obtain ⟨d, hd, rfl⟩ := nxt_run h
  rw [asSt_locks]
  exact (run_keeps hd).len (by rw [init_locks]; exact hl)
/-! ### the two ends, the letters -/
structure EndD where
  last : Stt
  opn : Option (List Mv × Stt)
inductive Ltr where
  | step (at_ : Bool) (n : Int) (ms : List Mv)
  | answer (at_ : Bool) (n : Int)
structure WD where
  e : Bool → EndD
  ls : List Ltr
def setE (e : Bool → EndD) (b : Bool) (x : EndD) : Bool → EndD := fun c => if c = b then x else e c
theorem setE_at (e : Bool → EndD) (b : Bool) (x : EndD) : setE e b x b = x := by
  unfold setE
  rw [if_pos rfl]
theorem setE_not (e : Bool → EndD) (b : Bool) (x : EndD) : setE e b x (!b) = e (!b) := by
  unfold setE
  rw [if_neg (by cases b <;> decide)]
theorem setE_id (e : Bool → EndD) (b : Bool) : setE e b (e b) = e := by
  funext c
  unfold setE
  split
  · rename_i h
    rw [h]
  · rfl
/-- what is true of a letter -/
def LOk (e : Bool → EndD) : Ltr → Prop
  | .step b n ms => n ≤ (e b).last.num ∨ ∃ s, (e !b).opn = some (ms, s) ∧ s.num = n
  | .answer b n => n ≤ (e !b).last.num
structure PInv (M : Int) (W : WD) : Prop where
  opn : ∀ b ms s, (W.e b).opn = some (ms, s) → ∃ c, nxt (W.e b).last ms c = some s
  tot : ∀ b, (W.e b).last.tot = M
  len : ∀ b, (W.e b).last.locks.length ≤ 8
  near : (W.e false).last = (W.e true).last ∨ ∃ b ms, (W.e b).opn = some (ms, (W.e !b).last)
  ls : ∀ l ∈ W.ls, LOk W.e l
/-- how one end goes on in a deed -/
inductive Adv : EndD → EndD → Prop
  | same (E : EndD) : Adv E E
  | prop {E : EndD} {ms : List Mv} {s : Stt} {c : Int × Int} : E.opn = none → nxt E.last ms c = some s → Adv E ⟨E.last, some (ms, s)⟩
  | heard {E : EndD} {ms : List Mv} {s : Stt} {c : Int × Int} : E.opn = none → nxt E.last ms c = some s → Adv E ⟨s, none⟩
  | answered {E : EndD} {ms : List Mv} {s : Stt} : E.opn = some (ms, s) → s.num = E.last.num + 1 → Adv E ⟨s, none⟩
/-- what a noted state may be -/
def Okn (E : EndD) (n : Int) (s : Stt) : Prop := n < E.last.num ∨ (n = E.last.num ∧ s = E.last) ∨ ∃ ms t, E.opn = some (ms, t) ∧ n = E.last.num + 1 ∧ s = t
theorem Okn.adv {E E' : EndD} {n : Int} {s : Stt} (h : Okn E n s) (a : Adv E E') : Okn E' n s := by
  cases a with
  | same => exact h
  | prop ho hn =>
    rcases h with h | h | ⟨ms, t, h, _⟩
    · exact .inl h
    · exact .inr (.inl h)
    · rw [ho] at h
      cases h
  | heard ho hn =>
    have e := nxt_num hn
    refine .inl ?_
    rcases h with h | h | ⟨ms, t, h, _⟩
    · show n < _
      rw [e]
      omega
    · show n < _
      rw [e]
      omega
    · rw [ho] at h
      cases h
  | answered ho e =>
    rcases h with h | h | ⟨ms, t, h, h2, h3⟩
    · refine .inl ?_
      show n < _
      rw [e]
      omega
    · refine .inl ?_
      show n < _
      rw [e]
      omega
    · rw [ho] at h
      cases h
      exact .inr (.inl ⟨h2.trans e.symm, h3⟩)
theorem not_not (b : Bool) : (!(!b)) = b := by cases b <;> rfl
/-- the two ends' numbers -/
theorem PInv.nums {M : Int} {W : WD} (I : PInv M W) (b : Bool) : (W.e b).last.num ≤ (W.e !b).last.num + 1 := by
  rcases I.near with h | ⟨c, ms, h⟩
  · cases b
    · rw [h]
      show (W.e true).last.num ≤ (W.e true).last.num + 1
      omega
    · show (W.e true).last.num ≤ (W.e false).last.num + 1
      rw [h]
      omega
  · obtain ⟨k, hk⟩ := I.opn c ms _ h
    have e := nxt_num hk
    cases b <;> cases c
    · have e : (W.e true).last.num = (W.e false).last.num + 1 := e
      show (W.e false).last.num ≤ (W.e true).last.num + 1
      omega
    · have e : (W.e false).last.num = (W.e true).last.num + 1 := e
      show (W.e false).last.num ≤ (W.e true).last.num + 1
      omega
    · have e : (W.e true).last.num = (W.e false).last.num + 1 := e
      show (W.e true).last.num ≤ (W.e false).last.num + 1
      omega
    · have e : (W.e false).last.num = (W.e true).last.num + 1 := e
      show (W.e true).last.num ≤ (W.e false).last.num + 1
      omega
/-- equal numbers: equal states; the other one ahead: it is the open step -/
theorem PInv.same {M : Int} {W : WD} (I : PInv M W) {b : Bool} (h : (W.e b).last.num = (W.e !b).last.num) : (W.e b).last = (W.e !b).last := by
  rcases I.near with q | ⟨c, ms, q⟩
  · cases b
    · exact q
    · exact q.symm
  · obtain ⟨k, hk⟩ := I.opn c ms _ q
    have e := nxt_num hk
    cases b <;> cases c
    · have e : (W.e true).last.num = (W.e false).last.num + 1 := e
      have h : (W.e false).last.num = (W.e true).last.num := h
      omega
    · have e : (W.e false).last.num = (W.e true).last.num + 1 := e
      have h : (W.e false).last.num = (W.e true).last.num := h
      omega
    · have e : (W.e true).last.num = (W.e false).last.num + 1 := e
      have h : (W.e true).last.num = (W.e false).last.num := h
      omega
    · have e : (W.e false).last.num = (W.e true).last.num + 1 := e
      have h : (W.e true).last.num = (W.e false).last.num := h
      omega
theorem PInv.behind {M : Int} {W : WD} (I : PInv M W) {b : Bool} (h : (W.e b).last.num < (W.e !b).last.num) : ∃ ms, (W.e b).opn = some (ms, (W.e !b).last) := by
  rcases I.near with q | ⟨c, ms, q⟩
  · cases b
    · have h : (W.e false).last.num < (W.e true).last.num := h
      rw [q] at h
      omega
    · have h : (W.e true).last.num < (W.e false).last.num := h
      rw [q] at h
      omega
  · obtain ⟨k, hk⟩ := I.opn c ms _ q
    have e := nxt_num hk
    cases b <;> cases c
    · exact ⟨ms, q⟩
    · have e : (W.e false).last.num = (W.e true).last.num + 1 := e
      have h : (W.e false).last.num < (W.e true).last.num := h
      omega
    · have e : (W.e true).last.num = (W.e false).last.num + 1 := e
      have h : (W.e true).last.num < (W.e false).last.num := h
      omega
    · exact ⟨ms, q⟩
theorem near_of {e : Bool → EndD} {b : Bool} (h : (e b).last = (e !b).last) : (e false).last = (e true).last := by
  cases b
  · exact h
  · exact h.symm
/-- the letters alone change -/
theorem PInv.letters {M : Int} {W : WD} (I : PInv M W) {ls : List Ltr} (h : ∀ l ∈ ls, LOk W.e l) : PInv M ⟨W.e, ls⟩ := ⟨I.opn, I.tot, I.len, I.near, h⟩
theorem PInv.add {M : Int} {W : WD} (I : PInv M W) {l : Ltr} (h : LOk W.e l) : PInv M ⟨W.e, W.ls ++ [l]⟩ := I.letters fun x hx => by
  rcases List.mem_append.mp hx with q | q
  · exact I.ls x q
  · rw [List.mem_singleton.mp q]
    exact h
/-- an end proposes -/
theorem PInv.propose {M : Int} {W : WD} (I : PInv M W) {b : Bool} {ms : List Mv} {s : Stt} {c : Int × Int} (ho : (W.e b).opn = none) (hn : nxt (W.e b).last ms c = some s) :
    PInv M ⟨setE W.e b ⟨(W.e b).last, some (ms, s)⟩, W.ls⟩ := by
  have la : ∀ d, (setE W.e b ⟨(W.e b).last, some (ms, s)⟩ d).last = (W.e d).last := fun d => by
    unfold setE
    split
    · rename_i q
      rw [q]
    · rfl
  have on : ∀ d ms' s', (W.e d).opn = some (ms', s') → (setE W.e b ⟨(W.e b).last, some (ms, s)⟩ d).opn = some (ms', s') := fun d ms' s' q => by
    unfold setE
    split
    · rename_i z
      rw [z, ho] at q
      cases q
    · exact q
  refine ⟨fun d ms' s' q => ?_, fun d => ?_, fun d => ?_, ?_, fun l hl => ?_⟩
  · have q : (setE W.e b ⟨(W.e b).last, some (ms, s)⟩ d).opn = some (ms', s') := q
    show ∃ c, nxt (setE W.e b ⟨(W.e b).last, some (ms, s)⟩ d).last ms' c = some s'
    rw [la]
    unfold setE at q
    split at q
    · rename_i z
      have q : some (ms, s) = some (ms', s') := q
      cases q
      rw [z]
      exact ⟨c, hn⟩
    · exact I.opn d ms' s' q
  · show (setE W.e b ⟨(W.e b).last, some (ms, s)⟩ d).last.tot = M
    rw [la]
    exact I.tot d
  · show (setE W.e b ⟨(W.e b).last, some (ms, s)⟩ d).last.locks.length ≤ 8
    rw [la]
    exact I.len d
  · show (setE W.e b ⟨(W.e b).last, some (ms, s)⟩ false).last = (setE W.e b ⟨(W.e b).last, some (ms, s)⟩ true).last ∨ ∃ d ms', (setE W.e b ⟨(W.e b).last, some (ms, s)⟩ d).opn = some (ms', (setE W.e b ⟨(W.e b).last, some (ms, s)⟩ !d).last)
    rw [la, la]
    rcases I.near with q | ⟨d, ms', q⟩
    · exact .inl q
    · refine .inr ⟨d, ms', ?_⟩
      rw [la]
      exact on d ms' _ q
  · have z := I.ls l hl
    cases l with
    | step d n ms' =>
      show n ≤ (setE W.e b ⟨(W.e b).last, some (ms, s)⟩ d).last.num ∨ ∃ s', (setE W.e b ⟨(W.e b).last, some (ms, s)⟩ !d).opn = some (ms', s') ∧ s'.num = n
      rw [la]
      rcases z with z | ⟨s', z, z2⟩
      · exact .inl z
      · exact .inr ⟨s', on _ _ _ z, z2⟩
    | answer d n =>
      show n ≤ (setE W.e b ⟨(W.e b).last, some (ms, s)⟩ !d).last.num
      rw [la]
      exact z
/-- an end hears a step that it does not have yet -/
theorem PInv.hear {M : Int} {W : WD} (I : PInv M W) {b : Bool} {n : Int} {ms : List Mv} {s : Stt} {c : Int × Int} (hl : LOk W.e (.step b n ms)) (h1 : n = (W.e b).last.num + 1)
    (ho : (W.e b).opn = none) (hn : nxt (W.e b).last ms c = some s) : PInv M ⟨setE W.e b ⟨s, none⟩, W.ls⟩ ∧ s.num = n := by
  have es := nxt_num hn
  rcases hl with z | ⟨s', z, z2⟩
  · omega
  obtain ⟨c', hc'⟩ := I.opn (!b) ms s' z
  have en := nxt_num hc'
  have eq : (W.e b).last = (W.e !b).last := I.same (by omega)
  have e1 : s' = s := nxt_det hc' (by rw [← eq]; exact hn)
  subst e1
  have at_ := setE_at W.e b ⟨s', none⟩
  have nt_ := setE_not W.e b ⟨s', none⟩
  refine ⟨⟨fun d ms' t q => ?_, fun d => ?_, fun d => ?_, ?_, fun l hl => ?_⟩, es.trans h1.symm⟩
  · have q : (setE W.e b ⟨s', none⟩ d).opn = some (ms', t) := q
    show ∃ c, nxt (setE W.e b ⟨s', none⟩ d).last ms' c = some t
    unfold setE at q ⊢
    split at q
    · cases q
    · rename_i z
      rw [if_neg z]
      exact I.opn d ms' t q
  · show (setE W.e b ⟨s', none⟩ d).last.tot = M
    unfold setE
    split
    · exact (nxt_tot hn).trans (I.tot b)
    · exact I.tot d
  · show (setE W.e b ⟨s', none⟩ d).last.locks.length ≤ 8
    unfold setE
    split
    · exact nxt_len hn (I.len b)
    · exact I.len d
  · refine .inr ⟨!b, ms, ?_⟩
    show (setE W.e b ⟨s', none⟩ !b).opn = some (ms, (setE W.e b ⟨s', none⟩ !(!b)).last)
    rw [nt_, not_not, at_]
    exact z
  · have q := I.ls l hl
    have up : ∀ d, (W.e d).last.num ≤ (setE W.e b ⟨s', none⟩ d).last.num := fun d => by
      unfold setE
      split
      · rename_i z
        rw [z]
        show _ ≤ s'.num
        omega
      · exact Int.le_refl _
    cases l with
    | step d n' ms' =>
      show n' ≤ (setE W.e b ⟨s', none⟩ d).last.num ∨ ∃ t, (setE W.e b ⟨s', none⟩ !d).opn = some (ms', t) ∧ t.num = n'
      rcases q with q | ⟨t, q, q2⟩
      · exact .inl (Int.le_trans q (up d))
      · by_cases hd : (!d) = b
        · rw [hd, ho] at q
          cases q
        · refine .inr ⟨t, ?_, q2⟩
          unfold setE
          rw [if_neg hd]
          exact q
    | answer d n' =>
      show n' ≤ (setE W.e b ⟨s', none⟩ !d).last.num
      exact Int.le_trans q (up _)
/-- an end hears the answer to its open step -/
theorem PInv.answered {M : Int} {W : WD} (I : PInv M W) {b : Bool} {ms : List Mv} {s : Stt} (hl : LOk W.e (.answer b s.num)) (ho : (W.e b).opn = some (ms, s)) :
    PInv M ⟨setE W.e b ⟨s, none⟩, W.ls⟩ ∧ s.num = (W.e b).last.num + 1 := by
  obtain ⟨c, hc⟩ := I.opn b ms s ho
  have es := nxt_num hc
  have hl : s.num ≤ (W.e !b).last.num := hl
  obtain ⟨ms2, h2⟩ := I.behind (b := b) (by omega)
  have e1 : s = (W.e !b).last := by
    rw [ho] at h2
    cases h2
    rfl
  have at_ := setE_at W.e b ⟨s, none⟩
  have nt_ := setE_not W.e b ⟨s, none⟩
  refine ⟨⟨fun d ms' t q => ?_, fun d => ?_, fun d => ?_, ?_, fun l hl' => ?_⟩, es⟩
  · have q : (setE W.e b ⟨s, none⟩ d).opn = some (ms', t) := q
    show ∃ c, nxt (setE W.e b ⟨s, none⟩ d).last ms' c = some t
    unfold setE at q ⊢
    split at q
    · cases q
    · rename_i z
      rw [if_neg z]
      exact I.opn d ms' t q
  · show (setE W.e b ⟨s, none⟩ d).last.tot = M
    unfold setE
    split
    · exact (nxt_tot hc).trans (I.tot b)
    · exact I.tot d
  · show (setE W.e b ⟨s, none⟩ d).last.locks.length ≤ 8
    unfold setE
    split
    · exact nxt_len hc (I.len b)
    · exact I.len d
  · refine .inl (near_of (b := b) ?_)
    show (setE W.e b ⟨s, none⟩ b).last = (setE W.e b ⟨s, none⟩ !b).last
    rw [at_, nt_]
    exact e1
  · have q := I.ls l hl'
    have up : ∀ d, (W.e d).last.num ≤ (setE W.e b ⟨s, none⟩ d).last.num := fun d => by
      unfold setE
      split
      · rename_i z
        rw [z]
        show _ ≤ s.num
        omega
      · exact Int.le_refl _
    cases l with
    | step d n' ms' =>
      show n' ≤ (setE W.e b ⟨s, none⟩ d).last.num ∨ ∃ t, (setE W.e b ⟨s, none⟩ !d).opn = some (ms', t) ∧ t.num = n'
      rcases q with q | ⟨t, q, q2⟩
      · exact .inl (Int.le_trans q (up d))
      · by_cases hd : (!d) = b
        · rw [hd, ho] at q
          cases q
          have hd2 : d = !b := by rw [← hd, not_not]
          refine .inl ?_
          rw [hd2, nt_]
          omega
        · refine .inr ⟨t, ?_, q2⟩
          unfold setE
          rw [if_neg hd]
          exact q
    | answer d n' =>
      show n' ≤ (setE W.e b ⟨s, none⟩ !d).last.num
      exact Int.le_trans q (up _)
end K45
set_option Elab.async false
set_option linter.all false
set_option maxRecDepth 100000
set_option maxHeartbeats 4000000
/-! calls by name; data that is made of tuples; what stays -/
namespace K45
open PySem PySem.Spec PyProof.Rows L2
/-! ### calls by name -/
section
variable (P : Program) (w : World) (K : PySem.W.Frag) (mg : Str → Option Value) (base : Heap)
/-- the module's def x keeps the promise sp, called positionally -/
structure CallG (k : Nat) (x : Str) (ps : List Str) (sp : Sp) : Prop where
  ex : ∃ fd, FnOk P w K mg base CX0 k (He.ga K x) fd ps sp ∧ Binds K fd ps [] ∧ PySem.W.keepIn K (.ref (He.ga K x)) = true
  mgx : mg x = some (.ref (He.ga K x))
/-- the method m of the class c -/
structure CallM (k : Nat) (c m : Str) (ps : List Str) (sp : Sp) : Prop where
  ex : ∃ fd, FnOk P w K mg base CX0 k (He.ma K (He.ga K c) m) fd ps sp ∧ Binds K fd ps []
  cl : Cls K (He.ga K c)
  me : Meth K (He.ga K c) m (He.ma K (He.ga K c) m)
end
section
variable {X : Cx} {k j : Nat} {c m x : Str} {ps : List Str} {sp : Sp} {p pos apos : Pos} {e o : Expr} {es : List Expr} {ta : TE} {t : TA}
theorem pe_G (F : CallG X.prog X.w X.K X.mg X.base k x ps sp) (hr : Room j X.A) (hg : Gl X x) (ha : PA X (e :: es) t) (hk : k ≤ j := by decide)
    (hdb : (x == ("__debug__" : Str)) = false := by decide) (he : starEach (e :: es) X.env = (false, eval e X.env) :: starEach es X.env := by rfl) (hpl : (backTo pos (starEach es X.env)).any (·.1) = false := by rfl) :
    PE X (.Call (.Name x p) (e :: es) [] pos) (tCall sp [] E0 t) := by
  obtain ⟨fd, F1, b, kp⟩ := F.ex
  exact pe_call F1 (hr.mono hk) hg F.mgx kp b .nil pass0 ha hdb he hpl
theorem pe_M {pl : Sem Bool} (he : PE X o ta) (F : CallM X.prog X.w X.K X.mg X.base k c m ps sp) (hr : Room j X.A) (ha : PA X (e :: es) t) (hk : k ≤ j := by decide)
    (hst : starEach (e :: es) X.env = (false, eval e X.env) :: starEach es X.env := by rfl) (hpl : (backTo pos (starEach es X.env)).any (·.1) = false := by rfl)
    (ht : eval (.Call (.Attribute o m apos) (e :: es) [] pos) X.env = (do
      let ov ← eval o X.env
      standAt apos.atName
      let (f, first) ← holding [ov] (getMethod ov m pl)
      callWith pos f first (backTo pos (starEach (e :: es) X.env)) (backToKw pos (keywordEach [] X.env))) := by rfl) :
    PE X (.Call (.Attribute o m apos) (e :: es) [] pos) (tMeth (He.ga X.K c) m sp [] E0 ta t) := by
  obtain ⟨fd, F1, b⟩ := F.ex
  exact pe_meth he F.cl F.me F1 (hr.mono hk) b .nil pass0 ha hst hpl ht
theorem pe_M0 {pl : Sem Bool} (he : PE X o ta) (F : CallM X.prog X.w X.K X.mg X.base k c m ps sp) (hr : Room j X.A) (hk : k ≤ j := by decide)
    (ht : eval (.Call (.Attribute o m apos) [] [] pos) X.env = (do
      let ov ← eval o X.env
      standAt apos.atName
      let (f, first) ← holding [ov] (getMethod ov m pl)
      callWith pos f first (backTo pos (starEach [] X.env)) (backToKw pos (keywordEach [] X.env))) := by rfl) :
    PE X (.Call (.Attribute o m apos) [] [] pos) (tMeth (He.ga X.K c) m sp [] E0 ta tNil) := by
  obtain ⟨fd, F1, b⟩ := F.ex
  exact pe_meth0 he F.cl F.me F1 (hr.mono hk) b .nil pass0 ht
end
/-! ### an instance's attributes, by their places -/
theorem zlk : ∀ {ks : List Str} {vs : List V} {k : Str} {i : Nat} {v : V}, ks.idxOf? k = some i → vs[i]? = some v → (ks.zip vs).lookup k = some v
  | [], vs, k, i, v, h, _ => by simp at h
  | a :: ks, [], k, i, v, _, h => by simp at h
  | a :: ks, y :: vs, k, i, v, h, hv => by
    rw [List.idxOf?_cons] at h
    show (match k == a with | true => some y | false => (ks.zip vs).lookup k) = some v
    by_cases e : a = k
    · subst e
      rw [if_pos (by simp)] at h
      cases h
      rw [show (a == a) = true from by simp]
      exact hv
    · rw [if_neg (by simpa using e)] at h
      rw [show (k == a) = false from by simpa using fun q => e q.symm]
      cases q : ks.idxOf? k with
      | none =>
        rw [q] at h
        cases h
      | some j =>
        rw [q] at h
        cases h
        exact zlk q hv
theorem zno : ∀ {ks : List Str} {vs : List V} {k : Str}, ks.idxOf? k = none → (ks.zip vs).lookup k = none
  | [], vs, k, h => rfl
  | a :: ks, [], k, h => rfl
  | a :: ks, y :: vs, k, h => by
    rw [List.idxOf?_cons] at h
    show (match k == a with | true => some y | false => (ks.zip vs).lookup k) = none
    by_cases e : a = k
    · subst e
      rw [if_pos (by simp)] at h
      cases h
    · rw [if_neg (by simpa using e)] at h
      rw [show (k == a) = false from by simpa using fun q => e q.symm]
      cases q : ks.idxOf? k with
      | none => exact zno q
      | some j =>
        rw [q] at h
        cases h
theorem zput : ∀ {ks : List Str} {vs : List V} {k : Str} {i : Nat} {v : V}, ks.idxOf? k = some i → ks.length = vs.length → putF k v (ks.zip vs) = ks.zip (vs.set i v)
  | [], vs, k, i, v, h, _ => by simp at h
  | a :: ks, [], k, i, v, _, h => by simp at h
  | a :: ks, y :: vs, k, i, v, h, hl => by
    rw [List.idxOf?_cons] at h
    show (if a = k then (a, v) :: ks.zip vs else (a, y) :: putF k v (ks.zip vs)) = _
    by_cases e : a = k
    · subst e
      rw [if_pos (by simp)] at h
      cases h
      rw [if_pos rfl]
      rfl
    · rw [if_neg (by simpa using e)] at h
      rw [if_neg e]
      cases q : ks.idxOf? k with
      | none =>
        rw [q] at h
        cases h
      | some j =>
        rw [q] at h
        cases h
        rw [zput q (by simpa using hl)]
        rfl
theorem znew : ∀ {ks : List Str} {vs : List V} {k : Str} {v : V}, ks.idxOf? k = none → ks.length = vs.length → putF k v (ks.zip vs) = (ks ++ [k]).zip (vs ++ [v])
  | [], [], k, v, _, _ => rfl
  | [], y :: vs, k, v, _, h => by simp at h
  | a :: ks, [], k, v, _, h => by simp at h
  | a :: ks, y :: vs, k, v, h, hl => by
    rw [List.idxOf?_cons] at h
    show (if a = k then (a, v) :: ks.zip vs else (a, y) :: putF k v (ks.zip vs)) = _
    by_cases e : a = k
    · subst e
      rw [if_pos (by simp)] at h
      cases h
    · rw [if_neg (by simpa using e)] at h
      rw [if_neg e]
      cases q : ks.idxOf? k with
      | none =>
        rw [znew q (by simpa using hl)]
        rfl
      | some j =>
        rw [q] at h
        cases h
theorem zlen {ks : List Str} {vs : List V} (h : ks.length < 1000) : (ks.zip vs).length < 1000 := by
  rw [List.length_zip]
  omega
def ftKs : List Str := ["sums", "taken", "splices"]
def drKs : List Str := ["from_first", "own", "others", "spare", "locks", "closed"]
def enKs : List Str := ["opening", "as_first", "last", "step", "next", "frozen", "leaving", "footing", "there"]
def seKs : List Str := ["fee", "lead", "margin", "delay", "far", "least", "farthest", "reveal_lead", "base", "per_mille", "gap"]
/-! ### data made of tuples -/
mutual
inductive TD (H : Hp) : V → PyData → Prop
  | bl (b : Bool) : TD H (.bl b) (.bool b)
  | int (i : Int) : TD H (.int i) (.int i)
  | str (x : Str) : TD H (.str x) (.str x)
  | tup {a : Addr} {xs : List V} {ds : List PyData} : H a = some (.tup xs) → TDs H xs ds → TD H (.ref a) (.tuple ds)
inductive TDs (H : Hp) : List V → List PyData → Prop
  | nil : TDs H [] []
  | cons {v : V} {vs : List V} {d : PyData} {ds : List PyData} : TD H v d → TDs H vs ds → TDs H (v :: vs) (d :: ds)
end
section
variable {H H' : Hp} {v : V} {vs : List V} {d : PyData} {ds : List PyData}
theorem TD.ofInt {i : Int} (h : TD H v (.int i)) : v = .int i := by cases h; rfl
theorem TD.ofBl {b : Bool} (h : TD H v (.bool b)) : v = .bl b := by cases h; rfl
theorem TD.ofStr {x : Str} (h : TD H v (.str x)) : v = .str x := by cases h; rfl
theorem TD.ofTup (h : TD H v (.tuple ds)) : ∃ a xs, v = .ref a ∧ H a = some (.tup xs) ∧ TDs H xs ds := by
  cases h with
  | tup e t => exact ⟨_, _, rfl, e, t⟩
theorem TDs.ofNil (h : TDs H vs []) : vs = [] := by cases h; rfl
theorem TDs.ofCons (h : TDs H vs (d :: ds)) : ∃ x xs, vs = x :: xs ∧ TD H x d ∧ TDs H xs ds := by
  cases h with
  | cons a b => exact ⟨_, _, rfl, a, b⟩
theorem TDs.length : ∀ {vs : List V} {ds : List PyData}, TDs H vs ds → vs.length = ds.length
  | _, [], h => by
    rw [h.ofNil]
    rfl
  | _, d :: ds, h => by
    obtain ⟨x, xs, rfl, _, t⟩ := h.ofCons
    rw [List.length_cons, List.length_cons, TDs.length t]
theorem TDs.get : ∀ {vs : List V} {ds : List PyData} {i : Nat} {d : PyData}, TDs H vs ds → ds[i]? = some d → ∃ v, vs[i]? = some v ∧ TD H v d
  | _, [], i, d, h, e => by simp at e
  | _, a :: ds, 0, d, h, e => by
    obtain ⟨x, xs, rfl, q, t⟩ := h.ofCons
    cases e
    exact ⟨x, rfl, q⟩
  | _, a :: ds, i + 1, d, h, e => by
    obtain ⟨x, xs, rfl, q, t⟩ := h.ofCons
    exact TDs.get t (i := i) e
theorem TDs.get' : ∀ {vs : List V} {ds : List PyData} {i : Nat} {v : V}, TDs H vs ds → vs[i]? = some v → ∃ d, ds[i]? = some d ∧ TD H v d
  | _, [], i, d, h, e => by
    rw [h.ofNil] at e
    simp at e
  | _, a :: ds, 0, d, h, e => by
    obtain ⟨x, xs, rfl, q, t⟩ := h.ofCons
    cases e
    exact ⟨a, rfl, q⟩
  | _, a :: ds, i + 1, d, h, e => by
    obtain ⟨x, xs, rfl, q, t⟩ := h.ofCons
    exact TDs.get' t (i := i) e
theorem TDs.append : ∀ {vs ws : List V} {ds es : List PyData}, TDs H vs ds → TDs H ws es → TDs H (vs ++ ws) (ds ++ es)
  | _, _, [], es, h, k => by
    rw [h.ofNil]
    exact k
  | _, _, d :: ds, es, h, k => by
    obtain ⟨x, xs, rfl, q, t⟩ := h.ofCons
    exact .cons q (TDs.append t k)
theorem TDs.erase : ∀ {vs : List V} {ds : List PyData} (i : Nat), TDs H vs ds → TDs H (vs.eraseIdx i) (ds.eraseIdx i)
  | _, [], i, h => by
    rw [h.ofNil]
    exact .nil
  | _, d :: ds, 0, h => by
    obtain ⟨x, xs, rfl, q, t⟩ := h.ofCons
    exact t
  | _, d :: ds, i + 1, h => by
    obtain ⟨x, xs, rfl, q, t⟩ := h.ofCons
    exact .cons q (TDs.erase i t)
/-- tuples stay -/
def TupS (H H' : Hp) : Prop := ∀ b xs, H b = some (.tup xs) → H' b = some (.tup xs)
mutual
theorem TD.keep (k : TupS H H') : ∀ {d : PyData} {v : V}, TD H v d → TD H' v d
  | .none, _, h => by cases h
  | .bool b, _, h => by
    rw [h.ofBl]
    exact .bl b
  | .int i, _, h => by
    rw [h.ofInt]
    exact .int i
  | .str x, _, h => by
    rw [h.ofStr]
    exact .str x
  | .list _, _, h => by cases h
  | .dict _, _, h => by cases h
  | .tuple ds, _, h => by
    obtain ⟨a, xs, rfl, e, t⟩ := h.ofTup
    exact .tup (k _ _ e) (TDs.keep k t)
theorem TDs.keep (k : TupS H H') : ∀ {ds : List PyData} {vs : List V}, TDs H vs ds → TDs H' vs ds
  | [], _, h => by
    rw [h.ofNil]
    exact .nil
  | d :: ds, _, h => by
    obtain ⟨x, xs, rfl, q, t⟩ := h.ofCons
    exact .cons (TD.keep k q) (TDs.keep k t)
end
mutual
theorem TD.dp {K : PySem.W.Frag} : ∀ {d : PyData} {v : V}, TD H v d → Dp K H v d
  | .none, _, h => by cases h
  | .bool b, _, h => by
    rw [h.ofBl]
    exact .bl b
  | .int i, _, h => by
    rw [h.ofInt]
    exact .int i
  | .str x, _, h => by
    rw [h.ofStr]
    exact .str x
  | .list _, _, h => by cases h
  | .dict _, _, h => by cases h
  | .tuple ds, _, h => by
    obtain ⟨a, xs, rfl, e, t⟩ := h.ofTup
    exact .tup (SqT.of e) (TDs.dp t)
theorem TDs.dp {K : PySem.W.Frag} : ∀ {ds : List PyData} {vs : List V}, TDs H vs ds → DpAll K H vs ds
  | [], _, h => by
    rw [h.ofNil]
    exact .nil
  | d :: ds, _, h => by
    obtain ⟨x, xs, rfl, q, t⟩ := h.ofCons
    exact .cons (TD.dp q) (TDs.dp t)
end
end
/-! ### what stays -/
/-- all but S stays; tuples always -/
def Ext (S : List Addr) (H H' : Hp) : Prop := ∀ b o, H b = some o → b ∉ S → H' b = some o
structure Chg (S : List Addr) (H H' : Hp) : Prop where
  ext : Ext S H H'
  tup : TupS H H'
section
variable {S S' : List Addr} {H H1 H2 : Hp} {a b : Addr} {o u : HO}
theorem Chg.refl (H : Hp) : Chg S H H := ⟨fun _ _ h _ => h, fun _ _ h => h⟩
theorem Chg.trans (a : Chg S H H1) (b : Chg S H1 H2) : Chg S H H2 := ⟨fun c o h n => b.ext c o (a.ext c o h n) n, fun c xs h => b.tup c xs (a.tup c xs h)⟩
theorem Chg.mono (a : Chg S H H1) (h : ∀ x ∈ S, x ∈ S') : Chg S' H H1 := ⟨fun c o q n => a.ext c o q fun z => n (h c z), a.tup⟩
theorem Chg.of (a : Same H H1) : Chg S H H1 := ⟨fun c o h _ => a c o h, fun c xs h => a c _ h⟩
theorem Chg.same (a : Chg [] H H1) : Same H H1 := fun c o h => a.ext c o h (by simp)
theorem Chg.new (h : H a = none) : Chg S H (upd H a o) := ⟨fun c u q _ => by rw [upd_ne (ne_of_none q h)]; exact q, fun c xs q => by rw [upd_ne (ne_of_none q h)]; exact q⟩
theorem Chg.put (h : H a = some u) (hu : ∀ xs, u ≠ .tup xs) (ha : a ∈ S) : Chg S H (upd H a o) :=
  ⟨fun c v q n => by rw [upd_ne fun z => n (by rw [z]; exact ha)]; exact q, fun c xs q => by rw [upd_ne fun z => hu xs (by rw [z, h] at q; exact Option.some.inj q)]; exact q⟩
theorem Chg.at1 (a : Chg S H H1) (h : H b = some o) (n : b ∉ S) : H1 b = some o := a.ext b o h n
theorem Same.new (h : H a = none) : Same H (upd H a o) := fun c u q => by rw [upd_ne (ne_of_none q h)]; exact q
theorem TD.chg {v : V} {d : PyData} (h : TD H v d) (c : Chg S H H1) : TD H1 v d := h.keep c.tup
theorem TDs.chg {v : List V} {d : List PyData} (h : TDs H v d) (c : Chg S H H1) : TDs H1 v d := h.keep c.tup
theorem TD.sm {v : V} {d : PyData} (h : TD H v d) (c : Same H H1) : TD H1 v d := h.keep fun b xs q => c b _ q
theorem TDs.sm {v : List V} {d : List PyData} (h : TDs H v d) (c : Same H H1) : TDs H1 v d := h.keep fun b xs q => c b _ q
end
/-! ### the data -/
def Lck.d (l : Lck) : PyData := .tuple [.int l.key, .int l.am, .int l.dl, .bool l.ff]
def Stt.d (s : Stt) : PyData := .tuple [.int s.ch, .int s.num, .int s.fst, .int s.snd, .tuple (s.locks.map Lck.d), .bool s.fin]
def Mv.d : Mv → PyData
  | .lock k a dl => .tuple [.str "lock", .int k, .int a, .int dl]
  | .paid p s => .tuple [.str "paid", .int p, .int s]
  | .dropped p => .tuple [.str "dropped", .int p]
  | .back p => .tuple [.str "back", .int p]
  | .finish => .tuple [.str "finish"]
  | .transfer a => .tuple [.str "transfer", .int a]
def Mvs.d (ms : List Mv) : PyData := .tuple (ms.map Mv.d)
def b2z (b : Bool) : Int := if b = true then 1 else 0
def Ltr.d : Ltr → PyData
  | .step b n ms => .tuple [.int (b2z b), .str "step", .int n, Mvs.d ms]
  | .answer b n => .tuple [.int (b2z b), .str "answer", .int n, .tuple []]
/-- a splice: its eight numbers -/
def Spl.d (z : List Int) : PyData := .tuple (z.map PyData.int)
section
variable {H : Hp} {v : V}
theorem Stt.open_ {s : Stt} (h : TD H v s.d) : ∃ p t ls, v = .ref p ∧ H p = some (.tup [.int s.ch, .int s.num, .int s.fst, .int s.snd, .ref t, .bl s.fin]) ∧ H t = some (.tup ls) ∧ TDs H ls (s.locks.map Lck.d) := by
  obtain ⟨p, xs, rfl, hp, t⟩ := TD.ofTup h
  obtain ⟨x1, xs, rfl, h1, t⟩ := t.ofCons
  obtain ⟨x2, xs, rfl, h2, t⟩ := t.ofCons
  obtain ⟨x3, xs, rfl, h3, t⟩ := t.ofCons
  obtain ⟨x4, xs, rfl, h4, t⟩ := t.ofCons
  obtain ⟨x5, xs, rfl, h5, t⟩ := t.ofCons
  obtain ⟨x6, xs, rfl, h6, t⟩ := t.ofCons
  obtain rfl := t.ofNil
  obtain rfl := h1.ofInt
  obtain rfl := h2.ofInt
  obtain rfl := h3.ofInt
  obtain rfl := h4.ofInt
  obtain rfl := h6.ofBl
  obtain ⟨q, ls, rfl, hq, tl⟩ := h5.ofTup
  exact ⟨p, q, ls, rfl, hp, hq, tl⟩
theorem Stt.close_ {s : Stt} {p t : Addr} {ls : List V} (hp : H p = some (.tup [.int s.ch, .int s.num, .int s.fst, .int s.snd, .ref t, .bl s.fin])) (ht : H t = some (.tup ls)) (tl : TDs H ls (s.locks.map Lck.d)) : TD H (.ref p) s.d :=
  .tup hp (.cons (.int _) (.cons (.int _) (.cons (.int _) (.cons (.int _) (.cons (.tup ht tl) (.cons (.bl _) .nil))))))
theorem Lck.open_ {l : Lck} (h : TD H v l.d) : ∃ p, v = .ref p ∧ H p = some (.tup [.int l.key, .int l.am, .int l.dl, .bl l.ff]) := by
  obtain ⟨p, xs, rfl, hp, t⟩ := TD.ofTup h
  obtain ⟨x1, xs, rfl, h1, t⟩ := t.ofCons
  obtain ⟨x2, xs, rfl, h2, t⟩ := t.ofCons
  obtain ⟨x3, xs, rfl, h3, t⟩ := t.ofCons
  obtain ⟨x4, xs, rfl, h4, t⟩ := t.ofCons
  obtain rfl := t.ofNil
  obtain rfl := h1.ofInt
  obtain rfl := h2.ofInt
  obtain rfl := h3.ofInt
  obtain rfl := h4.ofBl
  exact ⟨p, rfl, hp⟩
theorem ints_open : ∀ {z : List Int} {vs : List V}, TDs H vs (z.map PyData.int) → vs = z.map V.int
  | [], vs, h => h.ofNil
  | i :: z, vs, h => by
    obtain ⟨x, xs, rfl, h1, t⟩ := TDs.ofCons (show TDs H vs (.int i :: z.map PyData.int) from h)
    rw [h1.ofInt, ints_open t]
    rfl
theorem ints_close : ∀ {z : List Int}, TDs H (z.map V.int) (z.map PyData.int)
  | [] => .nil
  | i :: z => .cons (.int i) ints_close
theorem Spl.open_ {z : List Int} (h : TD H v (Spl.d z)) : ∃ p, v = .ref p ∧ H p = some (.tup (z.map V.int)) := by
  obtain ⟨p, xs, rfl, hp, t⟩ := TD.ofTup h
  rw [ints_open t] at hp
  exact ⟨p, rfl, hp⟩
theorem Spl.close_ {z : List Int} {p : Addr} (hp : H p = some (.tup (z.map V.int))) : TD H (.ref p) (Spl.d z) := .tup hp ints_close
/-- the kind of a move: its tuple, opened -/
theorem Mv.open_ {m : Mv} (h : TD H v m.d) : ∃ p, v = .ref p ∧ H p = some (.tup (match m with
    | .lock k a dl => [.str "lock", .int k, .int a, .int dl]
    | .paid p s => [.str "paid", .int p, .int s]
    | .dropped p => [.str "dropped", .int p]
    | .back p => [.str "back", .int p]
    | .finish => [.str "finish"]
    | .transfer a => [.str "transfer", .int a])) := by
  cases m with
  | lock k a dl =>
    obtain ⟨p, xs, rfl, hp, t⟩ := TD.ofTup h
    obtain ⟨x1, xs, rfl, h1, t⟩ := t.ofCons
    obtain ⟨x2, xs, rfl, h2, t⟩ := t.ofCons
    obtain ⟨x3, xs, rfl, h3, t⟩ := t.ofCons
    obtain ⟨x4, xs, rfl, h4, t⟩ := t.ofCons
    obtain rfl := t.ofNil
    obtain rfl := h1.ofStr
    obtain rfl := h2.ofInt
    obtain rfl := h3.ofInt
    obtain rfl := h4.ofInt
    exact ⟨p, rfl, hp⟩
  | paid q s =>
    obtain ⟨p, xs, rfl, hp, t⟩ := TD.ofTup h
    obtain ⟨x1, xs, rfl, h1, t⟩ := t.ofCons
    obtain ⟨x2, xs, rfl, h2, t⟩ := t.ofCons
    obtain ⟨x3, xs, rfl, h3, t⟩ := t.ofCons
    obtain rfl := t.ofNil
    obtain rfl := h1.ofStr
    obtain rfl := h2.ofInt
    obtain rfl := h3.ofInt
    exact ⟨p, rfl, hp⟩
  | dropped q =>
    obtain ⟨p, xs, rfl, hp, t⟩ := TD.ofTup h
    obtain ⟨x1, xs, rfl, h1, t⟩ := t.ofCons
    obtain ⟨x2, xs, rfl, h2, t⟩ := t.ofCons
    obtain rfl := t.ofNil
    obtain rfl := h1.ofStr
    obtain rfl := h2.ofInt
    exact ⟨p, rfl, hp⟩
  | back q =>
    obtain ⟨p, xs, rfl, hp, t⟩ := TD.ofTup h
    obtain ⟨x1, xs, rfl, h1, t⟩ := t.ofCons
    obtain ⟨x2, xs, rfl, h2, t⟩ := t.ofCons
    obtain rfl := t.ofNil
    obtain rfl := h1.ofStr
    obtain rfl := h2.ofInt
    exact ⟨p, rfl, hp⟩
  | finish =>
    obtain ⟨p, xs, rfl, hp, t⟩ := TD.ofTup h
    obtain ⟨x1, xs, rfl, h1, t⟩ := t.ofCons
    obtain rfl := t.ofNil
    obtain rfl := h1.ofStr
    exact ⟨p, rfl, hp⟩
  | transfer q =>
    obtain ⟨p, xs, rfl, hp, t⟩ := TD.ofTup h
    obtain ⟨x1, xs, rfl, h1, t⟩ := t.ofCons
    obtain ⟨x2, xs, rfl, h2, t⟩ := t.ofCons
    obtain rfl := t.ofNil
    obtain rfl := h1.ofStr
    obtain rfl := h2.ofInt
    exact ⟨p, rfl, hp⟩
end
/-! ### the promise of a def is shown by its body -/
section
variable {P : Program} {w : World} {K : PySem.W.Frag} {mg : Str → Option Value} {base : Heap} {x qual : Str} {st : Stmt} {f : Addr} {fd : FuncData} {N ps : List Str} {k : Nat} {sp : Sp}
/-- the body as a term of rules, and its reading -/
theorem ok_of (F : FnP K x qual st f fd) (S : FnScope N ps (defScope st)) (len : ∀ vs H Q E, sp vs H Q E → vs.length = ps.length)
    (hbody : ∀ (cdv : Value) (A : Around) (outer : List Env) (s : Shared) (H : Hp) (vs : List V) (Q : VK) (E : XK), Room k (A.deeper (envOfC qual (defScope st) s.heap.objs.size f cdv)) → sp vs H Q E →
      ∃ t, PSs (cxOf CX0 P w K mg base N qual (defScope st) f cdv A outer s H E).nox (defBody st) t ∧ t { nx := fun _ H' => Q .non H', rt := Q } (start N vs) H) : FnOk P w K mg base CX0 (k + 1) f fd ps sp :=
  F.ok S len fun cdv A outer s H vs Q E hr h => by
    obtain ⟨t, h1, h2⟩ := hbody cdv A outer s H vs Q E hr h
    exact ⟨t, PSs.nox h1, h2⟩
theorem mkG_ (T : ∃ fd, FnP K x x st (He.ga K x) fd) (g : mg x = some (.ref (He.ga K x)))
    (hb : ∀ (kV doc pm : Value) (an : Option Addr) (cdv ct : Value) (us : List Value), us.length = ps.length → bindArgs (PySem.W.fnOf x x (defArgs st) (defBody st) (defScope st) .none kV doc pm an cdv ct) ⟨us, []⟩ = pure (ps.zip us))
    (h : ∀ fd, FnP K x x st (He.ga K x) fd → FnOk P w K mg base CX0 k (He.ga K x) fd ps sp) : CallG P w K mg base k x ps sp := by
  obtain ⟨fd, F⟩ := T
  exact ⟨⟨fd, h fd F, FunD.bindsN F hb, F.kp⟩, g⟩
theorem mkM_ {c m : Str} (T : ∃ fd, FnP K m qual st (He.ma K (He.ga K c) m) fd) (cl : Cls K (He.ga K c)) (me : Meth K (He.ga K c) m (He.ma K (He.ga K c) m))
    (hb : ∀ (kV doc pm : Value) (an : Option Addr) (cdv ct : Value) (us : List Value), us.length = ps.length → bindArgs (PySem.W.fnOf m qual (defArgs st) (defBody st) (defScope st) .none kV doc pm an cdv ct) ⟨us, []⟩ = pure (ps.zip us))
    (h : ∀ fd, FnP K m qual st (He.ma K (He.ga K c) m) fd → FnOk P w K mg base CX0 k (He.ma K (He.ga K c) m) fd ps sp) : CallM P w K mg base k c m ps sp := by
  obtain ⟨fd, F⟩ := T
  exact ⟨⟨fd, h fd F, FunD.bindsN F hb⟩, cl, me⟩
end
end K45
set_option Elab.async false
set_option linter.all false
set_option maxRecDepth 100000
set_option maxHeartbeats 4000000
/-! the small defs -/
namespace K45
open PySem PySem.Spec PyProof.Rows L2
theorem ati {xs : List V} {v : V} (j : Nat) (h : xs[j]? = some v) : atI xs (j : Int) = some v := atI_nat h
theorem K_Footing_sums : ftKs.idxOf? ("sums" : Str) = some 0 := by decide +kernel
theorem K_Footing_taken : ftKs.idxOf? ("taken" : Str) = some 1 := by decide +kernel
theorem K_Footing_splices : ftKs.idxOf? ("splices" : Str) = some 2 := by decide +kernel
theorem K_Draft_from_first : drKs.idxOf? ("from_first" : Str) = some 0 := by decide +kernel
theorem K_Draft_own : drKs.idxOf? ("own" : Str) = some 1 := by decide +kernel
theorem K_Draft_others : drKs.idxOf? ("others" : Str) = some 2 := by decide +kernel
theorem K_Draft_spare : drKs.idxOf? ("spare" : Str) = some 3 := by decide +kernel
theorem K_Draft_locks : drKs.idxOf? ("locks" : Str) = some 4 := by decide +kernel
theorem K_Draft_closed : drKs.idxOf? ("closed" : Str) = some 5 := by decide +kernel
theorem K_End_opening : enKs.idxOf? ("opening" : Str) = some 0 := by decide +kernel
theorem K_End_as_first : enKs.idxOf? ("as_first" : Str) = some 1 := by decide +kernel
theorem K_End_last : enKs.idxOf? ("last" : Str) = some 2 := by decide +kernel
theorem K_End_step : enKs.idxOf? ("step" : Str) = some 3 := by decide +kernel
theorem K_End_next : enKs.idxOf? ("next" : Str) = some 4 := by decide +kernel
theorem K_End_frozen : enKs.idxOf? ("frozen" : Str) = some 5 := by decide +kernel
theorem K_End_leaving : enKs.idxOf? ("leaving" : Str) = some 6 := by decide +kernel
theorem K_End_footing : enKs.idxOf? ("footing" : Str) = some 7 := by decide +kernel
theorem K_End_there : enKs.idxOf? ("there" : Str) = some 8 := by decide +kernel
theorem K_Settings_least : seKs.idxOf? ("least" : Str) = some 5 := by decide +kernel
theorem K_Settings_farthest : seKs.idxOf? ("farthest" : Str) = some 6 := by decide +kernel
theorem K_Settings_reveal_lead : seKs.idxOf? ("reveal_lead" : Str) = some 7 := by decide +kernel
theorem relI (i : Int) (t : Tok) : RelV (.int i) (.int i t) := ⟨t, rfl⟩
theorem len8 : ∀ {z : List Int}, z.length = 8 → ∃ a b c d e f g h, z = [a, b, c, d, e, f, g, h]
  | [a, b, c, d, e, f, g, h], _ => ⟨a, b, c, d, e, f, g, h, rfl⟩
  | [], q => by simp at q
  | [_], q => by simp at q
  | [_, _], q => by simp at q
  | [_, _, _], q => by simp at q
  | [_, _, _, _], q => by simp at q
  | [_, _, _, _, _], q => by simp at q
  | [_, _, _, _, _, _], q => by simp at q
  | [_, _, _, _, _, _, _], q => by simp at q
  | _ :: _ :: _ :: _ :: _ :: _ :: _ :: _ :: _ :: _, q => by simp at q
/-! ### promises -/
def spChanges : Sp := fun vs H Q _ => ∃ (v : V) (z : List Int), vs = [v] ∧ TD H v (Spl.d z) ∧ z.length = 8 ∧ ∀ (i j : Int) (q : Addr) (H' : Hp), Same H H' → H q = none → H' q = some (.tup [.int i, .int j]) → Q (.ref q) H'
def spBorne : Sp := fun vs H Q _ => ∃ (v : V) (s : Stt) (c : Addr) (i j : Int), vs = [v, .ref c] ∧ TD H v s.d ∧ H c = some (.tup [.int i, .int j]) ∧ ∀ b, Q (.bl b) H
def spOpened : Sp := fun vs H Q _ => ∃ (v : V) (l : Lck) (r : Addr), vs = [v, .ref r] ∧ TD H v l.d ∧ H r = some (.dK []) ∧ Q (.bl false) H
def opn7 (a b c d e f g : Int) : List Int := [a, b, c, d, e, f, g]
def spOpening : Sp := fun vs H Q _ => ∃ (p : Addr) (a b c d e f g : Int), vs = [.ref p] ∧ H p = some (.tup [.int a, .int b, .int c, .int d, .int e, .int f, .int g]) ∧ ∀ (v : V) (H' : Hp), Same H H' → TD H' v (Stt.d ⟨a, 0, d, e, [], false⟩) → Q v H'
def spKeyOf : Sp := fun vs H Q _ => ∃ s : Int, vs = [.int s] ∧ Q (.int (keyOf s)) H
def spFirst : Sp := fun vs H Q _ => ∃ n : Int, vs = [.int n] ∧ Q (.bl (odd n)) H
section
variable {P : Program} {w : World} {K : PySem.W.Frag} {mg : Str → Option Value} {base : Heap}
/-! ### bodies -/
theorem scChanges : FnScope ["splice"] ["splice"] (defScope sChanges) := ⟨rfl, rfl, rfl, by decide +kernel, rfl, by decide +kernel, by decide +kernel⟩
theorem ok_changes (T : Tx K mg) : CallG P w K mg base 1 "changes" ["splice"] spChanges := by
  refine mkG_ T.d_changes T.g_changes (fun _ _ _ _ _ _ us hl => match us, hl with | [_], _ => rfl) fun fd F => ok_of F scChanges (fun vs H Q E h => ?_) (fun cdv A outer s H vs Q E hr h => ?_)
  · obtain ⟨v, z, rfl, _⟩ := h
    rfl
  · obtain ⟨v, z, rfl, hz, hl, k⟩ := h
    obtain ⟨p, rfl, hp⟩ := Spl.open_ hz
    obtain ⟨a, b, c, d, e, f, g, i, rfl⟩ := len8 hl
    refine ⟨_, pss_one (ps_ret (pe_tup (pa_cons (pe_op op_sub (pe_ix ix_tup (pv 0) pe_int (fun _ _ => rfl)) (pe_ix ix_tup (pv 0) pe_int (fun _ _ => rfl))) (pa_cons (pe_op op_sub (pe_ix ix_tup (pv 0) pe_int (fun _ _ => rfl)) (pe_ix ix_tup (pv 0) pe_int (fun _ _ => rfl))) pa_nil)))), ?_⟩
    refine ⟨_, rfl, _, _, _, _, rfl, rfl, SqT.of (hp), ati 4 rfl, _, rfl, _, _, _, _, rfl, rfl, SqT.of (hp), ati 5 rfl, _, _, rfl, rfl, _, rfl, _, _, _, _, rfl, rfl, SqT.of (hp), ati 6 rfl, _, rfl, _, _, _, _, rfl, rfl, SqT.of (hp), ati 7 rfl, _, _, rfl, rfl, (by show 2 ≤ sizeLine; decide), fun q nq => ?_⟩
    exact k _ _ q _ (Same.new nq) nq upd_same
theorem scBorne : FnScope ["state", "cover"] ["state", "cover"] (defScope sBorne) := ⟨rfl, rfl, rfl, by decide +kernel, rfl, by decide +kernel, by decide +kernel⟩
theorem ok_borne (T : Tx K mg) : CallG P w K mg base 1 "is_borne" ["state", "cover"] spBorne := by
  refine mkG_ T.d_is_borne T.g_is_borne (fun _ _ _ _ _ _ us hl => match us, hl with | [_, _], _ => rfl) fun fd F => ok_of F scBorne (fun vs H Q E h => ?_) (fun cdv A outer s H vs Q E hr h => ?_)
  · obtain ⟨v, z, c, i, j, rfl, _⟩ := h
    rfl
  · obtain ⟨v, z, c, i, j, rfl, hz, hc, k⟩ := h
    obtain ⟨p, t, ls, rfl, hp, ht, tl⟩ := Stt.open_ hz
    refine ⟨_, pss_one (ps_ret (pe_and (pe_cmpR op_ge (pe_op op_add (pe_ix ix_tup (pv 0) pe_int (fun _ _ => rfl)) (pe_ix ix_tup (pv 1) pe_int (fun _ _ => rfl))) (pe_int) (nomark _)) (pe_one (pe_cmpR op_ge (pe_op op_add (pe_ix ix_tup (pv 0) pe_int (fun _ _ => rfl)) (pe_ix ix_tup (pv 1) pe_int (fun _ _ => rfl))) (pe_int) (nomark _))))), ?_⟩
    refine ⟨_, rfl, _, _, _, _, rfl, rfl, SqT.of (hp), ati 2 rfl, _, rfl, _, _, _, _, rfl, rfl, SqT.of (hc), ati 0 rfl, _, _, rfl, rfl, _, _, rfl, rfl, _, rfl, ?_⟩
    refine ite2 (fun _ => ⟨_, rfl, _, _, _, _, rfl, rfl, SqT.of (hp), ati 3 rfl, _, rfl, _, _, _, _, rfl, rfl, SqT.of (hc), ati 1 rfl, _, _, rfl, rfl, _, _, rfl, rfl, k _⟩) fun _ => k _
theorem scOpened : FnScope ["lock", "receipts", "height"] ["lock", "receipts"] (defScope sOpened) := ⟨rfl, rfl, rfl, by decide +kernel, rfl, by decide +kernel, by decide +kernel⟩
theorem ok_opened (T : Tx K mg) : CallG P w K mg base 1 "was_opened" ["lock", "receipts"] spOpened := by
  refine mkG_ T.d_was_opened T.g_was_opened (fun _ _ _ _ _ _ us hl => match us, hl with | [_, _], _ => rfl) fun fd F => ok_of F scOpened (fun vs H Q E h => ?_) (fun cdv A outer s H vs Q E hr h => ?_)
  · obtain ⟨v, l, r, rfl, _⟩ := h
    rfl
  · obtain ⟨v, l, r, rfl, hl, hd, k⟩ := h
    obtain ⟨p, rfl, hp⟩ := Lck.open_ hl
    refine ⟨_, pss_cons (ps_set (i := 2) scOpened.nd rfl (.inl rfl) (pe_dget1 (hu_of hr) (pv 1) (pe_ix ix_tup (pv 0) pe_int (fun _ _ => rfl)) ⟨by rfl, by rfl, by rfl, by rfl⟩)) (pss_one (ps_ret (pe_and (pe_cmpR op_notN (pv 2) (pe_non) (nomark _)) (pe_one (pe_cmpR op_le (pv 2) (pe_ix ix_tup (pv 0) pe_int (fun _ _ => rfl)) (nomark _)))))), ?_⟩
    refine ⟨_, rfl, r, rfl, .inl ⟨[], .inl hd⟩, _, rfl, _, _, _, _, rfl, rfl, SqT.of (hp), ati 0 rfl, none, ?_, ?_⟩
    · exact DGet.k (k := Sum.inl l.key) hd
    · refine ⟨_, rfl, rfl, _, rfl, ?_⟩
      exact iteF k
theorem scOpening : FnScope ["opening"] ["opening"] (defScope sOpening) := ⟨rfl, rfl, rfl, by decide +kernel, rfl, by decide +kernel, by decide +kernel⟩
theorem ok_opening (T : Tx K mg) : CallG P w K mg base 1 "opening_state" ["opening"] spOpening := by
  refine mkG_ T.d_opening_state T.g_opening_state (fun _ _ _ _ _ _ us hl => match us, hl with | [_], _ => rfl) fun fd F => ok_of F scOpening (fun vs H Q E h => ?_) (fun cdv A outer s H vs Q E hr h => ?_)
  · obtain ⟨p, a, b, c, d, e, f, g, rfl, _⟩ := h
    rfl
  · obtain ⟨p, a, b, c, d, e, f, g, rfl, hp, k⟩ := h
    refine ⟨_, pss_one (ps_ret (pe_tup (pa_cons (pe_ix ix_tup (pv 0) pe_int (fun _ _ => rfl)) (pa_cons pe_int (pa_cons (pe_ix ix_tup (pv 0) pe_int (fun _ _ => rfl)) (pa_cons (pe_ix ix_tup (pv 0) pe_int (fun _ _ => rfl)) (pa_cons (pe_tup pa_nil) (pa_cons pe_bl pa_nil)))))))), ?_⟩
    refine ⟨_, rfl, _, _, _, _, rfl, rfl, SqT.of (hp), ati 0 rfl, _, rfl, _, _, _, _, rfl, rfl, SqT.of (hp), ati 3 rfl, _, rfl, _, _, _, _, rfl, rfl, SqT.of (hp), ati 4 rfl, (by show 0 ≤ sizeLine; decide), fun t nt => ⟨(by show 6 ≤ sizeLine; decide), fun q nq => ?_⟩⟩
    have s1 : Same H (upd H t (.tup [])) := Same.new nt
    have s2 : Same (upd H t (.tup [])) (upd (upd H t (.tup [])) q (.tup [.int a, .int 0, .int d, .int e, .ref t, .bl false])) := Same.new nq
    exact k _ _ (s1.trans s2) (Stt.close_ (s := ⟨a, 0, d, e, [], false⟩) upd_same (s2 _ _ upd_same) .nil)
theorem scKeyOf : FnScope ["secret"] ["secret"] (defScope sKeyOf) := ⟨rfl, rfl, rfl, by decide +kernel, rfl, by decide +kernel, by decide +kernel⟩
theorem ok_key_of (T : Tx K mg) : CallG P w K mg base 1 "key_of" ["secret"] spKeyOf := by
  obtain ⟨t1, e1⟩ := T.i_FACTOR
  obtain ⟨t2, e2⟩ := T.i_SHIFT
  obtain ⟨t3, e3⟩ := T.i_KEYS
  refine mkG_ T.d_key_of T.g_key_of (fun _ _ _ _ _ _ us hl => match us, hl with | [_], _ => rfl) fun fd F => ok_of F scKeyOf (fun vs H Q E h => ?_) (fun cdv A outer s H vs Q E hr h => ?_)
  · obtain ⟨z, rfl, _⟩ := h
    rfl
  · obtain ⟨z, rfl, k⟩ := h
    refine ⟨_, pss_one (ps_ret (pe_op op_mod (pe_op op_add (pe_op op_mul (pv 0) (pe_glob rfl e1 (relI _ _))) (pe_glob rfl e2 (relI _ _))) (pe_glob rfl e3 (relI _ _)))), ?_⟩
    exact ⟨_, rfl, _, _, rfl, rfl, .inr ⟨by decide, by decide⟩, _, _, rfl, rfl, _, _, rfl, rfl, (by show (0 : Int) < 4294967296; decide), k⟩
theorem scFirst : FnScope ["number"] ["number"] (defScope sFirst) := ⟨rfl, rfl, rfl, by decide +kernel, rfl, by decide +kernel, by decide +kernel⟩
theorem ok_first (T : Tx K mg) : CallG P w K mg base 1 "first_proposes" ["number"] spFirst := by
  refine mkG_ T.d_first_proposes T.g_first_proposes (fun _ _ _ _ _ _ us hl => match us, hl with | [_], _ => rfl) fun fd F => ok_of F scFirst (fun vs H Q E h => ?_) (fun cdv A outer s H vs Q E hr h => ?_)
  · obtain ⟨z, rfl, _⟩ := h
    rfl
  · obtain ⟨z, rfl, k⟩ := h
    refine ⟨_, pss_one (ps_ret (pe_cmpR op_eq (pe_op op_mod (pv 0) pe_int) (pe_int) (nomark _))), ?_⟩
    refine ⟨_, rfl, _, _, rfl, rfl, (by show (0 : Int) < 2; decide), rfl, ?_⟩
    have e : decide (V.int (z % 2) = V.int 1) = odd z := by
      unfold odd
      by_cases q : z % 2 = 1
      · rw [q]
        rfl
      · rw [decide_eq_false q, decide_eq_false fun r => q (V.int.inj r)]
    show Q (V.bl (decide (V.int (z % 2) = V.int 1))) _
    rw [e]
    exact k
end
end K45
set_option Elab.async false
set_option linter.all false
set_option maxRecDepth 100000
set_option maxHeartbeats 4000000
/-! what an end keeps of splices -/
namespace K45
open PySem PySem.Spec PyProof.Rows L2
/-! ### max of a tuple of ints -/
theorem depth_ints : ∀ ns : List Int, PyData.depthAll (ns.map PyData.int) = 0
  | [] => rfl
  | n :: ns => by
    show max 0 (PyData.depthAll (ns.map PyData.int)) = 0
    rw [depth_ints ns]
    rfl
theorem alike_ints (ns : List Int) : PySem.W.AlikeAll (ns.map PyData.int) := by
  refine ⟨fun x hx y hy => ?_, fun x hx z => ?_⟩
  · obtain ⟨i, _, rfl⟩ := List.mem_map.mp hx
    obtain ⟨j, _, rfl⟩ := List.mem_map.mp hy
    rfl
  · obtain ⟨i, _, rfl⟩ := List.mem_map.mp hx
    cases z
def rMaxT (K : PySem.W.Frag) : List V → Hp → VK → Prop := fun vs H Q => ∃ (a : Addr) (n : Int) (ns : List Int), vs = [V.ref a] ∧ SqT K H a ((n :: ns).map V.int) ∧ ∀ m, Q (.int m) H
theorem cr_maxT {X : Cx} (hc : X.calm = true) (hu : X.A.units + 64 < cLine) : CallR X (.builtin "max") (rMaxT X.K) := by
  rintro pins s σ H vs us Q I r ⟨a, n, ns, e, hs, q⟩
  subst e
  obtain ⟨its, rv, hl, _⟩ := I.tuple hs
  obtain ⟨as, hr⟩ := Dp.readsAll I ((n :: ns).map PyData.int) _ its (TDs.dp ints_close) rv
  have hd := depth_ints (n :: ns)
  rw [Vals.ref1 r]
  refine PySem.W.max_tuple_data (vs := its.toArray) (x := .int n) (xs := ns.map PyData.int) (I.ok.hd hc) hl hr (alike_ints (n :: ns)) ?_ fun i v h' tk bs hv _ hk => ?_
  · have hd : PyData.depthAll (.int n :: ns.map PyData.int) = 0 := hd
    rw [hd]
    omega
  · have hv : its[i]? = some v := by simpa using hv
    have hi : i < ((n :: ns).map V.int).length := by
      rw [rv.length]
      exact (List.getElem?_eq_some_iff.mp hv).1
    have h1 : ((n :: ns).map V.int)[i]? = some (.int ((n :: ns)[i]'(by simpa using hi))) := by
      rw [List.getElem?_map, List.getElem?_eq_getElem (by simpa using hi)]
      rfl
    obtain ⟨u, hu2, t, rfl⟩ := rv.get h1
    rw [hv] at hu2
    cases hu2
    exact ⟨.int _, H, I.kept hk, ⟨t, rfl⟩, q _⟩
/-- a Footing at p, its open splices in the list at sl: at most n -/
structure FtAt (K : PySem.W.Frag) (H : Hp) (p sl : Addr) (n : Nat) : Prop where
  ob : ∃ (dx t : Addr) (a b c d k : Int), H p = some (.ins (He.ga K "Footing") dx (ftKs.zip [.ref t, .int k, .ref sl])) ∧ H t = some (.tup [.int a, .int b, .int c, .int d])
  ls : ∃ (xs : List V) (ss : List (List Int)), H sl = some (.lst xs) ∧ TDs H xs (ss.map Spl.d) ∧ (∀ z ∈ ss, z.length = 8) ∧ xs.length ≤ n
theorem FtAt.chg {K : PySem.W.Frag} {S : List Addr} {H H' : Hp} {p sl : Addr} {n : Nat} (h : FtAt K H p sl n) (c : Chg S H H') (hp : p ∉ S) (hs : sl ∉ S) : FtAt K H' p sl n := by
  obtain ⟨⟨dx, t, a, b, c', d, k, h1, h2⟩, xs, ss, h3, h4, h5⟩ := h
  exact ⟨⟨dx, t, a, b, c', d, k, c.ext _ _ h1 hp, c.tup _ _ h2⟩, xs, ss, c.ext _ _ h3 hs, h4.chg c, h5⟩
theorem FtAt.sm {K : PySem.W.Frag} {H H' : Hp} {p sl : Addr} {n : Nat} (h : FtAt K H p sl n) (c : Same H H') : FtAt K H' p sl n := h.chg (S := []) (Chg.of c) (by simp) (by simp)
theorem FtAt.mono {K : PySem.W.Frag} {H : Hp} {p sl : Addr} {n m : Nat} (h : FtAt K H p sl n) (hm : n ≤ m) : FtAt K H p sl m := by
  obtain ⟨h1, xs, ss, h3, h4, h5, h6⟩ := h
  exact ⟨h1, xs, ss, h3, h4, h5, Nat.le_trans h6 hm⟩
/-! ### promises -/
def spFtInit (K : PySem.W.Frag) : Sp := fun vs H Q _ => ∃ p dx, vs = [.ref p] ∧ H p = some (.ins (He.ga K "Footing") dx []) ∧ ∀ (sl : Addr) (H' : Hp), Chg [p] H H' → H sl = none → FtAt K H' p sl 0 → Q .non H'
def spCover (K : PySem.W.Frag) : Sp := fun vs H Q _ => ∃ (p sl : Addr) (n : Nat), vs = [.ref p] ∧ FtAt K H p sl n ∧ n ≤ 1000 ∧ ∀ (i j : Int) (q : Addr) (H' : Hp), Same H H' → H' q = some (.tup [.int i, .int j]) → Q (.ref q) H'
def spCopyFt (K : PySem.W.Frag) : Sp := fun vs H Q _ => ∃ (p sl : Addr) (n : Nat), vs = [.ref p] ∧ FtAt K H p sl n ∧ n ≤ 1000 ∧ ∀ (p' sl' : Addr) (H' : Hp), Same H H' → H p' = none → H sl' = none → FtAt K H' p' sl' n → Q (.ref p') H'
def spSums : Sp := fun vs H Q _ => ∃ (t : Addr) (a b c d : Int) (v : V) (z : List Int), vs = [.ref t, v] ∧ H t = some (.tup [.int a, .int b, .int c, .int d]) ∧ TD H v (Spl.d z) ∧ z.length = 8 ∧
  ∀ (ns : List Int) (q : Addr) (H' : Hp), ns.length = 4 → Same H H' → H' q = some (.tup (ns.map V.int)) → Q (.ref q) H'
section
variable {P : Program} {w : World} {K : PySem.W.Frag} {mg : Str → Option Value} {base : Heap}
theorem scFtInit : FnScope ["self"] ["self"] (defScope sFootInit) := ⟨rfl, rfl, rfl, by decide +kernel, rfl, by decide +kernel, by decide +kernel⟩
theorem ok_ft_init (T : Tx K mg) : CallM P w K mg base 1 "Footing" "__init__" ["self"] (spFtInit K) := by
  refine mkM_ T.d_Footing___init__ T.c_Footing ⟨T.k_Footing.init, T.k_Footing.fn, ?_⟩ (fun _ _ _ _ _ _ us hl => match us, hl with | [_], _ => rfl) fun fd F => ok_of F scFtInit (fun vs H Q E h => ?_) (fun cdv A outer s H vs Q E hr h => ?_)
  · obtain ⟨fd, F⟩ := T.d_Footing___init__
    exact F.kp
  · obtain ⟨p, dx, rfl, _⟩ := h
    rfl
  · obtain ⟨p, dx, rfl, hp, k⟩ := h
    refine ⟨_, pss_cons (ps_fld (pv 0) (pe_tup (pa_cons pe_int (pa_cons pe_int (pa_cons pe_int (pa_cons pe_int pa_nil))))) rfl)
      (pss_cons (ps_fld (pv 0) pe_int rfl) (pss_one (ps_fld (pv 0) (pe_lst pa_nil) rfl))), ?_⟩
    refine ⟨(by show 4 ≤ sizeLine; decide), fun t nt => ?_⟩
    have npt : p ≠ t := ne_of_none hp nt
    refine ⟨_, rfl, p, _, dx, [], rfl, (by rw [upd_ne npt]; exact hp), T.c_Footing, T.n_Footing_sums, by decide, ?_⟩
    refine ⟨_, rfl, p, _, dx, _, rfl, upd_same, T.c_Footing, T.n_Footing_taken, (by show 1 < 1000; decide), ?_⟩
    refine ⟨(by show 0 ≤ sizeLine; decide), fun sl ns => ?_⟩
    have nps : p ≠ sl := ne_of_none upd_same ns
    refine ⟨_, rfl, p, _, dx, _, rfl, (by rw [upd_ne nps]; exact upd_same), T.c_Footing, T.n_Footing_splices, (by show 2 < 1000; decide), ?_⟩
    have nsp : sl ≠ p := nps.symm
    have nts : t ≠ sl := by
      intro z
      rw [← z, upd_ne npt.symm, upd_ne npt.symm, upd_same] at ns
      cases ns
    have nsH : H sl = none := by
      rw [upd_ne nsp, upd_ne nsp, upd_ne nts.symm] at ns
      exact ns
    refine k sl _ ?_ nsH ⟨⟨dx, t, 0, 0, 0, 0, 0, ?_, ?_⟩, [], [], ?_, .nil, (by simp), Nat.le_refl _⟩
    · refine (((Chg.new nt).trans (Chg.put (S := [p]) (u := .ins (He.ga K "Footing") dx []) (by rw [upd_ne npt]; exact hp) (by intro xs z; cases z) (by simp))).trans (Chg.put upd_same (by intro xs z; cases z) (by simp))).trans ((Chg.new ns).trans (Chg.put (by rw [upd_ne nps]; exact upd_same) (by intro xs z; cases z) (by simp)))
    · refine upd_same.trans (congrArg (fun q => some (HO.ins (He.ga K "Footing") dx q)) ?_)
      have e1 : putF "sums" (V.ref t) [] = (["sums"] : List Str).zip [V.ref t] := znew (ks := []) (vs := []) rfl rfl
      have e2 : putF "taken" (V.int 0) ((["sums"] : List Str).zip [V.ref t]) = (["sums", "taken"] : List Str).zip [V.ref t, .int 0] := znew (by decide +kernel) rfl
      have e3 : putF "splices" (V.ref sl) ((["sums", "taken"] : List Str).zip [V.ref t, .int 0]) = ftKs.zip [V.ref t, .int 0, .ref sl] := znew (by decide +kernel) rfl
      rw [e1, e2, e3]
    · rw [upd_ne npt.symm, upd_ne nts, upd_ne npt.symm, upd_ne npt.symm]
      exact upd_same
    · rw [upd_ne nsp]
      exact upd_same
theorem scCover : FnScope ["self", "first_in", "first_out", "second_in", "second_out", "lowest_first", "lowest_second", "splice"] ["self"] (defScope sCover) := ⟨rfl, rfl, rfl, by decide +kernel, rfl, by decide +kernel, by decide +kernel⟩
/-- what a comprehension of ints has made so far at D -/
def CInv (H0 : Hp) (D : Addr) (i : Nat) (H' : Hp) : Prop := Same H0 H' ∧ ∃ ns : List Int, ns.length = i ∧ H' D = some (.lst (ns.map V.int))
theorem CInv.start {H0 : Hp} {D : Addr} (h : H0 D = none) : CInv H0 D 0 (upd H0 D (.lst [])) := ⟨Same.new h, [], rfl, upd_same⟩
theorem CInv.next {H0 H1 H2 : Hp} {D : Addr} {i : Nat} {n : Int} (hD : H0 D = none) (c : CInv H0 D i H1) (s : Same H1 H2) (hi : i < 100000) :
    ∃ acc, H2 D = some (.lst acc) ∧ acc.length < sizeLine ∧ CInv H0 D (i + 1) (upd H2 D (.lst (acc ++ [.int n]))) := by
  obtain ⟨c1, ns, e, c2⟩ := c
  refine ⟨_, s _ _ c2, ?_, fun b o q => ?_, ns ++ [n], by simp [e], by rw [upd_same, List.map_append]; rfl⟩
  · rw [List.length_map, e, sizeLine_eq]
    omega
  · rw [upd_ne (ne_of_none q hD)]
    exact s _ _ (c1 _ _ q)
theorem ok_cover (T : Tx K mg) : CallM P w K mg base 2 "Footing" "cover" ["self"] (spCover K) := by
  have GC : CallG P w K mg base 1 "changes" ["splice"] spChanges := ok_changes T
  refine mkM_ T.d_Footing_cover T.c_Footing T.m_Footing_cover (fun _ _ _ _ _ _ us hl => match us, hl with | [_], _ => rfl) fun fd F => ok_of F scCover (fun vs H Q E h => ?_) (fun cdv A outer s H vs Q E hr h => ?_)
  · obtain ⟨p, sl, n, rfl, _⟩ := h
    rfl
  · obtain ⟨p, sl, n, rfl, hF, hn, k⟩ := h
    obtain ⟨⟨dx, t, a, b, c, d, kk, hp, ht⟩, xs, ss, hs, hz, h8, hx⟩ := id hF
    refine ⟨_, pss_cons (ps_asg (pe_fld (pv 0) rfl) (pg_tup (by rfl) (pgs_cons (pg_name (i := 1) scCover.nd rfl (.inl rfl)) (pgs_cons (pg_name (i := 2) scCover.nd rfl (.inl rfl)) (pgs_cons (pg_name (i := 3) scCover.nd rfl (.inl rfl)) (pgs_cons (pg_name (i := 4) scCover.nd rfl (.inl rfl)) pgs_nil))))))
      (pss_cons (ps_set (i := 5) scCover.nd rfl (.inl rfl) (pe_callB (cr_min rfl) (by rfl) T.f_min (by decide +kernel) (pa_cons (pe_op op_cat (pe_lst (pa_cons pe_int pa_nil))
          (pe_lc (own := [("splice", 7)]) (g := gName 7) (tt := tYes) (by rfl) scCover.nd (pi_list (pe_fld (pv 0) rfl)) (blkOk_by (own := [("splice", 7)]) (N := ["self", "first_in", "first_out", "second_in", "second_out", "lowest_first", "lowest_second", "splice"]) (sc := defScope sCover) (by decide +kernel)) (fun _ _ _ _ _ => pg_name (i := 7) scCover.nd rfl (.inl rfl)) (fun _ _ _ _ _ => pts_nil)
            (fun _ _ _ _ _ => pe_ix (r := rIxT K) ix_tup (pe_G GC hr rfl (pa_cons (pv 7) pa_nil)) pe_int (fun _ _ => rfl)))) pa_nil)))
      (pss_cons (ps_set (i := 6) scCover.nd rfl (.inl rfl) (pe_callB (cr_min rfl) (by rfl) T.f_min (by decide +kernel) (pa_cons (pe_op op_cat (pe_lst (pa_cons pe_int pa_nil))
          (pe_lc (own := [("splice", 7)]) (g := gName 7) (tt := tYes) (by rfl) scCover.nd (pi_list (pe_fld (pv 0) rfl)) (blkOk_by (own := [("splice", 7)]) (N := ["self", "first_in", "first_out", "second_in", "second_out", "lowest_first", "lowest_second", "splice"]) (sc := defScope sCover) (by decide +kernel)) (fun _ _ _ _ _ => pg_name (i := 7) scCover.nd rfl (.inl rfl)) (fun _ _ _ _ _ => pts_nil)
            (fun _ _ _ _ _ => pe_ix (r := rIxT K) ix_tup (pe_G GC hr rfl (pa_cons (pv 7) pa_nil)) pe_int (fun _ _ => rfl)))) pa_nil)))
      (pss_one (ps_ret (pe_tup (pa_cons (pe_op op_add (pe_op op_sub (pv 1) (pv 2)) (pv 5)) (pa_cons (pe_op op_add (pe_op op_sub (pv 3) (pv 4)) (pv 6)) pa_nil))))))), ?_⟩
    refine ⟨_, rfl, _, _, _, _, _, rfl, hp, T.c_Footing, T.n_Footing_sums, zlk K_Footing_sums rfl, t, _, rfl, SqT.of ht, rfl, _, _, rfl, _, _, rfl, _, _, rfl, _, _, rfl, rfl, ?_⟩
    refine ⟨(by show 1 ≤ sizeLine; decide), fun l0 nl0 => ?_⟩
    have s1 : Same H (upd H l0 (.lst [.int 0])) := Same.new nl0
    refine ⟨_, rfl, _, _, _, _, _, rfl, s1 _ _ hp, T.c_Footing, T.n_Footing_splices, zlk K_Footing_splices rfl, sl, rfl, ⟨_, SqL.of (s1 _ _ hs)⟩, fun D nD => ?_⟩
    refine lc_list (K := K) (a := sl) (xs := xs) (CInv (upd H l0 (.lst [.int 0])) D) (CInv.start nD) (fun i H' hi c => SqL.of (c.1 _ _ (s1 _ _ hs))) (fun i x H' hi c => ?_) fun H' c => ?_
    · obtain ⟨dd, hd, hx2⟩ := hz.get' hi
      rw [List.getElem?_map] at hd
      obtain ⟨z, hz1, rfl⟩ := Option.map_eq_some_iff.mp hd
      have hl := (List.getElem?_eq_some_iff.mp hi).1
      refine ⟨rfl, ?_⟩
      refine ⟨_, rfl, x, z, rfl, (hx2.sm s1).sm c.1, h8 z (List.mem_of_getElem? hz1), fun i1 j1 q H2 sm nq hq => ?_⟩
      refine ⟨_, _, _, _, rfl, rfl, SqT.of (hq), ati 0 rfl, ?_⟩
      exact c.next nD sm (by omega)
    · obtain ⟨c1, ns, ens, c2⟩ := c
      have nl0D : l0 ≠ D := ne_of_none upd_same nD
      refine ⟨l0, D, [.int 0], ns.map V.int, rfl, rfl, c1 _ _ upd_same, c2, ?_, fun p2 np2 => ?_⟩
      · rw [List.length_map, ens, sizeLine_eq]
        show 1 + xs.length ≤ _
        omega
      refine ⟨p2, 0 :: ns, rfl, SqL.of upd_same, (by show 0 < ns.length + 1; omega), fun m _ _ => ?_⟩
      have s2 : Same H (upd H' p2 (.lst ([.int 0] ++ ns.map V.int))) := (s1.trans c1).trans (Same.new np2)
      -- the second one
      refine ⟨(by show 1 ≤ sizeLine; decide), fun l1 nl1 => ?_⟩
      have s3 : Same H (upd (upd H' p2 (.lst ([.int 0] ++ ns.map V.int))) l1 (.lst [.int 0])) := s2.trans (Same.new nl1)
      refine ⟨_, rfl, _, _, _, _, _, rfl, s3 _ _ hp, T.c_Footing, T.n_Footing_splices, zlk K_Footing_splices rfl, sl, rfl, ⟨_, SqL.of (s3 _ _ hs)⟩, fun D2 nD2 => ?_⟩
      refine lc_list (K := K) (a := sl) (xs := xs) (CInv (upd (upd H' p2 (.lst ([.int 0] ++ ns.map V.int))) l1 (.lst [.int 0])) D2) (CInv.start nD2) (fun i H' hi c => SqL.of (c.1 _ _ (s3 _ _ hs))) (fun i x H' hi c => ?_) fun H4 c => ?_
      · obtain ⟨dd, hd, hx2⟩ := hz.get' hi
        rw [List.getElem?_map] at hd
        obtain ⟨z, hz1, rfl⟩ := Option.map_eq_some_iff.mp hd
        have hl := (List.getElem?_eq_some_iff.mp hi).1
        refine ⟨rfl, ?_⟩
        refine ⟨_, rfl, x, z, rfl, (hx2.sm s3).sm c.1, h8 z (List.mem_of_getElem? hz1), fun i1 j1 q H2 sm nq hq => ?_⟩
        refine ⟨_, _, _, _, rfl, rfl, SqT.of (hq), ati 1 rfl, ?_⟩
        exact c.next nD2 sm (by omega)
      · obtain ⟨c3, ns2, ens2, c4⟩ := c
        refine ⟨l1, D2, [.int 0], ns2.map V.int, rfl, rfl, c3 _ _ upd_same, c4, ?_, fun p3 np3 => ?_⟩
        · rw [List.length_map, ens2, sizeLine_eq]
          show 1 + xs.length ≤ _
          omega
        refine ⟨p3, 0 :: ns2, rfl, SqL.of upd_same, (by show 0 < ns2.length + 1; omega), fun m2 _ _ => ?_⟩
        have s4 : Same H (upd H4 p3 (.lst ([.int 0] ++ ns2.map V.int))) := (s3.trans c3).trans (Same.new np3)
        refine ⟨_, rfl, _, rfl, _, _, rfl, rfl, _, rfl, _, _, rfl, rfl, _, rfl, _, rfl, _, _, rfl, rfl, _, rfl, _, _, rfl, rfl, (by show 2 ≤ sizeLine; decide), fun q nq => ?_⟩
        exact k _ _ q _ (s4.trans (Same.new nq)) upd_same
theorem scCopyFt : FnScope ["footing", "copied"] ["footing"] (defScope sCopyFoot) := ⟨rfl, rfl, rfl, by decide +kernel, rfl, by decide +kernel, by decide +kernel⟩
theorem ok_copy_ft (T : Tx K mg) : CallG P w K mg base 3 "copy_footing" ["footing"] (spCopyFt K) := by
  have GI : CallM P w K mg base 1 "Footing" "__init__" ["self"] (spFtInit K) := ok_ft_init T
  obtain ⟨fdi, GI, bI⟩ := GI.ex
  refine mkG_ T.d_copy_footing T.g_copy_footing (fun _ _ _ _ _ _ us hl => match us, hl with | [_], _ => rfl) fun fd F => ok_of F scCopyFt (fun vs H Q E h => ?_) (fun cdv A outer s H vs Q E hr h => ?_)
  · obtain ⟨p, sl, n, rfl, _⟩ := h
    rfl
  · obtain ⟨p, sl, n, rfl, hF, hn, k⟩ := h
    obtain ⟨⟨dx, t, a, b, c, d, kk, hp, ht⟩, xs, ss, hs, hz, h8, hx⟩ := id hF
    refine ⟨_, pss_cons (ps_set (i := 1) scCopyFt.nd rfl (.inl rfl) (pe_make0 T.k_Footing GI hr rfl T.g_Footing bI .nil pass0))
      (pss_cons (ps_fld (pv 1) (pe_fld (pv 0) rfl) rfl) (pss_cons (ps_fld (pv 1) (pe_fld (pv 0) rfl) rfl)
      (pss_cons (ps_fld (pv 1) (pe_callTy call_list_of (by rfl) T.f_list (by decide +kernel) (pa_cons (pe_fld (pv 0) rfl) pa_nil)) rfl) (pss_one (ps_ret (pv 1)))))), ?_⟩
    intro x dx2 nx ndx nex
    refine ⟨x, dx2, rfl, upd_same, fun sl0 H1 c1 nsl0 F1 => ⟨rfl, ?_⟩⟩
    have s0 : Same H (upd (upd H dx2 (.own x)) x (.ins (He.ga K "Footing") dx2 [])) := fun b o e => by
      rw [upd_ne (ne_of_none e nx), upd_ne (ne_of_none e ndx)]
      exact e
    have s1 : Same H H1 := fun b o e => c1.ext b o (s0 b o e) (by simp only [List.mem_singleton]; exact ne_of_none e nx)
    obtain ⟨⟨dx3, t3, a3, b3, c3, d3, k3, hp3, ht3⟩, xs3, ss3, hs3, _⟩ := F1
    have npx : p ≠ x := ne_of_none hp nx
    refine ⟨_, rfl, _, _, _, _, _, rfl, s1 _ _ hp, T.c_Footing, T.n_Footing_sums, zlk K_Footing_sums rfl, _, rfl, _, _, _, _, rfl, hp3, T.c_Footing, T.n_Footing_sums, zlen (by decide), ?_⟩
    rw [zput K_Footing_sums rfl]
    refine ⟨_, rfl, _, _, _, _, _, rfl, (by rw [upd_ne npx]; exact s1 _ _ hp), T.c_Footing, T.n_Footing_taken, zlk K_Footing_taken rfl, _, rfl, _, _, _, _, rfl, upd_same, T.c_Footing, T.n_Footing_taken, zlen (by decide), ?_⟩
    rw [zput K_Footing_taken rfl, upd_upd]
    refine ⟨_, rfl, _, _, _, _, _, rfl, (by rw [upd_ne npx]; exact s1 _ _ hp), T.c_Footing, T.n_Footing_splices, zlk K_Footing_splices rfl, sl, xs, rfl, .inl (SqL.of ?_), fun l nl => ?_⟩
    · rw [upd_ne (ne_of_none hs nx)]
      exact s1 _ _ hs
    have nxl : x ≠ l := ne_of_none upd_same nl
    refine ⟨_, rfl, _, _, _, _, rfl, (by rw [upd_ne nxl]; exact upd_same), T.c_Footing, T.n_Footing_splices, zlen (by decide), ?_⟩
    rw [zput K_Footing_splices rfl]
    have nlH1 : H1 l = none := by
      rw [upd_ne nxl.symm] at nl
      exact nl
    have sE : Same H (upd (upd (upd H1 x (.ins (He.ga K "Footing") dx3 (ftKs.zip [.ref t, .int kk, .ref sl0]))) l (.lst xs)) x (.ins (He.ga K "Footing") dx3 (ftKs.zip [.ref t, .int kk, .ref l]))) := fun b o e => by
      have h1 := s1 _ _ e
      rw [upd_ne (ne_of_none e nx), upd_ne (ne_of_none h1 nlH1), upd_ne (ne_of_none e nx)]
      exact h1
    refine ⟨_, rfl, ?_⟩
    refine k x l _ sE nx (s1.free nlH1) ⟨⟨dx3, t, a, b, c, d, kk, upd_same, sE _ _ ht⟩, xs, ss, ?_, hz.sm sE, h8, hx⟩
    rw [upd_ne nxl.symm]
    exact upd_same
theorem scSums : FnScope ["sums", "splice", "k"] ["sums", "splice"] (defScope sSums) := ⟨rfl, rfl, rfl, by decide +kernel, rfl, by decide +kernel, by decide +kernel⟩
theorem ok_sums (T : Tx K mg) : CallG P w K mg base 1 "sums_with" ["sums", "splice"] spSums := by
  refine mkG_ T.d_sums_with T.g_sums_with (fun _ _ _ _ _ _ us hl => match us, hl with | [_, _], _ => rfl) fun fd F => ok_of F scSums (fun vs H Q E h => ?_) (fun cdv A outer s H vs Q E hr h => ?_)
  · obtain ⟨t, a, b, c, d, v, z, rfl, _⟩ := h
    rfl
  · obtain ⟨t, a, b, c, d, v, z, rfl, ht, hz, hl, k⟩ := h
    obtain ⟨p, rfl, hp⟩ := Spl.open_ hz
    obtain ⟨z0, z1, z2, z3, z4, z5, z6, z7, rfl⟩ := len8 hl
    refine ⟨_, pss_one (ps_ret (pe_callTy call_tuple_of (by rfl) T.f_tuple (by decide +kernel) (pa_cons
      (pe_lc (own := [("k", 2)]) (g := gName 2) (tt := tYes) (by rfl) scSums.nd (pi_range1 rfl T.f_range (pa_cons pe_int pa_nil)) (blkOk_by (own := [("k", 2)]) (N := ["sums", "splice", "k"]) (sc := defScope sSums) (by decide +kernel)) (fun _ _ _ _ _ => pg_name (i := 2) scSums.nd rfl (.inl rfl)) (fun _ _ _ _ _ => pts_nil)
        (fun _ _ _ _ _ => pe_op op_add (pe_ix (r := rIxT K) ix_tup (pv 0) (pv 2) (fun _ _ => rfl)) (pe_ix (r := rIxT K) ix_tup (pv 1) (pe_op op_add pe_int (pv 2)) (fun _ _ => rfl)))) pa_nil))), ?_⟩
    refine ⟨4, rfl, by decide, by decide, fun D nD => ?_⟩
    refine lc_range (lo := 0) (n := 4) (CInv H D) (CInv.start nD) (fun i H' hi c => ?_) fun H' c => ?_
    · refine ⟨rfl, ?_⟩
      have ht' := c.1 _ _ ht
      have hp' := c.1 _ _ hp
      match i, hi with
      | 0, _ => exact ⟨_, rfl, _, rfl, _, _, _, _, rfl, rfl, SqT.of (ht'), ati 0 rfl, _, rfl, _, rfl, _, _, rfl, rfl, _, _, _, _, rfl, rfl, SqT.of (hp'), ati 4 rfl, _, _, rfl, rfl, c.next nD (Same.refl _) (by omega)⟩
      | 1, _ => exact ⟨_, rfl, _, rfl, _, _, _, _, rfl, rfl, SqT.of (ht'), ati 1 rfl, _, rfl, _, rfl, _, _, rfl, rfl, _, _, _, _, rfl, rfl, SqT.of (hp'), ati 5 rfl, _, _, rfl, rfl, c.next nD (Same.refl _) (by omega)⟩
      | 2, _ => exact ⟨_, rfl, _, rfl, _, _, _, _, rfl, rfl, SqT.of (ht'), ati 2 rfl, _, rfl, _, rfl, _, _, rfl, rfl, _, _, _, _, rfl, rfl, SqT.of (hp'), ati 6 rfl, _, _, rfl, rfl, c.next nD (Same.refl _) (by omega)⟩
      | 3, _ => exact ⟨_, rfl, _, rfl, _, _, _, _, rfl, rfl, SqT.of (ht'), ati 3 rfl, _, rfl, _, rfl, _, _, rfl, rfl, _, _, _, _, rfl, rfl, SqT.of (hp'), ati 7 rfl, _, _, rfl, rfl, c.next nD (Same.refl _) (by omega)⟩
    · obtain ⟨c1, ns, ens, c2⟩ := c
      refine ⟨D, _, rfl, .inl ⟨SqL.of c2, fun l nl => ?_⟩⟩
      exact k ns l _ ens (c1.trans (Same.new nl)) upd_same
end
end K45
set_option Elab.async false
set_option linter.all false
set_option maxRecDepth 100000
set_option maxHeartbeats 4000000
/-! drafts -/
namespace K45
open PySem PySem.Spec PyProof.Rows L2
/-- a Draft at p, its list of locks at l -/
structure DrAt (K : PySem.W.Frag) (H : Hp) (p l : Addr) (d : Dr) : Prop where
  ob : ∃ dx, H p = some (.ins (He.ga K "Draft") dx (drKs.zip [.bl d.ff, .int d.own, .int d.others, .int d.spare, .ref l, .bl d.closed]))
  ls : ∃ xs, H l = some (.lst xs) ∧ TDs H xs (d.locks.map Lck.d)
theorem DrAt.sm {K : PySem.W.Frag} {H H' : Hp} {p l : Addr} {d : Dr} (h : DrAt K H p l d) (c : Same H H') : DrAt K H' p l d := by
  obtain ⟨⟨dx, h1⟩, xs, h2, h3⟩ := h
  exact ⟨⟨dx, c _ _ h1⟩, xs, c _ _ h2, h3.sm c⟩
theorem iteFD {c : Bool} {A B : Prop} (hc : c = false) (h : B) : if c = true then A else B := by
  rw [hc]
  exact iteF h
theorem iteTD {c : Bool} {A B : Prop} (hc : c = true) (h : A) : if c = true then A else B := by
  rw [hc]
  exact iteT h
theorem dne {a b : V} (h : a ≠ b) : decide (a = b) = false := decide_eq_false h
theorem deq {a b : V} (h : a = b) : decide (a = b) = true := decide_eq_true h
/-- how a move ends -/
def DrEnd (K : PySem.W.Frag) (H : Hp) (p l : Addr) (r : Option Dr) (Q : VK) : Prop :=
  (r = none → ∀ H', Chg [p, l] H H' → Q (.bl false) H') ∧ ∀ e H', r = some e → Chg [p, l] H H' → DrAt K H' p l e → Q (.bl true) H'
/-! ### promises -/
def spCan (K : PySem.W.Frag) : Sp := fun vs H Q _ => ∃ (p l : Addr) (d : Dr) (a : Int), vs = [.ref p, .int a] ∧ DrAt K H p l d ∧ Q (.bl (canSp d a)) H
def spLockAt (K : PySem.W.Frag) : Sp := fun vs H Q _ => ∃ (p l : Addr) (d : Dr) (a : Int), vs = [.ref p, .int a] ∧ DrAt K H p l d ∧ d.locks.length ≤ 8 ∧
  (lkAt d.locks a = none → Q .non H) ∧ ∀ lk v, lkAt d.locks a = some lk → TD H v lk.d → Q v H
def spPut (K : PySem.W.Frag) : Sp := fun vs H Q _ => ∃ (p l : Addr) (d : Dr) (k a dl : Int), vs = [.ref p, .int k, .int a, .int dl] ∧ DrAt K H p l d ∧ d.locks.length ≤ 8 ∧ DrEnd K H p l (mkLock d k a dl) Q
def spPaid (K : PySem.W.Frag) : Sp := fun vs H Q _ => ∃ (p l : Addr) (d : Dr) (a z : Int), vs = [.ref p, .int a, .int z] ∧ DrAt K H p l d ∧ d.locks.length ≤ 8 ∧ DrEnd K H p l (mkPaid d a z) Q
def spDrop (K : PySem.W.Frag) : Sp := fun vs H Q _ => ∃ (p l : Addr) (d : Dr) (a : Int), vs = [.ref p, .int a] ∧ DrAt K H p l d ∧ d.locks.length ≤ 8 ∧ DrEnd K H p l (mkDrop d a) Q
def spBack (K : PySem.W.Frag) : Sp := fun vs H Q _ => ∃ (p l : Addr) (d : Dr) (a : Int), vs = [.ref p, .int a] ∧ DrAt K H p l d ∧ d.locks.length ≤ 8 ∧ DrEnd K H p l (mkBack d a) Q
def spHand (K : PySem.W.Frag) : Sp := fun vs H Q _ => ∃ (p l : Addr) (d : Dr) (a : Int), vs = [.ref p, .int a] ∧ DrAt K H p l d ∧ DrEnd K H p l (mkHand d a) Q
def spFin (K : PySem.W.Frag) : Sp := fun vs H Q _ => ∃ (p l : Addr) (d : Dr), vs = [.ref p] ∧ DrAt K H p l d ∧ DrEnd K H p l (mkFin d) Q
def spMake (K : PySem.W.Frag) : Sp := fun vs H Q _ => ∃ (p l : Addr) (d : Dr) (m : Mv) (v : V), vs = [.ref p, v] ∧ DrAt K H p l d ∧ d.locks.length ≤ 8 ∧ TD H v m.d ∧ DrEnd K H p l (mk d m) Q
def spAsState (K : PySem.W.Frag) : Sp := fun vs H Q _ => ∃ (p l : Addr) (d : Dr) (ch n : Int), vs = [.ref p, .int ch, .int n] ∧ DrAt K H p l d ∧ ∀ v H', Same H H' → TD H' v (d.asSt ch n).d → Q v H'
def spDrInit (K : PySem.W.Frag) : Sp := fun vs H Q _ => ∃ (p dx : Addr) (v : V) (s : Stt) (c : Addr) (c1 c2 : Int), vs = [.ref p, v, .ref c] ∧ H p = some (.ins (He.ga K "Draft") dx []) ∧ TD H v s.d ∧ H c = some (.tup [.int c1, .int c2]) ∧
  ∀ (l : Addr) (H' : Hp), Chg [p] H H' → H l = none → DrAt K H' p l (init s (c1, c2)) → Q .non H'
section
variable {P : Program} {w : World} {K : PySem.W.Frag} {mg : Str → Option Value} {base : Heap}
theorem scCan : FnScope ["self", "amount"] ["self", "amount"] (defScope sCan) := ⟨rfl, rfl, rfl, by decide +kernel, rfl, by decide +kernel, by decide +kernel⟩
theorem ok_can (T : Tx K mg) : CallM P w K mg base 1 "Draft" "can_spend" ["self", "amount"] (spCan K) := by
  refine mkM_ T.d_Draft_can_spend T.c_Draft T.m_Draft_can_spend (fun _ _ _ _ _ _ us hl => match us, hl with | [_, _], _ => rfl) fun fd F => ok_of F scCan (fun vs H Q E h => ?_) (fun cdv A outer s H vs Q E hr h => ?_)
  · obtain ⟨p, l, d, a, rfl, _⟩ := h
    rfl
  · obtain ⟨p, l, d, a, rfl, hD, k⟩ := h
    obtain ⟨⟨dx, hp⟩, xs, hl, hz⟩ := id hD
    refine ⟨_, pss_one (ps_ret (pe_and (pe_not (pe_fld (pv 0) rfl)) (pe_one (pe_chain op_le op_le pe_int (pv 1) (pe_op op_add (pe_fld (pv 0) rfl) (pe_fld (pv 0) rfl)))))), ?_⟩
    refine ⟨_, rfl, _, _, _, _, _, rfl, hp, T.c_Draft, T.n_Draft_closed, zlk K_Draft_closed rfl, _, rfl, _, rfl, ?_⟩
    unfold canSp at k
    cases hc : d.closed with
    | true =>
      rw [hc] at k
      exact k
    | false =>
      rw [hc] at k
      refine ⟨_, rfl, _, _, rfl, rfl, _, rfl, ?_⟩
      by_cases h1 : 1 ≤ a
      · rw [decide_eq_true h1] at k ⊢
        exact ⟨_, rfl, _, _, _, _, _, rfl, hp, T.c_Draft, T.n_Draft_own, zlk K_Draft_own rfl, _, rfl, _, _, _, _, _, rfl, hp, T.c_Draft, T.n_Draft_spare, zlk K_Draft_spare rfl, _, _, rfl, rfl, _, _, rfl, rfl, k⟩
      · rw [decide_eq_false h1] at k ⊢
        exact k
theorem scLockAt : FnScope ["self", "place"] ["self", "place"] (defScope sLockAt) := ⟨rfl, rfl, rfl, by decide +kernel, rfl, by decide +kernel, by decide +kernel⟩
theorem ok_lock_at (T : Tx K mg) : CallM P w K mg base 1 "Draft" "lock_at" ["self", "place"] (spLockAt K) := by
  refine mkM_ T.d_Draft_lock_at T.c_Draft T.m_Draft_lock_at (fun _ _ _ _ _ _ us hl => match us, hl with | [_, _], _ => rfl) fun fd F => ok_of F scLockAt (fun vs H Q E h => ?_) (fun cdv A outer s H vs Q E hr h => ?_)
  · obtain ⟨p, l, d, a, rfl, _⟩ := h
    rfl
  · obtain ⟨p, l, d, a, rfl, hD, h8, k1, k2⟩ := h
    obtain ⟨⟨dx, hp⟩, xs, hl, hz⟩ := id hD
    have hlen : xs.length = d.locks.length := hz.length.trans (List.length_map _)
    refine ⟨_, pss_cons (ps_if (pt_chain op_le op_lt pe_int (pv 1) (pe_callB call_len_seq (by rfl) T.f_len PySem.boot_len (pa_cons (pe_fld (pv 0) rfl) pa_nil))) (pss_one (ps_ret (pe_ix ix_list (pe_fld (pv 0) rfl) (pv 1) (fun _ _ => rfl)))) pss_nil) (pss_one (ps_ret pe_non)), ?_⟩
    refine ⟨_, rfl, _, _, rfl, rfl, _, rfl, ?_⟩
    by_cases h0 : 0 ≤ a
    · rw [decide_eq_true h0]
      refine ⟨_, rfl, _, _, _, _, _, rfl, hp, T.c_Draft, T.n_Draft_locks, zlk K_Draft_locks rfl, l, xs, rfl, .inl (SqL.of hl), _, _, rfl, rfl, _, rfl, ?_⟩
      by_cases h1 : a < (xs.length : Int)
      · refine iteTD (decide_eq_true h1) ?_
        have hj : a.toNat < xs.length := by omega
        obtain ⟨v, hv⟩ : ∃ v, xs[a.toNat]? = some v := ⟨xs[a.toNat], List.getElem?_eq_getElem hj⟩
        refine ⟨_, rfl, _, _, _, _, _, rfl, hp, T.c_Draft, T.n_Draft_locks, zlk K_Draft_locks rfl, _, rfl, l, _, _, v, rfl, rfl, SqL.of hl, at_of (j := a.toNat) (by omega) hv, ?_⟩
        obtain ⟨dd, hd, ht⟩ := hz.get' hv
        rw [List.getElem?_map] at hd
        obtain ⟨lk, hlk, rfl⟩ := Option.map_eq_some_iff.mp hd
        refine k2 lk v ?_ ht
        unfold lkAt
        rw [if_pos ⟨h0, by omega⟩]
        exact hlk
      · refine iteFD (decide_eq_false h1) ?_
        refine k1 ?_
        unfold lkAt
        rw [if_neg]
        omega
    · rw [decide_eq_false h0]
      refine ⟨false, rfl, ?_⟩
      refine k1 ?_
      unfold lkAt
      rw [if_neg]
      omega
theorem scPut : FnScope ["self", "key", "amount", "deadline"] ["self", "key", "amount", "deadline"] (defScope sPut) := ⟨rfl, rfl, rfl, by decide +kernel, rfl, by decide +kernel, by decide +kernel⟩
theorem ok_put (T : Tx K mg) : CallM P w K mg base 2 "Draft" "put_lock" ["self", "key", "amount", "deadline"] (spPut K) := by
  have GC : CallM P w K mg base 1 "Draft" "can_spend" ["self", "amount"] (spCan K) := ok_can T
  obtain ⟨t1, e1⟩ := T.i_MOST_LOCKS
  refine mkM_ T.d_Draft_put_lock T.c_Draft T.m_Draft_put_lock (fun _ _ _ _ _ _ us hl => match us, hl with | [_, _, _, _], _ => rfl) fun fd F => ok_of F scPut (fun vs H Q E h => ?_) (fun cdv A outer s H vs Q E hr h => ?_)
  · obtain ⟨p, l, d, k, a, dl, rfl, _⟩ := h
    rfl
  · obtain ⟨p, l, d, k, a, dl, rfl, hD, h8, k1, k2⟩ := h
    obtain ⟨⟨dx, hp⟩, xs, hl, hz⟩ := id hD
    have hlen : xs.length = d.locks.length := hz.length.trans (List.length_map _)
    have npl : p ≠ l := ne_of hp hl (by intro z; cases z)
    refine ⟨_, pss_cons (ps_if (PW.pt (pw_or (pt_not (pt_val (pe_M (pv 0) GC hr (pa_cons (pv 2) pa_nil)))) (pw_or1 (pt_cmpR op_ge (pe_callB call_len_seq (by rfl) T.f_len PySem.boot_len (pa_cons (pe_fld (pv 0) rfl) pa_nil)) (pe_glob rfl e1 (relI _ _)) (nomark _))))) (pss_one (ps_ret pe_bl)) pss_nil)
      (pss_cons (ps_fldaug (pv 0) (pv 2) in_sub) (pss_cons (ps_expr (pe_bm PySem.F.plainAttrs_list PySem.F.slot_list_append PySem.F.type_list_append mt_append (pe_fld (pv 0) rfl) (pa_cons (pe_tup (pa_cons (pv 1) (pa_cons (pv 2) (pa_cons (pv 3) (pa_cons (pe_fld (pv 0) rfl) pa_nil))))) pa_nil))) (pss_one (ps_ret pe_bl)))), ?_⟩
    refine ⟨_, rfl, _, _, _, rfl, hp, zno (by decide +kernel), _, rfl, p, l, d, a, rfl, hD, _, rfl, ?_⟩
    unfold mkLock at k1 k2
    cases hc : canSp d a with
    | false =>
      refine k1 ?_ H (Chg.refl _)
      rw [hc, if_neg (by simp)]
    | true =>
      refine ⟨_, rfl, _, _, _, _, _, rfl, hp, T.c_Draft, T.n_Draft_locks, zlk K_Draft_locks rfl, l, xs, rfl, .inl (SqL.of hl), _, _, rfl, rfl, _, rfl, ?_⟩
      by_cases h7 : d.locks.length < 8
      · refine iteFD (decide_eq_false (by omega)) ?_
        rw [if_pos ⟨hc, h7⟩] at k2
        refine ⟨_, rfl, _, _, _, _, _, rfl, hp, T.c_Draft, T.n_Draft_own, zlk K_Draft_own rfl, _, rfl, _, _, rfl, rfl, _, _, hp, zlen (by decide), ?_⟩
        rw [zput K_Draft_own rfl]
        refine ⟨_, rfl, _, _, _, _, _, rfl, upd_same, T.c_Draft, T.n_Draft_locks, zlk K_Draft_locks rfl, .inl ⟨rfl, _, SqL.of ((by rw [upd_ne npl.symm]; exact hl))⟩, _, rfl, _, rfl, _, rfl, _, rfl, _, _, _, _, _, rfl, upd_same, T.c_Draft, T.n_Draft_from_first, zlk K_Draft_from_first rfl, (by show 4 ≤ sizeLine; decide), fun t nt => ?_⟩
        have nlt : l ≠ t := by
          intro z
          rw [← z, upd_ne npl.symm, hl] at nt
          cases nt
        have npt : p ≠ t := ne_of_none upd_same nt
        refine ⟨l, xs, _, rfl, rfl, (by rw [upd_ne nlt, upd_ne npl.symm]; exact hl), (by rw [sizeLine_eq]; omega), ?_⟩
        have c1 : Chg [p, l] H (upd H p (.ins (He.ga K "Draft") dx (drKs.zip [.bl d.ff, .int (d.own - a), .int d.others, .int d.spare, .ref l, .bl d.closed]))) := Chg.put hp (by intro xs z; cases z) (by simp)
        have c2 := c1.trans (Chg.new nt (o := .tup [.int k, .int a, .int dl, .bl d.ff]))
        refine k2 _ _ rfl (c2.trans (Chg.put (u := .lst xs) (by rw [upd_ne nlt, upd_ne npl.symm]; exact hl) (by intro xs z; cases z) (by simp))) ⟨⟨dx, ?_⟩, xs ++ [.ref t], upd_same, ?_⟩
        · rw [upd_ne npl, upd_ne npt]
          exact upd_same
        · show TDs _ (xs ++ [.ref t]) ((d.locks ++ [(⟨k, a, dl, d.ff⟩ : Lck)]).map Lck.d)
          rw [List.map_append]
          have c3 : Chg [p, l] H (upd (upd (upd H p (.ins (He.ga K "Draft") dx (drKs.zip [.bl d.ff, .int (d.own - a), .int d.others, .int d.spare, .ref l, .bl d.closed]))) t (.tup [.int k, .int a, .int dl, .bl d.ff])) l (.lst (xs ++ [.ref t]))) :=
            c2.trans (Chg.put (u := .lst xs) (by rw [upd_ne nlt, upd_ne npl.symm]; exact hl) (by intro xs z; cases z) (by simp))
          refine (hz.chg c3).append (.cons (.tup ?_ (.cons (.int _) (.cons (.int _) (.cons (.int _) (.cons (.bl _) .nil))))) .nil)
          rw [upd_ne nlt.symm]
          exact upd_same
      · refine iteTD (decide_eq_true (by omega)) ?_
        rw [if_neg fun z => h7 z.2] at k1
        exact k1 rfl H (Chg.refl _)
/-- the shape behind a lock's leaving -/
theorem DrAt.erased {H : Hp} {p l dx : Addr} {xs : List V} {vs : List V} {f : List (Str × V)} (hp : H p = some (.ins (He.ga K "Draft") dx f)) (hl : H l = some (.lst xs)) (npl : p ≠ l) (j : Nat) :
    Chg [p, l] H (upd (upd H l (.lst (xs.eraseIdx j))) p (.ins (He.ga K "Draft") dx (drKs.zip vs))) := by
  refine (Chg.put hl (by intro xs z; cases z) (by simp)).trans (Chg.put (u := .ins (He.ga K "Draft") dx f) ?_ (by intro xs z; cases z) (by simp))
  rw [upd_ne npl]
  exact hp
end
end K45
set_option Elab.async false
set_option linter.all false
set_option maxRecDepth 100000
set_option maxHeartbeats 4000000
/-! drafts: the moves -/
namespace K45
open PySem PySem.Spec PyProof.Rows L2
section
variable {P : Program} {w : World} {K : PySem.W.Frag} {mg : Str → Option Value} {base : Heap}
theorem blv {a b : Bool} (h : a ≠ b) : decide (V.bl a = V.bl b) = false := dne fun z => h (V.bl.inj z)
theorem blt {a b : Bool} (h : a = b) : decide (V.bl a = V.bl b) = true := deq (congrArg V.bl h)
theorem inv {a b : Int} (h : a ≠ b) : decide (V.int a = V.int b) = false := dne fun z => h (V.int.inj z)
theorem int_ {a b : Int} (h : a = b) : decide (V.int a = V.int b) = true := deq (congrArg V.int h)
theorem nbF {c : Bool} (h : c = true) : (!c) = false := by rw [h]; rfl
theorem nbT {c : Bool} (h : c = false) : (!c) = true := by rw [h]; rfl
/-- a lock's place, as del takes it -/
theorem lk_seq {ls : List Lck} {xs : List V} {a : Int} {lk : Lck} (h : lkAt ls a = some lk) (hl : xs.length = ls.length) (h8 : ls.length ≤ 8) : -(2 ^ 63) ≤ a ∧ a < 2 ^ 63 ∧ seqIndex? a xs.length = some a.toNat := by
  obtain ⟨h0, h1, _⟩ := lkAt_some h
  exact ⟨by omega, by omega, seqIndex_of h0 (by omega)⟩
theorem map_erase {α β : Type} (f : α → β) : ∀ (l : List α) (j : Nat), (l.map f).eraseIdx j = (l.eraseIdx j).map f
  | [], j => rfl
  | a :: l, 0 => rfl
  | a :: l, j + 1 => congrArg (f a :: ·) (map_erase f l j)
theorem erased_d {H : Hp} {xs : List V} {ls : List Lck} (h : TDs H xs (ls.map Lck.d)) (j : Nat) : TDs H (xs.eraseIdx j) ((ls.eraseIdx j).map Lck.d) := by
  rw [← map_erase]
  exact h.erase j
theorem scPaid : FnScope ["self", "place", "secret", "lock"] ["self", "place", "secret"] (defScope sPaid) := ⟨rfl, rfl, rfl, by decide +kernel, rfl, by decide +kernel, by decide +kernel⟩
theorem ok_paid (T : Tx K mg) : CallM P w K mg base 2 "Draft" "take_paid" ["self", "place", "secret"] (spPaid K) := by
  have GL : CallM P w K mg base 1 "Draft" "lock_at" ["self", "place"] (spLockAt K) := ok_lock_at T
  have GK : CallG P w K mg base 1 "key_of" ["secret"] spKeyOf := ok_key_of T
  refine mkM_ T.d_Draft_take_paid T.c_Draft T.m_Draft_take_paid (fun _ _ _ _ _ _ us hl => match us, hl with | [_, _, _], _ => rfl) fun fd F => ok_of F scPaid (fun vs H Q E h => ?_) (fun cdv A outer s H vs Q E hr h => ?_)
  · obtain ⟨p, l, d, a, z, rfl, _⟩ := h
    rfl
  · obtain ⟨p, l, d, a, z, rfl, hD, h8, k1, k2⟩ := h
    obtain ⟨⟨dx, hp⟩, xs, hl, hz⟩ := id hD
    have hlen : xs.length = d.locks.length := hz.length.trans (List.length_map _)
    have npl : p ≠ l := ne_of hp hl (by intro z; cases z)
    unfold mkPaid at k1 k2
    refine ⟨_, pss_cons (ps_set (i := 3) scPaid.nd rfl (.inl rfl) (pe_M (pv 0) GL hr (pa_cons (pv 1) pa_nil)))
      (pss_cons (ps_if (PW.pt (pw_or (pt_cmpR op_isN (pv 3) (pe_non) (nomark _)) (pw_or (pt_cmpR op_eq (pe_ix ix_tup (pv 3) pe_int (fun _ _ => rfl)) (pe_fld (pv 0) rfl) (nomark _)) (pw_or1 (pt_cmpR op_ne (pe_ix ix_tup (pv 3) pe_int (fun _ _ => rfl)) (pe_G GK hr rfl (pa_cons (pv 2) pa_nil)) (nomark _)))))) (pss_one (ps_ret pe_bl)) pss_nil)
      (pss_cons (ps_delL (pe_fld (pv 0) rfl) (pv 1)) (pss_cons (ps_fldaug (pv 0) (pe_ix ix_tup (pv 3) pe_int (fun _ _ => rfl)) in_add) (pss_one (ps_ret pe_bl))))), ?_⟩
    refine ⟨_, rfl, _, _, _, rfl, hp, zno (by decide +kernel), _, rfl, p, l, d, a, rfl, hD, h8, fun hn => ?_, fun lk v hk ht => ?_⟩
    · rw [hn] at k1
      refine ⟨_, rfl, rfl, _, rfl, ?_⟩
      exact k1 rfl H (Chg.refl _)
    · rw [hk] at k1 k2
      obtain ⟨q, rfl, hq⟩ := Lck.open_ ht
      obtain ⟨g1, g2, g3⟩ := lk_seq hk hlen h8
      refine ⟨_, rfl, rfl, _, rfl, ?_⟩
      refine iteFD (dne (by intro z; cases z)) ?_
      refine ⟨_, rfl, _, _, _, _, rfl, rfl, SqT.of (hq), ati 3 rfl, _, rfl, _, _, _, _, _, rfl, hp, T.c_Draft, T.n_Draft_from_first, zlk K_Draft_from_first rfl, rfl, _, rfl, ?_⟩
      by_cases h1 : lk.ff = d.ff
      · refine iteTD (blt h1) ?_
        exact k1 (if_neg fun z => z.1 h1) H (Chg.refl _)
      · refine iteFD (blv h1) ?_
        refine ⟨_, rfl, _, _, _, _, rfl, rfl, SqT.of (hq), ati 0 rfl, _, rfl, z, rfl, rfl, _, rfl, ?_⟩
        by_cases h2 : lk.key = keyOf z
        · refine iteFD (nbF (int_ h2)) ?_
          refine ⟨_, rfl, _, _, _, _, _, rfl, hp, T.c_Draft, T.n_Draft_locks, zlk K_Draft_locks rfl, _, rfl, l, xs, a, _, rfl, rfl, hl, g1, g2, g3, ?_⟩
          refine ⟨_, rfl, _, _, _, _, _, rfl, (by rw [upd_ne npl]; exact hp), T.c_Draft, T.n_Draft_own, zlk K_Draft_own rfl, _, rfl, _, _, _, _, rfl, rfl, SqT.of ((by rw [upd_ne (ne_of hq hl (by intro z; cases z))]; exact hq)), ati 1 rfl, _, _, rfl, rfl, _, _, (by rw [upd_ne npl]; exact hp), zlen (by decide), ?_⟩
          rw [zput K_Draft_own rfl]
          have c := DrAt.erased (vs := [.bl d.ff, .int (d.own + lk.am), .int d.others, .int d.spare, .ref l, .bl d.closed]) hp hl npl a.toNat
          refine k2 _ _ (if_pos ⟨h1, h2⟩) c ⟨⟨dx, upd_same⟩, _, ?_, erased_d (hz.chg c) _⟩
          rw [upd_ne npl.symm]
          exact upd_same
        · refine iteTD (nbT (inv h2)) ?_
          exact k1 (if_neg fun z => h2 z.2) H (Chg.refl _)
theorem scDrop : FnScope ["self", "place", "lock"] ["self", "place"] (defScope sDrop) := ⟨rfl, rfl, rfl, by decide +kernel, rfl, by decide +kernel, by decide +kernel⟩
theorem ok_drop (T : Tx K mg) : CallM P w K mg base 2 "Draft" "drop_lock" ["self", "place"] (spDrop K) := by
  have GL : CallM P w K mg base 1 "Draft" "lock_at" ["self", "place"] (spLockAt K) := ok_lock_at T
  refine mkM_ T.d_Draft_drop_lock T.c_Draft T.m_Draft_drop_lock (fun _ _ _ _ _ _ us hl => match us, hl with | [_, _], _ => rfl) fun fd F => ok_of F scDrop (fun vs H Q E h => ?_) (fun cdv A outer s H vs Q E hr h => ?_)
  · obtain ⟨p, l, d, a, rfl, _⟩ := h
    rfl
  · obtain ⟨p, l, d, a, rfl, hD, h8, k1, k2⟩ := h
    obtain ⟨⟨dx, hp⟩, xs, hl, hz⟩ := id hD
    have hlen : xs.length = d.locks.length := hz.length.trans (List.length_map _)
    have npl : p ≠ l := ne_of hp hl (by intro z; cases z)
    unfold mkDrop at k1 k2
    refine ⟨_, pss_cons (ps_set (i := 2) scDrop.nd rfl (.inl rfl) (pe_M (pv 0) GL hr (pa_cons (pv 1) pa_nil)))
      (pss_cons (ps_if (PW.pt (pw_or (pt_cmpR op_isN (pv 2) (pe_non) (nomark _)) (pw_or1 (pt_cmpR op_eq (pe_ix ix_tup (pv 2) pe_int (fun _ _ => rfl)) (pe_fld (pv 0) rfl) (nomark _))))) (pss_one (ps_ret pe_bl)) pss_nil)
      (pss_cons (ps_delL (pe_fld (pv 0) rfl) (pv 1)) (pss_cons (ps_fldaug (pv 0) (pe_ix ix_tup (pv 2) pe_int (fun _ _ => rfl)) in_add) (pss_one (ps_ret pe_bl))))), ?_⟩
    refine ⟨_, rfl, _, _, _, rfl, hp, zno (by decide +kernel), _, rfl, p, l, d, a, rfl, hD, h8, fun hn => ?_, fun lk v hk ht => ?_⟩
    · rw [hn] at k1
      refine ⟨_, rfl, rfl, _, rfl, ?_⟩
      exact k1 rfl H (Chg.refl _)
    · rw [hk] at k1 k2
      obtain ⟨q, rfl, hq⟩ := Lck.open_ ht
      obtain ⟨g1, g2, g3⟩ := lk_seq hk hlen h8
      refine ⟨_, rfl, rfl, _, rfl, ?_⟩
      refine iteFD (dne (by intro z; cases z)) ?_
      refine ⟨_, rfl, _, _, _, _, rfl, rfl, SqT.of (hq), ati 3 rfl, _, rfl, _, _, _, _, _, rfl, hp, T.c_Draft, T.n_Draft_from_first, zlk K_Draft_from_first rfl, rfl, _, rfl, ?_⟩
      by_cases h1 : lk.ff = d.ff
      · refine iteTD (blt h1) ?_
        exact k1 (if_neg fun z => z h1) H (Chg.refl _)
      · refine iteFD (blv h1) ?_
        refine ⟨_, rfl, _, _, _, _, _, rfl, hp, T.c_Draft, T.n_Draft_locks, zlk K_Draft_locks rfl, _, rfl, l, xs, a, _, rfl, rfl, hl, g1, g2, g3, ?_⟩
        refine ⟨_, rfl, _, _, _, _, _, rfl, (by rw [upd_ne npl]; exact hp), T.c_Draft, T.n_Draft_others, zlk K_Draft_others rfl, _, rfl, _, _, _, _, rfl, rfl, SqT.of ((by rw [upd_ne (ne_of hq hl (by intro z; cases z))]; exact hq)), ati 1 rfl, _, _, rfl, rfl, _, _, (by rw [upd_ne npl]; exact hp), zlen (by decide), ?_⟩
        rw [zput K_Draft_others rfl]
        have c := DrAt.erased (vs := [.bl d.ff, .int d.own, .int (d.others + lk.am), .int d.spare, .ref l, .bl d.closed]) hp hl npl a.toNat
        refine k2 _ _ (if_pos h1) c ⟨⟨dx, upd_same⟩, _, ?_, erased_d (hz.chg c) _⟩
        rw [upd_ne npl.symm]
        exact upd_same
theorem scBack : FnScope ["self", "place", "lock"] ["self", "place"] (defScope sBack) := ⟨rfl, rfl, rfl, by decide +kernel, rfl, by decide +kernel, by decide +kernel⟩
theorem ok_back (T : Tx K mg) : CallM P w K mg base 2 "Draft" "take_back" ["self", "place"] (spBack K) := by
  have GL : CallM P w K mg base 1 "Draft" "lock_at" ["self", "place"] (spLockAt K) := ok_lock_at T
  refine mkM_ T.d_Draft_take_back T.c_Draft T.m_Draft_take_back (fun _ _ _ _ _ _ us hl => match us, hl with | [_, _], _ => rfl) fun fd F => ok_of F scBack (fun vs H Q E h => ?_) (fun cdv A outer s H vs Q E hr h => ?_)
  · obtain ⟨p, l, d, a, rfl, _⟩ := h
    rfl
  · obtain ⟨p, l, d, a, rfl, hD, h8, k1, k2⟩ := h
    obtain ⟨⟨dx, hp⟩, xs, hl, hz⟩ := id hD
    have hlen : xs.length = d.locks.length := hz.length.trans (List.length_map _)
    have npl : p ≠ l := ne_of hp hl (by intro z; cases z)
    unfold mkBack at k1 k2
    refine ⟨_, pss_cons (ps_set (i := 2) scBack.nd rfl (.inl rfl) (pe_M (pv 0) GL hr (pa_cons (pv 1) pa_nil)))
      (pss_cons (ps_if (PW.pt (pw_or (pt_cmpR op_isN (pv 2) (pe_non) (nomark _)) (pw_or1 (pt_cmpR op_ne (pe_ix ix_tup (pv 2) pe_int (fun _ _ => rfl)) (pe_fld (pv 0) rfl) (nomark _))))) (pss_one (ps_ret pe_bl)) pss_nil)
      (pss_cons (ps_delL (pe_fld (pv 0) rfl) (pv 1)) (pss_cons (ps_fldaug (pv 0) (pe_ix ix_tup (pv 2) pe_int (fun _ _ => rfl)) in_add) (pss_one (ps_ret pe_bl))))), ?_⟩
    refine ⟨_, rfl, _, _, _, rfl, hp, zno (by decide +kernel), _, rfl, p, l, d, a, rfl, hD, h8, fun hn => ?_, fun lk v hk ht => ?_⟩
    · rw [hn] at k1
      refine ⟨_, rfl, rfl, _, rfl, ?_⟩
      exact k1 rfl H (Chg.refl _)
    · rw [hk] at k1 k2
      obtain ⟨q, rfl, hq⟩ := Lck.open_ ht
      obtain ⟨g1, g2, g3⟩ := lk_seq hk hlen h8
      refine ⟨_, rfl, rfl, _, rfl, ?_⟩
      refine iteFD (dne (by intro z; cases z)) ?_
      refine ⟨_, rfl, _, _, _, _, rfl, rfl, SqT.of (hq), ati 3 rfl, _, rfl, _, _, _, _, _, rfl, hp, T.c_Draft, T.n_Draft_from_first, zlk K_Draft_from_first rfl, rfl, _, rfl, ?_⟩
      by_cases h1 : lk.ff = d.ff
      · refine iteFD (nbF (blt h1)) ?_
        refine ⟨_, rfl, _, _, _, _, _, rfl, hp, T.c_Draft, T.n_Draft_locks, zlk K_Draft_locks rfl, _, rfl, l, xs, a, _, rfl, rfl, hl, g1, g2, g3, ?_⟩
        refine ⟨_, rfl, _, _, _, _, _, rfl, (by rw [upd_ne npl]; exact hp), T.c_Draft, T.n_Draft_own, zlk K_Draft_own rfl, _, rfl, _, _, _, _, rfl, rfl, SqT.of ((by rw [upd_ne (ne_of hq hl (by intro z; cases z))]; exact hq)), ati 1 rfl, _, _, rfl, rfl, _, _, (by rw [upd_ne npl]; exact hp), zlen (by decide), ?_⟩
        rw [zput K_Draft_own rfl]
        have c := DrAt.erased (vs := [.bl d.ff, .int (d.own + lk.am), .int d.others, .int d.spare, .ref l, .bl d.closed]) hp hl npl a.toNat
        refine k2 _ _ (if_pos h1) c ⟨⟨dx, upd_same⟩, _, ?_, erased_d (hz.chg c) _⟩
        rw [upd_ne npl.symm]
        exact upd_same
      · refine iteTD (nbT (blv h1)) ?_
        exact k1 (if_neg h1) H (Chg.refl _)
theorem scHand : FnScope ["self", "amount"] ["self", "amount"] (defScope sHand) := ⟨rfl, rfl, rfl, by decide +kernel, rfl, by decide +kernel, by decide +kernel⟩
theorem ok_hand (T : Tx K mg) : CallM P w K mg base 2 "Draft" "hand_over" ["self", "amount"] (spHand K) := by
  have GC : CallM P w K mg base 1 "Draft" "can_spend" ["self", "amount"] (spCan K) := ok_can T
  refine mkM_ T.d_Draft_hand_over T.c_Draft T.m_Draft_hand_over (fun _ _ _ _ _ _ us hl => match us, hl with | [_, _], _ => rfl) fun fd F => ok_of F scHand (fun vs H Q E h => ?_) (fun cdv A outer s H vs Q E hr h => ?_)
  · obtain ⟨p, l, d, a, rfl, _⟩ := h
    rfl
  · obtain ⟨p, l, d, a, rfl, hD, k1, k2⟩ := h
    obtain ⟨⟨dx, hp⟩, xs, hl, hz⟩ := id hD
    have npl : p ≠ l := ne_of hp hl (by intro z; cases z)
    unfold mkHand at k1 k2
    refine ⟨_, pss_cons (ps_if (pt_not (pt_val (pe_M (pv 0) GC hr (pa_cons (pv 1) pa_nil)))) (pss_one (ps_ret pe_bl)) pss_nil)
      (pss_cons (ps_fldaug (pv 0) (pv 1) in_sub) (pss_cons (ps_fldaug (pv 0) (pv 1) in_add) (pss_one (ps_ret pe_bl)))), ?_⟩
    refine ⟨_, rfl, _, _, _, rfl, hp, zno (by decide +kernel), _, rfl, p, l, d, a, rfl, hD, _, rfl, ?_⟩
    cases hc : canSp d a with
    | false =>
      refine k1 ?_ H (Chg.refl _)
      rw [hc, if_neg (by simp)]
    | true =>
      rw [if_pos hc] at k2
      refine ⟨_, rfl, _, _, _, _, _, rfl, hp, T.c_Draft, T.n_Draft_own, zlk K_Draft_own rfl, _, rfl, _, _, rfl, rfl, _, _, hp, zlen (by decide), ?_⟩
      rw [zput K_Draft_own rfl]
      refine ⟨_, rfl, _, _, _, _, _, rfl, upd_same, T.c_Draft, T.n_Draft_others, zlk K_Draft_others rfl, _, rfl, _, _, rfl, rfl, _, _, upd_same, zlen (by decide), ?_⟩
      rw [zput K_Draft_others rfl, upd_upd]
      have c : Chg [p, l] H (upd H p (.ins (He.ga K "Draft") dx (drKs.zip [.bl d.ff, .int (d.own - a), .int (d.others + a), .int d.spare, .ref l, .bl d.closed]))) := Chg.put hp (by intro xs z; cases z) (by simp)
      refine k2 _ _ rfl c ⟨⟨dx, upd_same⟩, xs, ?_, hz.chg c⟩
      rw [upd_ne npl.symm]
      exact hl
theorem scFin : FnScope ["self"] ["self"] (defScope sFin) := ⟨rfl, rfl, rfl, by decide +kernel, rfl, by decide +kernel, by decide +kernel⟩
theorem ok_fin (T : Tx K mg) : CallM P w K mg base 1 "Draft" "finish_up" ["self"] (spFin K) := by
  refine mkM_ T.d_Draft_finish_up T.c_Draft T.m_Draft_finish_up (fun _ _ _ _ _ _ us hl => match us, hl with | [_], _ => rfl) fun fd F => ok_of F scFin (fun vs H Q E h => ?_) (fun cdv A outer s H vs Q E hr h => ?_)
  · obtain ⟨p, l, d, rfl, _⟩ := h
    rfl
  · obtain ⟨p, l, d, rfl, hD, k1, k2⟩ := h
    obtain ⟨⟨dx, hp⟩, xs, hl, hz⟩ := id hD
    have hlen : xs.length = d.locks.length := hz.length.trans (List.length_map _)
    have npl : p ≠ l := ne_of hp hl (by intro z; cases z)
    unfold mkFin at k1 k2
    refine ⟨_, pss_cons (ps_if (PW.pt (pw_or (pt_val (pe_fld (pv 0) rfl)) (pw_or1 (pt_truth (pe_fld (pv 0) rfl) (by intro _; rfl))))) (pss_one (ps_ret pe_bl)) pss_nil)
      (pss_cons (ps_fld (pv 0) pe_bl rfl) (pss_one (ps_ret pe_bl))), ?_⟩
    refine ⟨_, rfl, _, _, _, _, _, rfl, hp, T.c_Draft, T.n_Draft_closed, zlk K_Draft_closed rfl, _, rfl, ?_⟩
    cases hc : d.closed with
    | true =>
      exact k1 (if_neg fun z => by rw [hc] at z; cases z.1) H (Chg.refl _)
    | false =>
      refine ⟨_, rfl, _, _, _, _, _, rfl, hp, T.c_Draft, T.n_Draft_locks, zlk K_Draft_locks rfl, _, .inl ⟨xs, SqL.of hl, rfl⟩, ?_⟩
      by_cases he : d.locks = []
      · have hx : xs = [] := List.length_eq_zero_iff.mp (by rw [hlen, he]; rfl)
        subst hx
        refine ⟨_, rfl, _, _, _, _, rfl, hp, T.c_Draft, T.n_Draft_closed, zlen (by decide), ?_⟩
        rw [zput K_Draft_closed rfl]
        have c : Chg [p, l] H (upd H p (.ins (He.ga K "Draft") dx (drKs.zip [.bl d.ff, .int d.own, .int d.others, .int d.spare, .ref l, .bl true]))) := Chg.put hp (by intro xs z; cases z) (by simp)
        refine k2 _ _ (if_pos ⟨hc, he⟩) c ⟨⟨dx, upd_same⟩, [], ?_, hz.chg c⟩
        rw [upd_ne npl.symm]
        exact hl
      · refine iteTD ?_ ?_
        · cases xs with
          | nil => exact absurd (List.length_eq_zero_iff.mp hlen.symm) he
          | cons _ _ => rfl
        · exact k1 (if_neg fun z => he z.2) H (Chg.refl _)
end
end K45
set_option Elab.async false
set_option linter.all false
set_option maxRecDepth 100000
set_option maxHeartbeats 4000000
/-! steps: make, the next state, agreeing -/
namespace K45
open PySem PySem.Spec PyProof.Rows L2
/-- a Settings at g -/
def SetAt (K : PySem.W.Frag) (H : Hp) (g : Addr) : Prop := ∃ (dx : Addr) (a0 a1 a2 a3 a4 a5 a6 a7 a8 a9 b0 : Int), H g = some (.ins (He.ga K "Settings") dx (seKs.zip [.int a0, .int a1, .int a2, .int a3, .int a4, .int a5, .int a6, .int a7, .int a8, .int a9, .int b0]))
theorem SetAt.sm {K : PySem.W.Frag} {H H' : Hp} {g : Addr} (h : SetAt K H g) (c : Same H H') : SetAt K H' g := by
  obtain ⟨dx, a0, a1, a2, a3, a4, a5, a6, a7, a8, a9, b0, h⟩ := h
  exact ⟨dx, a0, a1, a2, a3, a4, a5, a6, a7, a8, a9, b0, c _ _ h⟩
theorem SetAt.chg {K : PySem.W.Frag} {S : List Addr} {H H' : Hp} {g : Addr} (h : SetAt K H g) (c : Chg S H H') (n : g ∉ S) : SetAt K H' g := by
  obtain ⟨dx, a0, a1, a2, a3, a4, a5, a6, a7, a8, a9, b0, h⟩ := h
  exact ⟨dx, a0, a1, a2, a3, a4, a5, a6, a7, a8, a9, b0, c.ext _ _ h n⟩
def spAgM (K : PySem.W.Frag) : Sp := fun vs H Q _ => ∃ (g r p l : Addr) (n : Int) (d : Dr) (m : Mv) (v : V), vs = [.ref g, .int n, .ref r, .ref p, v] ∧ SetAt K H g ∧ H r = some (.dK []) ∧ DrAt K H p l d ∧ d.locks.length ≤ 8 ∧ TD H v m.d ∧ ∀ b, Q (.bl b) H
def spNext (K : PySem.W.Frag) : Sp := fun vs H Q _ => ∃ (v m : V) (c : Addr) (s : Stt) (ms : List Mv) (c1 c2 : Int), vs = [v, m, .ref c] ∧ TD H v s.d ∧ TD H m (Mvs.d ms) ∧ H c = some (.tup [.int c1, .int c2]) ∧ s.locks.length ≤ 8 ∧
  (nxt s ms (c1, c2) = none → ∀ H', Same H H' → Q .non H') ∧ ∀ t v H', nxt s ms (c1, c2) = some t → Same H H' → TD H' v t.d → Q v H'
def spAgr (K : PySem.W.Frag) : Sp := fun vs H Q _ => ∃ (g r : Addr) (n : Int) (v m : V) (c : Addr) (s : Stt) (ms : List Mv) (c1 c2 : Int), vs = [.ref g, .int n, .ref r, v, m, .ref c] ∧ SetAt K H g ∧ H r = some (.dK []) ∧
  TD H v s.d ∧ TD H m (Mvs.d ms) ∧ H c = some (.tup [.int c1, .int c2]) ∧ s.locks.length ≤ 8 ∧ ∀ b H', Same H H' → (b = true → ∃ t, nxt s ms (c1, c2) = some t) → Q (.bl b) H'
section
variable {P : Program} {w : World} {K : PySem.W.Frag} {mg : Str → Option Value} {base : Heap}
theorem scMake : FnScope ["self", "move", "kind"] ["self", "move"] (defScope sMake) := ⟨rfl, rfl, rfl, by decide +kernel, rfl, by decide +kernel, by decide +kernel⟩
theorem ok_make (T : Tx K mg) : CallM P w K mg base 3 "Draft" "make" ["self", "move"] (spMake K) := by
  have G1 : CallM P w K mg base 2 "Draft" "put_lock" ["self", "key", "amount", "deadline"] (spPut K) := ok_put T
  have G2 : CallM P w K mg base 2 "Draft" "take_paid" ["self", "place", "secret"] (spPaid K) := ok_paid T
  have G3 : CallM P w K mg base 2 "Draft" "drop_lock" ["self", "place"] (spDrop K) := ok_drop T
  have G4 : CallM P w K mg base 2 "Draft" "take_back" ["self", "place"] (spBack K) := ok_back T
  have G5 : CallM P w K mg base 2 "Draft" "hand_over" ["self", "amount"] (spHand K) := ok_hand T
  have G6 : CallM P w K mg base 1 "Draft" "finish_up" ["self"] (spFin K) := ok_fin T
  refine mkM_ T.d_Draft_make T.c_Draft T.m_Draft_make (fun _ _ _ _ _ _ us hl => match us, hl with | [_, _], _ => rfl) fun fd F => ok_of F scMake (fun vs H Q E h => ?_) (fun cdv A outer s H vs Q E hr h => ?_)
  · obtain ⟨p, l, d, m, v, rfl, _⟩ := h
    rfl
  · obtain ⟨p, l, d, m, v, rfl, hD, h8, hm, k⟩ := h
    obtain ⟨q, rfl, hq⟩ := Mv.open_ hm
    obtain ⟨dx, hp⟩ := hD.ob
    refine ⟨_, pss_cons (ps_set (i := 2) scMake.nd rfl (.inl rfl) (pe_ix ix_tup (pv 1) pe_int (fun _ _ => rfl)))
      (pss_cons (ps_if (pt_cmpR op_eq (pv 2) (pe_str) (nomark _)) (pss_one (ps_ret (pe_M (pv 0) G1 hr (pa_cons (pe_ix ix_tup (pv 1) pe_int (fun _ _ => rfl)) (pa_cons (pe_ix ix_tup (pv 1) pe_int (fun _ _ => rfl)) (pa_cons (pe_ix ix_tup (pv 1) pe_int (fun _ _ => rfl)) pa_nil)))))) pss_nil)
      (pss_cons (ps_if (pt_cmpR op_eq (pv 2) (pe_str) (nomark _)) (pss_one (ps_ret (pe_M (pv 0) G2 hr (pa_cons (pe_ix ix_tup (pv 1) pe_int (fun _ _ => rfl)) (pa_cons (pe_ix ix_tup (pv 1) pe_int (fun _ _ => rfl)) pa_nil))))) pss_nil)
      (pss_cons (ps_if (pt_cmpR op_eq (pv 2) (pe_str) (nomark _)) (pss_one (ps_ret (pe_M (pv 0) G3 hr (pa_cons (pe_ix ix_tup (pv 1) pe_int (fun _ _ => rfl)) pa_nil)))) pss_nil)
      (pss_cons (ps_if (pt_cmpR op_eq (pv 2) (pe_str) (nomark _)) (pss_one (ps_ret (pe_M (pv 0) G4 hr (pa_cons (pe_ix ix_tup (pv 1) pe_int (fun _ _ => rfl)) pa_nil)))) pss_nil)
      (pss_cons (ps_if (pt_cmpR op_eq (pv 2) (pe_str) (nomark _)) (pss_one (ps_ret (pe_M (pv 0) G5 hr (pa_cons (pe_ix ix_tup (pv 1) pe_int (fun _ _ => rfl)) pa_nil)))) pss_nil)
      (pss_one (ps_ret (pe_M0 (pv 0) G6 hr)))))))), ?_⟩
    cases m with
    | lock k1 a dl =>
      have hq : H q = some (.tup [.str "lock", .int k1, .int a, .int dl]) := hq
      refine ⟨_, rfl, _, _, _, _, rfl, rfl, SqT.of (hq), ati 0 rfl, _, rfl, rfl, _, rfl, iteTD (deq rfl) ?_⟩
      exact ⟨_, rfl, _, _, _, rfl, hp, zno (by decide +kernel), _, rfl, _, _, _, _, rfl, rfl, SqT.of (hq), ati 1 rfl, _, rfl, _, _, _, _, rfl, rfl, SqT.of (hq), ati 2 rfl, _, rfl, _, _, _, _, rfl, rfl, SqT.of (hq), ati 3 rfl, p, l, d, k1, a, dl, rfl, hD, h8, k⟩
    | paid a z =>
      have hq : H q = some (.tup [.str "paid", .int a, .int z]) := hq
      refine ⟨_, rfl, _, _, _, _, rfl, rfl, SqT.of (hq), ati 0 rfl, _, rfl, rfl, _, rfl, iteFD (dne (by decide +kernel)) ?_⟩
      refine ⟨_, rfl, rfl, _, rfl, iteTD (deq rfl) ?_⟩
      exact ⟨_, rfl, _, _, _, rfl, hp, zno (by decide +kernel), _, rfl, _, _, _, _, rfl, rfl, SqT.of (hq), ati 1 rfl, _, rfl, _, _, _, _, rfl, rfl, SqT.of (hq), ati 2 rfl, p, l, d, a, z, rfl, hD, h8, k⟩
    | dropped a =>
      have hq : H q = some (.tup [.str "dropped", .int a]) := hq
      refine ⟨_, rfl, _, _, _, _, rfl, rfl, SqT.of (hq), ati 0 rfl, _, rfl, rfl, _, rfl, iteFD (dne (by decide +kernel)) ?_⟩
      refine ⟨_, rfl, rfl, _, rfl, iteFD (dne (by decide +kernel)) ?_⟩
      refine ⟨_, rfl, rfl, _, rfl, iteTD (deq rfl) ?_⟩
      exact ⟨_, rfl, _, _, _, rfl, hp, zno (by decide +kernel), _, rfl, _, _, _, _, rfl, rfl, SqT.of (hq), ati 1 rfl, p, l, d, a, rfl, hD, h8, k⟩
    | back a =>
      have hq : H q = some (.tup [.str "back", .int a]) := hq
      refine ⟨_, rfl, _, _, _, _, rfl, rfl, SqT.of (hq), ati 0 rfl, _, rfl, rfl, _, rfl, iteFD (dne (by decide +kernel)) ?_⟩
      refine ⟨_, rfl, rfl, _, rfl, iteFD (dne (by decide +kernel)) ?_⟩
      refine ⟨_, rfl, rfl, _, rfl, iteFD (dne (by decide +kernel)) ?_⟩
      refine ⟨_, rfl, rfl, _, rfl, iteTD (deq rfl) ?_⟩
      exact ⟨_, rfl, _, _, _, rfl, hp, zno (by decide +kernel), _, rfl, _, _, _, _, rfl, rfl, SqT.of (hq), ati 1 rfl, p, l, d, a, rfl, hD, h8, k⟩
    | finish =>
      have hq : H q = some (.tup [.str "finish"]) := hq
      refine ⟨_, rfl, _, _, _, _, rfl, rfl, SqT.of (hq), ati 0 rfl, _, rfl, rfl, _, rfl, iteFD (dne (by decide +kernel)) ?_⟩
      refine ⟨_, rfl, rfl, _, rfl, iteFD (dne (by decide +kernel)) ?_⟩
      refine ⟨_, rfl, rfl, _, rfl, iteFD (dne (by decide +kernel)) ?_⟩
      refine ⟨_, rfl, rfl, _, rfl, iteFD (dne (by decide +kernel)) ?_⟩
      refine ⟨_, rfl, rfl, _, rfl, iteFD (dne (by decide +kernel)) ?_⟩
      exact ⟨_, rfl, _, _, _, rfl, hp, zno (by decide +kernel), p, l, d, rfl, hD, k⟩
    | transfer a =>
      have hq : H q = some (.tup [.str "transfer", .int a]) := hq
      refine ⟨_, rfl, _, _, _, _, rfl, rfl, SqT.of (hq), ati 0 rfl, _, rfl, rfl, _, rfl, iteFD (dne (by decide +kernel)) ?_⟩
      refine ⟨_, rfl, rfl, _, rfl, iteFD (dne (by decide +kernel)) ?_⟩
      refine ⟨_, rfl, rfl, _, rfl, iteFD (dne (by decide +kernel)) ?_⟩
      refine ⟨_, rfl, rfl, _, rfl, iteFD (dne (by decide +kernel)) ?_⟩
      refine ⟨_, rfl, rfl, _, rfl, iteTD (deq rfl) ?_⟩
      exact ⟨_, rfl, _, _, _, rfl, hp, zno (by decide +kernel), _, rfl, _, _, _, _, rfl, rfl, SqT.of (hq), ati 1 rfl, p, l, d, a, rfl, hD, k⟩
theorem scAsState : FnScope ["self", "channel", "number"] ["self", "channel", "number"] (defScope sAsState) := ⟨rfl, rfl, rfl, by decide +kernel, rfl, by decide +kernel, by decide +kernel⟩
theorem ok_as_state (T : Tx K mg) : CallM P w K mg base 1 "Draft" "as_state" ["self", "channel", "number"] (spAsState K) := by
  refine mkM_ T.d_Draft_as_state T.c_Draft T.m_Draft_as_state (fun _ _ _ _ _ _ us hl => match us, hl with | [_, _, _], _ => rfl) fun fd F => ok_of F scAsState (fun vs H Q E h => ?_) (fun cdv A outer s H vs Q E hr h => ?_)
  · obtain ⟨p, l, d, ch, n, rfl, _⟩ := h
    rfl
  · obtain ⟨p, l, d, ch, n, rfl, hD, k⟩ := h
    obtain ⟨⟨dx, hp⟩, xs, hl, hz⟩ := id hD
    refine ⟨_, pss_cons (ps_if (pt_val (pe_fld (pv 0) rfl)) (pss_one (ps_ret (pe_tup (pa_cons (pv 1) (pa_cons (pv 2) (pa_cons (pe_fld (pv 0) rfl) (pa_cons (pe_fld (pv 0) rfl) (pa_cons (pe_callTy call_tuple_of (by rfl) T.f_tuple (by decide +kernel) (pa_cons (pe_fld (pv 0) rfl) pa_nil)) (pa_cons (pe_fld (pv 0) rfl) pa_nil))))))))) pss_nil)
      (pss_one (ps_ret (pe_tup (pa_cons (pv 1) (pa_cons (pv 2) (pa_cons (pe_fld (pv 0) rfl) (pa_cons (pe_fld (pv 0) rfl) (pa_cons (pe_callTy call_tuple_of (by rfl) T.f_tuple (by decide +kernel) (pa_cons (pe_fld (pv 0) rfl) pa_nil)) (pa_cons (pe_fld (pv 0) rfl) pa_nil))))))))), ?_⟩
    refine ⟨_, rfl, _, _, _, _, _, rfl, hp, T.c_Draft, T.n_Draft_from_first, zlk K_Draft_from_first rfl, _, rfl, ?_⟩
    unfold Dr.asSt at k
    cases hf : d.ff with
    | true =>
      rw [hf] at k
      refine ⟨_, rfl, _, rfl, _, rfl, _, _, _, _, _, rfl, hp, T.c_Draft, T.n_Draft_own, zlk K_Draft_own rfl, _, rfl, _, _, _, _, _, rfl, hp, T.c_Draft, T.n_Draft_others, zlk K_Draft_others rfl, _, rfl, _, _, _, _, _, rfl, hp, T.c_Draft, T.n_Draft_locks, zlk K_Draft_locks rfl, l, xs, rfl, .inl ⟨SqL.of hl, fun t nt => ?_⟩⟩
      have s1 : Same H (upd H t (.tup xs)) := Same.new nt
      refine ⟨_, rfl, _, _, _, _, _, rfl, s1 _ _ hp, T.c_Draft, T.n_Draft_closed, zlk K_Draft_closed rfl, (by show 6 ≤ sizeLine; decide), fun q nq => ?_⟩
      have s2 := s1.trans (Same.new nq (o := .tup [.int ch, .int n, .int d.own, .int d.others, .ref t, .bl d.closed]))
      refine k _ _ s2 (Stt.close_ (s := ⟨ch, n, d.own, d.others, d.locks, d.closed⟩) upd_same ?_ (hz.sm s2))
      rw [upd_ne (ne_of_none upd_same nq)]
      exact upd_same
    | false =>
      rw [hf] at k
      refine ⟨_, rfl, _, rfl, _, rfl, _, _, _, _, _, rfl, hp, T.c_Draft, T.n_Draft_others, zlk K_Draft_others rfl, _, rfl, _, _, _, _, _, rfl, hp, T.c_Draft, T.n_Draft_own, zlk K_Draft_own rfl, _, rfl, _, _, _, _, _, rfl, hp, T.c_Draft, T.n_Draft_locks, zlk K_Draft_locks rfl, l, xs, rfl, .inl ⟨SqL.of hl, fun t nt => ?_⟩⟩
      have s1 : Same H (upd H t (.tup xs)) := Same.new nt
      refine ⟨_, rfl, _, _, _, _, _, rfl, s1 _ _ hp, T.c_Draft, T.n_Draft_closed, zlk K_Draft_closed rfl, (by show 6 ≤ sizeLine; decide), fun q nq => ?_⟩
      have s2 := s1.trans (Same.new nq (o := .tup [.int ch, .int n, .int d.others, .int d.own, .ref t, .bl d.closed]))
      refine k _ _ s2 (Stt.close_ (s := ⟨ch, n, d.others, d.own, d.locks, d.closed⟩) upd_same ?_ (hz.sm s2))
      rw [upd_ne (ne_of_none upd_same nq)]
      exact upd_same
theorem scDrInit : FnScope ["self", "state", "cover"] ["self", "state", "cover"] (defScope sDrInit) := ⟨rfl, rfl, rfl, by decide +kernel, rfl, by decide +kernel, by decide +kernel⟩
/-- the attributes as they are laid, one behind the other -/
theorem dr_keys (v0 v1 v2 v3 v4 v5 : V) : putF "closed" v5 (putF "locks" v4 (putF "spare" v3 (putF "others" v2 (putF "own" v1 (putF "from_first" v0 []))))) = drKs.zip [v0, v1, v2, v3, v4, v5] := by
  have e1 : putF "from_first" v0 [] = (["from_first"] : List Str).zip [v0] := znew (ks := []) (vs := []) rfl rfl
  have e2 : putF "own" v1 ((["from_first"] : List Str).zip [v0]) = (["from_first", "own"] : List Str).zip [v0, v1] := znew (by decide +kernel) rfl
  have e3 : putF "others" v2 ((["from_first", "own"] : List Str).zip [v0, v1]) = (["from_first", "own", "others"] : List Str).zip [v0, v1, v2] := znew (by decide +kernel) rfl
  have e4 : putF "spare" v3 ((["from_first", "own", "others"] : List Str).zip [v0, v1, v2]) = (["from_first", "own", "others", "spare"] : List Str).zip [v0, v1, v2, v3] := znew (by decide +kernel) rfl
  have e5 : putF "locks" v4 ((["from_first", "own", "others", "spare"] : List Str).zip [v0, v1, v2, v3]) = (["from_first", "own", "others", "spare", "locks"] : List Str).zip [v0, v1, v2, v3, v4] := znew (by decide +kernel) rfl
  have e6 : putF "closed" v5 ((["from_first", "own", "others", "spare", "locks"] : List Str).zip [v0, v1, v2, v3, v4]) = drKs.zip [v0, v1, v2, v3, v4, v5] := znew (by decide +kernel) rfl
  rw [e1, e2, e3, e4, e5, e6]
theorem ok_dr_init (T : Tx K mg) : CallM P w K mg base 2 "Draft" "__init__" ["self", "state", "cover"] (spDrInit K) := by
  have GF : CallG P w K mg base 1 "first_proposes" ["number"] spFirst := ok_first T
  refine mkM_ T.d_Draft___init__ T.c_Draft ⟨T.k_Draft.init, T.k_Draft.fn, ?_⟩ (fun _ _ _ _ _ _ us hl => match us, hl with | [_, _, _], _ => rfl) fun fd F => ok_of F scDrInit (fun vs H Q E h => ?_) (fun cdv A outer s H vs Q E hr h => ?_)
  · obtain ⟨fd, F⟩ := T.d_Draft___init__
    exact F.kp
  · obtain ⟨p, dx, v, z, c, c1, c2, rfl, _⟩ := h
    rfl
  · obtain ⟨p, dx, v, z, c, c1, c2, rfl, hp, hz, hc, k⟩ := h
    obtain ⟨q, t, ls, rfl, hq, ht, tl⟩ := Stt.open_ hz
    refine ⟨_, pss_cons (ps_fld (pv 0) (pe_G GF hr rfl (pa_cons (pe_op op_add (pe_ix ix_tup (pv 1) pe_int (fun _ _ => rfl)) pe_int) pa_nil)) rfl)
      (pss_cons (ps_if (pt_val (pe_fld (pv 0) rfl)) (pss_cons (ps_fld (pv 0) (pe_ix ix_tup (pv 1) pe_int (fun _ _ => rfl)) rfl) (pss_cons (ps_fld (pv 0) (pe_ix ix_tup (pv 1) pe_int (fun _ _ => rfl)) rfl) (pss_one (ps_fld (pv 0) (pe_ix ix_tup (pv 2) pe_int (fun _ _ => rfl)) rfl))))
        (pss_cons (ps_fld (pv 0) (pe_ix ix_tup (pv 1) pe_int (fun _ _ => rfl)) rfl) (pss_cons (ps_fld (pv 0) (pe_ix ix_tup (pv 1) pe_int (fun _ _ => rfl)) rfl) (pss_one (ps_fld (pv 0) (pe_ix ix_tup (pv 2) pe_int (fun _ _ => rfl)) rfl)))))
      (pss_cons (ps_fld (pv 0) (pe_callTy call_list_of (by rfl) T.f_list (by decide +kernel) (pa_cons (pe_ix ix_tup (pv 1) pe_int (fun _ _ => rfl)) pa_nil)) rfl) (pss_one (ps_fld (pv 0) pe_bl rfl)))), ?_⟩
    have npq : q ≠ p := ne_of hq hp (by intro z; cases z)
    have npt : t ≠ p := ne_of ht hp (by intro z; cases z)
    have npc : c ≠ p := ne_of hc hp (by intro z; cases z)
    refine ⟨_, rfl, _, _, _, _, rfl, rfl, SqT.of (hq), ati 1 rfl, _, _, rfl, rfl, z.num + 1, rfl, _, rfl, _, _, _, _, rfl, hp, T.c_Draft, T.n_Draft_from_first, by decide, ?_⟩
    refine ⟨_, rfl, p, _, dx, _, _, rfl, upd_same, T.c_Draft, T.n_Draft_from_first, (show (putF "from_first" _ []).lookup _ = some _ from by rw [lookup_putF, if_pos rfl]), _, rfl, ?_⟩
    unfold init at k
    have fin : ∀ (x1 x2 x3 : V), (∀ (l : Addr) (H' : Hp), Chg [p] H H' → H l = none → H' p = some (.ins (He.ga K "Draft") dx (drKs.zip [.bl (odd (z.num + 1)), x1, x2, x3, .ref l, .bl false])) → H' l = some (.lst ls) → Q .non H') →
        tSeq (sFld K (tVar 0) (tCB (fun xs H Q => ∃ p ys, xs = [.ref p] ∧ (SqL K H p ys ∨ SqT K H p ys) ∧ ∀ l, H l = none → Q (.ref l) (upd H l (.lst ys))) (tCons (tOp (rIxT K) (tVar 1) (tC (.int 4))) tNil)) "locks") (sFld K (tVar 0) (tC (.bl false)) "closed")
          { nx := fun _ H' => Q .non H', rt := Q } (start ["self", "state", "cover"] [.ref p, .ref q, .ref c]) (upd H p (.ins (He.ga K "Draft") dx (putF "spare" x3 (putF "others" x2 (putF "own" x1 (putF "from_first" (.bl (odd (z.num + 1))) [])))))) := by
      intro x1 x2 x3 kk
      refine ⟨_, rfl, _, _, _, _, rfl, rfl, SqT.of ((by rw [upd_ne npq]; exact hq)), ati 4 rfl, t, ls, rfl, .inr (SqT.of (by rw [upd_ne npt]; exact ht)), fun l nl => ?_⟩
      have npl : p ≠ l := ne_of_none upd_same nl
      refine ⟨_, rfl, _, _, _, _, rfl, (by rw [upd_ne npl]; exact upd_same), T.c_Draft, T.n_Draft_locks, Nat.lt_of_le_of_lt (Nat.le_trans (length_putF _ _ _) (Nat.succ_le_succ (Nat.le_trans (length_putF _ _ _) (Nat.succ_le_succ (Nat.le_trans (length_putF _ _ _) (Nat.succ_le_succ (length_putF _ _ _))))))) (by decide), ?_⟩
      refine ⟨_, rfl, _, _, _, _, rfl, upd_same, T.c_Draft, T.n_Draft_closed, Nat.lt_of_le_of_lt (Nat.le_trans (length_putF _ _ _) (Nat.succ_le_succ (Nat.le_trans (length_putF _ _ _) (Nat.succ_le_succ (Nat.le_trans (length_putF _ _ _) (Nat.succ_le_succ (Nat.le_trans (length_putF _ _ _) (Nat.succ_le_succ (length_putF _ _ _))))))))) (by decide), ?_⟩
      have nlH : H l = none := by
        rw [upd_ne npl.symm] at nl
        exact nl
      refine kk l _ ?_ nlH ?_ ?_
      · refine (Chg.put (S := [p]) hp (by intro xs z; cases z) (by simp)).trans ((Chg.new nl (o := .lst ls)).trans ?_)
        rw [upd_upd]
        exact Chg.put (u := .ins (He.ga K "Draft") dx (putF "spare" x3 (putF "others" x2 (putF "own" x1 (putF "from_first" (.bl (odd (z.num + 1))) []))))) (by rw [upd_ne npl]; exact upd_same) (by intro xs z; cases z) (by simp)
      · rw [upd_same, dr_keys]
      · rw [upd_ne npl.symm, upd_ne npl.symm]
        exact upd_same
    by_cases ho : odd (z.num + 1) = true
    · refine iteTD ho ?_
      rw [if_pos ho] at k
      refine ⟨_, rfl, _, _, _, _, rfl, rfl, SqT.of ((by rw [upd_ne npq]; exact hq)), ati 2 rfl, _, rfl, _, _, _, _, rfl, upd_same, T.c_Draft, T.n_Draft_own, Nat.lt_of_le_of_lt (length_putF _ _ _) (by decide), ?_⟩
      rw [upd_upd]
      refine ⟨_, rfl, _, _, _, _, rfl, rfl, SqT.of ((by rw [upd_ne npq]; exact hq)), ati 3 rfl, _, rfl, _, _, _, _, rfl, upd_same, T.c_Draft, T.n_Draft_others, Nat.lt_of_le_of_lt (Nat.le_trans (length_putF _ _ _) (Nat.succ_le_succ (length_putF _ _ _))) (by decide), ?_⟩
      rw [upd_upd]
      refine ⟨_, rfl, _, _, _, _, rfl, rfl, SqT.of ((by rw [upd_ne npc]; exact hc)), ati 0 rfl, _, rfl, _, _, _, _, rfl, upd_same, T.c_Draft, T.n_Draft_spare, Nat.lt_of_le_of_lt (Nat.le_trans (length_putF _ _ _) (Nat.succ_le_succ (Nat.le_trans (length_putF _ _ _) (Nat.succ_le_succ (length_putF _ _ _))))) (by decide), ?_⟩
      rw [upd_upd]
      refine fin _ _ _ fun l H' ch nl h1 h2 => ?_
      rw [ho] at h1
      exact k l H' ch nl ⟨⟨dx, h1⟩, ls, h2, tl.chg ch⟩
    · have hf : odd (z.num + 1) = false := by
        cases q : odd (z.num + 1) with
        | true => exact absurd q ho
        | false => rfl
      refine iteFD hf ?_
      rw [if_neg ho] at k
      refine ⟨_, rfl, _, _, _, _, rfl, rfl, SqT.of ((by rw [upd_ne npq]; exact hq)), ati 3 rfl, _, rfl, _, _, _, _, rfl, upd_same, T.c_Draft, T.n_Draft_own, Nat.lt_of_le_of_lt (length_putF _ _ _) (by decide), ?_⟩
      rw [upd_upd]
      refine ⟨_, rfl, _, _, _, _, rfl, rfl, SqT.of ((by rw [upd_ne npq]; exact hq)), ati 2 rfl, _, rfl, _, _, _, _, rfl, upd_same, T.c_Draft, T.n_Draft_others, Nat.lt_of_le_of_lt (Nat.le_trans (length_putF _ _ _) (Nat.succ_le_succ (length_putF _ _ _))) (by decide), ?_⟩
      rw [upd_upd]
      refine ⟨_, rfl, _, _, _, _, rfl, rfl, SqT.of ((by rw [upd_ne npc]; exact hc)), ati 1 rfl, _, rfl, _, _, _, _, rfl, upd_same, T.c_Draft, T.n_Draft_spare, Nat.lt_of_le_of_lt (Nat.le_trans (length_putF _ _ _) (Nat.succ_le_succ (Nat.le_trans (length_putF _ _ _) (Nat.succ_le_succ (length_putF _ _ _))))) (by decide), ?_⟩
      rw [upd_upd]
      refine fin _ _ _ fun l H' ch nl h1 h2 => ?_
      rw [hf] at h1
      exact k l H' ch nl ⟨⟨dx, h1⟩, ls, h2, tl.chg ch⟩
end
end K45
set_option Elab.async false
set_option linter.all false
set_option maxRecDepth 100000
set_option maxHeartbeats 4000000
/-! the next state, agreeing -/
namespace K45
open PySem PySem.Spec PyProof.Rows L2
/-! ### calls with keywords, all written: positional values first -/
section
variable (P : Program) (w : World) (K : PySem.W.Frag) (mg : Str → Option Value) (base : Heap)
structure CallK (k : Nat) (x : Str) (ps : List Str) (n : Nat) (ks : List Str) (sp : Sp) : Prop where
  ex : ∃ fd, FnOk P w K mg base CX0 k (He.ga K x) fd ps sp ∧ KBn K fd ps n ks (fun us ws => us ++ ws) (fun vs zs => vs ++ zs) ∧ PySem.W.keepIn K (.ref (He.ga K x)) = true
  mgx : mg x = some (.ref (He.ga K x))
end
section
variable {X : Cx} {k j n : Nat} {x : Str} {ps ks : List Str} {sp : Sp} {p pos : Pos} {e : Expr} {es : List Expr} {kws : List Keyword} {t tk : TA}
theorem pe_K (F : CallK X.prog X.w X.K X.mg X.base k x ps n ks sp) (hr : Room j X.A) (hg : Gl X x) (ha : PA X (e :: es) t) (hkw : PK X kws tk) (hk : k ≤ j := by decide)
    (hall : (backToKw pos (keywordEach kws X.env)).all (·.1.isSome) = true := by rfl) (hks : (backToKw pos (keywordEach kws X.env)).filterMap (·.1) = ks := by rfl)
    (hdb : (x == ("__debug__" : Str)) = false := by decide) (he : starEach (e :: es) X.env = (false, eval e X.env) :: starEach es X.env := by rfl)
    (hpl : ((backTo pos (starEach (e :: es) X.env)).any (·.1) || (backToKw pos (keywordEach kws X.env)).any (·.1.isNone)) = false := by rfl) :
    PE X (.Call (.Name x p) (e :: es) kws pos) (tCallN n ks.length sp (fun vs zs => vs ++ zs) E0 t tk) := by
  obtain ⟨fd, F1, b, kp⟩ := F.ex
  exact pe_callN F1 (hr.mono hk) hg F.mgx kp b pass0 ha hkw hall hks hdb he hpl
end
section
variable {K : PySem.W.Frag} {x qual : Str} {st : Stmt} {f : Addr} {fd : FuncData} {ps : List Str}
theorem kbn_of (F : FnP K x qual st f fd) (n : Nat) (ks : List Str) (g : {α : Type} → List α → List α → List α) (hrel : ∀ {vs zs : List V} {us ws : List Value}, Vals vs us → Vals zs ws → Vals (g vs zs) (g us ws))
    (h : ∀ (kV doc pm : Value) (an : Option Addr) (cdv ct : Value) (us ws : List Value), us.length = n → ws.length = ks.length →
      bindArgs (PySem.W.fnOf x qual (defArgs st) (defBody st) (defScope st) .none kV doc pm an cdv ct) ⟨us, ks.zip ws⟩ = pure (ps.zip (g us ws))) : KBn K fd ps n ks (fun us ws => g us ws) (fun vs zs => g vs zs) := by
  obtain ⟨oc, od, dV, kV, doc, pm, an, cdv, ct, osl, rfl, lk, hcd, hD, hK⟩ := F.ex
  rcases hD with ⟨_, rfl⟩ | ⟨e, _⟩
  · exact ⟨fun s us ws X l1 l2 => .of_eq (h kV doc pm an cdv ct us ws l1 l2), fun r1 r2 => hrel r1 r2⟩
  · exact absurd rfl e
end
section
variable {P : Program} {w : World} {K : PySem.W.Frag} {mg : Str → Option Value} {base : Heap}
theorem scAgM : FnScope ["settings", "height", "receipts", "draft", "move", "kind", "lock"] ["settings", "height", "receipts", "draft", "move"] (defScope sAgM) := ⟨rfl, rfl, rfl, by decide +kernel, rfl, by decide +kernel, by decide +kernel⟩
theorem ok_agm (T : Tx K mg) : CallG P w K mg base 2 "agrees_move" ["settings", "height", "receipts", "draft", "move"] (spAgM K) := by
  have GL : CallM P w K mg base 1 "Draft" "lock_at" ["self", "place"] (spLockAt K) := ok_lock_at T
  have GO : CallG P w K mg base 1 "was_opened" ["lock", "receipts"] spOpened := ok_opened T
  refine mkG_ T.d_agrees_move T.g_agrees_move (fun _ _ _ _ _ _ us hl => match us, hl with | [_, _, _, _, _], _ => rfl) fun fd F => ok_of F scAgM (fun vs H Q E h => ?_) (fun cdv A outer s H vs Q E hr h => ?_)
  · obtain ⟨g, r, p, l, n, d, m, v, rfl, _⟩ := h
    rfl
  · obtain ⟨g, r, p, l, n, d, m, v, rfl, hg, hR, hD, h8, hm, k⟩ := h
    obtain ⟨q, rfl, hq⟩ := Mv.open_ hm
    obtain ⟨dx, hp⟩ := hD.ob
    obtain ⟨dg, a0, a1, a2, a3, a4, a5, a6, a7, a8, a9, b0, hg⟩ := hg
    refine ⟨_, pss_cons (ps_set (i := 5) scAgM.nd rfl (.inl rfl) (pe_ix ix_tup (pv 4) pe_int (fun _ _ => rfl)))
      (pss_cons (ps_if (pt_cmpR op_eq (pv 5) (pe_str) (nomark _)) (pss_one (ps_ret (pe_and (pe_cmpR op_ge (pe_ix ix_tup (pv 4) pe_int (fun _ _ => rfl)) (pe_fld (pv 0) rfl) (nomark _)) (pe_one (pe_cmpR op_le (pe_ix ix_tup (pv 4) pe_int (fun _ _ => rfl)) (pe_op op_add (pv 1) (pe_fld (pv 0) rfl)) (nomark _)))))) pss_nil)
      (pss_cons (ps_if (pt_cmpR op_eq (pv 5) (pe_str) (nomark _)) (pss_cons (ps_set (i := 6) scAgM.nd rfl (.inl rfl) (pe_M (pv 3) GL hr (pa_cons (pe_ix ix_tup (pv 4) pe_int (fun _ _ => rfl)) pa_nil)))
        (pss_one (ps_ret (pe_and (pe_cmpR op_notN (pv 6) (pe_non) (nomark _)) (pe_one (pe_or (pe_cmpR op_le (pe_op op_add (pv 1) (pe_fld (pv 0) rfl)) (pe_ix ix_tup (pv 6) pe_int (fun _ _ => rfl)) (nomark _)) (pe_one (pe_G GO hr rfl (pa_cons (pv 6) (pa_cons (pv 2) pa_nil)))))))))) pss_nil)
      (pss_cons (ps_if (pt_cmpR op_eq (pv 5) (pe_str) (nomark _)) (pss_cons (ps_set (i := 6) scAgM.nd rfl (.inl rfl) (pe_M (pv 3) GL hr (pa_cons (pe_ix ix_tup (pv 4) pe_int (fun _ _ => rfl)) pa_nil)))
        (pss_one (ps_ret (pe_and (pe_cmpR op_notN (pv 6) (pe_non) (nomark _)) (pe_and (pe_cmpR op_lt (pe_ix ix_tup (pv 6) pe_int (fun _ _ => rfl)) (pv 1) (nomark _)) (pe_one (pe_not (pe_G GO hr rfl (pa_cons (pv 6) (pa_cons (pv 2) pa_nil)))))))))) pss_nil)
      (pss_one (ps_ret pe_bl))))), ?_⟩
    cases m with
    | lock k1 a dl =>
      have hq : H q = some (.tup [.str "lock", .int k1, .int a, .int dl]) := hq
      refine ⟨_, rfl, _, _, _, _, rfl, rfl, SqT.of (hq), ati 0 rfl, _, rfl, rfl, _, rfl, iteTD (deq rfl) ?_⟩
      refine ⟨_, rfl, _, _, _, _, rfl, rfl, SqT.of (hq), ati 2 rfl, _, rfl, _, _, _, _, _, rfl, hg, T.c_Settings, T.n_Settings_least, zlk K_Settings_least rfl, _, _, rfl, rfl, _, rfl, ?_⟩
      exact ite2 (fun _ => ⟨_, rfl, _, _, _, _, rfl, rfl, SqT.of (hq), ati 3 rfl, _, rfl, _, rfl, _, _, _, _, _, rfl, hg, T.c_Settings, T.n_Settings_farthest, zlk K_Settings_farthest rfl, _, _, rfl, rfl, _, _, rfl, rfl, k _⟩) fun _ => k _
    | paid a z =>
      have hq : H q = some (.tup [.str "paid", .int a, .int z]) := hq
      refine ⟨_, rfl, _, _, _, _, rfl, rfl, SqT.of (hq), ati 0 rfl, _, rfl, rfl, _, rfl, iteFD (dne (by decide +kernel)) ?_⟩
      refine ⟨_, rfl, rfl, _, rfl, iteTD (deq rfl) ?_⟩
      refine ⟨_, rfl, _, _, _, rfl, hp, zno (by decide +kernel), _, rfl, _, _, _, _, rfl, rfl, SqT.of (hq), ati 1 rfl, p, l, d, a, rfl, hD, h8, fun hn => ?_, fun lk v hk ht => ?_⟩
      · exact ⟨_, rfl, rfl, _, rfl, k _⟩
      · obtain ⟨u, rfl, hu⟩ := Lck.open_ ht
        refine ⟨_, rfl, rfl, _, rfl, iteTD (nbT (dne (by intro z; cases z))) ?_⟩
        refine ⟨_, rfl, _, rfl, _, _, _, _, _, rfl, hg, T.c_Settings, T.n_Settings_reveal_lead, zlk K_Settings_reveal_lead rfl, _, _, rfl, rfl, _, rfl, _, _, _, _, rfl, rfl, SqT.of (hu), ati 2 rfl, _, _, rfl, rfl, _, rfl, ?_⟩
        exact ite2 (fun _ => k _) fun _ => ⟨_, rfl, _, rfl, _, lk, r, rfl, ht, hR, k _⟩
    | dropped a =>
      have hq : H q = some (.tup [.str "dropped", .int a]) := hq
      refine ⟨_, rfl, _, _, _, _, rfl, rfl, SqT.of (hq), ati 0 rfl, _, rfl, rfl, _, rfl, iteFD (dne (by decide +kernel)) ?_⟩
      refine ⟨_, rfl, rfl, _, rfl, iteFD (dne (by decide +kernel)) ?_⟩
      refine ⟨_, rfl, rfl, _, rfl, iteFD (dne (by decide +kernel)) ?_⟩
      exact k _
    | back a =>
      have hq : H q = some (.tup [.str "back", .int a]) := hq
      refine ⟨_, rfl, _, _, _, _, rfl, rfl, SqT.of (hq), ati 0 rfl, _, rfl, rfl, _, rfl, iteFD (dne (by decide +kernel)) ?_⟩
      refine ⟨_, rfl, rfl, _, rfl, iteFD (dne (by decide +kernel)) ?_⟩
      refine ⟨_, rfl, rfl, _, rfl, iteTD (deq rfl) ?_⟩
      refine ⟨_, rfl, _, _, _, rfl, hp, zno (by decide +kernel), _, rfl, _, _, _, _, rfl, rfl, SqT.of (hq), ati 1 rfl, p, l, d, a, rfl, hD, h8, fun hn => ?_, fun lk v hk ht => ?_⟩
      · exact ⟨_, rfl, rfl, _, rfl, k _⟩
      · obtain ⟨u, rfl, hu⟩ := Lck.open_ ht
        refine ⟨_, rfl, rfl, _, rfl, iteTD (nbT (dne (by intro z; cases z))) ?_⟩
        refine ⟨_, rfl, _, _, _, _, rfl, rfl, SqT.of (hu), ati 2 rfl, _, rfl, _, _, rfl, rfl, _, rfl, ?_⟩
        exact ite2 (fun _ => ⟨_, rfl, _, rfl, _, lk, r, rfl, ht, hR, _, rfl, k _⟩) fun _ => k _
    | finish =>
      have hq : H q = some (.tup [.str "finish"]) := hq
      refine ⟨_, rfl, _, _, _, _, rfl, rfl, SqT.of (hq), ati 0 rfl, _, rfl, rfl, _, rfl, iteFD (dne (by decide +kernel)) ?_⟩
      refine ⟨_, rfl, rfl, _, rfl, iteFD (dne (by decide +kernel)) ?_⟩
      refine ⟨_, rfl, rfl, _, rfl, iteFD (dne (by decide +kernel)) ?_⟩
      exact k _
    | transfer a =>
      have hq : H q = some (.tup [.str "transfer", .int a]) := hq
      refine ⟨_, rfl, _, _, _, _, rfl, rfl, SqT.of (hq), ati 0 rfl, _, rfl, rfl, _, rfl, iteFD (dne (by decide +kernel)) ?_⟩
      refine ⟨_, rfl, rfl, _, rfl, iteFD (dne (by decide +kernel)) ?_⟩
      refine ⟨_, rfl, rfl, _, rfl, iteFD (dne (by decide +kernel)) ?_⟩
      exact k _
/-- the place of the moves in a run -/
theorem run_drop {d : Dr} {ms : List Mv} {i : Nat} {m : Mv} (h : ms[i]? = some m) : run_ d (ms.drop i) = (match mk d m with
    | none => none
    | some d' => run_ d' (ms.drop (i + 1))) := by
  obtain ⟨hi, e⟩ := List.getElem?_eq_some_iff.mp h
  rw [List.drop_eq_getElem_cons hi, e]
  rfl
theorem run_end {d : Dr} {ms : List Mv} {i : Nat} (h : ms.length ≤ i) : run_ d (ms.drop i) = some d := by
  rw [List.drop_eq_nil_of_le h]
  rfl
theorem scNext : FnScope ["state", "moves", "cover", "draft", "move"] ["state", "moves", "cover"] (defScope sNext) := ⟨rfl, rfl, rfl, by decide +kernel, rfl, by decide +kernel, by decide +kernel⟩
theorem ok_next (T : Tx K mg) : CallK P w K mg base 4 "next_state" ["state", "moves", "cover"] 2 ["cover"] (spNext K) := by
  have GI : CallM P w K mg base 2 "Draft" "__init__" ["self", "state", "cover"] (spDrInit K) := ok_dr_init T
  have GM : CallM P w K mg base 3 "Draft" "make" ["self", "move"] (spMake K) := ok_make T
  have GA : CallM P w K mg base 1 "Draft" "as_state" ["self", "channel", "number"] (spAsState K) := ok_as_state T
  obtain ⟨fdi, GI, bI⟩ := GI.ex
  obtain ⟨fd, F⟩ := T.d_next_state
  refine ⟨⟨fd, ?_, kbn_of F 2 ["cover"] (fun us ws => us ++ ws) (fun r1 r2 => r1.append r2) (fun _ _ _ _ _ _ us ws l1 l2 => match us, ws, l1, l2 with | [_, _], [_], _, _ => rfl), F.kp⟩, T.g_next_state⟩
  refine ok_of F scNext (fun vs H Q E h => ?_) (fun cdv A outer s H vs Q E hr h => ?_)
  · obtain ⟨v, m, c, z, ms, c1, c2, rfl, _⟩ := h
    rfl
  · obtain ⟨v, m, c, z, ms, c1, c2, rfl, hz, hm, hc, h8, k1, k2⟩ := h
    obtain ⟨q, t, ls, rfl, hq, ht, tl⟩ := Stt.open_ hz
    obtain ⟨am, xs, rfl, ham, hxs⟩ := TD.ofTup hm
    have hlx : xs.length = ms.length := hxs.length.trans (List.length_map _)
    refine ⟨_, pss_cons (ps_if (pt_val (pe_ix ix_tup (pv 0) pe_int (fun _ _ => rfl))) (pss_one (ps_ret pe_non)) pss_nil)
      (pss_cons (ps_set (i := 3) scNext.nd rfl (.inl rfl) (pe_make T.k_Draft GI hr rfl T.g_Draft bI .nil pass0 (pa_cons (pv 0) (pa_cons (pv 2) pa_nil))))
      (pss_cons (ps_for PassesOwn.never rfl (pi_tup (pv 1)) (pg_name (i := 4) scNext.nd rfl (.inl rfl)) (pss_one (ps_if (pt_not (pt_val (pe_M (pv 3) GM hr (pa_cons (pv 4) pa_nil)))) (pss_one (ps_ret pe_non)) pss_nil)))
      (pss_one (ps_ret (pe_M (pv 3) GA hr (pa_cons (pe_ix ix_tup (pv 0) pe_int (fun _ _ => rfl)) (pa_cons (pe_op op_add (pe_ix ix_tup (pv 0) pe_int (fun _ _ => rfl)) pe_int) pa_nil))))))), ?_⟩
    refine ⟨_, rfl, _, _, _, _, rfl, rfl, SqT.of (hq), ati 5 rfl, _, rfl, ?_⟩
    unfold nxt at k1 k2
    refine ite2 (fun hf => ?_) fun hf => ?_
    · rw [if_pos hf] at k1
      exact k1 rfl H (Same.refl _)
    rw [if_neg hf] at k1 k2
    refine ⟨_, rfl, _, rfl, fun x dx nx ndx nex => ?_⟩
    have s0 : Same H (upd (upd H dx (.own x)) x (.ins (He.ga K "Draft") dx [])) := fun b o e => by
      rw [upd_ne (ne_of_none e nx), upd_ne (ne_of_none e ndx)]
      exact e
    refine ⟨x, dx, _, z, c, c1, c2, rfl, upd_same, hz.sm s0, s0 _ _ hc, fun l H1 ch nl D1 => ⟨rfl, ?_⟩⟩
    have s1 : Same H H1 := fun b o e => ch.ext b o (s0 b o e) (by simp only [List.mem_singleton]; exact ne_of_none e nx)
    have nlH : H l = none := s0.free nl
    refine ⟨_, rfl, am, rfl, ⟨_, SqT.of (s1 _ _ ham)⟩, ?_⟩
    refine for_tup (K := K) (a := am) (xs := xs) (fun i σ H' => ∃ (d : Dr) (mv : Option V), σ = [some (.ref q), some (.ref am), some (.ref c), some (.ref x), mv] ∧ Same H H' ∧ DrAt K H' x l d ∧ d.locks.length ≤ 8 ∧ run_ (init z (c1, c2)) ms = run_ d (ms.drop i))
      ⟨_, none, rfl, s1, D1, by rw [init_locks]; exact h8, rfl⟩ (fun i σ H' _ ⟨_, _, _, s', _⟩ => SqT.of (s' _ _ ham)) ?_ ?_
    · rintro i y σ H' hi ⟨d, mv, rfl, s', D', h8', hrun⟩
      obtain ⟨dd, hd, hty⟩ := hxs.get' hi
      rw [List.getElem?_map] at hd
      obtain ⟨mm, hmm, rfl⟩ := Option.map_eq_some_iff.mp hd
      obtain ⟨dx', hx'⟩ := D'.ob
      rw [run_drop hmm] at hrun
      refine ⟨_, rfl, _, _, _, rfl, hx', zno (by decide +kernel), _, rfl, x, l, d, mm, y, rfl, D', h8', hty.sm s', fun hn H2 c2' => ?_, fun e H2 he c2' D2 => ?_⟩
      · refine ⟨_, rfl, ?_⟩
        rw [hn] at hrun
        rw [hrun] at k1
        refine k1 rfl H2 fun b o e => c2'.ext b o (s' b o e) ?_
        simp only [List.mem_cons, List.not_mem_nil, or_false, not_or]
        exact ⟨ne_of_none e nx, ne_of_none e nlH⟩
      · refine ⟨_, rfl, ?_⟩
        rw [he] at hrun
        refine ⟨e, _, rfl, fun b o q => c2'.ext b o (s' b o q) ?_, D2, (mk_keeps he).len h8', hrun⟩
        simp only [List.mem_cons, List.not_mem_nil, or_false, not_or]
        exact ⟨ne_of_none q nx, ne_of_none q nlH⟩
    · rintro σ H' ⟨d, mv, rfl, s', D', h8', hrun⟩
      obtain ⟨dx', hx'⟩ := D'.ob
      rw [run_end (by omega)] at hrun
      rw [hrun] at k2
      refine ⟨_, rfl, _, _, _, rfl, hx', zno (by decide +kernel), _, rfl, _, _, _, _, rfl, rfl, SqT.of (s' _ _ hq), ati 0 rfl, _, rfl, _, _, _, _, rfl, rfl, SqT.of (s' _ _ hq), ati 1 rfl, _, _, rfl, rfl, x, l, d, z.ch, z.num + 1, rfl, D', fun v H2 s2 hv => ?_⟩
      exact k2 _ v H2 rfl (s'.trans s2) hv
theorem scAgr : FnScope ["settings", "height", "receipts", "state", "moves", "cover", "draft", "move"] ["settings", "height", "receipts", "state", "moves", "cover"] (defScope sAgr) := ⟨rfl, rfl, rfl, by decide +kernel, rfl, by decide +kernel, by decide +kernel⟩
theorem ok_agr (T : Tx K mg) : CallK P w K mg base 4 "agrees" ["settings", "height", "receipts", "state", "moves", "cover"] 5 ["cover"] (spAgr K) := by
  have GI : CallM P w K mg base 2 "Draft" "__init__" ["self", "state", "cover"] (spDrInit K) := ok_dr_init T
  have GM : CallM P w K mg base 3 "Draft" "make" ["self", "move"] (spMake K) := ok_make T
  have GA : CallG P w K mg base 2 "agrees_move" ["settings", "height", "receipts", "draft", "move"] (spAgM K) := ok_agm T
  obtain ⟨fdi, GI, bI⟩ := GI.ex
  obtain ⟨fd, F⟩ := T.d_agrees
  refine ⟨⟨fd, ?_, kbn_of F 5 ["cover"] (fun us ws => us ++ ws) (fun r1 r2 => r1.append r2) (fun _ _ _ _ _ _ us ws l1 l2 => match us, ws, l1, l2 with | [_, _, _, _, _], [_], _, _ => rfl), F.kp⟩, T.g_agrees⟩
  refine ok_of F scAgr (fun vs H Q E h => ?_) (fun cdv A outer s H vs Q E hr h => ?_)
  · obtain ⟨g, r, n, v, m, c, z, ms, c1, c2, rfl, _⟩ := h
    rfl
  · obtain ⟨g, r, n, v, m, c, z, ms, c1, c2, rfl, hg, hR, hz, hm, hc, h8, k⟩ := h
    obtain ⟨q, t, ls, rfl, hq, ht, tl⟩ := Stt.open_ hz
    obtain ⟨am, xs, rfl, ham, hxs⟩ := TD.ofTup hm
    have hlx : xs.length = ms.length := hxs.length.trans (List.length_map _)
    refine ⟨_, pss_cons (ps_if (pt_val (pe_ix ix_tup (pv 3) pe_int (fun _ _ => rfl))) (pss_one (ps_ret pe_bl)) pss_nil)
      (pss_cons (ps_set (i := 6) scAgr.nd rfl (.inl rfl) (pe_make T.k_Draft GI hr rfl T.g_Draft bI .nil pass0 (pa_cons (pv 3) (pa_cons (pv 5) pa_nil))))
      (pss_cons (ps_for PassesOwn.never rfl (pi_tup (pv 4)) (pg_name (i := 7) scAgr.nd rfl (.inl rfl))
        (pss_cons (ps_if (pt_not (pt_val (pe_G GA hr rfl (pa_cons (pv 0) (pa_cons (pv 1) (pa_cons (pv 2) (pa_cons (pv 6) (pa_cons (pv 7) pa_nil)))))))) (pss_one (ps_ret pe_bl)) pss_nil)
        (pss_one (ps_if (pt_not (pt_val (pe_M (pv 6) GM hr (pa_cons (pv 7) pa_nil)))) (pss_one (ps_ret pe_bl)) pss_nil))))
      (pss_one (ps_ret pe_bl)))), ?_⟩
    refine ⟨_, rfl, _, _, _, _, rfl, rfl, SqT.of (hq), ati 5 rfl, _, rfl, ?_⟩
    unfold nxt at k
    refine ite2 (fun hf => ?_) fun hf => ?_
    · exact k _ H (Same.refl _) (by intro z; cases z)
    rw [if_neg hf] at k
    refine ⟨_, rfl, _, rfl, fun x dx nx ndx nex => ?_⟩
    have s0 : Same H (upd (upd H dx (.own x)) x (.ins (He.ga K "Draft") dx [])) := fun b o e => by
      rw [upd_ne (ne_of_none e nx), upd_ne (ne_of_none e ndx)]
      exact e
    refine ⟨x, dx, _, z, c, c1, c2, rfl, upd_same, hz.sm s0, s0 _ _ hc, fun l H1 ch nl D1 => ⟨rfl, ?_⟩⟩
    have s1 : Same H H1 := fun b o e => ch.ext b o (s0 b o e) (by simp only [List.mem_singleton]; exact ne_of_none e nx)
    have nlH : H l = none := s0.free nl
    refine ⟨_, rfl, am, rfl, ⟨_, SqT.of (s1 _ _ ham)⟩, ?_⟩
    refine for_tup (K := K) (a := am) (xs := xs) (fun i σ H' => ∃ (d : Dr) (mv : Option V), σ = [some (.ref g), some (.int n), some (.ref r), some (.ref q), some (.ref am), some (.ref c), some (.ref x), mv] ∧ Same H H' ∧ DrAt K H' x l d ∧ d.locks.length ≤ 8 ∧ run_ (init z (c1, c2)) ms = run_ d (ms.drop i))
      ⟨_, none, rfl, s1, D1, by rw [init_locks]; exact h8, rfl⟩ (fun i σ H' _ ⟨_, _, _, s', _⟩ => SqT.of (s' _ _ ham)) ?_ ?_
    · rintro i y σ H' hi ⟨d, mv, rfl, s', D', h8', hrun⟩
      obtain ⟨dd, hd, hty⟩ := hxs.get' hi
      rw [List.getElem?_map] at hd
      obtain ⟨mm, hmm, rfl⟩ := Option.map_eq_some_iff.mp hd
      obtain ⟨dx', hx'⟩ := D'.ob
      rw [run_drop hmm] at hrun
      refine ⟨_, rfl, _, rfl, _, rfl, _, rfl, _, rfl, g, r, x, l, n, d, mm, y, rfl, hg.sm s', s' _ _ hR, D', h8', hty.sm s', fun b => ⟨_, rfl, ?_⟩⟩
      refine ite2 (fun _ => ?_) fun _ => ?_
      · exact k _ H' s' (by intro z; cases z)
      refine ⟨_, rfl, _, _, _, rfl, hx', zno (by decide +kernel), _, rfl, x, l, d, mm, y, rfl, D', h8', hty.sm s', fun hn H2 c2' => ?_, fun e H2 he c2' D2 => ?_⟩
      · refine ⟨_, rfl, ?_⟩
        refine k _ H2 (fun b o e => c2'.ext b o (s' b o e) ?_) (by intro z; cases z)
        simp only [List.mem_cons, List.not_mem_nil, or_false, not_or]
        exact ⟨ne_of_none e nx, ne_of_none e nlH⟩
      · refine ⟨_, rfl, ?_⟩
        rw [he] at hrun
        refine ⟨e, _, rfl, fun b o q => c2'.ext b o (s' b o q) ?_, D2, (mk_keeps he).len h8', hrun⟩
        simp only [List.mem_cons, List.not_mem_nil, or_false, not_or]
        exact ⟨ne_of_none q nx, ne_of_none q nlH⟩
    · rintro σ H' ⟨d, mv, rfl, s', D', h8', hrun⟩
      rw [run_end (by omega)] at hrun
      rw [hrun] at k
      exact k _ H' s' fun _ => ⟨_, rfl⟩
end
end K45
set_option Elab.async false
set_option linter.all false
set_option maxRecDepth 100000
set_option maxHeartbeats 4000000
/-! one end -/
namespace K45
open PySem PySem.Spec PyProof.Rows L2
/-- the open step and its state, as an end bears them -/
def OpnAt (H : Hp) (st nx : V) : Option (List Mv × Stt) → Prop
  | none => nx = .non
  | some (ms, s) => TD H st (Mvs.d ms) ∧ TD H nx s.d
theorem OpnAt.chg {S : List Addr} {H H' : Hp} {st nx : V} : ∀ {o : Option (List Mv × Stt)}, OpnAt H st nx o → Chg S H H' → OpnAt H' st nx o
  | none, h, _ => h
  | some (ms, s), h, c => ⟨h.1.chg c, h.2.chg c⟩
/-- an End at e, its Footing at ft, its open splices at sl -/
structure EnAt (K : PySem.W.Frag) (H : Hp) (e ft sl : Addr) (n : Nat) (E : EndD) : Prop where
  ob : ∃ (dx o : Addr) (af : Bool) (la st nx : V) (a b c d f g h : Int), H e = some (.ins (He.ga K "End") dx (enKs.zip [.ref o, .bl af, la, st, nx, .bl false, .bl false, .ref ft, .bl false])) ∧
    H o = some (.tup [.int a, .int b, .int c, .int d, .int f, .int g, .int h]) ∧ TD H la E.last.d ∧ OpnAt H st nx E.opn
  ft : FtAt K H ft sl n
theorem EnAt.chg {K : PySem.W.Frag} {S : List Addr} {H H' : Hp} {e ft sl : Addr} {n : Nat} {E : EndD} (h : EnAt K H e ft sl n E) (c : Chg S H H') (h1 : e ∉ S) (h2 : ft ∉ S) (h3 : sl ∉ S) : EnAt K H' e ft sl n E := by
  obtain ⟨⟨dx, o, af, la, st, nx, a1, a2, a3, a4, a5, a6, a7, p1, p2, p3, p4⟩, p5⟩ := h
  exact ⟨⟨dx, o, af, la, st, nx, a1, a2, a3, a4, a5, a6, a7, c.ext _ _ p1 h1, c.tup _ _ p2, p3.chg c, p4.chg c⟩, p5.chg c h2 h3⟩
theorem EnAt.sm {K : PySem.W.Frag} {H H' : Hp} {e ft sl : Addr} {n : Nat} {E : EndD} (h : EnAt K H e ft sl n E) (c : Same H H') : EnAt K H' e ft sl n E := h.chg (S := []) (Chg.of c) (by simp) (by simp) (by simp)
def standing (E : EndD) : List Stt := match E.opn with
  | none => [E.last]
  | some (_, s) => [E.last, s]
/-! ### promises -/
def spStanding (K : PySem.W.Frag) : Sp := fun vs H Q _ => ∃ (e ft sl : Addr) (n : Nat) (E : EndD), vs = [.ref e] ∧ EnAt K H e ft sl n E ∧ ∀ (p : Addr) (xs : List V) (H' : Hp), Same H H' → H p = none → H' p = some (.lst xs) → TDs H' xs ((standing E).map Stt.d) → Q (.ref p) H'
def spBusy (K : PySem.W.Frag) : Sp := fun vs H Q _ => ∃ (e ft sl : Addr) (n : Nat) (E : EndD), vs = [.ref e] ∧ EnAt K H e ft sl n E ∧ Q (.bl E.opn.isSome) H
def spTurn (K : PySem.W.Frag) : Sp := fun vs H Q _ => ∃ (e ft sl : Addr) (n : Nat) (E : EndD), vs = [.ref e] ∧ EnAt K H e ft sl n E ∧ ∀ b, Q (.bl b) H
def spPropose (K : PySem.W.Frag) : Sp := fun vs H Q _ => ∃ (e ft sl : Addr) (n : Nat) (E : EndD) (v : V) (ms : List Mv), vs = [.ref e, v] ∧ EnAt K H e ft sl n E ∧ TD H v (Mvs.d ms) ∧ E.last.locks.length ≤ 8 ∧ n ≤ 1000 ∧
  (∀ H', Same H H' → Q (.bl false) H') ∧ ∀ s c H', E.opn = none → nxt E.last ms c = some s → Chg [e] H H' → EnAt K H' e ft sl n ⟨E.last, some (ms, s)⟩ → Q (.bl true) H'
def spHearStep (K : PySem.W.Frag) : Sp := fun vs H Q _ => ∃ (e ft sl g r : Addr) (n : Nat) (E : EndD) (v : V) (ms : List Mv) (z : Int), vs = [.ref e, .ref g, .int z, .ref r, v] ∧ EnAt K H e ft sl n E ∧ SetAt K H g ∧ H r = some (.dK []) ∧ TD H v (Mvs.d ms) ∧ E.last.locks.length ≤ 8 ∧ n ≤ 1000 ∧
  (∀ H', Same H H' → Q (.bl false) H') ∧ ∀ s c H', E.opn = none → nxt E.last ms c = some s → Chg [e] H H' → EnAt K H' e ft sl n ⟨s, none⟩ → Q (.bl true) H'
def spClose (K : PySem.W.Frag) : Sp := fun vs H Q _ => ∃ (e ft sl : Addr) (n : Nat) (E : EndD) (ms : List Mv) (s : Stt), vs = [.ref e] ∧ EnAt K H e ft sl n E ∧ E.opn = some (ms, s) ∧ ∀ H', Chg [e] H H' → EnAt K H' e ft sl n ⟨s, none⟩ → Q .non H'
def spHearAns (K : PySem.W.Frag) : Sp := fun vs H Q _ => ∃ (e ft sl : Addr) (n : Nat) (E : EndD) (z : Int), vs = [.ref e, .int z] ∧ EnAt K H e ft sl n E ∧
  Q (.bl false) H ∧ ∀ ms s H', E.opn = some (ms, s) → s.num = z → Chg [e] H H' → EnAt K H' e ft sl n ⟨s, none⟩ → Q (.bl true) H'
def spCovWith (K : PySem.W.Frag) : Sp := fun vs H Q _ => ∃ (e ft sl : Addr) (n : Nat) (E : EndD) (v : V) (z : List Int), vs = [.ref e, v] ∧ EnAt K H e ft sl n E ∧ n < 1000 ∧ TD H v (Spl.d z) ∧ z.length = 8 ∧ ∀ (i j : Int) (q : Addr) (H' : Hp), Same H H' → H' q = some (.tup [.int i, .int j]) → Q (.ref q) H'
def spMaySign (K : PySem.W.Frag) : Sp := fun vs H Q _ => ∃ (e ft sl : Addr) (n : Nat) (E : EndD) (v : V) (z : List Int) (a b : Int), vs = [.ref e, v, .int a, .int b] ∧ EnAt K H e ft sl n E ∧ n < 1000 ∧ TD H v (Spl.d z) ∧ z.length = 8 ∧ ∀ b H', Same H H' → Q (.bl b) H'
def spSign (K : PySem.W.Frag) : Sp := fun vs H Q _ => ∃ (e ft sl : Addr) (n : Nat) (E : EndD) (v : V) (z : List Int), vs = [.ref e, v] ∧ EnAt K H e ft sl n E ∧ n < 1000 ∧ TD H v (Spl.d z) ∧ z.length = 8 ∧ ∀ H', Chg [sl] H H' → EnAt K H' e ft sl (n + 1) E → Q .non H'
def spEnInit (K : PySem.W.Frag) : Sp := fun vs H Q _ => ∃ (e dx o : Addr) (af : Bool) (a1 a2 a3 a4 a5 a6 a7 : Int), vs = [.ref e, .ref o, .bl af] ∧ H e = some (.ins (He.ga K "End") dx []) ∧ H o = some (.tup [.int a1, .int a2, .int a3, .int a4, .int a5, .int a6, .int a7]) ∧
  ∀ (ft sl : Addr) (H' : Hp), Chg [e] H H' → H ft = none → H sl = none → EnAt K H' e ft sl 0 ⟨⟨a1, 0, a4, a5, [], false⟩, none⟩ → Q .non H'
section
variable {P : Program} {w : World} {K : PySem.W.Frag} {mg : Str → Option Value} {base : Heap}
theorem scStanding : FnScope ["self"] ["self"] (defScope sStanding) := ⟨rfl, rfl, rfl, by decide +kernel, rfl, by decide +kernel, by decide +kernel⟩
theorem ok_standing (T : Tx K mg) : CallM P w K mg base 1 "End" "standing" ["self"] (spStanding K) := by
  refine mkM_ T.d_End_standing T.c_End T.m_End_standing (fun _ _ _ _ _ _ us hl => match us, hl with | [_], _ => rfl) fun fd F => ok_of F scStanding (fun vs H Q E h => ?_) (fun cdv A outer s H vs Q E hr h => ?_)
  · obtain ⟨e, ft, sl, n, E, rfl, _⟩ := h
    rfl
  · obtain ⟨e, ft, sl, n, E, rfl, hE, k⟩ := h
    obtain ⟨⟨dx, o, af, la, st, nx, a1, a2, a3, a4, a5, a6, a7, he, ho, hla, hop⟩, hft⟩ := id hE
    refine ⟨_, pss_cons (ps_if (pt_cmpR op_isN (pe_fld (pv 0) rfl) (pe_non) (nomark _)) (pss_one (ps_ret (pe_lst (pa_cons (pe_fld (pv 0) rfl) pa_nil)))) pss_nil) (pss_one (ps_ret (pe_lst (pa_cons (pe_fld (pv 0) rfl) (pa_cons (pe_fld (pv 0) rfl) pa_nil))))), ?_⟩
    refine ⟨_, rfl, _, _, _, _, _, rfl, he, T.c_End, T.n_End_next, zlk K_End_next rfl, rfl, _, rfl, ?_⟩
    unfold standing at k
    cases hq : E.opn with
    | none =>
      rw [hq] at hop k
      obtain rfl := (show nx = .non from hop)
      refine iteTD (deq rfl) ?_
      refine ⟨_, rfl, _, _, _, _, _, rfl, he, T.c_End, T.n_End_last, zlk K_End_last rfl, (by show 1 ≤ sizeLine; decide), fun p np => ?_⟩
      exact k p _ _ (Same.new np) np upd_same (.cons (hla.sm (Same.new np)) .nil)
    | some x =>
      obtain ⟨ms, z⟩ := x
      rw [hq] at hop k
      obtain ⟨h1, h2⟩ := hop
      obtain ⟨q, t, ls, rfl, _⟩ := Stt.open_ h2
      refine iteFD (dne (by intro z; cases z)) ?_
      refine ⟨_, rfl, _, _, _, _, _, rfl, he, T.c_End, T.n_End_last, zlk K_End_last rfl, _, rfl, _, _, _, _, _, rfl, he, T.c_End, T.n_End_next, zlk K_End_next rfl, (by show 2 ≤ sizeLine; decide), fun p np => ?_⟩
      exact k p _ _ (Same.new np) np upd_same (.cons (hla.sm (Same.new np)) (.cons (h2.sm (Same.new np)) .nil))
theorem scBusy : FnScope ["self"] ["self"] (defScope sBusy) := ⟨rfl, rfl, rfl, by decide +kernel, rfl, by decide +kernel, by decide +kernel⟩
theorem ok_busy (T : Tx K mg) : CallM P w K mg base 1 "End" "is_busy" ["self"] (spBusy K) := by
  refine mkM_ T.d_End_is_busy T.c_End T.m_End_is_busy (fun _ _ _ _ _ _ us hl => match us, hl with | [_], _ => rfl) fun fd F => ok_of F scBusy (fun vs H Q E h => ?_) (fun cdv A outer s H vs Q E hr h => ?_)
  · obtain ⟨e, ft, sl, n, E, rfl, _⟩ := h
    rfl
  · obtain ⟨e, ft, sl, n, E, rfl, hE, k⟩ := h
    obtain ⟨⟨dx, o, af, la, st, nx, a1, a2, a3, a4, a5, a6, a7, he, ho, hla, hop⟩, hft⟩ := id hE
    refine ⟨_, pss_one (ps_ret (pe_or (pe_fld (pv 0) rfl) (pe_one (pe_cmpR op_notN (pe_fld (pv 0) rfl) (pe_non) (nomark _))))), ?_⟩
    refine ⟨_, rfl, _, _, _, _, _, rfl, he, T.c_End, T.n_End_frozen, zlk K_End_frozen rfl, _, rfl, _, rfl, _, _, _, _, _, rfl, he, T.c_End, T.n_End_next, zlk K_End_next rfl, rfl, ?_⟩
    have e1 : (!decide (nx = .non)) = E.opn.isSome := by
      cases hq : E.opn with
      | none =>
        rw [hq] at hop
        obtain rfl := (show nx = .non from hop)
        rfl
      | some x =>
        obtain ⟨ms, z⟩ := x
        rw [hq] at hop
        obtain ⟨q, t, ls, rfl, _⟩ := Stt.open_ hop.2
        rfl
    show Q (.bl (!decide (nx = .non))) _
    rw [e1]
    exact k
theorem scTurn : FnScope ["self"] ["self"] (defScope sTurn) := ⟨rfl, rfl, rfl, by decide +kernel, rfl, by decide +kernel, by decide +kernel⟩
theorem ok_turn (T : Tx K mg) : CallM P w K mg base 2 "End" "is_turn" ["self"] (spTurn K) := by
  have GF : CallG P w K mg base 1 "first_proposes" ["number"] spFirst := ok_first T
  refine mkM_ T.d_End_is_turn T.c_End T.m_End_is_turn (fun _ _ _ _ _ _ us hl => match us, hl with | [_], _ => rfl) fun fd F => ok_of F scTurn (fun vs H Q E h => ?_) (fun cdv A outer s H vs Q E hr h => ?_)
  · obtain ⟨e, ft, sl, n, E, rfl, _⟩ := h
    rfl
  · obtain ⟨e, ft, sl, n, E, rfl, hE, k⟩ := h
    obtain ⟨⟨dx, o, af, la, st, nx, a1, a2, a3, a4, a5, a6, a7, he, ho, hla, hop⟩, hft⟩ := id hE
    obtain ⟨q, t, ls, rfl, hq, ht, tl⟩ := Stt.open_ hla
    refine ⟨_, pss_one (ps_ret (pe_cmpR op_eq (pe_G GF hr rfl (pa_cons (pe_op op_add (pe_ix ix_tup (pe_fld (pv 0) rfl) pe_int (fun _ _ => rfl)) pe_int) pa_nil)) (pe_fld (pv 0) rfl) (nomark _))), ?_⟩
    exact ⟨_, rfl, _, _, _, _, _, rfl, he, T.c_End, T.n_End_last, zlk K_End_last rfl, _, _, _, _, rfl, rfl, SqT.of (hq), ati 1 rfl, _, _, rfl, rfl, _, rfl, _, rfl, _, _, _, _, _, rfl, he, T.c_End, T.n_End_as_first, zlk K_End_as_first rfl, rfl, k _⟩
theorem scPropose : FnScope ["self", "step", "made"] ["self", "step"] (defScope sPropose) := ⟨rfl, rfl, rfl, by decide +kernel, rfl, by decide +kernel, by decide +kernel⟩
theorem ok_propose (T : Tx K mg) : CallM P w K mg base 5 "End" "propose" ["self", "step"] (spPropose K) := by
  have GB : CallM P w K mg base 1 "End" "is_busy" ["self"] (spBusy K) := ok_busy T
  have GT : CallM P w K mg base 2 "End" "is_turn" ["self"] (spTurn K) := ok_turn T
  have GC : CallM P w K mg base 2 "Footing" "cover" ["self"] (spCover K) := ok_cover T
  have GN : CallK P w K mg base 4 "next_state" ["state", "moves", "cover"] 2 ["cover"] (spNext K) := ok_next T
  refine mkM_ T.d_End_propose T.c_End T.m_End_propose (fun _ _ _ _ _ _ us hl => match us, hl with | [_, _], _ => rfl) fun fd F => ok_of F scPropose (fun vs H Q E h => ?_) (fun cdv A outer s H vs Q E hr h => ?_)
  · obtain ⟨e, ft, sl, n, E, v, ms, rfl, _⟩ := h
    rfl
  · obtain ⟨e, ft, sl, n, E, v, ms, rfl, hE, hv, h8, hn, k1, k2⟩ := h
    obtain ⟨⟨dx, o, af, la, st, nx, a1, a2, a3, a4, a5, a6, a7, he, ho, hla, hop⟩, hft⟩ := id hE
    obtain ⟨⟨dxf, tf, f1, f2, f3, f4, f5, hfo, htf⟩, _⟩ := id hft
    refine ⟨_, pss_cons (ps_if (PW.pt (pw_or (pt_val (pe_M0 (pv 0) GB hr)) (pw_or1 (pt_not (pt_val (pe_M0 (pv 0) GT hr)))))) (pss_one (ps_ret pe_bl)) pss_nil)
      (pss_cons (ps_set (i := 2) scPropose.nd rfl (.inl rfl) (pe_K GN hr rfl (pa_cons (pe_fld (pv 0) rfl) (pa_cons (pv 1) pa_nil)) (pk_cons (pe_M0 (pe_fld (pv 0) rfl) GC hr) pk_nil)))
      (pss_cons (ps_if (pt_cmpR op_isN (pv 2) (pe_non) (nomark _)) (pss_one (ps_ret pe_bl)) pss_nil)
      (pss_cons (ps_fld (pv 0) (pv 1) rfl) (pss_cons (ps_fld (pv 0) (pv 2) rfl) (pss_one (ps_ret pe_bl)))))), ?_⟩
    refine ⟨_, rfl, _, _, _, rfl, he, zno (by decide +kernel), e, ft, sl, n, E, rfl, hE, _, rfl, ?_⟩
    cases hq : E.opn with
    | some x => exact k1 H (Same.refl _)
    | none =>
      refine ⟨_, rfl, _, _, _, rfl, he, zno (by decide +kernel), e, ft, sl, n, E, rfl, hE, fun b => ⟨_, rfl, ?_⟩⟩
      refine ite2 (fun _ => k1 H (Same.refl _)) fun _ => ?_
      refine ⟨_, rfl, _, _, _, _, _, rfl, he, T.c_End, T.n_End_last, zlk K_End_last rfl, _, rfl, _, rfl, _, _, _, _, _, rfl, he, T.c_End, T.n_End_footing, zlk K_End_footing rfl, _, _, _, rfl, hfo, zno (by decide +kernel), ft, sl, n, rfl, hft, hn, fun i j c H1 s1 hc => ?_⟩
      refine ⟨rfl, rfl, la, v, c, E.last, ms, i, j, rfl, hla.sm s1, hv.sm s1, hc, h8, fun hnn H2 s2 => ?_, fun z y H2 hz s2 hy => ?_⟩
      · refine ⟨_, rfl, rfl, _, rfl, iteTD (deq rfl) ?_⟩
        exact k1 H2 (s1.trans s2)
      · have s12 := s1.trans s2
        obtain ⟨q, t, ls, rfl, _⟩ := Stt.open_ hy
        refine ⟨_, rfl, rfl, _, rfl, iteFD (dne (by intro z; cases z)) ?_⟩
        refine ⟨_, rfl, _, rfl, _, _, _, _, rfl, s12 _ _ he, T.c_End, T.n_End_step, zlen (by decide), ?_⟩
        rw [zput K_End_step rfl]
        refine ⟨_, rfl, _, rfl, _, _, _, _, rfl, upd_same, T.c_End, T.n_End_next, zlen (by decide), ?_⟩
        rw [zput K_End_next rfl, upd_upd]
        have c1 : Chg [e] H2 (upd H2 e (.ins (He.ga K "End") dx (enKs.zip [.ref o, .bl af, la, v, .ref q, .bl false, .bl false, .ref ft, .bl false]))) := Chg.put (s12 _ _ he) (by intro xs z; cases z) (by simp)
        have c2 : Chg [e] H (upd H2 e (.ins (He.ga K "End") dx (enKs.zip [.ref o, .bl af, la, v, .ref q, .bl false, .bl false, .ref ft, .bl false]))) := (Chg.of s12).trans c1
        refine k2 z (i, j) _ hq hz c2 ⟨⟨dx, o, af, la, v, .ref q, a1, a2, a3, a4, a5, a6, a7, upd_same, c2.tup _ _ ho, hla.chg c2, hv.chg c2, hy.chg c1⟩, hft.chg c2 ?_ ?_⟩
        · simp only [List.mem_singleton]
          exact ne_of hfo he (by intro z; injection z with _ _ z; have := congrArg List.length z; simp [ftKs, enKs] at this)
        · simp only [List.mem_singleton]
          obtain ⟨xs, ss, hs, _⟩ := hft.ls
          exact ne_of hs he (by intro z; cases z)
theorem scHearStep : FnScope ["self", "settings", "height", "receipts", "step", "cover"] ["self", "settings", "height", "receipts", "step"] (defScope sHearStep) := ⟨rfl, rfl, rfl, by decide +kernel, rfl, by decide +kernel, by decide +kernel⟩
theorem ok_hear_step (T : Tx K mg) : CallM P w K mg base 5 "End" "hear_step" ["self", "settings", "height", "receipts", "step"] (spHearStep K) := by
  have GB : CallM P w K mg base 1 "End" "is_busy" ["self"] (spBusy K) := ok_busy T
  have GT : CallM P w K mg base 2 "End" "is_turn" ["self"] (spTurn K) := ok_turn T
  have GC : CallM P w K mg base 2 "Footing" "cover" ["self"] (spCover K) := ok_cover T
  have GN : CallK P w K mg base 4 "next_state" ["state", "moves", "cover"] 2 ["cover"] (spNext K) := ok_next T
  have GA : CallK P w K mg base 4 "agrees" ["settings", "height", "receipts", "state", "moves", "cover"] 5 ["cover"] (spAgr K) := ok_agr T
  refine mkM_ T.d_End_hear_step T.c_End T.m_End_hear_step (fun _ _ _ _ _ _ us hl => match us, hl with | [_, _, _, _, _], _ => rfl) fun fd F => ok_of F scHearStep (fun vs H Q E h => ?_) (fun cdv A outer s H vs Q E hr h => ?_)
  · obtain ⟨e, ft, sl, g, r, n, E, v, ms, z, rfl, _⟩ := h
    rfl
  · obtain ⟨e, ft, sl, g, r, n, E, v, ms, z0, rfl, hE, hg, hR, hv, h8, hn, k1, k2⟩ := h
    obtain ⟨⟨dx, o, af, la, st, nx, a1, a2, a3, a4, a5, a6, a7, he, ho, hla, hop⟩, hft⟩ := id hE
    obtain ⟨⟨dxf, tf, f1, f2, f3, f4, f5, hfo, htf⟩, _⟩ := id hft
    refine ⟨_, pss_cons (ps_if (PW.pt (pw_or (pt_val (pe_M0 (pv 0) GB hr)) (pw_or1 (pt_val (pe_M0 (pv 0) GT hr))))) (pss_one (ps_ret pe_bl)) pss_nil)
      (pss_cons (ps_set (i := 5) scHearStep.nd rfl (.inl rfl) (pe_M0 (pe_fld (pv 0) rfl) GC hr))
      (pss_cons (ps_if (pt_not (pt_val (pe_K GA hr rfl (pa_cons (pv 1) (pa_cons (pv 2) (pa_cons (pv 3) (pa_cons (pe_fld (pv 0) rfl) (pa_cons (pv 4) pa_nil))))) (pk_cons (pv 5) pk_nil)))) (pss_one (ps_ret pe_bl)) pss_nil)
      (pss_cons (ps_fld (pv 0) (pe_K GN hr rfl (pa_cons (pe_fld (pv 0) rfl) (pa_cons (pv 4) pa_nil)) (pk_cons (pv 5) pk_nil)) rfl) (pss_one (ps_ret pe_bl))))), ?_⟩
    refine ⟨_, rfl, _, _, _, rfl, he, zno (by decide +kernel), e, ft, sl, n, E, rfl, hE, _, rfl, ?_⟩
    cases hq : E.opn with
    | some x => exact k1 H (Same.refl _)
    | none =>
      refine ⟨_, rfl, _, _, _, rfl, he, zno (by decide +kernel), e, ft, sl, n, E, rfl, hE, fun b => ⟨_, rfl, ?_⟩⟩
      refine ite2 (fun _ => k1 H (Same.refl _)) fun _ => ?_
      refine ⟨_, rfl, _, _, _, _, _, rfl, he, T.c_End, T.n_End_footing, zlk K_End_footing rfl, _, _, _, rfl, hfo, zno (by decide +kernel), ft, sl, n, rfl, hft, hn, fun i j c H1 s1 hc => ?_⟩
      refine ⟨_, rfl, _, rfl, _, rfl, _, rfl, _, _, _, _, _, rfl, s1 _ _ he, T.c_End, T.n_End_last, zlk K_End_last rfl, _, rfl, _, rfl, rfl, rfl, g, r, z0, la, v, c, E.last, ms, i, j, rfl, hg.sm s1, s1 _ _ hR, hla.sm s1, hv.sm s1, hc, h8, fun b H2 s2 hb => ⟨_, rfl, ?_⟩⟩
      have s12 := s1.trans s2
      cases b with
      | false => exact k1 H2 s12
      | true =>
        obtain ⟨zz, hzz⟩ := hb rfl
        refine ⟨_, rfl, _, _, _, _, _, rfl, s12 _ _ he, T.c_End, T.n_End_last, zlk K_End_last rfl, _, rfl, _, rfl, rfl, rfl, la, v, c, E.last, ms, i, j, rfl, hla.sm s12, hv.sm s12, s2 _ _ hc, h8, fun hnn H3 s3 => ?_, fun z y H3 hz s3 hy => ?_⟩
        · rw [hzz] at hnn
          cases hnn
        · have s13 := s12.trans s3
          refine ⟨_, rfl, _, _, _, _, rfl, s13 _ _ he, T.c_End, T.n_End_last, zlen (by decide), ?_⟩
          rw [zput K_End_last rfl]
          have c1 : Chg [e] H3 (upd H3 e (.ins (He.ga K "End") dx (enKs.zip [.ref o, .bl af, y, st, nx, .bl false, .bl false, .ref ft, .bl false]))) := Chg.put (s13 _ _ he) (by intro xs z; cases z) (by simp)
          have c2 : Chg [e] H (upd H3 e (.ins (He.ga K "End") dx (enKs.zip [.ref o, .bl af, y, st, nx, .bl false, .bl false, .ref ft, .bl false]))) := (Chg.of s13).trans c1
          rw [hq] at hop
          refine k2 z (i, j) _ hq hz c2 ⟨⟨dx, o, af, y, st, nx, a1, a2, a3, a4, a5, a6, a7, upd_same, c2.tup _ _ ho, hy.chg c1, hop⟩, hft.chg c2 ?_ ?_⟩
          · simp only [List.mem_singleton]
            exact ne_of hfo he (by intro z; injection z with _ _ z; have := congrArg List.length z; simp [ftKs, enKs] at this)
          · simp only [List.mem_singleton]
            obtain ⟨xs, ss, hs, _⟩ := hft.ls
            exact ne_of hs he (by intro z; cases z)
theorem scClose : FnScope ["self"] ["self"] (defScope sClose) := ⟨rfl, rfl, rfl, by decide +kernel, rfl, by decide +kernel, by decide +kernel⟩
theorem ok_close (T : Tx K mg) : CallM P w K mg base 1 "End" "close_step" ["self"] (spClose K) := by
  refine mkM_ T.d_End_close_step T.c_End T.m_End_close_step (fun _ _ _ _ _ _ us hl => match us, hl with | [_], _ => rfl) fun fd F => ok_of F scClose (fun vs H Q E h => ?_) (fun cdv A outer s H vs Q E hr h => ?_)
  · obtain ⟨e, ft, sl, n, E, ms, z, rfl, _⟩ := h
    rfl
  · obtain ⟨e, ft, sl, n, E, ms, z, rfl, hE, hq, k⟩ := h
    obtain ⟨⟨dx, o, af, la, st, nx, a1, a2, a3, a4, a5, a6, a7, he, ho, hla, hop⟩, hft⟩ := id hE
    obtain ⟨⟨dxf, tf, f1, f2, f3, f4, f5, hfo, htf⟩, _⟩ := id hft
    rw [hq] at hop
    refine ⟨_, pss_cons (ps_fld (pv 0) (pe_fld (pv 0) rfl) rfl) (pss_cons (ps_fld (pv 0) pe_non rfl) (pss_one (ps_fld (pv 0) pe_non rfl))), ?_⟩
    refine ⟨_, rfl, _, _, _, _, _, rfl, he, T.c_End, T.n_End_next, zlk K_End_next rfl, _, rfl, _, _, _, _, rfl, he, T.c_End, T.n_End_last, zlen (by decide), ?_⟩
    rw [zput K_End_last rfl]
    refine ⟨_, rfl, _, _, _, _, rfl, upd_same, T.c_End, T.n_End_step, zlen (by decide), ?_⟩
    rw [zput K_End_step rfl, upd_upd]
    refine ⟨_, rfl, _, _, _, _, rfl, upd_same, T.c_End, T.n_End_next, zlen (by decide), ?_⟩
    rw [zput K_End_next rfl, upd_upd]
    have c2 : Chg [e] H (upd H e (.ins (He.ga K "End") dx (enKs.zip [.ref o, .bl af, nx, .non, .non, .bl false, .bl false, .ref ft, .bl false]))) := Chg.put he (by intro xs z; cases z) (by simp)
    refine k _ c2 ⟨⟨dx, o, af, nx, .non, .non, a1, a2, a3, a4, a5, a6, a7, upd_same, c2.tup _ _ ho, hop.2.chg c2, rfl⟩, hft.chg c2 ?_ ?_⟩
    · simp only [List.mem_singleton]
      exact ne_of hfo he (by intro z; injection z with _ _ z; have := congrArg List.length z; simp [ftKs, enKs] at this)
    · simp only [List.mem_singleton]
      obtain ⟨xs, ss, hs, _⟩ := hft.ls
      exact ne_of hs he (by intro z; cases z)
theorem scHearAns : FnScope ["self", "number"] ["self", "number"] (defScope sHearAns) := ⟨rfl, rfl, rfl, by decide +kernel, rfl, by decide +kernel, by decide +kernel⟩
theorem ok_hear_ans (T : Tx K mg) : CallM P w K mg base 2 "End" "hear_answer" ["self", "number"] (spHearAns K) := by
  have GC : CallM P w K mg base 1 "End" "close_step" ["self"] (spClose K) := ok_close T
  refine mkM_ T.d_End_hear_answer T.c_End T.m_End_hear_answer (fun _ _ _ _ _ _ us hl => match us, hl with | [_, _], _ => rfl) fun fd F => ok_of F scHearAns (fun vs H Q E h => ?_) (fun cdv A outer s H vs Q E hr h => ?_)
  · obtain ⟨e, ft, sl, n, E, z, rfl, _⟩ := h
    rfl
  · obtain ⟨e, ft, sl, n, E, z, rfl, hE, k1, k2⟩ := h
    obtain ⟨⟨dx, o, af, la, st, nx, a1, a2, a3, a4, a5, a6, a7, he, ho, hla, hop⟩, hft⟩ := id hE
    refine ⟨_, pss_cons (ps_if (PW.pt (pw_or (pt_val (pe_fld (pv 0) rfl)) (pw_or (pt_cmpR op_isN (pe_fld (pv 0) rfl) (pe_non) (nomark _)) (pw_or1 (pt_cmpR op_ne (pe_ix ix_tup (pe_fld (pv 0) rfl) pe_int (fun _ _ => rfl)) (pv 1) (nomark _)))))) (pss_one (ps_ret pe_bl)) pss_nil)
      (pss_cons (ps_expr (pe_M0 (pv 0) GC hr)) (pss_one (ps_ret pe_bl))), ?_⟩
    refine ⟨_, rfl, _, _, _, _, _, rfl, he, T.c_End, T.n_End_frozen, zlk K_End_frozen rfl, _, rfl, _, rfl, _, _, _, _, _, rfl, he, T.c_End, T.n_End_next, zlk K_End_next rfl, rfl, _, rfl, ?_⟩
    cases hq : E.opn with
    | none =>
      rw [hq] at hop
      obtain rfl := (show nx = .non from hop)
      refine iteTD (deq rfl) ?_
      exact k1
    | some x =>
      obtain ⟨ms, y⟩ := x
      rw [hq] at hop
      obtain ⟨q, t, ls, rfl, hqq, _⟩ := Stt.open_ hop.2
      refine iteFD (dne (by intro z; cases z)) ?_
      refine ⟨_, rfl, _, _, _, _, _, rfl, he, T.c_End, T.n_End_next, zlk K_End_next rfl, _, _, _, _, rfl, rfl, SqT.of (hqq), ati 1 rfl, _, rfl, rfl, _, rfl, ?_⟩
      by_cases hz : y.num = z
      · refine iteFD (nbF (int_ hz)) ?_
        refine ⟨_, rfl, _, _, _, rfl, he, zno (by decide +kernel), e, ft, sl, n, E, ms, y, rfl, hE, hq, fun H' c hE' => ?_⟩
        exact k2 ms y H' hq hz c hE'
      · refine iteTD (nbT (inv hz)) ?_
        exact k1
end
end K45
set_option Elab.async false
set_option linter.all false
set_option maxRecDepth 100000
set_option maxHeartbeats 4000000
/-! splices signed; ends and settings made -/
namespace K45
open PySem PySem.Spec PyProof.Rows L2
/-- the settings of the law -/
def spSetInit (K : PySem.W.Frag) : Sp := fun vs H Q _ => ∃ (g dx : Addr), vs = [.ref g, .int 1, .int 3, .int 2, .int 1, .int 9, .int 1, .int 60, .int 0, .int 0, .int 0, .int 0] ∧ H g = some (.ins (He.ga K "Settings") dx []) ∧
  ∀ H', Chg [g] H H' → SetAt K H' g → Q .non H'
section
variable {P : Program} {w : World} {K : PySem.W.Frag} {mg : Str → Option Value} {base : Heap}
theorem scCovWith : FnScope ["self", "splice", "footing"] ["self", "splice"] (defScope sCovWith) := ⟨rfl, rfl, rfl, by decide +kernel, rfl, by decide +kernel, by decide +kernel⟩
theorem ok_cov_with (T : Tx K mg) : CallM P w K mg base 4 "End" "cover_with" ["self", "splice"] (spCovWith K) := by
  have GC : CallM P w K mg base 2 "Footing" "cover" ["self"] (spCover K) := ok_cover T
  have GF : CallG P w K mg base 3 "copy_footing" ["footing"] (spCopyFt K) := ok_copy_ft T
  refine mkM_ T.d_End_cover_with T.c_End T.m_End_cover_with (fun _ _ _ _ _ _ us hl => match us, hl with | [_, _], _ => rfl) fun fd F => ok_of F scCovWith (fun vs H Q E h => ?_) (fun cdv A outer s H vs Q E hr h => ?_)
  · obtain ⟨e, ft, sl, n, E, v, z, rfl, _⟩ := h
    rfl
  · obtain ⟨e, ft, sl, n, E, v, z, rfl, hE, hn, hv, hz, k⟩ := h
    obtain ⟨⟨dx, o, af, la, st, nx, a1, a2, a3, a4, a5, a6, a7, he, ho, hla, hop⟩, hft⟩ := id hE
    refine ⟨_, pss_cons (ps_set (i := 2) scCovWith.nd rfl (.inl rfl) (pe_G GF hr rfl (pa_cons (pe_fld (pv 0) rfl) pa_nil))) (pss_cons (ps_expr (pe_bm PySem.F.plainAttrs_list PySem.F.slot_list_append PySem.F.type_list_append mt_append (pe_fld (pv 2) rfl) (pa_cons (pv 1) pa_nil))) (pss_one (ps_ret (pe_M0 (pv 2) GC hr)))), ?_⟩
    refine ⟨_, rfl, _, _, _, _, _, rfl, he, T.c_End, T.n_End_footing, zlk K_End_footing rfl, ft, sl, n, rfl, hft, Nat.le_of_lt hn, fun p' sl' H1 s1 np' nsl' F1 => ?_⟩
    obtain ⟨⟨dxf, tf, f1, f2, f3, f4, f5, hfo, htf⟩, xs, ss, hs, hzz, hz8, hxs⟩ := id F1
    refine ⟨_, rfl, _, _, _, _, _, rfl, hfo, T.c_Footing, T.n_Footing_splices, zlk K_Footing_splices rfl, .inl ⟨rfl, _, SqL.of (hs)⟩, _, rfl, sl', xs, _, rfl, rfl, hs, (by rw [sizeLine_eq]; omega), ?_⟩
    have nps : p' ≠ sl' := ne_of hfo hs (by intro z; cases z)
    have c1 : Chg [sl'] H1 (upd H1 sl' (.lst (xs ++ [v]))) := Chg.put hs (by intro xs z; cases z) (by simp)
    have F2 : FtAt K (upd H1 sl' (.lst (xs ++ [v]))) p' sl' (n + 1) := by
      refine ⟨⟨dxf, tf, f1, f2, f3, f4, f5, ?_, c1.tup _ _ htf⟩, xs ++ [v], ss ++ [z], upd_same, ?_, fun y hy => ?_, ?_⟩
      · rw [upd_ne nps]
        exact hfo
      · rw [List.map_append]
        exact (hzz.chg c1).append (.cons ((hv.sm s1).chg c1) .nil)
      · rcases List.mem_append.mp hy with q | q
        · exact hz8 y q
        · rw [List.mem_singleton.mp q]
          exact hz
      · rw [List.length_append]
        show xs.length + 1 ≤ n + 1
        omega
    refine ⟨_, rfl, _, _, _, rfl, (by rw [upd_ne nps]; exact hfo), zno (by decide +kernel), p', sl', n + 1, rfl, F2, hn, fun i j q H2 s2 hq => ?_⟩
    refine k i j q H2 (fun b o q => s2 b o ?_) hq
    rw [upd_ne (ne_of_none q nsl')]
    exact s1 _ _ q
theorem scMaySign : FnScope ["self", "splice", "height", "far", "footing", "cover", "state"] ["self", "splice", "height", "far"] (defScope sMaySign) := ⟨rfl, rfl, rfl, by decide +kernel, rfl, by decide +kernel, by decide +kernel⟩
/-- what a comprehension of truth values has made so far at D -/
def BInv (H0 : Hp) (D : Addr) (i : Nat) (H' : Hp) : Prop := Same H0 H' ∧ ∃ bs : List Bool, bs.length = i ∧ H' D = some (.lst (bs.map V.bl))
theorem BInv.next {H0 H1 : Hp} {D : Addr} {i : Nat} (hD : H0 D = none) (c : BInv H0 D i H1) (b : Bool) (hi : i < 100000) :
    ∃ acc, H1 D = some (.lst acc) ∧ acc.length < sizeLine ∧ BInv H0 D (i + 1) (upd H1 D (.lst (acc ++ [.bl b]))) := by
  obtain ⟨c1, ns, e, c2⟩ := c
  refine ⟨_, c2, ?_, fun b o q => ?_, ns ++ [b], by simp [e], by rw [upd_same, List.map_append]; rfl⟩
  · rw [List.length_map, e, sizeLine_eq]
    omega
  · rw [upd_ne (ne_of_none q hD)]
    exact c1 _ _ q
theorem standing_len (E : EndD) : (standing E).length ≤ 2 := by
  unfold standing
  cases E.opn with
  | none => exact Nat.le_succ 1
  | some x => exact Nat.le_refl 2
theorem ok_may_sign (T : Tx K mg) : CallM P w K mg base 5 "End" "may_sign" ["self", "splice", "height", "far"] (spMaySign K) := by
  have GW : CallM P w K mg base 4 "End" "cover_with" ["self", "splice"] (spCovWith K) := ok_cov_with T
  have GS : CallM P w K mg base 1 "End" "standing" ["self"] (spStanding K) := ok_standing T
  have GU : CallG P w K mg base 1 "sums_with" ["sums", "splice"] spSums := ok_sums T
  have GB : CallG P w K mg base 1 "is_borne" ["state", "cover"] spBorne := ok_borne T
  obtain ⟨t1, e1⟩ := T.i_MOST_OPEN
  obtain ⟨t2, e2⟩ := T.i_MOST_MONEY_reasons
  refine mkM_ T.d_End_may_sign T.c_End T.m_End_may_sign (fun _ _ _ _ _ _ us hl => match us, hl with | [_, _, _, _], _ => rfl) fun fd F => ok_of F scMaySign (fun vs H Q E h => ?_) (fun cdv A outer s H vs Q E hr h => ?_)
  · obtain ⟨e, ft, sl, n, E, v, z, a, b, rfl, _⟩ := h
    rfl
  · obtain ⟨e, ft, sl, n, E, v, z, a, b, rfl, hE, hn, hv, hz, k⟩ := h
    obtain ⟨⟨dx, o, af, la, st, nx, a1, a2, a3, a4, a5, a6, a7, he, ho, hla, hop⟩, hft⟩ := id hE
    obtain ⟨⟨dxf, tf, f1, f2, f3, f4, f5, hfo, htf⟩, xs, ss, hs, hzz, hz8, hxs⟩ := id hft
    obtain ⟨p, rfl, hp⟩ := Spl.open_ hv
    obtain ⟨z0, z1, z2, z3, z4, z5, z6, z7, rfl⟩ := len8 hz
    obtain ⟨q, t, ls, rfl, hq, ht, tl⟩ := Stt.open_ hla
    refine ⟨_, pss_cons (ps_set (i := 4) scMaySign.nd rfl (.inl rfl) (pe_fld (pv 0) rfl))
      (pss_cons (ps_if (PW.pt (pw_or (pt_cmpR op_ne (pe_ix ix_tup (pv 1) pe_int (fun _ _ => rfl)) (pe_ix ix_tup (pe_fld (pv 0) rfl) pe_int (fun _ _ => rfl)) (nomark _)) (pw_or (pt_cmpR op_ne (pe_ix ix_tup (pv 1) pe_int (fun _ _ => rfl)) (pe_fld (pv 4) rfl) (nomark _)) (pw_or1 (pt_cmpR op_ge (pe_callB call_len_seq (by rfl) T.f_len PySem.boot_len (pa_cons (pe_fld (pv 4) rfl) pa_nil)) (pe_glob rfl e1 (relI _ _)) (nomark _)))))) (pss_one (ps_ret pe_bl)) pss_nil)
      (pss_cons (ps_if (PW.pt (pw_or (pt_cmpR op_gt (pe_ix ix_tup (pv 1) pe_int (fun _ _ => rfl)) (pe_ix ix_tup (pe_fld (pv 0) rfl) pe_int (fun _ _ => rfl)) (nomark _)) (pw_or1 (pt_not (pt_chain op_le op_le (pv 2) (pe_ix ix_tup (pv 1) pe_int (fun _ _ => rfl)) (pe_op op_add (pv 2) (pv 3))))))) (pss_one (ps_ret pe_bl)) pss_nil)
      (pss_cons (ps_if (pt_cmpR op_gt (pe_callB (cr_maxT rfl hr.units) (by rfl) T.f_max (by decide +kernel) (pa_cons (pe_G GU hr rfl (pa_cons (pe_fld (pv 4) rfl) (pa_cons (pv 1) pa_nil))) pa_nil)) (pe_glob rfl e2 (relI _ _)) (nomark _)) (pss_one (ps_ret pe_bl)) pss_nil)
      (pss_cons (ps_set (i := 5) scMaySign.nd rfl (.inr rfl) (pe_M (pv 0) GW hr (pa_cons (pv 1) pa_nil)))
      (pss_one (ps_ret (pe_callB (cr_all rfl) (by rfl) T.f_all (by decide +kernel) (pa_cons
        (pe_lc (own := [("state", 6)]) (g := gName 6) (tt := tYes) (by rfl) scMaySign.nd (pi_list (pe_M0 (pv 0) GS hr)) (blkOk_by (own := [("state", 6)]) (N := ["self", "splice", "height", "far", "footing", "cover", "state"]) (sc := defScope sMaySign) (by decide +kernel)) (fun _ _ _ _ _ => pg_name (i := 6) scMaySign.nd rfl (.inl rfl)) (fun _ _ _ _ _ => pts_nil)
          (fun _ _ _ _ _ => pe_and (pe_not (pe_ix (r := rIxT K) ix_tup (pv 6) pe_int (fun _ _ => rfl))) (pe_one (pe_G GB hr rfl (pa_cons (pv 6) (pa_cons (pv 5) pa_nil)))))) pa_nil)))))))), ?_⟩
    refine ⟨_, rfl, _, _, _, _, _, rfl, he, T.c_End, T.n_End_footing, zlk K_End_footing rfl, ?_⟩
    refine ⟨_, rfl, _, _, _, _, rfl, rfl, SqT.of (hp), ati 0 rfl, _, rfl, _, _, _, _, _, rfl, he, T.c_End, T.n_End_opening, zlk K_End_opening rfl, _, _, _, _, rfl, rfl, SqT.of (ho), ati 0 rfl, rfl, _, rfl, ?_⟩
    refine ite2 (fun _ => k _ H (Same.refl _)) fun _ => ?_
    refine ⟨_, rfl, _, _, _, _, rfl, rfl, SqT.of (hp), ati 1 rfl, _, rfl, _, _, _, _, _, rfl, hfo, T.c_Footing, T.n_Footing_taken, zlk K_Footing_taken rfl, rfl, _, rfl, ?_⟩
    refine ite2 (fun _ => k _ H (Same.refl _)) fun _ => ?_
    refine ⟨_, rfl, _, _, _, _, _, rfl, hfo, T.c_Footing, T.n_Footing_splices, zlk K_Footing_splices rfl, sl, xs, rfl, .inl (SqL.of hs), _, _, rfl, rfl, _, rfl, ?_⟩
    refine ite2 (fun _ => k _ H (Same.refl _)) fun _ => ?_
    refine ⟨_, rfl, _, _, _, _, rfl, rfl, SqT.of (hp), ati 2 rfl, _, rfl, _, _, _, _, _, rfl, he, T.c_End, T.n_End_last, zlk K_End_last rfl, _, _, _, _, rfl, rfl, SqT.of (hq), ati 1 rfl, _, _, rfl, rfl, _, rfl, ?_⟩
    refine ite2 (fun _ => k _ H (Same.refl _)) fun _ => ?_
    refine ⟨_, rfl, _, rfl, _, _, _, _, rfl, rfl, SqT.of (hp), ati 3 rfl, _, _, rfl, rfl, _, rfl, ?_⟩
    refine ite2 (fun _ => ?_) fun _ => ?_
    · refine ⟨_, rfl, _, rfl, _, _, rfl, rfl, _, _, rfl, rfl, _, rfl, ?_⟩
      refine ite2 (fun _ => k _ H (Same.refl _)) fun _ => ?_
      refine ⟨_, rfl, _, _, _, _, _, rfl, hfo, T.c_Footing, T.n_Footing_sums, zlk K_Footing_sums rfl, _, rfl, tf, f1, f2, f3, f4, _, _, rfl, htf, hv, rfl, fun ns q2 H1 hl s1 hq2 => ?_⟩
      obtain ⟨n0, ns0, rfl⟩ : ∃ n0 ns0, ns = n0 :: ns0 := by
        cases ns with
        | nil => cases hl
        | cons n0 ns0 => exact ⟨n0, ns0, rfl⟩
      refine ⟨q2, n0, ns0, rfl, SqT.of hq2, fun m => ?_⟩
      refine ⟨_, _, rfl, rfl, _, rfl, ?_⟩
      refine ite2 (fun _ => k _ H1 s1) fun _ => ?_
      refine ⟨_, rfl, _, _, _, rfl, s1 _ _ he, zno (by decide +kernel), _, rfl, e, ft, sl, n, E, _, _, rfl, hE.sm s1, hn, hv.sm s1, rfl, fun ci cj c H2 s2 hc => ?_⟩
      have s12 := s1.trans s2
      refine ⟨_, rfl, _, _, _, rfl, s12 _ _ he, zno (by decide +kernel), e, ft, sl, n, E, rfl, hE.sm s12, fun p3 xs3 H3 s3 np3 hp3 ht3 => ?_⟩
      have s13 := s12.trans s3
      have hx3 : xs3.length ≤ 2 := by
        rw [ht3.length, List.length_map]
        exact standing_len E
      refine ⟨p3, rfl, ⟨_, SqL.of hp3⟩, fun D nD => ?_⟩
      refine lc_list (K := K) (a := p3) (xs := xs3) (BInv H3 D) ⟨Same.new nD, [], rfl, upd_same⟩ (fun i H' hi c => SqL.of (c.1 _ _ hp3)) (fun i x H' hi cc => ?_) fun H' cc => ?_
      · obtain ⟨dd, hd, hx2⟩ := ht3.get' hi
        rw [List.getElem?_map] at hd
        obtain ⟨y, hy1, rfl⟩ := Option.map_eq_some_iff.mp hd
        have hl := (List.getElem?_eq_some_iff.mp hi).1
        have hx2' := hx2.sm cc.1
        obtain ⟨qy, ty, ly, rfl, hqy, _⟩ := Stt.open_ hx2'
        refine ⟨rfl, ?_⟩
        refine ⟨_, rfl, _, _, _, _, rfl, rfl, SqT.of (hqy), ati 5 rfl, _, rfl, _, rfl, ?_⟩
        refine ite2 (fun _ => ?_) fun _ => ?_
        · refine ⟨_, rfl, _, rfl, _, y, c, ci, cj, rfl, hx2', cc.1 _ _ (s3 _ _ hc), fun b => ?_⟩
          exact cc.next nD b (by omega)
        · exact cc.next nD false (by omega)
      · obtain ⟨c1, bs, ens, c2⟩ := cc
        refine ⟨D, bs, rfl, SqL.of c2, ?_⟩
        exact k _ H' (s13.trans c1)
    · exact ⟨_, rfl, k _ H (Same.refl _)⟩
theorem scSign : FnScope ["self", "splice"] ["self", "splice"] (defScope sSign) := ⟨rfl, rfl, rfl, by decide +kernel, rfl, by decide +kernel, by decide +kernel⟩
theorem ok_sign (T : Tx K mg) : CallM P w K mg base 1 "End" "sign" ["self", "splice"] (spSign K) := by
  refine mkM_ T.d_End_sign T.c_End T.m_End_sign (fun _ _ _ _ _ _ us hl => match us, hl with | [_, _], _ => rfl) fun fd F => ok_of F scSign (fun vs H Q E h => ?_) (fun cdv A outer s H vs Q E hr h => ?_)
  · obtain ⟨e, ft, sl, n, E, v, z, rfl, _⟩ := h
    rfl
  · obtain ⟨e, ft, sl, n, E, v, z, rfl, hE, hn, hv, hz, k⟩ := h
    obtain ⟨⟨dx, o, af, la, st, nx, a1, a2, a3, a4, a5, a6, a7, he, ho, hla, hop⟩, hft⟩ := id hE
    obtain ⟨⟨dxf, tf, f1, f2, f3, f4, f5, hfo, htf⟩, xs, ss, hs, hzz, hz8, hxs⟩ := id hft
    refine ⟨_, pss_one (ps_expr (pe_bm PySem.F.plainAttrs_list PySem.F.slot_list_append PySem.F.type_list_append mt_append (pe_fld (pe_fld (pv 0) rfl) rfl) (pa_cons (pv 1) pa_nil))), ?_⟩
    refine ⟨_, rfl, _, _, _, _, _, rfl, he, T.c_End, T.n_End_footing, zlk K_End_footing rfl, _, _, _, _, _, rfl, hfo, T.c_Footing, T.n_Footing_splices, zlk K_Footing_splices rfl, .inl ⟨rfl, _, SqL.of (hs)⟩, _, rfl, sl, xs, _, rfl, rfl, hs, (by rw [sizeLine_eq]; omega), ?_⟩
    have c1 : Chg [sl] H (upd H sl (.lst (xs ++ [v]))) := Chg.put hs (by intro xs z; cases z) (by simp)
    refine k _ c1 ⟨⟨dx, o, af, la, st, nx, a1, a2, a3, a4, a5, a6, a7, ?_, c1.tup _ _ ho, hla.chg c1, hop.chg c1⟩, ⟨⟨dxf, tf, f1, f2, f3, f4, f5, ?_, c1.tup _ _ htf⟩, xs ++ [v], ss ++ [z], upd_same, ?_, fun y hy => ?_, ?_⟩⟩
    · rw [upd_ne (ne_of he hs (by intro z; cases z))]
      exact he
    · rw [upd_ne (ne_of hfo hs (by intro z; cases z))]
      exact hfo
    · rw [List.map_append]
      exact (hzz.chg c1).append (.cons (hv.chg c1) .nil)
    · rcases List.mem_append.mp hy with q | q
      · exact hz8 y q
      · rw [List.mem_singleton.mp q]
        exact hz
    · rw [List.length_append]
      show xs.length + 1 ≤ n + 1
      omega
end
end K45
set_option Elab.async false
set_option linter.all false
set_option maxRecDepth 100000
set_option maxHeartbeats 4000000
/-! ends and settings made -/
namespace K45
open PySem PySem.Spec PyProof.Rows L2
theorem plen {f : Str} {v : V} {fs : List (Str × V)} {n : Nat} (h : fs.length ≤ n) : (putF f v fs).length ≤ n + 1 := Nat.le_trans (length_putF _ _ _) (Nat.succ_le_succ h)
theorem en_keys (v0 v1 v2 v3 v4 v5 v6 v7 v8 : V) : putF "there" v8 (putF "footing" v7 (putF "leaving" v6 (putF "frozen" v5 (putF "next" v4 (putF "step" v3 (putF "last" v2 (putF "as_first" v1 (putF "opening" v0 [])))))))) = enKs.zip [v0, v1, v2, v3, v4, v5, v6, v7, v8] := by
  have e1 : putF "opening" v0 [] = (["opening"] : List Str).zip [v0] := znew (ks := []) (vs := []) rfl rfl
  have e2 : putF "as_first" v1 ((["opening"] : List Str).zip [v0]) = (["opening", "as_first"] : List Str).zip [v0, v1] := znew (by decide +kernel) rfl
  have e3 : putF "last" v2 ((["opening", "as_first"] : List Str).zip [v0, v1]) = (["opening", "as_first", "last"] : List Str).zip [v0, v1, v2] := znew (by decide +kernel) rfl
  have e4 : putF "step" v3 ((["opening", "as_first", "last"] : List Str).zip [v0, v1, v2]) = (["opening", "as_first", "last", "step"] : List Str).zip [v0, v1, v2, v3] := znew (by decide +kernel) rfl
  have e5 : putF "next" v4 ((["opening", "as_first", "last", "step"] : List Str).zip [v0, v1, v2, v3]) = (["opening", "as_first", "last", "step", "next"] : List Str).zip [v0, v1, v2, v3, v4] := znew (by decide +kernel) rfl
  have e6 : putF "frozen" v5 ((["opening", "as_first", "last", "step", "next"] : List Str).zip [v0, v1, v2, v3, v4]) = (["opening", "as_first", "last", "step", "next", "frozen"] : List Str).zip [v0, v1, v2, v3, v4, v5] := znew (by decide +kernel) rfl
  have e7 : putF "leaving" v6 ((["opening", "as_first", "last", "step", "next", "frozen"] : List Str).zip [v0, v1, v2, v3, v4, v5]) = (["opening", "as_first", "last", "step", "next", "frozen", "leaving"] : List Str).zip [v0, v1, v2, v3, v4, v5, v6] := znew (by decide +kernel) rfl
  have e8 : putF "footing" v7 ((["opening", "as_first", "last", "step", "next", "frozen", "leaving"] : List Str).zip [v0, v1, v2, v3, v4, v5, v6]) = (["opening", "as_first", "last", "step", "next", "frozen", "leaving", "footing"] : List Str).zip [v0, v1, v2, v3, v4, v5, v6, v7] := znew (by decide +kernel) rfl
  have e9 : putF "there" v8 ((["opening", "as_first", "last", "step", "next", "frozen", "leaving", "footing"] : List Str).zip [v0, v1, v2, v3, v4, v5, v6, v7]) = enKs.zip [v0, v1, v2, v3, v4, v5, v6, v7, v8] := znew (by decide +kernel) rfl
  rw [e1, e2, e3, e4, e5, e6, e7, e8, e9]
theorem se_keys (v0 v1 v2 v3 v4 v5 v6 v7 v8 v9 v10 : V) : putF "gap" v10 (putF "per_mille" v9 (putF "base" v8 (putF "reveal_lead" v7 (putF "farthest" v6 (putF "least" v5 (putF "far" v4 (putF "delay" v3 (putF "margin" v2 (putF "lead" v1 (putF "fee" v0 [])))))))))) = seKs.zip [v0, v1, v2, v3, v4, v5, v6, v7, v8, v9, v10] := by
  have e1 : putF "fee" v0 [] = (["fee"] : List Str).zip [v0] := znew (ks := []) (vs := []) rfl rfl
  have e2 : putF "lead" v1 ((["fee"] : List Str).zip [v0]) = (["fee", "lead"] : List Str).zip [v0, v1] := znew (by decide +kernel) rfl
  have e3 : putF "margin" v2 ((["fee", "lead"] : List Str).zip [v0, v1]) = (["fee", "lead", "margin"] : List Str).zip [v0, v1, v2] := znew (by decide +kernel) rfl
  have e4 : putF "delay" v3 ((["fee", "lead", "margin"] : List Str).zip [v0, v1, v2]) = (["fee", "lead", "margin", "delay"] : List Str).zip [v0, v1, v2, v3] := znew (by decide +kernel) rfl
  have e5 : putF "far" v4 ((["fee", "lead", "margin", "delay"] : List Str).zip [v0, v1, v2, v3]) = (["fee", "lead", "margin", "delay", "far"] : List Str).zip [v0, v1, v2, v3, v4] := znew (by decide +kernel) rfl
  have e6 : putF "least" v5 ((["fee", "lead", "margin", "delay", "far"] : List Str).zip [v0, v1, v2, v3, v4]) = (["fee", "lead", "margin", "delay", "far", "least"] : List Str).zip [v0, v1, v2, v3, v4, v5] := znew (by decide +kernel) rfl
  have e7 : putF "farthest" v6 ((["fee", "lead", "margin", "delay", "far", "least"] : List Str).zip [v0, v1, v2, v3, v4, v5]) = (["fee", "lead", "margin", "delay", "far", "least", "farthest"] : List Str).zip [v0, v1, v2, v3, v4, v5, v6] := znew (by decide +kernel) rfl
  have e8 : putF "reveal_lead" v7 ((["fee", "lead", "margin", "delay", "far", "least", "farthest"] : List Str).zip [v0, v1, v2, v3, v4, v5, v6]) = (["fee", "lead", "margin", "delay", "far", "least", "farthest", "reveal_lead"] : List Str).zip [v0, v1, v2, v3, v4, v5, v6, v7] := znew (by decide +kernel) rfl
  have e9 : putF "base" v8 ((["fee", "lead", "margin", "delay", "far", "least", "farthest", "reveal_lead"] : List Str).zip [v0, v1, v2, v3, v4, v5, v6, v7]) = (["fee", "lead", "margin", "delay", "far", "least", "farthest", "reveal_lead", "base"] : List Str).zip [v0, v1, v2, v3, v4, v5, v6, v7, v8] := znew (by decide +kernel) rfl
  have e10 : putF "per_mille" v9 ((["fee", "lead", "margin", "delay", "far", "least", "farthest", "reveal_lead", "base"] : List Str).zip [v0, v1, v2, v3, v4, v5, v6, v7, v8]) = (["fee", "lead", "margin", "delay", "far", "least", "farthest", "reveal_lead", "base", "per_mille"] : List Str).zip [v0, v1, v2, v3, v4, v5, v6, v7, v8, v9] := znew (by decide +kernel) rfl
  have e11 : putF "gap" v10 ((["fee", "lead", "margin", "delay", "far", "least", "farthest", "reveal_lead", "base", "per_mille"] : List Str).zip [v0, v1, v2, v3, v4, v5, v6, v7, v8, v9]) = seKs.zip [v0, v1, v2, v3, v4, v5, v6, v7, v8, v9, v10] := znew (by decide +kernel) rfl
  rw [e1, e2, e3, e4, e5, e6, e7, e8, e9, e10, e11]
/-! ### C(.., k = v, ..), all written: positional values first -/
section
variable (P : Program) (w : World) (K : PySem.W.Frag) (mg : Str → Option Value) (base : Heap)
structure MakeK (k : Nat) (c : Str) (ps : List Str) (n : Nat) (ks : List Str) (sp : Sp) : Prop where
  ex : ∃ fd, FnOk P w K mg base CX0 k (He.ma K (He.ga K c) "__init__") fd ps sp ∧ KBn K fd ps (n + 1) ks (fun us ws => us ++ ws) (fun vs zs => vs ++ zs)
  mk_ : Mk K (He.ga K c) (He.ma K (He.ga K c) "__init__")
  mgx : mg c = some (.ref (He.ga K c))
end
section
variable {X : Cx} {k j n : Nat} {x : Str} {ps ks : List Str} {sp : Sp} {p pos : Pos} {e : Expr} {es : List Expr} {kws : List Keyword} {t tk : TA}
theorem pe_MK (F : MakeK X.prog X.w X.K X.mg X.base k x ps n ks sp) (hr : Room j X.A) (hg : Gl X x) (ha : PA X (e :: es) t) (hkw : PK X kws tk) (hk : k + 1 ≤ j := by decide)
    (hall : (backToKw pos (keywordEach kws X.env)).all (·.1.isSome) = true := by rfl) (hks : (backToKw pos (keywordEach kws X.env)).filterMap (·.1) = ks := by rfl)
    (hdb : (x == ("__debug__" : Str)) = false := by decide) (he : starEach (e :: es) X.env = (false, eval e X.env) :: starEach es X.env := by rfl)
    (hpl : ((backTo pos (starEach (e :: es) X.env)).any (·.1) || (backToKw pos (keywordEach kws X.env)).any (·.1.isNone)) = false := by rfl) :
    PE X (.Call (.Name x p) (e :: es) kws pos) (tMakeN (He.ga X.K x) n ks.length sp (fun vs zs => vs ++ zs) E0 t tk) := by
  obtain ⟨fd, F1, b⟩ := F.ex
  exact pe_makeN F.mk_ F1 (hr.mono hk) hg F.mgx b pass0 ha hkw hall hks hdb he hpl
theorem pe_MK0 (F : MakeK X.prog X.w X.K X.mg X.base k x ps 0 ks sp) (hr : Room j X.A) (hg : Gl X x) (hkw : PK X kws tk) (hk : k + 1 ≤ j := by decide)
    (hall : (backToKw pos (keywordEach kws X.env)).all (·.1.isSome) = true := by rfl) (hks : (backToKw pos (keywordEach kws X.env)).filterMap (·.1) = ks := by rfl) (hdb : (x == ("__debug__" : Str)) = false := by decide)
    (hpl : ((backTo pos (starEach [] X.env)).any (·.1) || (backToKw pos (keywordEach kws X.env)).any (·.1.isNone)) = false := by rfl) :
    PE X (.Call (.Name x p) [] kws pos) (tMakeK (He.ga X.K x) 0 ks.length sp (fun vs zs => vs ++ zs) E0 tNil tk) := by
  obtain ⟨fd, F1, b⟩ := F.ex
  exact pe_makeK0 F.mk_ F1 (hr.mono hk) hg F.mgx b pass0 hkw hall hks hdb hpl
end
section
variable {P : Program} {w : World} {K : PySem.W.Frag} {mg : Str → Option Value} {base : Heap}
theorem scEnInit : FnScope ["self", "opening", "as_first"] ["self", "opening", "as_first"] (defScope sEndInit) := ⟨rfl, rfl, rfl, by decide +kernel, rfl, by decide +kernel, by decide +kernel⟩
theorem ok_en_init (T : Tx K mg) : MakeK P w K mg base 3 "End" ["self", "opening", "as_first"] 1 ["as_first"] (spEnInit K) := by
  have GO : CallG P w K mg base 1 "opening_state" ["opening"] spOpening := ok_opening T
  have GI : CallM P w K mg base 1 "Footing" "__init__" ["self"] (spFtInit K) := ok_ft_init T
  obtain ⟨fdi, GI, bI⟩ := GI.ex
  obtain ⟨fd, F⟩ := T.d_End___init__
  refine ⟨⟨fd, ?_, kbn_of F 2 ["as_first"] (fun us ws => us ++ ws) (fun r1 r2 => r1.append r2) (fun _ _ _ _ _ _ us ws l1 l2 => match us, ws, l1, l2 with | [_, _], [_], _, _ => rfl)⟩, T.k_End, T.g_End⟩
  refine ok_of F scEnInit (fun vs H Q E h => ?_) (fun cdv A outer s H vs Q E hr h => ?_)
  · obtain ⟨e, dx, o, af, a1, a2, a3, a4, a5, a6, a7, rfl, _⟩ := h
    rfl
  · obtain ⟨e, dx, o, af, a1, a2, a3, a4, a5, a6, a7, rfl, he, ho, k⟩ := h
    refine ⟨_, pss_cons (ps_fld (pv 0) (pv 1) rfl) (pss_cons (ps_fld (pv 0) (pv 2) rfl) (pss_cons (ps_fld (pv 0) (pe_G GO hr rfl (pa_cons (pv 1) pa_nil)) rfl) (pss_cons (ps_fld (pv 0) pe_non rfl) (pss_cons (ps_fld (pv 0) pe_non rfl)
      (pss_cons (ps_fld (pv 0) pe_bl rfl) (pss_cons (ps_fld (pv 0) pe_bl rfl) (pss_cons (ps_fld (pv 0) (pe_make0 T.k_Footing GI hr rfl T.g_Footing bI .nil pass0) rfl) (pss_one (ps_fld (pv 0) pe_bl rfl))))))))), ?_⟩
    have neo : o ≠ e := ne_of ho he (by intro z; cases z)
    refine ⟨_, rfl, _, rfl, _, _, _, _, rfl, he, T.c_End, T.n_End_opening, Nat.lt_of_le_of_lt (Nat.le_refl 0) (by decide), ?_⟩
    refine ⟨_, rfl, _, rfl, _, _, _, _, rfl, upd_same, T.c_End, T.n_End_as_first, Nat.lt_of_le_of_lt (plen (Nat.le_refl 0)) (by decide), ?_⟩
    rw [upd_upd]
    refine ⟨_, rfl, o, a1, a2, a3, a4, a5, a6, a7, rfl, (by rw [upd_ne neo]; exact ho), fun v H1 s1 hv => ?_⟩
    have h1 := s1 _ _ upd_same
    refine ⟨_, rfl, _, _, _, _, rfl, h1, T.c_End, T.n_End_last, Nat.lt_of_le_of_lt (plen (plen (Nat.le_refl 0))) (by decide), ?_⟩
    refine ⟨_, rfl, _, _, _, _, rfl, upd_same, T.c_End, T.n_End_step, Nat.lt_of_le_of_lt (plen (plen (plen (Nat.le_refl 0)))) (by decide), ?_⟩
    rw [upd_upd]
    refine ⟨_, rfl, _, _, _, _, rfl, upd_same, T.c_End, T.n_End_next, Nat.lt_of_le_of_lt (plen (plen (plen (plen (Nat.le_refl 0))))) (by decide), ?_⟩
    rw [upd_upd]
    refine ⟨_, rfl, _, _, _, _, rfl, upd_same, T.c_End, T.n_End_frozen, Nat.lt_of_le_of_lt (plen (plen (plen (plen (plen (Nat.le_refl 0)))))) (by decide), ?_⟩
    rw [upd_upd]
    refine ⟨_, rfl, _, _, _, _, rfl, upd_same, T.c_End, T.n_End_leaving, Nat.lt_of_le_of_lt (plen (plen (plen (plen (plen (plen (Nat.le_refl 0))))))) (by decide), ?_⟩
    rw [upd_upd]
    intro x dx2 nx ndx nex
    refine ⟨x, dx2, rfl, upd_same, fun sl H2 c2 nsl F2 => ⟨rfl, ?_⟩⟩
    have nex2 : e ≠ x := ne_of_none upd_same nx
    have nedx2 : e ≠ dx2 := ne_of_none upd_same ndx
    have h2 := c2.ext e _ (by rw [upd_ne nex2, upd_ne nedx2]; exact upd_same) (by simp only [List.mem_singleton]; exact nex2)
    refine ⟨_, rfl, _, _, _, _, rfl, h2, T.c_End, T.n_End_footing, Nat.lt_of_le_of_lt (plen (plen (plen (plen (plen (plen (plen (Nat.le_refl 0)))))))) (by decide), ?_⟩
    refine ⟨_, rfl, _, _, _, _, rfl, upd_same, T.c_End, T.n_End_there, Nat.lt_of_le_of_lt (plen (plen (plen (plen (plen (plen (plen (plen (Nat.le_refl 0))))))))) (by decide), ?_⟩
    rw [upd_upd, en_keys]
    -- what stays
    have cA : Chg [e] H H1 := (Chg.put (S := [e]) he (by intro xs z; cases z) (by simp)).trans (Chg.of s1)
    have nxA : H1 x = none := by
      rw [upd_ne nex2.symm] at nx
      exact nx
    have ndxA : H1 dx2 = none := by
      rw [upd_ne nedx2.symm] at ndx
      exact ndx
    have nslA : H1 sl = none ∧ sl ≠ x ∧ sl ≠ dx2 ∧ sl ≠ e := by
      have z1 : sl ≠ x := by
        intro z
        rw [z, upd_same] at nsl
        cases nsl
      rw [upd_ne z1] at nsl
      have z2 : sl ≠ dx2 := by
        intro z
        rw [z, upd_same] at nsl
        cases nsl
      rw [upd_ne z2] at nsl
      have z3 : sl ≠ e := by
        intro z
        rw [z, upd_same] at nsl
        cases nsl
      rw [upd_ne z3] at nsl
      exact ⟨nsl, z1, z2, z3⟩
    have freeH : ∀ y, y ≠ e → H1 y = none → H y = none := fun y hy hn => by
      cases q : H y with
      | none => rfl
      | some u =>
        rw [cA.ext y u q (by simpa using hy)] at hn
        cases hn
    have cB : Chg [e] H1 H2 := by
      refine ⟨fun b u q n => ?_, fun b xs q => ?_⟩
      · refine c2.ext b u ?_ (by simp only [List.mem_singleton]; exact ne_of_none q nxA)
        rw [upd_ne (ne_of_none q nxA), upd_ne (ne_of_none q ndxA), upd_ne (by simpa using n)]
        exact q
      · refine c2.tup b xs ?_
        rw [upd_ne (ne_of_none q nxA), upd_ne (ne_of_none q ndxA), upd_ne (ne_of q h1 (by intro z; cases z))]
        exact q
    have cC := (cA.trans cB).trans (Chg.put (S := [e]) (o := .ins (He.ga K "End") dx (enKs.zip [.ref o, .bl af, v, .non, .non, .bl false, .bl false, .ref x, .bl false])) h2 (by intro xs z; cases z) (by simp))
    have cD := cB.trans (Chg.put (S := [e]) (o := .ins (He.ga K "End") dx (enKs.zip [.ref o, .bl af, v, .non, .non, .bl false, .bl false, .ref x, .bl false])) h2 (by intro xs z; cases z) (by simp))
    have cE := Chg.put (S := [e]) (o := .ins (He.ga K "End") dx (enKs.zip [.ref o, .bl af, v, .non, .non, .bl false, .bl false, .ref x, .bl false])) h2 (by intro xs z; cases z) (by simp)
    refine k x sl _ cC (freeH x nex2.symm nxA) (freeH sl nslA.2.2.2 nslA.1) ⟨⟨dx, o, af, v, .non, .non, a1, a2, a3, a4, a5, a6, a7, upd_same, cC.tup _ _ ho, hv.chg cD, rfl⟩, F2.chg cE (by simpa using nex2.symm) (by simpa using nslA.2.2.2)⟩
theorem scSetInit : FnScope ["self", "fee", "lead", "margin", "delay", "far", "least", "farthest", "reveal_lead", "base", "per_mille", "gap", "amount", "blocks"] ["self", "fee", "lead", "margin", "delay", "far", "least", "farthest", "reveal_lead", "base", "per_mille", "gap"] (defScope sSetInit) := ⟨rfl, rfl, rfl, by decide +kernel, rfl, by decide +kernel, by decide +kernel⟩
theorem ok_set_init (T : Tx K mg) : MakeK P w K mg base 1 "Settings" ["self", "fee", "lead", "margin", "delay", "far", "least", "farthest", "reveal_lead", "base", "per_mille", "gap"] 0
    ["fee", "lead", "margin", "delay", "far", "least", "farthest", "reveal_lead", "base", "per_mille", "gap"] (spSetInit K) := by
  obtain ⟨t1, e1⟩ := T.i_MOST_MONEY_settings
  obtain ⟨t2, e2⟩ := T.i_MOST_SHARE
  obtain ⟨t3, e3⟩ := T.i_MOST_HEIGHT
  obtain ⟨fd, F⟩ := T.d_Settings___init__
  refine ⟨⟨fd, ?_, kbn_of F 1 _ (fun us ws => us ++ ws) (fun r1 r2 => r1.append r2) (fun _ _ _ _ _ _ us ws l1 l2 => match us, ws, l1, l2 with | [_], [_, _, _, _, _, _, _, _, _, _, _], _, _ => by kernel_rfl)⟩, T.k_Settings, T.g_Settings⟩
  refine ok_of F scSetInit (fun vs H Q E h => ?_) (fun cdv A outer s H vs Q E hr h => ?_)
  · obtain ⟨g, dx, rfl, _⟩ := h
    rfl
  · obtain ⟨g, dx, rfl, hg, k⟩ := h
    refine ⟨_, pss_cons (ps_if (PW.pt (pw_or (pt_not (pt_chain op_le op_le pe_int (pv 1) (pe_glob rfl e1 (relI _ _)))) (pw_or1 (pt_not (pt_chain op_le op_le pe_int (pv 10) (pe_glob rfl e2 (relI _ _))))))) pss_never pss_nil)
      (pss_cons (ps_for PassesOwn.never rfl (pi_tup (pe_tup (pa_cons (pv 6) (pa_cons (pv 9) pa_nil)))) (pg_name (i := 12) scSetInit.nd rfl (.inl rfl)) (pss_one (ps_if (pt_not (pt_chain op_le op_le pe_int (pv 12) (pe_glob rfl e1 (relI _ _)))) pss_never pss_nil)))
      (pss_cons (ps_for PassesOwn.never rfl (pi_tup (pe_tup (pa_cons (pv 2) (pa_cons (pv 3) (pa_cons (pv 4) (pa_cons (pv 5) (pa_cons (pv 7) (pa_cons (pv 8) (pa_cons (pv 11) pa_nil))))))))) (pg_name (i := 13) scSetInit.nd rfl (.inl rfl)) (pss_one (ps_if (pt_not (pt_chain op_le op_le pe_int (pv 13) (pe_glob rfl e3 (relI _ _)))) pss_never pss_nil)))
      (pss_cons (ps_fld (pv 0) (pv 1) rfl) (pss_cons (ps_fld (pv 0) (pv 2) rfl) (pss_cons (ps_fld (pv 0) (pv 3) rfl) (pss_cons (ps_fld (pv 0) (pv 4) rfl) (pss_cons (ps_fld (pv 0) (pv 5) rfl) (pss_cons (ps_fld (pv 0) (pv 6) rfl)
      (pss_cons (ps_fld (pv 0) (pv 7) rfl) (pss_cons (ps_fld (pv 0) (pv 8) rfl) (pss_cons (ps_fld (pv 0) (pv 9) rfl) (pss_cons (ps_fld (pv 0) (pv 10) rfl) (pss_one (ps_fld (pv 0) (pv 11) rfl)))))))))))))), ?_⟩
    refine ⟨_, rfl, _, _, rfl, rfl, _, rfl, _, _, rfl, rfl, _, rfl, _, rfl, _, _, rfl, rfl, _, rfl, _, _, rfl, rfl, _, rfl, ?_⟩
    refine ⟨_, rfl, _, rfl, (by show 2 ≤ sizeLine; decide), fun t nt => ⟨t, rfl, ⟨_, SqT.of upd_same⟩, ?_⟩⟩
    have s1 : Same H (upd H t (.tup [.int 1, .int 0])) := Same.new nt
    refine for_tup (K := K) (a := t) (xs := [.int 1, .int 0]) (fun i σ H' => H' = upd H t (.tup [.int 1, .int 0]) ∧ ∃ x : Option V, σ = [some (.ref g), some (.int 1), some (.int 3), some (.int 2), some (.int 1), some (.int 9), some (.int 1), some (.int 60), some (.int 0), some (.int 0), some (.int 0), some (.int 0), x, none])
      ⟨rfl, none, rfl⟩ (fun i σ H' _ h => by rw [h.1]; exact SqT.of upd_same) ?_ ?_
    · rintro i y σ H' hi ⟨rfl, x, rfl⟩
      match i, hi with
      | 0, hi =>
        cases hi
        exact ⟨_, rfl, _, _, rfl, rfl, _, rfl, _, _, rfl, rfl, _, rfl, rfl, _, rfl⟩
      | 1, hi =>
        cases hi
        exact ⟨_, rfl, _, _, rfl, rfl, _, rfl, _, _, rfl, rfl, _, rfl, rfl, _, rfl⟩
      | i + 2, hi => simp at hi
    rintro σ H' ⟨rfl, x, rfl⟩
    refine ⟨_, rfl, _, rfl, _, rfl, _, rfl, _, rfl, _, rfl, _, rfl, (by show 7 ≤ sizeLine; decide), fun t' nt' => ⟨t', rfl, ⟨_, SqT.of upd_same⟩, ?_⟩⟩
    have s2 := s1.trans (Same.new nt' (o := .tup [.int 3, .int 2, .int 1, .int 9, .int 60, .int 0, .int 0]))
    refine for_tup (K := K) (a := t') (xs := [.int 3, .int 2, .int 1, .int 9, .int 60, .int 0, .int 0]) (fun i σ H' => H' = upd (upd H t (.tup [.int 1, .int 0])) t' (.tup [.int 3, .int 2, .int 1, .int 9, .int 60, .int 0, .int 0]) ∧ ∃ y : Option V, σ = [some (.ref g), some (.int 1), some (.int 3), some (.int 2), some (.int 1), some (.int 9), some (.int 1), some (.int 60), some (.int 0), some (.int 0), some (.int 0), some (.int 0), x, y])
      ⟨rfl, none, rfl⟩ (fun i σ H' _ h => by rw [h.1]; exact SqT.of upd_same) ?_ ?_
    · rintro i y σ H' hi ⟨rfl, z, rfl⟩
      match i, hi with
      | 0, hi =>
        cases hi
        exact ⟨_, rfl, _, _, rfl, rfl, _, rfl, _, _, rfl, rfl, _, rfl, rfl, _, rfl⟩
      | 1, hi =>
        cases hi
        exact ⟨_, rfl, _, _, rfl, rfl, _, rfl, _, _, rfl, rfl, _, rfl, rfl, _, rfl⟩
      | 2, hi =>
        cases hi
        exact ⟨_, rfl, _, _, rfl, rfl, _, rfl, _, _, rfl, rfl, _, rfl, rfl, _, rfl⟩
      | 3, hi =>
        cases hi
        exact ⟨_, rfl, _, _, rfl, rfl, _, rfl, _, _, rfl, rfl, _, rfl, rfl, _, rfl⟩
      | 4, hi =>
        cases hi
        exact ⟨_, rfl, _, _, rfl, rfl, _, rfl, _, _, rfl, rfl, _, rfl, rfl, _, rfl⟩
      | 5, hi =>
        cases hi
        exact ⟨_, rfl, _, _, rfl, rfl, _, rfl, _, _, rfl, rfl, _, rfl, rfl, _, rfl⟩
      | 6, hi =>
        cases hi
        exact ⟨_, rfl, _, _, rfl, rfl, _, rfl, _, _, rfl, rfl, _, rfl, rfl, _, rfl⟩
      | i + 7, hi => simp at hi
    rintro σ H' ⟨rfl, z, rfl⟩
    have hg2 := s2 _ _ hg
    refine ⟨_, rfl, _, rfl, _, _, _, _, rfl, hg2, T.c_Settings, T.n_Settings_fee, Nat.lt_of_le_of_lt (Nat.le_refl 0) (by decide), ?_⟩
    refine ⟨_, rfl, _, rfl, _, _, _, _, rfl, upd_same, T.c_Settings, T.n_Settings_lead, Nat.lt_of_le_of_lt (plen (Nat.le_refl 0)) (by decide), ?_⟩
    rw [upd_upd]
    refine ⟨_, rfl, _, rfl, _, _, _, _, rfl, upd_same, T.c_Settings, T.n_Settings_margin, Nat.lt_of_le_of_lt (plen (plen (Nat.le_refl 0))) (by decide), ?_⟩
    rw [upd_upd]
    refine ⟨_, rfl, _, rfl, _, _, _, _, rfl, upd_same, T.c_Settings, T.n_Settings_delay, Nat.lt_of_le_of_lt (plen (plen (plen (Nat.le_refl 0)))) (by decide), ?_⟩
    rw [upd_upd]
    refine ⟨_, rfl, _, rfl, _, _, _, _, rfl, upd_same, T.c_Settings, T.n_Settings_far, Nat.lt_of_le_of_lt (plen (plen (plen (plen (Nat.le_refl 0))))) (by decide), ?_⟩
    rw [upd_upd]
    refine ⟨_, rfl, _, rfl, _, _, _, _, rfl, upd_same, T.c_Settings, T.n_Settings_least, Nat.lt_of_le_of_lt (plen (plen (plen (plen (plen (Nat.le_refl 0)))))) (by decide), ?_⟩
    rw [upd_upd]
    refine ⟨_, rfl, _, rfl, _, _, _, _, rfl, upd_same, T.c_Settings, T.n_Settings_farthest, Nat.lt_of_le_of_lt (plen (plen (plen (plen (plen (plen (Nat.le_refl 0))))))) (by decide), ?_⟩
    rw [upd_upd]
    refine ⟨_, rfl, _, rfl, _, _, _, _, rfl, upd_same, T.c_Settings, T.n_Settings_reveal_lead, Nat.lt_of_le_of_lt (plen (plen (plen (plen (plen (plen (plen (Nat.le_refl 0)))))))) (by decide), ?_⟩
    rw [upd_upd]
    refine ⟨_, rfl, _, rfl, _, _, _, _, rfl, upd_same, T.c_Settings, T.n_Settings_base, Nat.lt_of_le_of_lt (plen (plen (plen (plen (plen (plen (plen (plen (Nat.le_refl 0))))))))) (by decide), ?_⟩
    rw [upd_upd]
    refine ⟨_, rfl, _, rfl, _, _, _, _, rfl, upd_same, T.c_Settings, T.n_Settings_per_mille, Nat.lt_of_le_of_lt (plen (plen (plen (plen (plen (plen (plen (plen (plen (Nat.le_refl 0)))))))))) (by decide), ?_⟩
    rw [upd_upd]
    refine ⟨_, rfl, _, rfl, _, _, _, _, rfl, upd_same, T.c_Settings, T.n_Settings_gap, Nat.lt_of_le_of_lt (plen (plen (plen (plen (plen (plen (plen (plen (plen (plen (Nat.le_refl 0))))))))))) (by decide), ?_⟩
    rw [upd_upd]
    rw [se_keys]
    refine k _ ((Chg.of s2).trans (Chg.put hg2 (by intro xs z; cases z) (by simp))) ⟨dx, _, _, _, _, _, _, _, _, _, _, _, upd_same⟩
end
end K45
set_option Elab.async false
set_option linter.all false
set_option maxRecDepth 100000
set_option maxHeartbeats 4000000
/-! the law's own helpers: what is drawn -/
namespace K45
open PySem PySem.Spec PyProof.Rows L2
theorem call_intI {X : Cx} : CallR X (.type "int") (fun xs H Q => ∃ i, xs = [.int i] ∧ Q (.int i) H) := by
  intro pins s σ H xs us Q I r h
  obtain ⟨i, rfl, q⟩ := h
  exact call_int1 pins s σ H _ us Q I r (.inl ⟨i, rfl, q⟩)
def spKey : Sp := fun vs H Q _ => ∃ z : Int, vs = [.int z] ∧ ∀ k, Q (.int k) H
def spMove : Sp := fun vs H Q _ => ∃ z : Int, vs = [.int z] ∧ ∀ (m : Mv) (v : V) H', Same H H' → TD H' v m.d → Q v H'
def spMoves : Sp := fun vs H Q _ => ∃ z : Int, vs = [.int z] ∧ ∀ (ms : List Mv) (v : V) H', Same H H' → TD H' v (Mvs.d ms) → Q v H'
def spRows (K : PySem.W.Frag) : Sp := fun vs H Q _ => ∃ (a : Addr) (ns : List Int), vs = [.ref a, .int 51] ∧ SqL K H a (ns.map V.int) ∧ ns.length ≤ 63 ∧ ∀ (p : Addr) (rs : List Int) H', Same H H' → H p = none → H' p = some (.lst (rs.map V.int)) → rs.length = 51 → Q (.ref p) H'
section
variable {P : Program} {w : World} {K : PySem.W.Frag} {mg : Str → Option Value} {base : Heap}
theorem scKey : FnScope ["_law_secret"] ["_law_secret"] (defScope sKey) := ⟨rfl, rfl, rfl, by decide +kernel, rfl, by decide +kernel, by decide +kernel⟩
theorem ok_key (T : Tx K mg) : CallG P w K mg base 1 "_law_key" ["_law_secret"] spKey := by
  refine mkG_ T.d__law_key T.g__law_key (fun _ _ _ _ _ _ us hl => match us, hl with | [_], _ => rfl) fun fd F => ok_of F scKey (fun vs H Q E h => ?_) (fun cdv A outer s H vs Q E hr h => ?_)
  · obtain ⟨z, rfl, _⟩ := h
    rfl
  · obtain ⟨z, rfl, k⟩ := h
    refine ⟨_, pss_one (ps_ret (pe_op op_mod (pe_callTy call_intI (by rfl) T.f_int (by decide +kernel) (pa_cons (pe_op op_add (pe_op op_mul (pv 0) pe_int) pe_int) pa_nil)) pe_int)), ?_⟩
    exact ⟨_, rfl, _, _, rfl, rfl, .inr ⟨by decide, by decide⟩, _, _, rfl, rfl, _, rfl, _, _, rfl, rfl, (by show (0 : Int) < 4294967296; decide), k _⟩
theorem scMove : FnScope ["_law_row", "_law_kind", "_law_rest"] ["_law_row"] (defScope sMove) := ⟨rfl, rfl, rfl, by decide +kernel, rfl, by decide +kernel, by decide +kernel⟩
theorem ok_move (T : Tx K mg) : CallG P w K mg base 2 "_law_move" ["_law_row"] spMove := by
  have GK : CallG P w K mg base 1 "_law_key" ["_law_secret"] spKey := ok_key T
  refine mkG_ T.d__law_move T.g__law_move (fun _ _ _ _ _ _ us hl => match us, hl with | [_], _ => rfl) fun fd F => ok_of F scMove (fun vs H Q E h => ?_) (fun cdv A outer s H vs Q E hr h => ?_)
  · obtain ⟨z, rfl, _⟩ := h
    rfl
  · obtain ⟨z, rfl, k⟩ := h
    refine ⟨_, pss_cons (ps_set (i := 1) scMove.nd rfl (.inl rfl) (pe_op op_mod (pe_callTy call_intI (by rfl) T.f_int (by decide +kernel) (pa_cons (pv 0) pa_nil)) pe_int)) (pss_cons (ps_set (i := 2) scMove.nd rfl (.inl rfl) (pe_callTy call_intI (by rfl) T.f_int (by decide +kernel) (pa_cons (pe_op op_fdiv (pv 0) pe_int) pa_nil))) (pss_cons (ps_if (pt_cmpR op_le (pv 1) (pe_int) (nomark _)) (pss_one (ps_ret (pe_tup (pa_cons (pe_str) (pa_cons (pe_G GK hr rfl (pa_cons (pe_op op_add pe_int (pe_op op_mod (pv 2) pe_int)) (pa_nil))) (pa_cons (pe_op op_add pe_int (pe_op op_mod (pe_callTy call_intI (by rfl) T.f_int (by decide +kernel) (pa_cons (pe_op op_fdiv (pv 2) pe_int) pa_nil)) pe_int)) (pa_cons (pe_op op_mod (pe_callTy call_intI (by rfl) T.f_int (by decide +kernel) (pa_cons (pe_op op_fdiv (pv 2) pe_int) pa_nil)) pe_int) (pa_nil)))))))) pss_nil) (pss_cons (ps_if (pt_cmpR op_eq (pv 1) (pe_int) (nomark _)) (pss_one (ps_ret (pe_tup (pa_cons (pe_str) (pa_cons (pe_op op_mod (pv 2) pe_int) (pa_cons (pe_op op_add pe_int (pe_op op_mod (pe_callTy call_intI (by rfl) T.f_int (by decide +kernel) (pa_cons (pe_op op_fdiv (pv 2) pe_int) pa_nil)) pe_int)) (pa_nil))))))) pss_nil) (pss_cons (ps_if (pt_cmpR op_eq (pv 1) (pe_int) (nomark _)) (pss_one (ps_ret (pe_tup (pa_cons (pe_str) (pa_cons (pe_op op_mod (pv 2) pe_int) (pa_nil)))))) pss_nil) (pss_cons (ps_if (pt_cmpR op_eq (pv 1) (pe_int) (nomark _)) (pss_one (ps_ret (pe_tup (pa_cons (pe_str) (pa_cons (pe_op op_mod (pv 2) pe_int) (pa_nil)))))) pss_nil) (pss_cons (ps_if (PW.pt (pw_and (pt_cmpR op_eq (pv 1) (pe_int) (nomark _)) (pw_and1 (pt_cmpR op_eq (pe_op op_mod (pv 2) pe_int) (pe_int) (nomark _))))) (pss_one (ps_ret (pe_tup (pa_cons (pe_str) (pa_nil))))) pss_nil) (pss_one (ps_ret (pe_tup (pa_cons (pe_str) (pa_cons (pe_op op_add pe_int (pe_op op_mod (pv 2) pe_int)) (pa_nil)))))))))))), ?_⟩
    have last : ∀ (x y : Int), tRet (tTup (tCons (tC (.str "transfer")) (tCons (tOp (rI0 fun i j => .int (i + j)) (tC (.int 1)) (tOp (rI (fun _ j => 0 < j) fun i j => .int (i % j)) (tVar 2) (tC (.int 7)))) tNil)))
        { nx := fun _ H' => Q .non H', rt := Q } [some (.int z), some (.int x), some (.int y)] H := fun x y =>
      ⟨_, rfl, _, _, rfl, rfl, (by show (0 : Int) < 7; decide), _, _, rfl, rfl, (by show 2 ≤ sizeLine; decide), fun q nq => k (.transfer (1 + y % 7)) _ _ (Same.new nq) (.tup upd_same (.cons (.str _) (.cons (.int _) .nil)))⟩
    refine ⟨_, rfl, _, rfl, _, _, rfl, rfl, (by show (0 : Int) < 10; decide), _, rfl, _, _, rfl, rfl, ⟨by decide, by decide⟩, _, rfl, ?_⟩
    refine ⟨_, rfl, _, _, rfl, rfl, _, rfl, ?_⟩
    refine ite2 (fun _ => ?_) fun _ => ?_
    · refine ⟨_, rfl, _, _, rfl, rfl, (by show (0 : Int) < 4; decide), _, _, rfl, rfl, _, rfl, fun kk => ⟨_, rfl, _, _, rfl, rfl, ⟨by decide, by decide⟩, _, rfl, _, _, rfl, rfl, (by show (0 : Int) < 6; decide), _, _, rfl, rfl, _, rfl, _, _, rfl, rfl, ⟨by decide, by decide⟩, _, rfl, _, _, rfl, rfl, (by show (0 : Int) < 60; decide), (by show 4 ≤ sizeLine; decide), fun q nq => ?_⟩⟩
      exact k (.lock kk _ _) _ _ (Same.new nq) (.tup upd_same (.cons (.str _) (.cons (.int _) (.cons (.int _) (.cons (.int _) .nil)))))
    refine ⟨_, rfl, rfl, _, rfl, ?_⟩
    refine ite2 (fun _ => ?_) fun _ => ?_
    · refine ⟨_, rfl, _, _, rfl, rfl, (by show (0 : Int) < 3; decide), _, rfl, _, _, rfl, rfl, ⟨by decide, by decide⟩, _, rfl, _, _, rfl, rfl, (by show (0 : Int) < 4; decide), _, _, rfl, rfl, (by show 3 ≤ sizeLine; decide), fun q nq => ?_⟩
      exact k (.paid _ _) _ _ (Same.new nq) (.tup upd_same (.cons (.str _) (.cons (.int _) (.cons (.int _) .nil))))
    refine ⟨_, rfl, rfl, _, rfl, ?_⟩
    refine ite2 (fun _ => ?_) fun _ => ?_
    · refine ⟨_, rfl, _, _, rfl, rfl, (by show (0 : Int) < 3; decide), (by show 2 ≤ sizeLine; decide), fun q nq => ?_⟩
      exact k (.dropped _) _ _ (Same.new nq) (.tup upd_same (.cons (.str _) (.cons (.int _) .nil)))
    refine ⟨_, rfl, rfl, _, rfl, ?_⟩
    refine ite2 (fun _ => ?_) fun _ => ?_
    · refine ⟨_, rfl, _, _, rfl, rfl, (by show (0 : Int) < 3; decide), (by show 2 ≤ sizeLine; decide), fun q nq => ?_⟩
      exact k (.back _) _ _ (Same.new nq) (.tup upd_same (.cons (.str _) (.cons (.int _) .nil)))
    refine ⟨_, rfl, rfl, _, rfl, ?_⟩
    refine ite2 (fun _ => ?_) fun _ => ?_
    · refine ⟨_, rfl, _, _, rfl, rfl, (by show (0 : Int) < 5; decide), rfl, _, rfl, ?_⟩
      refine ite2 (fun _ => ?_) fun _ => ?_
      · refine ⟨(by show 1 ≤ sizeLine; decide), fun q nq => ?_⟩
        exact k .finish _ _ (Same.new nq) (.tup upd_same (.cons (.str _) .nil))
      · exact last _ _
    · exact last _ _
theorem scMoves : FnScope ["_law_row", "_law_many", "_law_k"] ["_law_row"] (defScope sMoves) := ⟨rfl, rfl, rfl, by decide +kernel, rfl, by decide +kernel, by decide +kernel⟩
/-- the moves made so far at D -/
def MInv (H0 : Hp) (D : Addr) (i : Nat) (H' : Hp) : Prop := Same H0 H' ∧ ∃ (ms : List Mv) (xs : List V), ms.length = i ∧ H' D = some (.lst xs) ∧ TDs H' xs (ms.map Mv.d)
theorem ok_moves (T : Tx K mg) : CallG P w K mg base 3 "_law_moves" ["_law_row"] spMoves := by
  have GM : CallG P w K mg base 2 "_law_move" ["_law_row"] spMove := ok_move T
  refine mkG_ T.d__law_moves T.g__law_moves (fun _ _ _ _ _ _ us hl => match us, hl with | [_], _ => rfl) fun fd F => ok_of F scMoves (fun vs H Q E h => ?_) (fun cdv A outer s H vs Q E hr h => ?_)
  · obtain ⟨z, rfl, _⟩ := h
    rfl
  · obtain ⟨z, rfl, k⟩ := h
    refine ⟨_, pss_cons (ps_set (i := 1) scMoves.nd rfl (.inl rfl) (pe_ix ix_tup (pe_tup (pa_cons pe_int (pa_cons pe_int (pa_cons pe_int (pa_cons pe_int (pa_cons pe_int (pa_cons pe_int pa_nil))))))) (pe_op op_mod (pe_callTy call_intI (by rfl) T.f_int (by decide +kernel) (pa_cons (pv 0) pa_nil)) pe_int) (fun _ _ => rfl)))
      (pss_one (ps_ret (pe_callTy call_tuple_of (by rfl) T.f_tuple (by decide +kernel) (pa_cons
        (pe_lc (own := [("_law_k", 2)]) (g := gName 2) (tt := tYes) (by rfl) scMoves.nd (pi_range1 rfl T.f_range (pa_cons (pv 1) pa_nil)) (blkOk_by (own := [("_law_k", 2)]) (N := ["_law_row", "_law_many", "_law_k"]) (sc := defScope sMoves) (by decide +kernel)) (fun _ _ _ _ _ => pg_name (i := 2) scMoves.nd rfl (.inl rfl)) (fun _ _ _ _ _ => pts_nil)
          (fun _ _ _ _ _ => pe_G GM hr rfl (pa_cons (pe_op op_add (pe_callTy call_intI (by rfl) T.f_int (by decide +kernel) (pa_cons (pe_op op_fdivN (pv 0) (pe_op op_add pe_int (pe_op op_mul pe_int (pv 2)))) pa_nil)) (pv 2)) pa_nil))) pa_nil)))), ?_⟩
    refine ⟨(by show 6 ≤ sizeLine; decide), fun t nt => ?_⟩
    have s1 : Same H (upd H t (.tup [.int 1, .int 1, .int 2, .int 0, .int 1, .int 3])) := Same.new nt
    have main : ∀ m : Int, 0 ≤ m → m ≤ 3 → atI [V.int 1, .int 1, .int 2, .int 0, .int 1, .int 3] (z % 6) = some (.int m) →
        ∃ p xs i v, V.ref t = .ref p ∧ V.int (z % 6) = .int i ∧ SqT K (upd H t (.tup [.int 1, .int 1, .int 2, .int 0, .int 1, .int 3])) p xs ∧ atI xs i = some v ∧
          tRet (tCB (fun xs H Q => ∃ p ys, xs = [.ref p] ∧ ((SqL K H p ys ∧ ∀ l, H l = none → Q (.ref l) (upd H l (.tup ys))) ∨ (SqT K H p ys ∧ Q (.ref p) H))) (tCons
            (tLc (iRng1 (tCons (tVar 1) tNil)) (gName 2) tYes (tCall spMove [] E0 (tCons (tOp (rI0 fun i j => .int (i + j)) (tCB (fun xs H Q => ∃ i, xs = [.int i] ∧ Q (.int i) H) (tCons (tOp (rI CDivN fun i j => .int (i.fdiv j)) (tVar 0) (tOp (rI0 fun i j => .int (i + j)) (tC (.int 6)) (tOp (rI CMul fun i j => .int (i * j)) (tC (.int 31)) (tVar 2)))) tNil)) (tVar 2)) tNil)) [2]) tNil))
          { nx := fun _ H' => Q .non H', rt := Q } [some (.int z), some v, none] (upd H t (.tup [.int 1, .int 1, .int 2, .int 0, .int 1, .int 3])) := by
      intro m m0 m3 hat
      refine ⟨t, _, _, _, rfl, rfl, SqT.of upd_same, hat, ?_⟩
      refine ⟨_, rfl, m, rfl, (by omega), (by omega), fun D nD => ?_⟩
      refine lc_range (lo := 0) (n := m.toNat) (MInv (upd H t (.tup [.int 1, .int 1, .int 2, .int 0, .int 1, .int 3])) D) ⟨Same.new nD, [], [], rfl, upd_same, .nil⟩ (fun i H' hi c => ?_) fun H' c => ?_
      · obtain ⟨c1, ms, xs, hl, hD, ht⟩ := c
        refine ⟨rfl, ?_⟩
        refine ⟨_, rfl, _, rfl, _, _, rfl, rfl, .inl ⟨by decide, by decide⟩, _, _, rfl, rfl, _, _, rfl, rfl, ⟨?_, ?_⟩, _, rfl, _, rfl, _, _, rfl, rfl, _, rfl, fun mm y H2 s2 hy => ?_⟩
        · omega
        · omega
        · have hD2 := s2 _ _ hD
          have hlx : xs.length = i := ht.length.trans ((List.length_map _).trans hl)
          refine ⟨xs, hD2, (by rw [sizeLine_eq]; omega), fun b o q => ?_, ms ++ [mm], xs ++ [y], by simp [hl], upd_same, ?_⟩
          · rw [upd_ne (ne_of_none q nD)]
            exact s2 _ _ (c1 _ _ q)
          · have c3 : Chg [D] H2 (upd H2 D (.lst (xs ++ [y]))) := Chg.put hD2 (by intro xs z; cases z) (by simp)
            rw [List.map_append]
            exact ((ht.sm s2).chg c3).append (.cons (hy.chg c3) .nil)
      · obtain ⟨c1, ms, xs, hl, hD, ht⟩ := c
        refine ⟨D, xs, rfl, .inl ⟨SqL.of hD, fun l nl => ?_⟩⟩
        exact k ms _ _ ((s1.trans c1).trans (Same.new nl)) (.tup upd_same (ht.sm (Same.new nl)))
    refine ⟨_, rfl, _, rfl, _, _, rfl, rfl, (by show (0 : Int) < 6; decide), ?_⟩
    have g0 := Int.emod_nonneg z (show (6 : Int) ≠ 0 by decide)
    have g1 := Int.emod_lt_of_pos z (show (0 : Int) < 6 by decide)
    have cases6 : z % 6 = 0 ∨ z % 6 = 1 ∨ z % 6 = 2 ∨ z % 6 = 3 ∨ z % 6 = 4 ∨ z % 6 = 5 := by omega
    rcases cases6 with q | q | q | q | q | q
    · exact main 1 (by decide) (by decide) (by rw [q]; rfl)
    · exact main 1 (by decide) (by decide) (by rw [q]; rfl)
    · exact main 2 (by decide) (by decide) (by rw [q]; rfl)
    · exact main 0 (by decide) (by decide) (by rw [q]; rfl)
    · exact main 1 (by decide) (by decide) (by rw [q]; rfl)
    · exact main 3 (by decide) (by decide) (by rw [q]; rfl)
theorem scRows : FnScope ["_law_script", "_law_count", "_law_rows_here", "_law_k", "_law_cell"] ["_law_script", "_law_count"] (defScope sRows) := ⟨rfl, rfl, rfl, by decide +kernel, rfl, by decide +kernel, by decide +kernel⟩
theorem ok_rows (T : Tx K mg) : CallG P w K mg base 1 "_law_rows" ["_law_script", "_law_count"] (spRows K) := by
  refine mkG_ T.d__law_rows T.g__law_rows (fun _ _ _ _ _ _ us hl => match us, hl with | [_, _], _ => rfl) fun fd F => ok_of F scRows (fun vs H Q E h => ?_) (fun cdv A outer s H vs Q E hr h => ?_)
  · obtain ⟨a, ns, rfl, _⟩ := h
    rfl
  · obtain ⟨a, ns, rfl, hS, hlen, k⟩ := h
    refine ⟨_, pss_cons (ps_set (i := 2) scRows.nd rfl (.inl rfl) (pe_lst pa_nil))
      (pss_cons (ps_for PassesOwn.never rfl (pi_range1 rfl T.f_range (pa_cons (pv 1) pa_nil)) (pg_name (i := 3) scRows.nd rfl (.inl rfl))
        (pss_cons (ps_set (i := 4) scRows.nd rfl (.inl rfl) (pe_int))
        (C8.pss_cut (ps_if (pt_cmpR op_gt (pe_callB call_len_seq (by rfl) T.f_len PySem.boot_len (pa_cons (pv 0) pa_nil)) (pe_int) (nomark _)) (pss_one (ps_set (i := 4) scRows.nd rfl (.inl rfl) (pe_callTy call_intI (by rfl) T.f_int (by decide +kernel) (pa_cons (pe_ix ix_list (pv 0) (pe_op op_mod (pe_callTy call_intI (by rfl) T.f_int (by decide +kernel) (pa_cons (pv 3) pa_nil)) (pe_callB call_len_seq (by rfl) T.f_len PySem.boot_len (pa_cons (pv 0) pa_nil))) (fun _ _ => rfl)) pa_nil)))) pss_nil)
        (C8.pss_cut (ps_if (pt_cmpR op_lt (pv 4) (pe_int) (nomark _)) (pss_one (ps_set (i := 4) scRows.nd rfl (.inl rfl) (pe_op op_sub (pe_op op_sub pe_int (pe_op op_mul pe_int (pv 4))) pe_int))) pss_nil)
        (C8.pss_cut (ps_if (PW.pt (pw_or (pt_cmpR op_ge (pv 3) (pe_callB call_len_seq (by rfl) T.f_len PySem.boot_len (pa_cons (pv 0) pa_nil)) (nomark _)) (pw_or1 (pt_cmpR op_lt (pv 4) (pe_int) (nomark _)))))
          (pss_cons (ps_set (i := 4) scRows.nd rfl (.inl rfl) (pe_op op_mod (pe_callTy call_intI (by rfl) T.f_int (by decide +kernel) (pa_cons (pe_op op_add (pe_op op_add (pe_op op_mul (pe_op op_add (pe_op op_add (pv 4) (pe_op op_mul pe_int (pv 3))) pe_int) pe_int) (pe_op op_mul (pe_op op_mul (pv 3) (pv 3)) pe_int)) pe_int) pa_nil)) pe_int))
          (pss_one (ps_set (i := 4) scRows.nd rfl (.inl rfl) (pe_op op_mod (pe_callTy call_intI (by rfl) T.f_int (by decide +kernel) (pa_cons (pe_op op_add (pe_op op_mul (pe_op op_add (pe_op op_add (pv 4) (pe_op op_mul pe_int (pv 3))) pe_int) pe_int) pe_int) pa_nil)) pe_int)))) pss_nil)
        (pss_one (ps_expr (pe_bm PySem.F.plainAttrs_list PySem.F.slot_list_append PySem.F.type_list_append mt_append (pv 2) (pa_cons (pv 4) pa_nil)))))))))
      (pss_one (ps_ret (pv 2)))), ?_⟩
    refine ⟨(by show 0 ≤ sizeLine; decide), fun l nl => ?_⟩
    have s0 : Same H (upd H l (.lst [])) := Same.new nl
    refine ⟨_, rfl, 51, rfl, by decide, by decide, ?_⟩
    refine for_range (lo := 0) (n := 51) (fun i σ H' => ∃ x y : Option V, σ = [some (.ref a), some (.int 51), some (.ref l), x, y] ∧ Same H H' ∧ ∃ rs : List Int, rs.length = i ∧ H' l = some (.lst (rs.map V.int)))
      ⟨none, none, rfl, s0, [], rfl, upd_same⟩ ?_ ?_
    · rintro i σ H' hi ⟨x, y, rfl, s1, rs, hrs, hl⟩
      have hS' : SqL K H' a (ns.map V.int) := s1.seq hS
      have hln : (ns.map V.int).length = ns.length := List.length_map _
      refine ⟨fun σ2 H2 => H2 = H' ∧ ∃ cell : Int, σ2 = [some (.ref a), some (.int 51), some (.ref l), some (.int (0 + i)), some (.int cell)], ?_, ?_⟩
      · refine ⟨_, rfl, a, _, rfl, .inl hS', _, _, rfl, rfl, _, rfl, ?_⟩
        refine ite2 (fun h => ?_) fun _ => ?_
        · have hpos : (0 : Int) < ((ns.map V.int).length : Int) := of_decide_eq_true h
          have g0 := Int.emod_nonneg (0 + (i : Int)) (show ((ns.map V.int).length : Int) ≠ 0 by omega)
          have g1 := Int.emod_lt_of_pos (0 + (i : Int)) hpos
          have hj : ((0 + (i : Int)) % ((ns.map V.int).length : Int)).toNat < ns.length := by omega
          refine ⟨_, rfl, _, rfl, _, rfl, _, rfl, a, _, rfl, .inl hS', _, _, rfl, rfl, hpos, a, _, _, .int ns[((0 + (i : Int)) % ((ns.map V.int).length : Int)).toNat], rfl, rfl, hS', at_of (j := ((0 + (i : Int)) % ((ns.map V.int).length : Int)).toNat) (by omega) ?_, _, rfl, rfl, _, rfl⟩
          rw [List.getElem?_map, List.getElem?_eq_getElem hj]
          rfl
        · exact ⟨rfl, _, rfl⟩
      rintro σ2 H2 ⟨rfl, cell, rfl⟩
      refine ⟨fun σ3 H3 => H3 = H2 ∧ ∃ cell : Int, σ3 = [some (.ref a), some (.int 51), some (.ref l), some (.int (0 + i)), some (.int cell)], ?_, ?_⟩
      · refine ⟨_, rfl, _, _, rfl, rfl, _, rfl, ?_⟩
        refine ite2 (fun h => ?_) fun _ => ?_
        · exact ⟨_, rfl, _, _, rfl, rfl, .inl ⟨by decide, by decide⟩, _, _, rfl, rfl, _, _, rfl, rfl, rfl, _, rfl⟩
        · exact ⟨rfl, _, rfl⟩
      rintro σ3 H3 ⟨rfl, cell3, rfl⟩
      refine ⟨fun σ4 H4 => H4 = H3 ∧ ∃ cell : Int, σ4 = [some (.ref a), some (.int 51), some (.ref l), some (.int (0 + i)), some (.int cell)], ?_, ?_⟩
      · refine ⟨_, rfl, _, rfl, a, _, rfl, .inl hS', _, _, rfl, rfl, _, rfl, ?_⟩
        refine ite2 (fun _ => ?_) fun _ => ?_
        · exact ⟨_, rfl, _, rfl, _, _, rfl, rfl, .inl ⟨by decide, by decide⟩, _, _, rfl, rfl, _, _, rfl, rfl, _, _, rfl, rfl, .inr ⟨by decide, by decide⟩, _, rfl, _, rfl, _, _, rfl, rfl, .inl ⟨by omega, by omega⟩, _, _, rfl, rfl, .inr ⟨by decide, by decide⟩, _, _, rfl, rfl, _, _, rfl, rfl, _, rfl, _, _, rfl, rfl, (by show (0 : Int) < 2147483647; decide),
            _, rfl, _, rfl, _, _, rfl, rfl, .inl ⟨by decide, by decide⟩, _, _, rfl, rfl, _, _, rfl, rfl, _, _, rfl, rfl, .inr ⟨by decide, by decide⟩, _, _, rfl, rfl, _, rfl, _, _, rfl, rfl, (by show (0 : Int) < 18446744073709551557; decide), rfl, _, rfl⟩
        · refine ⟨_, rfl, _, _, rfl, rfl, _, rfl, ?_⟩
          refine ite2 (fun _ => ?_) fun _ => ?_
          · exact ⟨_, rfl, _, rfl, _, _, rfl, rfl, .inl ⟨by decide, by decide⟩, _, _, rfl, rfl, _, _, rfl, rfl, _, _, rfl, rfl, .inr ⟨by decide, by decide⟩, _, rfl, _, rfl, _, _, rfl, rfl, .inl ⟨by omega, by omega⟩, _, _, rfl, rfl, .inr ⟨by decide, by decide⟩, _, _, rfl, rfl, _, _, rfl, rfl, _, rfl, _, _, rfl, rfl, (by show (0 : Int) < 2147483647; decide),
            _, rfl, _, rfl, _, _, rfl, rfl, .inl ⟨by decide, by decide⟩, _, _, rfl, rfl, _, _, rfl, rfl, _, _, rfl, rfl, .inr ⟨by decide, by decide⟩, _, _, rfl, rfl, _, rfl, _, _, rfl, rfl, (by show (0 : Int) < 18446744073709551557; decide), rfl, _, rfl⟩
          · exact ⟨rfl, _, rfl⟩
      rintro σ4 H4 ⟨rfl, cell4, rfl⟩
      refine ⟨_, rfl, .inl ⟨rfl, _, SqL.of (hl)⟩, _, rfl, l, _, _, rfl, rfl, hl, (by rw [List.length_map, sizeLine_eq]; omega), ?_⟩
      refine ⟨_, _, rfl, fun b o q => ?_, rs ++ [cell4], by simp [hrs], ?_⟩
      · rw [upd_ne (ne_of_none q nl)]
        exact s1 _ _ q
      · rw [upd_same, List.map_append]
        rfl
    · rintro σ H' ⟨x, y, rfl, s1, rs, hrs, hl⟩
      exact ⟨_, rfl, k l rs _ s1 nl hl hrs⟩
end
end K45
set_option Elab.async false
set_option linter.all false
set_option maxRecDepth 100000
set_option maxHeartbeats 4000000
/-! the two ends and the letters, in the heap; say and hear -/
namespace K45
open PySem PySem.Spec PyProof.Rows L2
/-! ### equal states compare equal -/
theorem lay_lcks : ∀ ls : List Lck, PyData.canLayAll0 (ls.map Lck.d) = true
  | [] => rfl
  | l :: ls => by
    have ih := lay_lcks ls
    simp only [List.map_cons, PyData.canLayAll0, Lck.d, PyData.canLay0, ih, Bool.and_self]
theorem depth_lcks : ∀ ls : List Lck, PyData.depthAll (ls.map Lck.d) ≤ 1
  | [] => Nat.zero_le _
  | l :: ls => by
    have ih := depth_lcks ls
    simp only [List.map_cons, PyData.depthAll, Lck.d, PyData.depth]
    omega
theorem Stt.lay (s : Stt) : s.d.canLay0 = true := by
  simp only [Stt.d, PyData.canLay0, PyData.canLayAll0, lay_lcks, Bool.and_self]
theorem Stt.shaped (s : Stt) : SeqAt.shaped s.d = true := by
  have h := depth_lcks s.locks
  have h2 : s.d.depth ≤ 64 := by
    simp only [Stt.d, PyData.depth, PyData.depthAll]
    omega
  unfold SeqAt.shaped
  rw [s.lay, decide_eq_true h2]
  rfl
theorem Stt.eqv (s : Stt) : PyData.eqv s.d s.d = true := SeqAt.eqv_refl _ s.lay
/-! ### where all of it lies -/
structure Adr where
  le : Addr
  g : Addr
  L : Addr
  e : Bool → Addr
  f : Bool → Addr
  s : Bool → Addr
structure Adr.Ok (A : Adr) : Prop where
  ee : A.e false ≠ A.e true
  ss : A.s false ≠ A.s true
  ef : ∀ b c, A.e b ≠ A.f c
  es : ∀ b c, A.e b ≠ A.s c
  sf : ∀ b c, A.s b ≠ A.f c
  eg : ∀ b, A.e b ≠ A.g
  el : ∀ b, A.e b ≠ A.le
  eL : ∀ b, A.e b ≠ A.L
  sg : ∀ b, A.s b ≠ A.g
  sl : ∀ b, A.s b ≠ A.le
  sL : ∀ b, A.s b ≠ A.L
  Lf : ∀ b, A.L ≠ A.f b
  Lg : A.L ≠ A.g
  Ll : A.L ≠ A.le
theorem Adr.Ok.en {A : Adr} (o : A.Ok) (b : Bool) : A.e (!b) ≠ A.e b := by
  cases b
  · exact o.ee.symm
  · exact o.ee
theorem Adr.Ok.sn {A : Adr} (o : A.Ok) (b : Bool) : A.s (!b) ≠ A.s b := by
  cases b
  · exact o.ss.symm
  · exact o.ss
structure WdAt (K : PySem.W.Frag) (H : Hp) (A : Adr) (n : Nat) (W : WD) : Prop where
  le : H A.le = some (.lst [.ref (A.e false), .ref (A.e true)])
  en : ∀ b, EnAt K H (A.e b) (A.f b) (A.s b) n (W.e b)
  L : ∃ xs, H A.L = some (.lst xs) ∧ TDs H xs (W.ls.map Ltr.d)
  g : SetAt K H A.g
theorem EnAt.mono {K : PySem.W.Frag} {H : Hp} {e ft sl : Addr} {n m : Nat} {E : EndD} (h : EnAt K H e ft sl n E) (hm : n ≤ m) : EnAt K H e ft sl m E := ⟨h.ob, h.ft.mono hm⟩
theorem bool_or (b c : Bool) : c = b ∨ c = !b := by cases b <;> cases c <;> simp
section
variable {K : PySem.W.Frag} {H H' : Hp} {A : Adr} {n : Nat} {W : WD}
theorem WdAt.mono {m : Nat} (h : WdAt K H A n W) (hm : n ≤ m) : WdAt K H A m W := ⟨h.le, fun b => (h.en b).mono hm, h.L, h.g⟩
theorem WdAt.sm (h : WdAt K H A n W) (c : Same H H') : WdAt K H' A n W := by
  obtain ⟨xs, h1, h2⟩ := h.L
  exact ⟨c _ _ h.le, fun b => (h.en b).sm c, ⟨xs, c _ _ h1, h2.sm c⟩, h.g.sm c⟩
/-- an end has gone on -/
theorem WdAt.upE (h : WdAt K H A n W) (o : A.Ok) {b : Bool} {E : EndD} (c : Chg [A.e b] H H') (hE : EnAt K H' (A.e b) (A.f b) (A.s b) n E) : WdAt K H' A n ⟨setE W.e b E, W.ls⟩ := by
  obtain ⟨xs, h1, h2⟩ := h.L
  refine ⟨c.ext _ _ h.le (by simpa using (o.el b).symm), fun d => ?_, ⟨xs, c.ext _ _ h1 (by simpa using (o.eL b).symm), h2.chg c⟩, h.g.chg c (by simpa using (o.eg b).symm)⟩
  rcases bool_or b d with rfl | rfl
  · show EnAt K H' (A.e d) (A.f d) (A.s d) n (setE W.e d E d)
    rw [setE_at]
    exact hE
  · show EnAt K H' (A.e !b) (A.f !b) (A.s !b) n (setE W.e b E !b)
    rw [setE_not]
    exact (h.en (!b)).chg c (by simpa using o.en b) (by simpa using (o.ef b (!b)).symm) (by simpa using (o.es b (!b)).symm)
/-- the letters have changed -/
theorem WdAt.upL (h : WdAt K H A n W) (o : A.Ok) {ls : List Ltr} {xs : List V} (c : Chg [A.L] H H') (hL : H' A.L = some (.lst xs)) (ht : TDs H' xs (ls.map Ltr.d)) : WdAt K H' A n ⟨W.e, ls⟩ :=
  ⟨c.ext _ _ h.le (by simpa using o.Ll.symm), fun d => (h.en d).chg c (by simpa using o.eL d) (by simpa using (o.Lf d).symm) (by simpa using o.sL d), ⟨xs, hL, ht⟩, h.g.chg c (by simpa using o.Lg.symm)⟩
/-- an end has signed -/
theorem WdAt.upS (h : WdAt K H A n W) (o : A.Ok) {b : Bool} (c : Chg [A.s b] H H') (hE : EnAt K H' (A.e b) (A.f b) (A.s b) (n + 1) (W.e b)) : WdAt K H' A (n + 1) W := by
  obtain ⟨xs, h1, h2⟩ := h.L
  refine ⟨c.ext _ _ h.le (by simpa using (o.sl b).symm), fun d => ?_, ⟨xs, c.ext _ _ h1 (by simpa using (o.sL b).symm), h2.chg c⟩, h.g.chg c (by simpa using (o.sg b).symm)⟩
  rcases bool_or b d with rfl | rfl
  · exact hE
  · exact ((h.en (!b)).chg c (by simpa using o.es (!b) b) (by simpa using (o.sf b (!b)).symm) (by simpa using o.sn b)).mono (Nat.le_succ n)
end
/-- all that a deed may change -/
def Adr.mut (A : Adr) : List Addr := [A.L, A.e false, A.e true, A.s false, A.s true]
theorem Adr.mut_L (A : Adr) : ∀ x ∈ [A.L], x ∈ A.mut := fun x h => by
  rw [List.mem_singleton.mp h]
  simp [Adr.mut]
theorem Adr.mut_e (A : Adr) (b : Bool) : ∀ x ∈ [A.e b], x ∈ A.mut := fun x h => by
  rw [List.mem_singleton.mp h]
  cases b <;> simp [Adr.mut]
theorem Adr.mut_s (A : Adr) (b : Bool) : ∀ x ∈ [A.s b], x ∈ A.mut := fun x h => by
  rw [List.mem_singleton.mp h]
  cases b <;> simp [Adr.mut]
theorem ends_at (x y : V) (b : Bool) : atI [x, y] (b2z b) = some (if b = true then y else x) := by
  cases b <;> rfl
theorem ends_ref (A : Adr) (b : Bool) : atI [V.ref (A.e false), V.ref (A.e true)] (b2z b) = some (.ref (A.e b)) := by
  cases b <;> rfl
theorem one_sub (b : Bool) : 1 - b2z b = b2z (!b) := by cases b <;> rfl
/-! ### promises -/
def spSay (K : PySem.W.Frag) : Sp := fun vs H Q _ => ∃ (A : Adr) (n : Nat) (W : WD) (M : Int) (b : Bool), vs = [.ref A.le, .int (b2z b), .ref A.L] ∧ A.Ok ∧ WdAt K H A n W ∧ PInv M W ∧ W.ls.length ≤ 30 ∧
  ∀ ls H', Chg [A.L] H H' → WdAt K H' A n ⟨W.e, ls⟩ → PInv M ⟨W.e, ls⟩ → ls.length ≤ 30 → Q .non H'
def spHear (K : PySem.W.Frag) : Sp := fun vs H Q _ => ∃ (A : Adr) (n : Nat) (W : WD) (M : Int) (l : Ltr) (v : V), vs = [.ref A.le, v, .ref A.L, .ref A.g] ∧ A.Ok ∧ WdAt K H A n W ∧ PInv M W ∧ W.ls.length ≤ 29 ∧ n ≤ 1000 ∧ TD H v l.d ∧ LOk W.e l ∧
  ∀ W' H', Chg A.mut H H' → WdAt K H' A n W' → PInv M W' → (∀ b, Adv (W.e b) (W'.e b)) → W'.ls.length ≤ 30 → Q .non H'
theorem Adv.setE {W : WD} {b : Bool} {E : EndD} (h : Adv (W.e b) E) : ∀ d, Adv (W.e d) (K45.setE W.e b E d) := fun d => by
  unfold K45.setE
  split
  · rename_i q
    rw [q]
    exact h
  · exact .same _
section
variable {P : Program} {w : World} {K : PySem.W.Frag} {mg : Str → Option Value} {base : Heap}
theorem scSay : FnScope ["_law_ends", "_law_at", "_law_letters", "_law_end"] ["_law_ends", "_law_at", "_law_letters"] (defScope sSay) := ⟨rfl, rfl, rfl, by decide +kernel, rfl, by decide +kernel, by decide +kernel⟩
theorem ok_say (T : Tx K mg) : CallG P w K mg base 1 "_law_say" ["_law_ends", "_law_at", "_law_letters"] (spSay K) := by
  refine mkG_ T.d__law_say T.g__law_say (fun _ _ _ _ _ _ us hl => match us, hl with | [_, _, _], _ => rfl) fun fd F => ok_of F scSay (fun vs H Q E h => ?_) (fun cdv A outer s H vs Q E hr h => ?_)
  · obtain ⟨A, n, W, M, b, rfl, _⟩ := h
    rfl
  · obtain ⟨B, n, W, M, b, rfl, o, hW, hI, h30, k⟩ := h
    obtain ⟨⟨dx, op, af, la, st, nx, a1, a2, a3, a4, a5, a6, a7, he, ho, hla, hop⟩, hft⟩ := hW.en b
    obtain ⟨xs, hL, hx⟩ := hW.L
    have hlen : xs.length = W.ls.length := hx.length.trans (List.length_map _)
    refine ⟨_, pss_cons (ps_set (i := 3) scSay.nd rfl (.inl rfl) (pe_ix ix_list (pv 0) (pv 1) (fun _ _ => rfl))) (pss_one (ps_if (PW.pt (pw_and (pt_cmpR op_notN (pe_fld (pv 3) rfl) (pe_non) (nomark _)) (pw_and1 (pt_cmpR op_lt (pe_callB call_len_seq (by rfl) T.f_len PySem.boot_len (pa_cons (pv 2) pa_nil)) (pe_int) (nomark _)))))
      (pss_one (ps_expr (pe_bm PySem.F.plainAttrs_list PySem.F.slot_list_append PySem.F.type_list_append mt_append (pv 2) (pa_cons (pe_tup (pa_cons (pe_op op_sub pe_int (pv 1)) (pa_cons (pe_str) (pa_cons (pe_ix ix_tup (pe_fld (pv 3) rfl) pe_int (fun _ _ => rfl)) (pa_cons (pe_fld (pv 3) rfl) (pa_nil)))))) pa_nil)))) pss_nil)), ?_⟩
    refine ⟨_, rfl, _, rfl, _, _, _, _, rfl, rfl, SqL.of (hW.le), ends_ref B b, ?_⟩
    refine ⟨_, rfl, _, _, _, _, _, rfl, he, T.c_End, T.n_End_next, zlk K_End_next rfl, rfl, _, rfl, ?_⟩
    cases hq : (W.e b).opn with
    | none =>
      rw [hq] at hop
      obtain rfl := (show nx = .non from hop)
      exact k W.ls H (Chg.refl _) hW hI h30
    | some x =>
      obtain ⟨ms, z⟩ := x
      rw [hq] at hop
      obtain ⟨q, t, ls, rfl, hqq, _⟩ := Stt.open_ hop.2
      refine iteTD (nbT (dne (by intro z; cases z))) ?_
      refine ⟨_, rfl, _, xs, rfl, .inl (SqL.of hL), _, _, rfl, rfl, _, rfl, ?_⟩
      refine ite2 (fun hlt => ?_) fun _ => k W.ls H (Chg.refl _) hW hI h30
      have hlt : (xs.length : Int) < 30 := of_decide_eq_true hlt
      refine ⟨_, rfl, .inl ⟨rfl, _, SqL.of (hL)⟩, _, rfl, _, _, rfl, rfl, _, rfl, _, _, _, _, _, rfl, he, T.c_End, T.n_End_next, zlk K_End_next rfl, _, _, _, _, rfl, rfl, SqT.of (hqq), ati 1 rfl, _, rfl, _, _, _, _, _, rfl, he, T.c_End, T.n_End_step, zlk K_End_step rfl, (by show 4 ≤ sizeLine; decide), fun p np => ?_⟩
      have nLp : B.L ≠ p := ne_of_none hL np
      refine ⟨B.L, xs, _, rfl, rfl, (by rw [upd_ne nLp]; exact hL), (by rw [sizeLine_eq]; omega), ?_⟩
      have c0 : Same H (upd H p (.tup [.int (1 - b2z b), .str "step", .int z.num, st])) := Same.new np
      have c1 : Chg [B.L] (upd H p (.tup [.int (1 - b2z b), .str "step", .int z.num, st])) (upd (upd H p (.tup [.int (1 - b2z b), .str "step", .int z.num, st])) B.L (.lst (xs ++ [.ref p]))) :=
        Chg.put (u := .lst xs) (by rw [upd_ne nLp]; exact hL) (by intro xs z; cases z) (by simp)
      have c2 := (Chg.of c0).trans c1
      have lok : LOk W.e (.step (!b) z.num ms) := .inr ⟨z, by rw [not_not]; exact hq, rfl⟩
      refine k (W.ls ++ [.step (!b) z.num ms]) _ c2 (hW.upL o c2 upd_same ?_) (hI.add lok) ?_
      · rw [List.map_append]
        refine (hx.chg c2).append (.cons (.tup (xs := [.int (1 - b2z b), .str "step", .int z.num, st]) ?_ (.cons ?_ (.cons (.str _) (.cons (.int _) (.cons (hop.1.chg c2) .nil))))) .nil)
        · rw [upd_ne nLp.symm]
          exact upd_same
        · rw [one_sub]
          exact .int _
      · rw [List.length_append]
        show W.ls.length + 1 ≤ 30
        omega
theorem scHear : FnScope ["_law_ends", "_law_letter", "_law_letters", "_law_settings_here", "_law_at", "_law_kind", "_law_number", "_law_step", "_law_end", "_law_mine"] ["_law_ends", "_law_letter", "_law_letters", "_law_settings_here"] (defScope sHear) := ⟨rfl, rfl, rfl, by decide +kernel, rfl, by decide +kernel, by decide +kernel⟩
theorem ok_hear (T : Tx K mg) : CallG P w K mg base 6 "_law_hear" ["_law_ends", "_law_letter", "_law_letters", "_law_settings_here"] (spHear K) := by
  have GA : CallM P w K mg base 2 "End" "hear_answer" ["self", "number"] (spHearAns K) := ok_hear_ans T
  have GS : CallM P w K mg base 5 "End" "hear_step" ["self", "settings", "height", "receipts", "step"] (spHearStep K) := ok_hear_step T
  refine mkG_ T.d__law_hear T.g__law_hear (fun _ _ _ _ _ _ us hl => match us, hl with | [_, _, _, _], _ => rfl) fun fd F => ok_of F scHear (fun vs H Q E h => ?_) (fun cdv A outer s H vs Q E hr h => ?_)
  · obtain ⟨A, n, W, M, l, v, rfl, _⟩ := h
    rfl
  · obtain ⟨B, n, W, M, l, v, rfl, o, hW, hI, h29, hn, hv, hlok, k⟩ := h
    obtain ⟨xs, hL, hx⟩ := hW.L
    have hlen : xs.length = W.ls.length := hx.length.trans (List.length_map _)
    refine ⟨_, pss_cons (ps_asg (pv 1) (pg_tup (by rfl) (pgs_cons (pg_name (i := 4) scHear.nd rfl (.inl rfl)) (pgs_cons (pg_name (i := 5) scHear.nd rfl (.inl rfl)) (pgs_cons (pg_name (i := 6) scHear.nd rfl (.inl rfl)) (pgs_cons (pg_name (i := 7) scHear.nd rfl (.inl rfl)) pgs_nil)))))) (pss_cons (ps_set (i := 8) scHear.nd rfl (.inl rfl) (pe_ix ix_list (pv 0) (pv 4) (fun _ _ => rfl))) (pss_cons (ps_if (pt_cmpR op_eq (pv 5) (pe_str) (nomark _)) (pss_cons (ps_expr (pe_M (pv 8) GA hr (pa_cons (pv 6) (pa_nil)))) (pss_one (ps_retN))) pss_nil) (pss_cons (ps_set (i := 9) scHear.nd rfl (.inl rfl) (pe_cmpR op_eq (pe_cmpR op_eq (pe_op op_mod (pv 6) pe_int) (pe_int) (nomark _)) (pe_fld (pv 8) rfl) (nomark _))) (pss_one (ps_if (PW.pt (pw_and (pt_cmpR op_eq (pv 6) (pe_ix ix_tup (pe_fld (pv 8) rfl) pe_int (fun _ _ => rfl)) (nomark _)) (pw_and1 (pt_not (pt_val (pv 9)))))) (pss_one (ps_expr (pe_bm PySem.F.plainAttrs_list PySem.F.slot_list_append PySem.F.type_list_append mt_append (pv 2) (pa_cons (pe_tup (pa_cons (pe_op op_sub pe_int (pv 4)) (pa_cons (pe_str) (pa_cons (pv 6) (pa_cons (pe_tup pa_nil) (pa_nil)))))) pa_nil))))
        (pss_one (ps_if (PW.pt (pw_and (pt_cmpR op_eq (pv 6) (pe_op op_add (pe_ix ix_tup (pe_fld (pv 8) rfl) pe_int (fun _ _ => rfl)) pe_int) (nomark _)) (pw_and1 (pt_val (pe_M (pv 8) GS hr (pa_cons (pv 3) (pa_cons (pe_int) (pa_cons (pe_dnewK) (pa_cons (pv 7) (pa_nil)))))))))) (pss_one (ps_expr (pe_bm PySem.F.plainAttrs_list PySem.F.slot_list_append PySem.F.type_list_append mt_append (pv 2) (pa_cons (pe_tup (pa_cons (pe_op op_sub pe_int (pv 4)) (pa_cons (pe_str) (pa_cons (pv 6) (pa_cons (pe_tup pa_nil) (pa_nil)))))) pa_nil)))) pss_nil))))))), ?_⟩
    -- an answer is put into the bag
    have put : ∀ (H1 : Hp) (W1 : WD) (b : Bool) (z : Int) (σ : L2.St), WdAt K H1 B n W1 → PInv M W1 → W1.ls.length ≤ 29 → Chg B.mut H H1 → (∀ b, Adv (W.e b) (W1.e b)) → LOk W1.e (.answer (!b) z) →
        σ[2]? = some (some (.ref B.L)) → σ[4]? = some (some (.int (b2z b))) → σ[6]? = some (some (.int z)) →
        tDrop (tBM K "list" rAppend (tVar 2) (tCons (tTup (tCons (tOp (rI0 fun i j => .int (i - j)) (tC (.int 1)) (tVar 4)) (tCons (tC (.str "answer")) (tCons (tVar 6) (tCons (tTup tNil) tNil))))) tNil)) { nx := fun _ H' => Q .non H', rt := Q } σ H1 := by
      intro H1 W1 b z σ hW1 hI1 h1 c1 ad lok e2 e4 e6
      obtain ⟨ys, hL1, hy⟩ := hW1.L
      have hlen1 : ys.length = W1.ls.length := hy.length.trans (List.length_map _)
      refine ⟨_, e2, .inl ⟨rfl, _, SqL.of (hL1)⟩, _, e4, _, _, rfl, rfl, _, e6, (by show 0 ≤ sizeLine; decide), fun t nt => ⟨(by show 4 ≤ sizeLine; decide), fun p np => ?_⟩⟩
      have nLt : B.L ≠ t := ne_of_none hL1 nt
      have hL2 : upd H1 t (.tup []) B.L = some (.lst ys) := by
        rw [upd_ne nLt]
        exact hL1
      have nLp : B.L ≠ p := ne_of_none hL2 np
      have hL3 : upd (upd H1 t (.tup [])) p (.tup [.int (1 - b2z b), .str "answer", .int z, .ref t]) B.L = some (.lst ys) := by
        rw [upd_ne nLp]
        exact hL2
      refine ⟨B.L, ys, _, rfl, rfl, hL3, (by rw [sizeLine_eq]; omega), ?_⟩
      have s1 : Same H1 (upd H1 t (.tup [])) := Same.new nt
      have s2 : Same (upd H1 t (.tup [])) (upd (upd H1 t (.tup [])) p (.tup [.int (1 - b2z b), .str "answer", .int z, .ref t])) := Same.new np
      have c3 : Chg [B.L] (upd (upd H1 t (.tup [])) p (.tup [.int (1 - b2z b), .str "answer", .int z, .ref t])) (upd (upd (upd H1 t (.tup [])) p (.tup [.int (1 - b2z b), .str "answer", .int z, .ref t])) B.L (.lst (ys ++ [.ref p]))) :=
        Chg.put hL3 (by intro xs z; cases z) (by simp)
      have c4 := (Chg.of (s1.trans s2)).trans c3
      refine k ⟨W1.e, W1.ls ++ [.answer (!b) z]⟩ _ (c1.trans (c4.mono B.mut_L)) (hW1.upL o c4 upd_same ?_) (hI1.add lok) ad ?_
      · rw [List.map_append]
        refine (hy.chg c4).append (.cons (.tup (xs := [.int (1 - b2z b), .str "answer", .int z, .ref t]) (c3.tup _ _ upd_same) (.cons ?_ (.cons (.str _) (.cons (.int _) (.cons (.tup (c3.tup _ _ (s2 _ _ upd_same)) .nil) .nil))))) .nil)
        rw [one_sub]
        exact .int _
      · show (W1.ls ++ [Ltr.answer (!b) z]).length ≤ 30
        rw [List.length_append]
        show W1.ls.length + 1 ≤ 30
        omega
    cases l with
    | answer b z =>
      obtain ⟨p, ys, rfl, hp, t⟩ := TD.ofTup hv
      obtain ⟨x1, ys, rfl, h1, t⟩ := t.ofCons
      obtain ⟨x2, ys, rfl, h2, t⟩ := t.ofCons
      obtain ⟨x3, ys, rfl, h3, t⟩ := t.ofCons
      obtain ⟨x4, ys, rfl, h4, t⟩ := t.ofCons
      obtain rfl := t.ofNil
      obtain rfl := h1.ofInt
      obtain rfl := h2.ofStr
      obtain rfl := h3.ofInt
      obtain ⟨dx, op, af, la, st, nx, a1, a2, a3, a4, a5, a6, a7, he, ho, hla, hop⟩ := (hW.en b).ob
      refine ⟨_, rfl, p, _, rfl, SqT.of hp, rfl, _, _, rfl, _, _, rfl, _, _, rfl, _, _, rfl, rfl, ?_⟩
      refine ⟨_, rfl, _, rfl, _, _, _, _, rfl, rfl, SqL.of (hW.le), ends_ref B b, ?_⟩
      refine ⟨_, rfl, rfl, _, rfl, iteTD (deq rfl) ?_⟩
      refine ⟨_, rfl, _, _, _, rfl, he, zno (by decide +kernel), _, rfl, B.e b, B.f b, B.s b, n, W.e b, z, rfl, hW.en b, ?_, fun ms y H' hq hz c hE => ?_⟩
      · exact k W H (Chg.refl _) hW hI (fun d => .same _) (by omega)
      · subst hz
        obtain ⟨hI2, e2⟩ := hI.answered hlok hq
        exact k _ H' (c.mono (B.mut_e b)) (hW.upE o c hE) hI2 (Adv.setE (.answered hq e2)) (by show W.ls.length ≤ 30; omega)
    | step b z ms =>
      obtain ⟨p, ys, rfl, hp, t⟩ := TD.ofTup hv
      obtain ⟨x1, ys, rfl, h1, t⟩ := t.ofCons
      obtain ⟨x2, ys, rfl, h2, t⟩ := t.ofCons
      obtain ⟨x3, ys, rfl, h3, t⟩ := t.ofCons
      obtain ⟨x4, ys, rfl, h4, t⟩ := t.ofCons
      obtain rfl := t.ofNil
      obtain rfl := h1.ofInt
      obtain rfl := h2.ofStr
      obtain rfl := h3.ofInt
      obtain ⟨dx, op, af, la, st, nx, a1, a2, a3, a4, a5, a6, a7, he, ho, hla, hop⟩ := (hW.en b).ob
      obtain ⟨q, t, ls, rfl, hq, _⟩ := Stt.open_ hla
      refine ⟨_, rfl, p, _, rfl, SqT.of hp, rfl, _, _, rfl, _, _, rfl, _, _, rfl, _, _, rfl, rfl, ?_⟩
      refine ⟨_, rfl, _, rfl, _, _, _, _, rfl, rfl, SqL.of (hW.le), ends_ref B b, ?_⟩
      refine ⟨_, rfl, rfl, _, rfl, iteFD (dne (by decide +kernel)) ?_⟩
      refine ⟨_, rfl, _, _, rfl, rfl, (by show (0 : Int) < 2; decide), rfl, _, rfl, _, _, _, _, _, rfl, he, T.c_End, T.n_End_as_first, zlk K_End_as_first rfl, rfl, ?_⟩
      refine ⟨_, rfl, _, rfl, _, _, _, _, _, rfl, he, T.c_End, T.n_End_last, zlk K_End_last rfl, _, _, _, _, rfl, rfl, SqT.of (hq), ati 1 rfl, rfl, _, rfl, ?_⟩
      by_cases hz : z = (W.e b).last.num
      · refine iteTD (int_ hz) ?_
        refine ⟨_, rfl, _, rfl, ?_⟩
        refine ite2 (fun _ => ?_) fun _ => ?_
        · exact put H W b z _ hW hI h29 (Chg.refl _) (fun d => .same _) (by show z ≤ (W.e (!(!b))).last.num; rw [not_not, hz]; exact Int.le_refl _) rfl rfl rfl
        · refine ⟨_, rfl, _, rfl, _, _, _, _, _, rfl, he, T.c_End, T.n_End_last, zlk K_End_last rfl, _, _, _, _, rfl, rfl, SqT.of (hq), ati 1 rfl, _, _, rfl, rfl, rfl, _, rfl, iteFD (inv (by omega)) ?_⟩
          exact k W H (Chg.refl _) hW hI (fun d => .same _) (by omega)
      · refine iteFD (inv hz) ?_
        refine ⟨_, rfl, _, rfl, _, _, _, _, _, rfl, he, T.c_End, T.n_End_last, zlk K_End_last rfl, _, _, _, _, rfl, rfl, SqT.of (hq), ati 1 rfl, _, _, rfl, rfl, rfl, _, rfl, ?_⟩
        by_cases hz1 : z = (W.e b).last.num + 1
        · refine iteTD (int_ hz1) ?_
          refine ⟨_, rfl, _, _, _, rfl, he, zno (by decide +kernel), _, rfl, fun r nr => ⟨_, rfl, ?_⟩⟩
          have s1 : Same H (upd H r (.dK [])) := Same.new nr
          refine ⟨B.e b, B.f b, B.s b, B.g, r, n, W.e b, x4, ms, 0, rfl, (hW.en b).sm s1, hW.g.sm s1, upd_same, h4.sm s1, hI.len b, hn, fun H2 s2 => ⟨_, rfl, ?_⟩, fun y c H2 ho hnx ch hE => ⟨_, rfl, ?_⟩⟩
          · exact k W H2 (Chg.of (s1.trans s2)) (hW.sm (s1.trans s2)) hI (fun d => .same _) (by omega)
          · obtain ⟨hI2, e2⟩ := hI.hear hlok hz1 ho hnx
            refine put H2 ⟨setE W.e b ⟨y, none⟩, W.ls⟩ b z _ ((hW.sm s1).upE o ch hE) hI2 h29 ((Chg.of s1).trans (ch.mono (B.mut_e b))) (Adv.setE (.heard ho hnx)) ?_ rfl rfl rfl
            show z ≤ (setE W.e b ⟨y, none⟩ (!(!b))).last.num
            rw [not_not, setE_at]
            exact Int.le_of_eq e2.symm
        · refine iteFD (inv hz1) ?_
          exact k W H (Chg.refl _) hW hI (fun d => .same _) (by omega)
end
end K45
set_option Elab.async false
set_option linter.all false
set_option maxRecDepth 100000
set_option maxHeartbeats 4000000
/-! a deed -/
namespace K45
open PySem PySem.Spec PyProof.Rows L2
def spDeed (K : PySem.W.Frag) : Sp := fun vs H Q _ => ∃ (A : Adr) (n : Nat) (W : WD) (M row : Int), vs = [.ref A.le, .ref A.L, .int row, .ref A.g] ∧ A.Ok ∧ WdAt K H A n W ∧ PInv M W ∧ W.ls.length ≤ 30 ∧ n ≤ 900 ∧
  ∀ W' H', Chg A.mut H H' → WdAt K H' A (n + 2) W' → PInv M W' → (∀ b, Adv (W.e b) (W'.e b)) → W'.ls.length ≤ 30 → Q .non H'
theorem mod2 (z : Int) : ∃ b, z % 2 = b2z b := by
  have g0 := Int.emod_nonneg z (show (2 : Int) ≠ 0 by decide)
  have g1 := Int.emod_lt_of_pos z (show (0 : Int) < 2 by decide)
  by_cases h : z % 2 = 0
  · exact ⟨false, h⟩
  · exact ⟨true, by show z % 2 = 1; omega⟩
theorem lk_ls {W : WD} {j : Nat} {d : PyData} (h : (W.ls.map Ltr.d)[j]? = some d) : ∃ l, W.ls[j]? = some l ∧ l ∈ W.ls ∧ d = l.d := by
  rw [List.getElem?_map] at h
  obtain ⟨l, h1, h2⟩ := Option.map_eq_some_iff.mp h
  exact ⟨l, h1, List.mem_of_getElem? h1, h2.symm⟩
theorem mem_erase {α : Type} : ∀ {l : List α} {j : Nat} {x : α}, x ∈ l.eraseIdx j → x ∈ l
  | [], _, _, h => h
  | a :: l, 0, x, h => List.mem_cons_of_mem _ h
  | a :: l, j + 1, x, h => by
    rcases List.mem_cons.mp (show x ∈ a :: l.eraseIdx j from h) with q | q
    · rw [q]
      exact List.mem_cons_self
    · exact List.mem_cons_of_mem _ (mem_erase q)
/-- a test of two parts whose answers are known -/
theorem and_ev {tA tB : TT} {σ : L2.St} {H : Hp} {Q : Bool → Hp → Prop} {c1 c2 : Bool} (h1 : ∀ Q' : Bool → Hp → Prop, Q' c1 H → tA σ H Q') (h2 : c1 = true → ∀ Q' : Bool → Hp → Prop, Q' c2 H → tB σ H Q') (q : Q (c1 && c2) H) : tAnd tA tB σ H Q := by
  refine h1 _ ?_
  cases c1 with
  | true => exact h2 rfl _ q
  | false => exact q
section
variable {P : Program} {w : World} {K : PySem.W.Frag} {mg : Str → Option Value} {base : Heap}
theorem scDeed : FnScope ["_law_ends", "_law_letters", "_law_row", "_law_settings_here", "_law_kind", "_law_rest", "_law_at", "_law_splice", "_law_end"] ["_law_ends", "_law_letters", "_law_row", "_law_settings_here"] (defScope sDeed) := ⟨rfl, rfl, rfl, by decide +kernel, rfl, by decide +kernel, by decide +kernel⟩
theorem ok_deed (T : Tx K mg) : CallG P w K mg base 7 "_law_deed" ["_law_ends", "_law_letters", "_law_row", "_law_settings_here"] (spDeed K) := by
  have GM : CallG P w K mg base 3 "_law_moves" ["_law_row"] spMoves := ok_moves T
  have GS : CallG P w K mg base 1 "_law_say" ["_law_ends", "_law_at", "_law_letters"] (spSay K) := ok_say T
  have GH : CallG P w K mg base 6 "_law_hear" ["_law_ends", "_law_letter", "_law_letters", "_law_settings_here"] (spHear K) := ok_hear T
  have GP : CallM P w K mg base 5 "End" "propose" ["self", "step"] (spPropose K) := ok_propose T
  have GY : CallM P w K mg base 5 "End" "may_sign" ["self", "splice", "height", "far"] (spMaySign K) := ok_may_sign T
  have GG : CallM P w K mg base 1 "End" "sign" ["self", "splice"] (spSign K) := ok_sign T
  refine mkG_ T.d__law_deed T.g__law_deed (fun _ _ _ _ _ _ us hl => match us, hl with | [_, _, _, _], _ => rfl) fun fd F => ok_of F scDeed (fun vs H Q E h => ?_) (fun cdv A outer s H vs Q E hr h => ?_)
  · obtain ⟨A, n, W, M, row, rfl, _⟩ := h
    rfl
  · obtain ⟨B, n, W, M, row, rfl, o, hW, hI, h30, hn, k⟩ := h
    obtain ⟨xs, hL, hx⟩ := hW.L
    have hlen : xs.length = W.ls.length := hx.length.trans (List.length_map _)
    obtain ⟨b, hb⟩ := mod2 (row / 12)
    obtain ⟨⟨dx, op, af, la, st, nx, a1, a2, a3, a4, a5, a6, a7, he, ho, hla, hop⟩, hft⟩ := hW.en b
    -- nothing has changed
    have idle : Q .non H := k W H (Chg.refl _) (hW.mono (by omega)) hI (fun d => .same _) h30
    -- a place in the bag
    have place : ∀ z : Int, 0 < xs.length → ∃ (j : Nat) (v : V) (l : Ltr), z % (xs.length : Int) = (j : Int) ∧ j < xs.length ∧ xs[j]? = some v ∧ W.ls[j]? = some l ∧ l ∈ W.ls ∧ TD H v l.d := by
      intro z hp
      have g0 := Int.emod_nonneg z (show (xs.length : Int) ≠ 0 by omega)
      have g1 := Int.emod_lt_of_pos z (show (0 : Int) < (xs.length : Int) by omega)
      have hj : (z % (xs.length : Int)).toNat < xs.length := by omega
      obtain ⟨d, hd, ht⟩ := hx.get' (List.getElem?_eq_getElem hj)
      obtain ⟨l, h1, h2, rfl⟩ := lk_ls hd
      exact ⟨_, _, l, by omega, hj, List.getElem?_eq_getElem hj, h1, h2, ht⟩
    -- the letter at a place is taken out
    have taken : ∀ j : Nat, j < xs.length → Chg [B.L] H (upd H B.L (.lst (xs.eraseIdx j))) ∧ WdAt K (upd H B.L (.lst (xs.eraseIdx j))) B n ⟨W.e, W.ls.eraseIdx j⟩ ∧ PInv M ⟨W.e, W.ls.eraseIdx j⟩ ∧ (W.ls.eraseIdx j).length ≤ 29 := by
      intro j hj
      have c : Chg [B.L] H (upd H B.L (.lst (xs.eraseIdx j))) := Chg.put hL (by intro xs z; cases z) (by simp)
      refine ⟨c, hW.upL o c upd_same ?_, hI.letters fun l hl => hI.ls l (mem_erase hl), ?_⟩
      · rw [← map_erase]
        exact (hx.chg c).erase j
      · rw [List.length_eraseIdx_of_lt (by omega)]
        omega
    refine ⟨_, pss_cons (ps_set (i := 4) scDeed.nd rfl (.inl rfl) (pe_op op_mod (pe_callTy call_intI (by rfl) T.f_int (by decide +kernel) (pa_cons (pv 2) pa_nil)) pe_int)) (pss_cons (ps_set (i := 5) scDeed.nd rfl (.inl rfl) (pe_callTy call_intI (by rfl) T.f_int (by decide +kernel) (pa_cons (pe_op op_fdiv (pv 2) pe_int) pa_nil))) (pss_cons (ps_set (i := 6) scDeed.nd rfl (.inl rfl) (pe_op op_mod (pv 5) pe_int)) (pss_one (ps_if (pt_cmpR op_le (pv 4) (pe_int) (nomark _)) (pss_one (ps_if (pt_val (pe_M (pe_ix ix_list (pv 0) (pv 6) (fun _ _ => rfl)) GP hr (pa_cons (pe_G GM hr rfl (pa_cons (pe_callTy call_intI (by rfl) T.f_int (by decide +kernel) (pa_cons (pe_op op_fdiv (pv 5) pe_int) pa_nil)) (pa_nil))) (pa_nil)))) (pss_one (ps_expr (pe_G GS hr rfl (pa_cons (pv 0) (pa_cons (pv 6) (pa_cons (pv 1) (pa_nil))))))) pss_nil))
        (pss_one (ps_if (PW.pt (pw_and (pt_cmpR op_le (pv 4) (pe_int) (nomark _)) (pw_and1 (pt_cmpR op_gt (pe_callB call_len_seq (by rfl) T.f_len PySem.boot_len (pa_cons (pv 1) pa_nil)) (pe_int) (nomark _)))))
          (pss_one (ps_expr (pe_G GH hr rfl (pa_cons (pv 0) (pa_cons (pe_bm PySem.F.plainAttrs_list PySem.F.slot_list_pop PySem.F.type_list_pop mt_popAt (pv 1) (pa_cons (pe_op op_mod (pe_callTy call_intI (by rfl) T.f_int (by decide +kernel) (pa_cons (pe_op op_fdiv (pv 5) pe_int) pa_nil)) (pe_callB call_len_seq (by rfl) T.f_len PySem.boot_len (pa_cons (pv 1) pa_nil))) (pa_nil))) (pa_cons (pv 1) (pa_cons (pv 3) (pa_nil))))))))
        (pss_one (ps_if (PW.pt (pw_and (pt_cmpR op_eq (pv 4) (pe_int) (nomark _)) (pw_and (pt_cmpR op_gt (pe_callB call_len_seq (by rfl) T.f_len PySem.boot_len (pa_cons (pv 1) pa_nil)) (pe_int) (nomark _)) (pw_and1 (pt_cmpR op_lt (pe_callB call_len_seq (by rfl) T.f_len PySem.boot_len (pa_cons (pv 1) pa_nil)) (pe_int) (nomark _))))))
          (pss_one (ps_expr (pe_bm PySem.F.plainAttrs_list PySem.F.slot_list_append PySem.F.type_list_append mt_append (pv 1) (pa_cons (pe_ix ix_list (pv 1) (pe_op op_mod (pe_callTy call_intI (by rfl) T.f_int (by decide +kernel) (pa_cons (pe_op op_fdiv (pv 5) pe_int) pa_nil)) (pe_callB call_len_seq (by rfl) T.f_len PySem.boot_len (pa_cons (pv 1) pa_nil))) (fun _ _ => rfl)) pa_nil))))
        (pss_one (ps_if (PW.pt (pw_and (pt_cmpR op_eq (pv 4) (pe_int) (nomark _)) (pw_and1 (pt_cmpR op_gt (pe_callB call_len_seq (by rfl) T.f_len PySem.boot_len (pa_cons (pv 1) pa_nil)) (pe_int) (nomark _)))))
          (pss_one (ps_expr (pe_bm PySem.F.plainAttrs_list PySem.F.slot_list_pop PySem.F.type_list_pop mt_popAt (pv 1) (pa_cons (pe_op op_mod (pe_callTy call_intI (by rfl) T.f_int (by decide +kernel) (pa_cons (pe_op op_fdiv (pv 5) pe_int) pa_nil)) (pe_callB call_len_seq (by rfl) T.f_len PySem.boot_len (pa_cons (pv 1) pa_nil))) (pa_nil)))))
        (pss_one (ps_if (PW.pt (pw_and (pt_cmpR op_eq (pv 4) (pe_int) (nomark _)) (pw_and1 (pt_cmpR op_eq (pe_op op_mod (pe_callTy call_intI (by rfl) T.f_int (by decide +kernel) (pa_cons (pe_op op_fdiv (pv 5) pe_int) pa_nil)) pe_int) (pe_int) (nomark _)))))
          (pss_cons (ps_set (i := 7) scDeed.nd rfl (.inl rfl) (pe_tup (pa_cons (pe_int) (pa_cons (pe_int) (pa_cons (pe_int) (pa_cons (pe_int) (pa_cons (pe_op op_mod (pe_callTy call_intI (by rfl) T.f_int (by decide +kernel) (pa_cons (pe_op op_fdiv (pv 5) pe_int) pa_nil)) pe_int) (pa_cons (pe_op op_mod (pe_callTy call_intI (by rfl) T.f_int (by decide +kernel) (pa_cons (pe_op op_fdiv (pv 5) pe_int) pa_nil)) pe_int) (pa_cons (pe_op op_mod (pe_callTy call_intI (by rfl) T.f_int (by decide +kernel) (pa_cons (pe_op op_fdiv (pv 5) pe_int) pa_nil)) pe_int) (pa_cons (pe_int) (pa_nil))))))))))) (pss_one (ps_for PassesOwn.never rfl (pi_list (pv 0)) (pg_name (i := 8) scDeed.nd rfl (.inl rfl)) (pss_one (ps_if (pt_val (pe_M (pv 8) GY hr (pa_cons (pv 7) (pa_cons (pe_int) (pa_cons (pe_int) (pa_nil)))))) (pss_one (ps_expr (pe_M (pv 8) GG hr (pa_cons (pv 7) (pa_nil))))) pss_nil)))))
          (pss_one (ps_expr (pe_G GS hr rfl (pa_cons (pv 0) (pa_cons (pv 6) (pa_cons (pv 1) (pa_nil))))))))))))))))))), ?_⟩
    refine ⟨_, rfl, _, rfl, _, _, rfl, rfl, (by show (0 : Int) < 12; decide), _, rfl, _, _, rfl, rfl, ⟨by decide, by decide⟩, _, rfl, _, rfl, _, _, rfl, rfl, (by show (0 : Int) < 2; decide), ?_⟩
    have hat := ends_ref B b
    rw [← hb] at hat
    -- the last way: the open step is said again
    have sayAgain : ∀ (W1 : WD) (H1 : Hp), Chg B.mut H H1 → WdAt K H1 B n W1 → PInv M W1 → (∀ d, Adv (W.e d) (W1.e d)) → W1.ls.length ≤ 30 → spSay K ([.ref B.le, .int (row / 12 % 2), .ref B.L] ++ []) H1 (fun _ H' => Q .non H') E0 := by
      intro W1 H1 c hW1 hI1 ad h1
      exact ⟨B, n, W1, M, b, by rw [hb]; rfl, o, hW1, hI1, h1, fun ls H2 c2 hW2 hI2 h2 => k _ H2 (c.trans (c2.mono B.mut_L)) (hW2.mono (by omega)) hI2 ad h2⟩
    refine ⟨_, rfl, _, _, rfl, rfl, _, rfl, ?_⟩
    refine ite2 (fun _ => ?_) fun _ => ?_
    · -- propose
      refine ⟨_, rfl, _, rfl, _, _, _, _, rfl, rfl, SqL.of (hW.le), hat, _, _, _, rfl, he, zno (by decide +kernel), _, rfl, _, _, rfl, rfl, ⟨by decide, by decide⟩, _, rfl, _, rfl, fun ms v H1 s1 hv => ?_⟩
      refine ⟨B.e b, B.f b, B.s b, n, W.e b, v, ms, rfl, (hW.en b).sm s1, hv, hI.len b, by omega, fun H2 s2 => ⟨_, rfl, ?_⟩, fun z c H2 hq hz ch hE => ⟨_, rfl, ?_⟩⟩
      · exact k W H2 (Chg.of (s1.trans s2)) ((hW.sm (s1.trans s2)).mono (by omega)) hI (fun d => .same _) h30
      · exact ⟨_, rfl, _, rfl, _, rfl, sayAgain _ H2 ((Chg.of s1).trans (ch.mono (B.mut_e b))) ((hW.sm s1).upE o ch hE) (hI.propose hq hz) (Adv.setE (.prop hq hz)) h30⟩
    -- a letter is heard
    refine and_ev (fun Q' q => ⟨_, rfl, _, _, rfl, rfl, _, rfl, q⟩) (fun _ Q' q => ⟨_, rfl, B.L, xs, rfl, .inl (SqL.of hL), _, _, rfl, rfl, _, rfl, q⟩) ?_
    refine ite2 (fun hc => ?_) fun _ => ?_
    · have hpos : (0 : Int) < (xs.length : Int) := of_decide_eq_true (Bool.and_eq_true_iff.mp hc).2
      obtain ⟨j, v, l, hj, hjl, hv, hl, hm, ht⟩ := place (row / 12 / 2) (by omega)
      obtain ⟨c, hW2, hI2, h29⟩ := taken j hjl
      refine ⟨_, rfl, _, rfl, .inl ⟨rfl, _, SqL.of (hL)⟩, _, rfl, _, _, rfl, rfl, ⟨by decide, by decide⟩, _, rfl, _, rfl, B.L, xs, rfl, .inl (SqL.of hL), _, _, rfl, rfl, hpos, B.L, xs, _, j, v, rfl, rfl, hL, by omega, by omega, (by rw [hj]; exact seqIndex_of (by omega) (by omega)), hv, ?_⟩
      refine ⟨_, rfl, _, rfl, B, n, _, M, l, v, rfl, o, hW2, hI2, h29, by omega, ht.chg c, hI.ls l hm, fun W' H' c' hW' hI' ad h' => ?_⟩
      exact k W' H' ((c.mono B.mut_L).trans c') (hW'.mono (by omega)) hI' ad h'
    -- a letter is repeated
    refine and_ev (c2 := decide ((0 : Int) < (xs.length : Int)) && decide ((xs.length : Int) < 30)) (fun Q' q => ⟨_, rfl, rfl, _, rfl, q⟩) (fun _ Q' q => and_ev (fun Q' q => ⟨_, rfl, B.L, xs, rfl, .inl (SqL.of hL), _, _, rfl, rfl, _, rfl, q⟩) (fun _ Q' q => ⟨_, rfl, B.L, xs, rfl, .inl (SqL.of hL), _, _, rfl, rfl, _, rfl, q⟩) q) ?_
    refine ite2 (fun hc => ?_) fun _ => ?_
    · have hc2 := Bool.and_eq_true_iff.mp (Bool.and_eq_true_iff.mp hc).2
      have hpos : (0 : Int) < (xs.length : Int) := of_decide_eq_true hc2.1
      have hlt : (xs.length : Int) < 30 := of_decide_eq_true hc2.2
      obtain ⟨j, v, l, hj, hjl, hv, hl, hm, ht⟩ := place (row / 12 / 2) (by omega)
      refine ⟨_, rfl, .inl ⟨rfl, _, SqL.of (hL)⟩, _, rfl, _, rfl, _, _, rfl, rfl, ⟨by decide, by decide⟩, _, rfl, _, rfl, B.L, xs, rfl, .inl (SqL.of hL), _, _, rfl, rfl, hpos, B.L, xs, _, v, rfl, rfl, SqL.of hL, at_of hj hv, B.L, xs, _, rfl, rfl, hL, (by rw [sizeLine_eq]; omega), ?_⟩
      have c : Chg [B.L] H (upd H B.L (.lst (xs ++ [v]))) := Chg.put hL (by intro xs z; cases z) (by simp)
      refine k ⟨W.e, W.ls ++ [l]⟩ _ (c.mono B.mut_L) ((hW.upL o c upd_same ?_).mono (by omega)) (hI.add (hI.ls l hm)) (fun d => .same _) ?_
      · rw [List.map_append]
        exact (hx.chg c).append (.cons (ht.chg c) .nil)
      · show (W.ls ++ [l]).length ≤ 30
        rw [List.length_append]
        show W.ls.length + 1 ≤ 30
        omega
    -- a letter is lost
    refine and_ev (fun Q' q => ⟨_, rfl, rfl, _, rfl, q⟩) (fun _ Q' q => ⟨_, rfl, B.L, xs, rfl, .inl (SqL.of hL), _, _, rfl, rfl, _, rfl, q⟩) ?_
    refine ite2 (fun hc => ?_) fun _ => ?_
    · have hpos : (0 : Int) < (xs.length : Int) := of_decide_eq_true (Bool.and_eq_true_iff.mp hc).2
      obtain ⟨j, v, l, hj, hjl, hv, hl, hm, ht⟩ := place (row / 12 / 2) (by omega)
      obtain ⟨c, hW2, hI2, h29⟩ := taken j hjl
      refine ⟨_, rfl, .inl ⟨rfl, _, SqL.of (hL)⟩, _, rfl, _, _, rfl, rfl, ⟨by decide, by decide⟩, _, rfl, _, rfl, B.L, xs, rfl, .inl (SqL.of hL), _, _, rfl, rfl, hpos, B.L, xs, _, j, v, rfl, rfl, hL, by omega, by omega, (by rw [hj]; exact seqIndex_of (by omega) (by omega)), hv, ?_⟩
      exact k _ _ (c.mono B.mut_L) (hW2.mono (by omega)) hI2 (fun d => .same _) (by show (W.ls.eraseIdx j).length ≤ 30; omega)
    -- a splice
    refine and_ev (fun Q' q => ⟨_, rfl, rfl, _, rfl, q⟩) (fun _ Q' q => ⟨_, rfl, _, _, rfl, rfl, ⟨by decide, by decide⟩, _, rfl, _, _, rfl, rfl, (by show (0 : Int) < 3; decide), rfl, _, rfl, q⟩) ?_
    refine ite2 (fun _ => ?_) fun _ => ?_
    · refine ⟨_, rfl, _, _, rfl, rfl, ⟨by decide, by decide⟩, _, rfl, _, _, rfl, rfl, (by show (0 : Int) < 4; decide), _, rfl, _, _, rfl, rfl, ⟨by decide, by decide⟩, _, rfl, _, _, rfl, rfl, (by show (0 : Int) < 6; decide), _, rfl, _, _, rfl, rfl, ⟨by decide, by decide⟩, _, rfl, _, _, rfl, rfl, (by show (0 : Int) < 4; decide), (by show 8 ≤ sizeLine; decide), fun p np => ?_⟩
      have s1 : Same H (upd H p (.tup [.int 7, .int 0, .int 0, .int 4, .int (row / 12 / 6 % 4), .int (row / 12 / 24 % 6), .int (row / 12 / 144 % 4), .int 0])) := Same.new np
      have hsp : TD (upd H p (.tup [.int 7, .int 0, .int 0, .int 4, .int (row / 12 / 6 % 4), .int (row / 12 / 24 % 6), .int (row / 12 / 144 % 4), .int 0])) (.ref p) (Spl.d [7, 0, 0, 4, row / 12 / 6 % 4, row / 12 / 24 % 6, row / 12 / 144 % 4, 0]) := Spl.close_ upd_same
      refine ⟨_, rfl, B.le, rfl, ⟨_, SqL.of (s1 _ _ hW.le)⟩, ?_⟩
      refine for_list (K := K) (a := B.le) (xs := [.ref (B.e false), .ref (B.e true)]) (fun i σ H' => ∃ x : Option V, σ = [some (.ref B.le), some (.ref B.L), some (.int row), some (.ref B.g), some (.int (row % 12)), some (.int (row / 12)), some (.int (row / 12 % 2)), some (.ref p), x] ∧
          Chg B.mut (upd H p (.tup [.int 7, .int 0, .int 0, .int 4, .int (row / 12 / 6 % 4), .int (row / 12 / 24 % 6), .int (row / 12 / 144 % 4), .int 0])) H' ∧ WdAt K H' B (n + i) W)
        ⟨none, rfl, Chg.refl _, hW.sm s1⟩ (fun i σ H' _ ⟨_, _, _, hW'⟩ => SqL.of hW'.le) ?_ ?_
      · rintro i y σ H' hi ⟨x, rfl, c', hW'⟩
        obtain ⟨d, rfl⟩ : ∃ d, y = .ref (B.e d) := by
          match i, hi with
          | 0, hi => exact ⟨false, (Option.some.inj hi).symm⟩
          | 1, hi => exact ⟨true, (Option.some.inj hi).symm⟩
          | i + 2, hi => simp at hi
        have hi2 : i < 2 := (List.getElem?_eq_some_iff.mp hi).1
        obtain ⟨dx', _, _, _, _, _, _, _, _, _, _, _, _, he', _⟩ := (hW'.en d).ob
        refine ⟨_, rfl, _, _, _, rfl, he', zno (by decide +kernel), _, rfl, B.e d, B.f d, B.s d, n + i, W.e d, .ref p, _, 0, 9, rfl, hW'.en d, by omega, hsp.chg c', rfl, fun b H2 s2 => ⟨_, rfl, ?_⟩⟩
        refine ite2 (fun _ => ?_) fun _ => ?_
        · refine ⟨_, rfl, _, _, _, rfl, s2 _ _ he', zno (by decide +kernel), _, rfl, B.e d, B.f d, B.s d, n + i, W.e d, .ref p, _, rfl, (hW'.en d).sm s2, by omega, (hsp.chg c').sm s2, rfl, fun H3 c3 hE => ?_⟩
          exact ⟨_, rfl, (c'.trans (Chg.of s2)).trans (c3.mono (B.mut_s d)), (hW'.sm s2).upS o c3 hE⟩
        · exact ⟨_, rfl, c'.trans (Chg.of s2), (hW'.sm s2).mono (by omega)⟩
      · rintro σ H' ⟨x, rfl, c', hW'⟩
        exact k W H' ((Chg.of s1).trans c') hW' hI (fun d => .same _) h30
    exact ⟨_, rfl, _, rfl, _, rfl, sayAgain W H (Chg.refl _) hW hI (fun d => .same _) h30⟩
end
end K45
set_option Elab.async false
set_option linter.all false
set_option maxRecDepth 100000
set_option maxHeartbeats 4000000
/-! noted states; the two ends close to each other -/
namespace K45
open PySem PySem.Spec PyProof.Rows L2
/-- the notes of an end's states, in the dict at d: at most m -/
def DcAt (H : Hp) (d : Addr) (E : EndD) (m : Nat) : Prop := ∃ kvs : List (Key × V), H d = some (.dK kvs) ∧ kvs.length ≤ m ∧ ∀ k v, valV kvs k = some v → ∃ (z : Int) (s : Stt), k = .inl z ∧ TD H v s.d ∧ Okn E z s
theorem DcAt.chg {S : List Addr} {H H' : Hp} {d : Addr} {E : EndD} {m : Nat} (h : DcAt H d E m) (c : Chg S H H') (hd : d ∉ S) : DcAt H' d E m := by
  obtain ⟨kvs, h1, h2, h3⟩ := h
  refine ⟨kvs, c.ext _ _ h1 hd, h2, fun k v hk => ?_⟩
  obtain ⟨z, s, e1, e2, e3⟩ := h3 k v hk
  exact ⟨z, s, e1, e2.chg c, e3⟩
theorem DcAt.adv {H : Hp} {d : Addr} {E E' : EndD} {m : Nat} (h : DcAt H d E m) (a : Adv E E') : DcAt H d E' m := by
  obtain ⟨kvs, h1, h2, h3⟩ := h
  refine ⟨kvs, h1, h2, fun k v hk => ?_⟩
  obtain ⟨z, s, e1, e2, e3⟩ := h3 k v hk
  exact ⟨z, s, e1, e2, e3.adv a⟩
theorem DcAt.mono {H : Hp} {d : Addr} {E : EndD} {m m' : Nat} (h : DcAt H d E m) (hm : m ≤ m') : DcAt H d E m' := by
  obtain ⟨kvs, h1, h2, h3⟩ := h
  exact ⟨kvs, h1, Nat.le_trans h2 hm, h3⟩
theorem standing_ok {E : EndD} (hn : ∀ ms s, E.opn = some (ms, s) → s.num = E.last.num + 1) {s : Stt} (h : s ∈ standing E) : Okn E s.num s ∧ ∀ s', Okn E s.num s' → s' = s := by
  unfold standing at h
  cases ho : E.opn with
  | none =>
    rw [ho] at h
    obtain rfl := List.mem_singleton.mp h
    refine ⟨.inr (.inl ⟨rfl, rfl⟩), fun s' q => ?_⟩
    rcases q with q | ⟨_, q⟩ | ⟨ms, t, q, _⟩
    · exact absurd q (Int.lt_irrefl _)
    · exact q
    · rw [ho] at q
      cases q
  | some x =>
    obtain ⟨ms, y⟩ := x
    rw [ho] at h
    have e := hn ms y ho
    rcases List.mem_cons.mp h with rfl | h
    · refine ⟨.inr (.inl ⟨rfl, rfl⟩), fun s' q => ?_⟩
      rcases q with q | ⟨_, q⟩ | ⟨ms, t, q, q2, _⟩
      · exact absurd q (Int.lt_irrefl _)
      · exact q
      · omega
    · obtain rfl := List.mem_singleton.mp h
      refine ⟨.inr (.inr ⟨ms, s, ho, e, rfl⟩), fun s' q => ?_⟩
      rcases q with q | ⟨q, _⟩ | ⟨ms', t, q, q2, q3⟩
      · omega
      · omega
      · rw [ho] at q
        cases q
        exact q3
theorem ams_take : ∀ {ls : List Lck} {i : Nat} {l : Lck}, ls[i]? = some l → ams (ls.take (i + 1)) = ams (ls.take i) + l.am
  | [], i, l, h => by simp at h
  | a :: r, 0, l, h => by
    cases h
    show ams [a] = ams [] + a.am
    unfold ams
    simp
  | a :: r, i + 1, l, h => by
    have ih := ams_take (ls := r) (i := i) (l := l) h
    show ams (a :: r.take (i + 1)) = ams (a :: r.take i) + l.am
    unfold ams at *
    rw [List.map_cons, List.sum_cons, List.map_cons, List.sum_cons, ih]
    omega
theorem putK_le {κ : Type} [DecidableEq κ] (c : List (κ × V)) (k : κ) (x : V) : (putK c k x).length ≤ c.length + 1 := by
  unfold putK
  split <;> simp
def spNoted (K : PySem.W.Frag) : Sp := fun vs H Q _ => ∃ (d e ft sl : Addr) (n m : Nat) (E : EndD) (M : Int), vs = [.ref d, .ref e, .int M] ∧ EnAt K H e ft sl n E ∧ DcAt H d E m ∧ m ≤ 1000 ∧ (∀ s ∈ standing E, s.tot = M) ∧ (∀ ms s, E.opn = some (ms, s) → s.num = E.last.num + 1) ∧
  ∀ H', Chg [d] H H' → DcAt H' d E (m + 2) → Q (.bl true) H'
def spLClose (K : PySem.W.Frag) : Sp := fun vs H Q _ => ∃ (e0 f0 s0 e1 f1 s1 : Addr) (n0 n1 : Nat) (E0 E1 : EndD), vs = [.ref e0, .ref e1] ∧ EnAt K H e0 f0 s0 n0 E0 ∧ EnAt K H e1 f1 s1 n1 E1 ∧
  (E0.last.num = E1.last.num → E0.last = E1.last) ∧ (E0.last.num < E1.last.num → ∃ ms, E0.opn = some (ms, E1.last)) ∧ (E1.last.num < E0.last.num → ∃ ms, E1.opn = some (ms, E0.last)) ∧ Q (.bl true) H
section
variable {P : Program} {w : World} {K : PySem.W.Frag} {mg : Str → Option Value} {base : Heap}
theorem scNoted : FnScope ["_law_noted_here", "_law_end", "_law_money", "_law_state", "_law_total", "_law_lock"] ["_law_noted_here", "_law_end", "_law_money"] (defScope sNoted) := ⟨rfl, rfl, rfl, by decide +kernel, rfl, by decide +kernel, by decide +kernel⟩
theorem ok_noted (T : Tx K mg) : CallG P w K mg base 2 "_law_noted" ["_law_noted_here", "_law_end", "_law_money"] (spNoted K) := by
  have GS : CallM P w K mg base 1 "End" "standing" ["self"] (spStanding K) := ok_standing T
  refine mkG_ T.d__law_noted T.g__law_noted (fun _ _ _ _ _ _ us hl => match us, hl with | [_, _, _], _ => rfl) fun fd F => ok_of F scNoted (fun vs H Q E h => ?_) (fun cdv A outer s H vs Q E hr h => ?_)
  · obtain ⟨d, e, ft, sl, n, m, E, M, rfl, _⟩ := h
    rfl
  · obtain ⟨d, e, ft, sl, n, m, E, M, rfl, hE, hD, hm, htot, hnum, k⟩ := h
    obtain ⟨dx, op, af, la, st, nx, a1, a2, a3, a4, a5, a6, a7, he, ho, hla, hop⟩ := hE.ob
    refine ⟨_, pss_cons (ps_for PassesOwn.never rfl (pi_list (pe_M0 (pv 1) GS hr)) (pg_name (i := 3) scNoted.nd rfl (.inl rfl))
        (pss_cons (ps_set (i := 4) scNoted.nd rfl (.inl rfl) (pe_op op_add (pe_ix ix_tup (pv 3) pe_int (fun _ _ => rfl)) (pe_ix ix_tup (pv 3) pe_int (fun _ _ => rfl)))) (pss_cons (ps_for PassesOwn.never rfl (pi_tup (pe_ix ix_tup (pv 3) pe_int (fun _ _ => rfl))) (pg_name (i := 5) scNoted.nd rfl (.inl rfl)) (pss_one (ps_set (i := 4) scNoted.nd rfl (.inl rfl) (pe_op op_add (pv 4) (pe_ix ix_tup (pv 5) pe_int (fun _ _ => rfl)))))) (pss_cons (ps_if (PW.pt (pw_or (pt_cmpR op_ne (pv 4) (pv 2) (nomark _)) (pw_or1 (pt_cmpR (op_neD hr.units) (pe_dget2 (hu_of hr) (pv 0) (pe_ix ix_tup (pv 3) pe_int (fun _ _ => rfl)) (pv 3) ⟨by rfl, by rfl, by rfl, by rfl⟩) (pv 3) (nomark _))))) (pss_one (ps_ret pe_bl)) pss_nil) (pss_one (ps_dput (hu_of hr) (pv 0) (pe_ix ix_tup (pv 3) pe_int (fun _ _ => rfl)) (pv 3) rfl)))))) (pss_one (ps_ret pe_bl)), ?_⟩
    refine ⟨_, rfl, _, _, _, rfl, he, zno (by decide +kernel), e, ft, sl, n, E, rfl, hE, fun p xs H1 s1 np hp hx => ?_⟩
    refine ⟨p, rfl, ⟨_, SqL.of hp⟩, ?_⟩
    have hlen : xs.length = (standing E).length := hx.length.trans (List.length_map _)
    have npd : p ≠ d := by
      obtain ⟨kvs, hd, _⟩ := hD
      exact (ne_of_none hd np).symm
    refine for_list (K := K) (a := p) (xs := xs) (fun i σ H' => ∃ x y z : Option V, σ = [some (.ref d), some (.ref e), some (.int M), x, y, z] ∧ Chg [d] H1 H' ∧ DcAt H' d E (m + i))
      ⟨none, none, none, rfl, Chg.refl _, hD.chg (S := []) (Chg.of s1) (by simp)⟩ (fun i σ H' _ ⟨_, _, _, _, c, _⟩ => SqL.of (c.ext _ _ hp (by simpa using npd))) ?_ ?_
    · rintro i y σ H' hi ⟨x0, y0, z0, rfl, c, hD'⟩
      obtain ⟨dd, hd, hy⟩ := hx.get' hi
      rw [List.getElem?_map] at hd
      obtain ⟨z, hz, rfl⟩ := Option.map_eq_some_iff.mp hd
      have hzm : z ∈ standing E := List.mem_of_getElem? hz
      have hil := (List.getElem?_eq_some_iff.mp hi).1
      have h2 := standing_len E
      have hy' := hy.chg c
      obtain ⟨q, t, ls, rfl, hq, ht, tl⟩ := Stt.open_ hy'
      have hll : ls.length = z.locks.length := tl.length.trans (List.length_map _)
      obtain ⟨kvs, hkd, hkl, hkv⟩ := id hD'
      obtain ⟨ok1, ok2⟩ := standing_ok hnum hzm
      refine ⟨_, rfl, _, _, _, _, rfl, rfl, SqT.of (hq), ati 2 rfl, _, rfl, _, _, _, _, rfl, rfl, SqT.of (hq), ati 3 rfl, _, _, rfl, rfl, _, rfl, _, _, _, _, rfl, rfl, SqT.of (hq), ati 4 rfl, t, rfl, ⟨_, SqT.of ht⟩, ?_⟩
      refine for_tup (K := K) (a := t) (xs := ls) (fun j σ H2 => ∃ x : Option V, σ = [some (.ref d), some (.ref e), some (.int M), some (.ref q), some (.int (z.fst + z.snd + ams (z.locks.take j))), x] ∧ H2 = H')
        ⟨z0, ?_, rfl⟩ (fun j σ H2 _ ⟨_, _, e2⟩ => by rw [e2]; exact SqT.of ht) ?_ ?_
      · show _ = [some (.ref d), some (.ref e), some (.int M), some (.ref q), some (.int (z.fst + z.snd + 0)), z0]
        rw [Int.add_zero]
        rfl
      · rintro j u σ H2 hj ⟨x, rfl, rfl⟩
        obtain ⟨du, hdu, hu⟩ := tl.get' hj
        rw [List.getElem?_map] at hdu
        obtain ⟨lk, hlk, rfl⟩ := Option.map_eq_some_iff.mp hdu
        obtain ⟨r, rfl, hr'⟩ := Lck.open_ hu
        refine ⟨_, rfl, _, rfl, _, _, _, _, rfl, rfl, SqT.of (hr'), ati 1 rfl, _, _, rfl, rfl, some (.ref r), ?_, rfl⟩
        rw [ams_take hlk, ← Int.add_assoc]
        rfl
      · rintro σ H2 ⟨x, rfl, rfl⟩
        rw [List.take_of_length_le (by omega)]
        have et : z.fst + z.snd + ams z.locks = M := htot z hzm
        refine ⟨_, rfl, _, rfl, rfl, _, rfl, iteFD (nbF (int_ et)) ?_⟩
        have val : ∃ u, (valV kvs (.inl z.num)).getD (.ref q) = u ∧ TD H2 u z.d := by
          cases hv : valV kvs (.inl z.num) with
          | none => exact ⟨_, rfl, hy'⟩
          | some u =>
            obtain ⟨z', s', e1, e2, e3⟩ := hkv _ _ hv
            cases e1
            rw [ok2 s' e3] at e2
            exact ⟨u, rfl, e2⟩
        obtain ⟨u, hu, hut⟩ := val
        refine ⟨_, rfl, d, rfl, .inl ⟨kvs, .inl hkd⟩, _, rfl, _, _, _, _, rfl, rfl, SqT.of (hq), ati 1 rfl, _, rfl, valV kvs (.inl z.num), DGet.k (k := Sum.inl z.num) hkd, _, rfl, z.d, z.d, ?_, hy'.dp, z.shaped, z.shaped, _, rfl, iteFD (nbF z.eqv) ?_⟩
        · rw [hu]
          exact hut.dp
        refine ⟨_, rfl, _, rfl, _, rfl, _, _, _, _, rfl, rfl, SqT.of (hq), ati 1 rfl, d, _, rfl, DPut.k (k := Sum.inl z.num) hkd (by rw [sizeLine_eq]; omega), ?_⟩
        have c2 : Chg [d] H2 (upd H2 d (.dK (putK kvs (.inl z.num) (.ref q)))) := Chg.put hkd (by intro xs z; cases z) (by simp)
        refine ⟨_, _, _, rfl, c.trans c2, putK kvs (.inl z.num) (.ref q), upd_same, Nat.le_trans (putK_le _ _ _) (by omega), fun k' v' hk' => ?_⟩
        rw [valV_put] at hk'
        by_cases ek : k' = .inl z.num
        · rw [if_pos ek] at hk'
          cases hk'
          exact ⟨z.num, z, ek, hy'.chg c2, ok1⟩
        · rw [if_neg ek] at hk'
          obtain ⟨z', s', e1, e2, e3⟩ := hkv _ _ hk'
          exact ⟨z', s', e1, e2.chg c2, e3⟩
    · rintro σ H' ⟨x0, y0, z0, rfl, c, hD'⟩
      have h2 := standing_len E
      exact k H' ((Chg.of s1).trans c) (hD'.mono (by omega))
theorem scLClose : FnScope ["_law_one", "_law_two", "_law_behind", "_law_ahead"] ["_law_one", "_law_two"] (defScope sLClose) := ⟨rfl, rfl, rfl, by decide +kernel, rfl, by decide +kernel, by decide +kernel⟩
theorem ok_lclose (T : Tx K mg) : CallG P w K mg base 1 "_law_close" ["_law_one", "_law_two"] (spLClose K) := by
  refine mkG_ T.d__law_close T.g__law_close (fun _ _ _ _ _ _ us hl => match us, hl with | [_, _], _ => rfl) fun fd F => ok_of F scLClose (fun vs H Q E h => ?_) (fun cdv A outer s H vs Q E hr h => ?_)
  · obtain ⟨e0, f0, s0, e1, f1, s1, n0, n1, E0, E1, rfl, _⟩ := h
    rfl
  · obtain ⟨e0, f0, s0, e1, f1, s1, n0, n1, E0, E1, rfl, h0, h1, heq, hlt, hgt, k⟩ := h
    obtain ⟨dx, op, af, la, st, nx, a1, a2, a3, a4, a5, a6, a7, he, ho, hla, hop⟩ := h0.ob
    obtain ⟨dx', op', af', la', st', nx', b1, b2, b3, b4, b5, b6, b7, he', ho', hla', hop'⟩ := h1.ob
    obtain ⟨q, t, ls, rfl, hq, ht, tl⟩ := Stt.open_ (id hla)
    obtain ⟨q', t', ls', rfl, hq', ht', tl'⟩ := Stt.open_ (id hla')
    refine ⟨_, pss_cons (ps_if (pt_cmpR op_eq (pe_ix ix_tup (pe_fld (pv 0) rfl) pe_int (fun _ _ => rfl)) (pe_ix ix_tup (pe_fld (pv 1) rfl) pe_int (fun _ _ => rfl)) (nomark _)) (pss_one (ps_ret (pe_cmpR (op_eqD hr.units) (pe_fld (pv 0) rfl) (pe_fld (pv 1) rfl) (nomark _)))) pss_nil) (pss_cons (ps_set (i := 2) scLClose.nd rfl (.inl rfl) (pe_ifExp (pt_cmpR op_lt (pe_ix ix_tup (pe_fld (pv 0) rfl) pe_int (fun _ _ => rfl)) (pe_ix ix_tup (pe_fld (pv 1) rfl) pe_int (fun _ _ => rfl)) (nomark _)) (pv 0) (pv 1))) (pss_cons (ps_set (i := 3) scLClose.nd rfl (.inl rfl) (pe_ifExp (pt_cmpR op_lt (pe_ix ix_tup (pe_fld (pv 0) rfl) pe_int (fun _ _ => rfl)) (pe_ix ix_tup (pe_fld (pv 1) rfl) pe_int (fun _ _ => rfl)) (nomark _)) (pv 1) (pv 0))) (pss_one (ps_ret (pe_and (pe_cmpR op_notN (pe_fld (pv 2) rfl) (pe_non) (nomark _)) (pe_one (pe_cmpR (op_eqD hr.units) (pe_fld (pv 2) rfl) (pe_fld (pv 3) rfl) (nomark _)))))))), ?_⟩
    refine ⟨_, rfl, _, _, _, _, _, rfl, he, T.c_End, T.n_End_last, zlk K_End_last rfl, _, _, _, _, rfl, rfl, SqT.of (hq), ati 1 rfl, _, rfl, _, _, _, _, _, rfl, he', T.c_End, T.n_End_last, zlk K_End_last rfl, _, _, _, _, rfl, rfl, SqT.of (hq'), ati 1 rfl, rfl, _, rfl, ?_⟩
    by_cases h : E0.last.num = E1.last.num
    · refine iteTD (int_ h) ?_
      have e := heq h
      refine ⟨_, rfl, _, _, _, _, _, rfl, he, T.c_End, T.n_End_last, zlk K_End_last rfl, _, rfl, _, _, _, _, _, rfl, he', T.c_End, T.n_End_last, zlk K_End_last rfl, E0.last.d, E0.last.d, hla.dp, (by rw [e]; exact hla'.dp), E0.last.shaped, E0.last.shaped, ?_⟩
      rw [E0.last.eqv]
      exact k
    · refine iteFD (inv h) ?_
      refine ⟨_, rfl, _, _, _, _, _, rfl, he, T.c_End, T.n_End_last, zlk K_End_last rfl, _, _, _, _, rfl, rfl, SqT.of (hq), ati 1 rfl, _, rfl, _, _, _, _, _, rfl, he', T.c_End, T.n_End_last, zlk K_End_last rfl, _, _, _, _, rfl, rfl, SqT.of (hq'), ati 1 rfl, _, _, rfl, rfl, _, rfl, ?_⟩
      by_cases hl : E0.last.num < E1.last.num
      · refine iteTD (decide_eq_true hl) ?_
        refine ⟨_, rfl, _, rfl, _, _, _, _, _, rfl, he, T.c_End, T.n_End_last, zlk K_End_last rfl, _, _, _, _, rfl, rfl, SqT.of (hq), ati 1 rfl, _, rfl, _, _, _, _, _, rfl, he', T.c_End, T.n_End_last, zlk K_End_last rfl, _, _, _, _, rfl, rfl, SqT.of (hq'), ati 1 rfl, _, _, rfl, rfl, _, rfl, iteTD (decide_eq_true hl) ?_⟩
        obtain ⟨ms, hms⟩ := hlt hl
        rw [hms] at hop
        obtain ⟨u, tu, lu, rfl, _⟩ := Stt.open_ hop.2
        refine ⟨_, rfl, _, rfl, _, _, _, _, _, rfl, he, T.c_End, T.n_End_next, zlk K_End_next rfl, rfl, _, rfl, iteTD (nbT (dne (by intro z; cases z))) ?_⟩
        refine ⟨_, rfl, _, _, _, _, _, rfl, he, T.c_End, T.n_End_next, zlk K_End_next rfl, _, rfl, _, _, _, _, _, rfl, he', T.c_End, T.n_End_last, zlk K_End_last rfl, E1.last.d, E1.last.d, hop.2.dp, hla'.dp, E1.last.shaped, E1.last.shaped, ?_⟩
        rw [E1.last.eqv]
        exact k
      · refine iteFD (decide_eq_false hl) ?_
        refine ⟨_, rfl, _, rfl, _, _, _, _, _, rfl, he, T.c_End, T.n_End_last, zlk K_End_last rfl, _, _, _, _, rfl, rfl, SqT.of (hq), ati 1 rfl, _, rfl, _, _, _, _, _, rfl, he', T.c_End, T.n_End_last, zlk K_End_last rfl, _, _, _, _, rfl, rfl, SqT.of (hq'), ati 1 rfl, _, _, rfl, rfl, _, rfl, iteFD (decide_eq_false hl) ?_⟩
        obtain ⟨ms, hms⟩ := hgt (by omega)
        rw [hms] at hop'
        obtain ⟨u, tu, lu, rfl, _⟩ := Stt.open_ hop'.2
        refine ⟨_, rfl, _, rfl, _, _, _, _, _, rfl, he', T.c_End, T.n_End_next, zlk K_End_next rfl, rfl, _, rfl, iteTD (nbT (dne (by intro z; cases z))) ?_⟩
        refine ⟨_, rfl, _, _, _, _, _, rfl, he', T.c_End, T.n_End_next, zlk K_End_next rfl, _, rfl, _, _, _, _, _, rfl, he, T.c_End, T.n_End_last, zlk K_End_last rfl, E0.last.d, E0.last.d, hop'.2.dp, hla.dp, E0.last.shaped, E0.last.shaped, ?_⟩
        rw [E0.last.eqv]
        exact k
end
end K45
set_option Elab.async false
set_option linter.all false
set_option maxRecDepth 100000
set_option maxHeartbeats 4000000
/-! the law -/
namespace K45
open PySem PySem.Spec PyProof.Rows L2
theorem made_same {H H' : Hp} {x dx C : Addr} (nx : H x = none) (ndx : H dx = none) (c : Chg [x] (upd (upd H dx (.own x)) x (.ins C dx [])) H') : Same H H' := fun b o e => by
  refine c.ext b o ?_ (by simp only [List.mem_singleton]; exact ne_of_none e nx)
  rw [upd_ne (ne_of_none e nx), upd_ne (ne_of_none e ndx)]
  exact e
/-- an address that is free where a new instance stands is free ahead of it, and another one -/
theorem made_free {H : Hp} {x dx y C : Addr} (h : upd (upd H dx (.own x)) x (.ins C dx []) y = none) : H y = none ∧ y ≠ x := by
  have h1 : y ≠ x := by
    intro z
    rw [z, upd_same] at h
    cases h
  rw [upd_ne h1] at h
  have h2 : y ≠ dx := by
    intro z
    rw [z, upd_same] at h
    cases h
  rw [upd_ne h2] at h
  exact ⟨h, h1⟩
theorem cut_ints {rs : List Int} {lo hi : Option Int} {i : Nat} {x : V} (h : (cutV (rs.map V.int) lo hi)[i]? = some x) : ∃ z, x = .int z := by
  have m := List.mem_of_getElem? h
  unfold cutV at m
  have m2 := List.mem_of_mem_drop (List.mem_of_mem_take m)
  obtain ⟨z, _, e⟩ := List.mem_map.mp m2
  exact ⟨z, e.symm⟩
/-- what stands at e, f, s of an end -/
theorem EnAt.some_ {K : PySem.W.Frag} {H : Hp} {e ft sl : Addr} {n : Nat} {E : EndD} (h : EnAt K H e ft sl n E) : (∃ o, H e = some o) ∧ (∃ o, H ft = some o) ∧ ∃ o, H sl = some o := by
  obtain ⟨⟨dx, o, af, la, st, nx, a1, a2, a3, a4, a5, a6, a7, p1, _⟩, ⟨dx2, t, b1, b2, b3, b4, b5, p2, _⟩, xs, ss, p3, _⟩ := h
  exact ⟨⟨_, p1⟩, ⟨_, p2⟩, ⟨_, p3⟩⟩
theorem EnAt.sep {K : PySem.W.Frag} {H : Hp} {e ft sl : Addr} {n : Nat} {E : EndD} (h : EnAt K H e ft sl n E) : e ≠ ft ∧ e ≠ sl ∧ sl ≠ ft := by
  obtain ⟨⟨dx, o, af, la, st, nx, a1, a2, a3, a4, a5, a6, a7, p1, _⟩, ⟨dx2, t, b1, b2, b3, b4, b5, p2, _⟩, xs, ss, p3, _⟩ := h
  exact ⟨ne_of p1 p2 (by intro z; injection z with _ _ z; have := congrArg List.length z; simp [ftKs, enKs] at this), ne_of p1 p3 (by intro z; cases z), ne_of p3 p2 (by intro z; cases z)⟩
def pick {α : Type} (x y : α) : Bool → α := fun b => if b = true then y else x
theorem pick_all {α : Type} {p : α → Prop} {x y : α} (h1 : p x) (h2 : p y) : ∀ b, p (pick x y b)
  | false => h1
  | true => h2
theorem WdAt.chg {K : PySem.W.Frag} {S : List Addr} {H H' : Hp} {A : Adr} {n : Nat} {W : WD} (h : WdAt K H A n W) (c : Chg S H H') (h1 : A.le ∉ S) (h2 : A.g ∉ S) (h3 : A.L ∉ S) (h4 : ∀ b, A.e b ∉ S) (h5 : ∀ b, A.f b ∉ S) (h6 : ∀ b, A.s b ∉ S) : WdAt K H' A n W := by
  obtain ⟨xs, e1, e2⟩ := h.L
  exact ⟨c.ext _ _ h.le h1, fun b => (h.en b).chg c (h4 b) (h5 b) (h6 b), ⟨xs, c.ext _ _ e1 h3, e2.chg c⟩, h.g.chg c h2⟩
theorem standing_tot {M : Int} {W : WD} (I : PInv M W) (b : Bool) : ∀ s ∈ standing (W.e b), s.tot = M := by
  intro s hs
  unfold standing at hs
  cases ho : (W.e b).opn with
  | none =>
    rw [ho] at hs
    rw [List.mem_singleton.mp hs]
    exact I.tot b
  | some x =>
    obtain ⟨ms, y⟩ := x
    rw [ho] at hs
    rcases List.mem_cons.mp hs with rfl | hs
    · exact I.tot b
    · obtain rfl := List.mem_singleton.mp hs
      obtain ⟨c, hc⟩ := I.opn b ms s ho
      exact (nxt_tot hc).trans (I.tot b)
theorem b2z_lt (b : Bool) (j : Nat) (h : b2z b = (j : Int)) : ¬ b2z b < (j : Int) := by omega
theorem b2z_two (b : Bool) : b2z b < ((2 : Nat) : Int) := by cases b <;> decide
theorem pinv0 (a b : Int) : PInv (a + b) ⟨fun _ => ⟨⟨7, 0, a, b, [], false⟩, none⟩, []⟩ := by
  refine ⟨fun b ms s h => (by cases h), fun b => ?_, fun b => Nat.zero_le _, .inl rfl, fun l hl => (by cases hl)⟩
  show _ + _ + ams [] = _
  rw [ams_nil, Int.add_zero]
def spLaw (K : PySem.W.Frag) : Sp := fun vs H Q _ => ∃ (a : Addr) (ns : List Int), vs = [.ref a] ∧ SqL K H a (ns.map V.int) ∧ ns.length ≤ 63 ∧ ∀ H', Q (.bl true) H'
section
variable {P : Program} {w : World} {K : PySem.W.Frag} {mg : Str → Option Value} {base : Heap}
theorem scLaw : FnScope ["_law_script", "_law_rows_here", "_law_settings_here", "_law_opening", "_law_ends", "_law_letters", "_law_notes", "_law_row", "_law_at"] ["_law_script"] (defScope sLaw) := ⟨rfl, rfl, rfl, by decide +kernel, rfl, by decide +kernel, by decide +kernel⟩
theorem ok_law (T : Tx K mg) {fd : FuncData} (F : FnP K "law" "law" sLaw (He.ga K "law") fd) : FnOk P w K mg base CX0 8 (He.ga K "law") fd ["_law_script"] (spLaw K) := by
  have GR : CallG P w K mg base 1 "_law_rows" ["_law_script", "_law_count"] (spRows K) := ok_rows T
  have GD : CallG P w K mg base 7 "_law_deed" ["_law_ends", "_law_letters", "_law_row", "_law_settings_here"] (spDeed K) := ok_deed T
  have GC : CallG P w K mg base 1 "_law_close" ["_law_one", "_law_two"] (spLClose K) := ok_lclose T
  have GN : CallG P w K mg base 2 "_law_noted" ["_law_noted_here", "_law_end", "_law_money"] (spNoted K) := ok_noted T
  have GE : MakeK P w K mg base 3 "End" ["self", "opening", "as_first"] 1 ["as_first"] (spEnInit K) := ok_en_init T
  have GS : MakeK P w K mg base 1 "Settings" ["self", "fee", "lead", "margin", "delay", "far", "least", "farthest", "reveal_lead", "base", "per_mille", "gap"] 0
    ["fee", "lead", "margin", "delay", "far", "least", "farthest", "reveal_lead", "base", "per_mille", "gap"] (spSetInit K) := ok_set_init T
  refine ok_of F scLaw (fun vs H Q E h => ?_) (fun cdv A outer s H vs Q E hr h => ?_)
  · obtain ⟨a, ns, rfl, _⟩ := h
    rfl
  · obtain ⟨a, ns, rfl, hS, hlen, k⟩ := h
    refine ⟨_, pss_cons (ps_set (i := 1) scLaw.nd rfl (.inl rfl) (pe_G GR hr rfl (pa_cons (pv 0) (pa_cons (pe_int) (pa_nil))))) (pss_cons (ps_set (i := 2) scLaw.nd rfl (.inl rfl) (pe_MK0 GS hr rfl (pk_cons pe_int (pk_cons pe_int (pk_cons pe_int (pk_cons pe_int (pk_cons pe_int (pk_cons pe_int (pk_cons pe_int (pk_cons pe_int (pk_cons pe_int (pk_cons pe_int (pk_cons pe_int pk_nil))))))))))))) (pss_cons (ps_set (i := 3) scLaw.nd rfl (.inl rfl) (pe_tup (pa_cons (pe_int) (pa_cons (pe_int) (pa_cons (pe_int) (pa_cons (pe_op op_add pe_int (pe_op op_mod (pe_callTy call_intI (by rfl) T.f_int (by decide +kernel) (pa_cons (pe_ix ix_list (pv 1) pe_int (fun _ _ => rfl)) pa_nil)) pe_int)) (pa_cons (pe_op op_mod (pe_callTy call_intI (by rfl) T.f_int (by decide +kernel) (pa_cons (pe_op op_fdiv (pe_ix ix_list (pv 1) pe_int (fun _ _ => rfl)) pe_int) pa_nil)) pe_int) (pa_cons (pe_int) (pa_cons (pe_int) (pa_nil)))))))))) (pss_cons (ps_set (i := 4) scLaw.nd rfl (.inl rfl) (pe_lst (pa_cons (pe_MK GE hr rfl (pa_cons (pv 3) (pa_nil)) (pk_cons pe_bl pk_nil)) (pa_cons (pe_MK GE hr rfl (pa_cons (pv 3) (pa_nil)) (pk_cons pe_bl pk_nil)) (pa_nil))))) (pss_cons (ps_set (i := 5) scLaw.nd rfl (.inl rfl) (pe_lst pa_nil)) (pss_cons (ps_set (i := 6) scLaw.nd rfl (.inl rfl) (pe_lst (pa_cons (pe_dnewK) (pa_cons (pe_dnewK) (pa_nil))))) (pss_cons (ps_for PassesOwn.never rfl (pi_list (pe_slice sl_list (pv 1) (po_some pe_int) po_none)) (pg_name (i := 7) scLaw.nd rfl (.inl rfl))
        (pss_cons (ps_expr (pe_G GD hr rfl (pa_cons (pv 4) (pa_cons (pv 5) (pa_cons (pe_callTy call_intI (by rfl) T.f_int (by decide +kernel) (pa_cons (pv 7) pa_nil)) (pa_cons (pv 2) (pa_nil))))))) (pss_cons (ps_if (pt_not (pt_val (pe_G GC hr rfl (pa_cons (pe_ix ix_list (pv 4) pe_int (fun _ _ => rfl)) (pa_cons (pe_ix ix_list (pv 4) pe_int (fun _ _ => rfl)) (pa_nil)))))) (pss_one (ps_ret pe_bl)) pss_nil) (pss_one (ps_for PassesOwn.never rfl (pi_range1 rfl T.f_range (pa_cons (pe_int) (pa_nil))) (pg_name (i := 8) scLaw.nd rfl (.inl rfl))
            (pss_one (ps_if (pt_not (pt_val (pe_G GN hr rfl (pa_cons (pe_ix ix_list (pv 6) (pv 8) (fun _ _ => rfl)) (pa_cons (pe_ix ix_list (pv 4) (pv 8) (fun _ _ => rfl)) (pa_cons (pe_op op_add (pe_ix ix_tup (pv 3) pe_int (fun _ _ => rfl)) (pe_ix ix_tup (pv 3) pe_int (fun _ _ => rfl))) (pa_nil))))))) (pss_one (ps_ret pe_bl)) pss_nil))))))) (pss_one (ps_ret pe_bl)))))))), ?_⟩
    -- the rows
    refine ⟨_, rfl, a, ns, rfl, hS, hlen, fun pr rs H1 s1 npr hpr hrs => ?_⟩
    have lk0 : ∃ z0, atI (rs.map V.int) 0 = some (.int z0) := by
      have h0 : 0 < rs.length := by omega
      exact ⟨rs[0], at_of (j := 0) rfl (by rw [List.getElem?_map, List.getElem?_eq_getElem h0]; rfl)⟩
    obtain ⟨z0, hz0⟩ := lk0
    -- the settings
    refine ⟨rfl, rfl, fun g dxg ng ndxg neg => ⟨g, dxg, rfl, upd_same, fun H2 cg hg => ⟨rfl, ?_⟩⟩⟩
    have s2 : Same H1 H2 := made_same ng ndxg cg
    -- the opening
    refine ⟨_, rfl, pr, _, _, _, rfl, rfl, SqL.of (s2 _ _ hpr), hz0, _, rfl, _, _, rfl, rfl, (by show (0 : Int) < 9; decide), _, _, rfl, rfl, _, rfl, pr, _, _, _, rfl, rfl, SqL.of (s2 _ _ hpr), hz0, _, _, rfl, rfl, ⟨by decide, by decide⟩, _, rfl, _, _, rfl, rfl, (by show (0 : Int) < 12; decide), (by show 7 ≤ sizeLine; decide), fun o no => ?_⟩
    have ho3 : upd H2 o (.tup [.int 7, .int 1, .int 2, .int (12 + z0 % 9), .int (z0 / 9 % 12), .int 3, .int 9]) o = some (.tup [.int 7, .int 1, .int 2, .int (12 + z0 % 9), .int (z0 / 9 % 12), .int 3, .int 9]) := upd_same
    have s3 : Same H2 (upd H2 o (.tup [.int 7, .int 1, .int 2, .int (12 + z0 % 9), .int (z0 / 9 % 12), .int 3, .int 9])) := Same.new no
    generalize upd H2 o (.tup [.int 7, .int 1, .int 2, .int (12 + z0 % 9), .int (z0 / 9 % 12), .int 3, .int 9]) = H3 at ho3 s3 ⊢
    generalize 12 + z0 % 9 = m1 at ho3 ⊢
    generalize z0 / 9 % 12 = m2 at ho3 ⊢
    -- the ends
    refine ⟨_, rfl, rfl, rfl, fun e0 dx0 ne0 ndx0 nee0 => ?_⟩
    have so0 : upd (upd H3 dx0 (.own e0)) e0 (.ins (He.ga K "End") dx0 []) o = some (.tup [.int 7, .int 1, .int 2, .int m1, .int m2, .int 3, .int 9]) := by
      rw [upd_ne (ne_of_none ho3 ne0), upd_ne (ne_of_none ho3 ndx0)]
      exact ho3
    refine ⟨e0, dx0, o, true, 7, 1, 2, m1, m2, 3, 9, rfl, upd_same, so0, fun f0 t0 H4 c0 nf0 nt0 hE0 => ⟨rfl, ?_⟩⟩
    have s4 : Same H3 H4 := made_same ne0 ndx0 c0
    have ff0 := made_free nf0
    have ft0 := made_free nt0
    have ho4 := s4 _ _ ho3
    refine ⟨_, rfl, rfl, rfl, fun e1 dx1 ne1 ndx1 nee1 => ?_⟩
    have so1 : upd (upd H4 dx1 (.own e1)) e1 (.ins (He.ga K "End") dx1 []) o = some (.tup [.int 7, .int 1, .int 2, .int m1, .int m2, .int 3, .int 9]) := by
      rw [upd_ne (ne_of_none ho4 ne1), upd_ne (ne_of_none ho4 ndx1)]
      exact ho4
    refine ⟨e1, dx1, o, false, 7, 1, 2, m1, m2, 3, 9, rfl, upd_same, so1, fun f1 t1 H5 c1 nf1 nt1 hE1 => ⟨rfl, ?_⟩⟩
    have s5 : Same H4 H5 := made_same ne1 ndx1 c1
    have ff1 := made_free nf1
    have ft1 := made_free nt1
    have ho5 := s5 _ _ ho4
    have hg5 : SetAt K H5 g := ((hg.sm s3).sm s4).sm s5
    have hE05 := hE0.sm s5
    obtain ⟨dg, g0, g1, g2, g3, g4, g5, g6, g7, g8, g9, g10, hgo⟩ := id hg5
    -- the list of the ends
    refine ⟨(by show 2 ≤ sizeLine; decide), fun le nle => ?_⟩
    have s6 : Same H5 (upd H5 le (.lst [.ref e0, .ref e1])) := Same.new nle
    have hle6 : upd H5 le (.lst [.ref e0, .ref e1]) le = some (.lst [.ref e0, .ref e1]) := upd_same
    generalize upd H5 le (.lst [.ref e0, .ref e1]) = H6 at s6 hle6 ⊢
    -- the letters
    refine ⟨(by show 0 ≤ sizeLine; decide), fun L nL => ?_⟩
    have s7 : Same H6 (upd H6 L (.lst [])) := Same.new nL
    have hL7 : upd H6 L (.lst []) L = some (.lst []) := upd_same
    generalize upd H6 L (.lst []) = H7 at s7 hL7 ⊢
    -- the notes
    intro d0 nd0
    have s8 : Same H7 (upd H7 d0 (.dK [])) := Same.new nd0
    have hd08 : upd H7 d0 (.dK []) d0 = some (.dK []) := upd_same
    generalize upd H7 d0 (.dK []) = H8 at s8 hd08 ⊢
    intro d1 nd1
    have s9 : Same H8 (upd H8 d1 (.dK [])) := Same.new nd1
    have hd19 : upd H8 d1 (.dK []) d1 = some (.dK []) := upd_same
    generalize upd H8 d1 (.dK []) = H9 at s9 hd19 ⊢
    refine ⟨(by show 2 ≤ sizeLine; decide), fun nl nnl => ?_⟩
    have s10 : Same H9 (upd H9 nl (.lst [.ref d0, .ref d1])) := Same.new nnl
    have hnl10 : upd H9 nl (.lst [.ref d0, .ref d1]) nl = some (.lst [.ref d0, .ref d1]) := upd_same
    generalize upd H9 nl (.lst [.ref d0, .ref d1]) = H10 at s10 hnl10 ⊢
    -- the rows but the first
    have hpr10 := s10 _ _ (s9 _ _ (s8 _ _ (s7 _ _ (s6 _ _ (s5 _ _ (s4 _ _ (s3 _ _ (s2 _ _ hpr))))))))
    refine ⟨_, rfl, _, rfl, pr, _, rfl, SqL.of hpr10, fun rw_ nrw => ?_⟩
    have s11 : Same H10 (upd H10 rw_ (.lst (cutV (rs.map V.int) (some 1) none))) := Same.new nrw
    have hrw11 : upd H10 rw_ (.lst (cutV (rs.map V.int) (some 1) none)) rw_ = some (.lst (cutV (rs.map V.int) (some 1) none)) := upd_same
    generalize upd H10 rw_ (.lst (cutV (rs.map V.int) (some 1) none)) = H11 at s11 hrw11 ⊢
    refine ⟨rw_, rfl, ⟨_, SqL.of hrw11⟩, ?_⟩
    -- all that stands, and that no two are one
    have s511 : Same H5 H11 := ((((s6.trans s7).trans s8).trans s9).trans s10).trans s11
    have s611 : Same H6 H11 := (((s7.trans s8).trans s9).trans s10).trans s11
    have s711 : Same H7 H11 := ((s8.trans s9).trans s10).trans s11
    have s811 : Same H8 H11 := (s9.trans s10).trans s11
    have s911 : Same H9 H11 := s10.trans s11
    obtain ⟨⟨_, p0⟩, ⟨_, q0⟩, ⟨_, r0⟩⟩ := hE0.some_
    obtain ⟨⟨_, p1⟩, ⟨_, q1⟩, ⟨_, r1⟩⟩ := hE1.some_
    have sep0 := hE0.sep
    have sep1 := hE1.sep
    have p05 := s5 _ _ p0
    have q05 := s5 _ _ q0
    have r05 := s5 _ _ r0
    have a1 : e0 ≠ e1 := ne_of_none p0 ne1
    have a2 : t0 ≠ t1 := ne_of_none r0 ft1.1
    have a3 : e0 ≠ f1 := ne_of_none p0 ff1.1
    have a4 : e0 ≠ t1 := ne_of_none p0 ft1.1
    have a5 : f0 ≠ e1 := ne_of_none q0 ne1
    have a6 : f0 ≠ t1 := ne_of_none q0 ft1.1
    have a7 : t0 ≠ e1 := ne_of_none r0 ne1
    have a8 : t0 ≠ f1 := ne_of_none r0 ff1.1
    have hg2 := hg
    obtain ⟨dg', h0', h1', h2', h3', h4', h5', h6', h7', h8', h9', h10', hgo2⟩ := hg2
    have hgo3 := s3 _ _ hgo2
    have hgo4 := s4 _ _ hgo3
    have b1 : g ≠ e0 := ne_of_none hgo3 ne0
    have b2 : g ≠ t0 := ne_of_none hgo3 ft0.1
    have b3 : g ≠ e1 := ne_of_none hgo4 ne1
    have b4 : g ≠ t1 := ne_of_none hgo4 ft1.1
    have le_ne : ∀ x, (∃ o, H5 x = some o) → x ≠ le := fun x ⟨_, h⟩ => ne_of_none h nle
    have L_ne : ∀ x, (∃ o, H6 x = some o) → x ≠ L := fun x ⟨_, h⟩ => ne_of_none h nL
    have d0_ne : ∀ x, (∃ o, H7 x = some o) → x ≠ d0 := fun x ⟨_, h⟩ => ne_of_none h nd0
    have d1_ne : ∀ x, (∃ o, H8 x = some o) → x ≠ d1 := fun x ⟨_, h⟩ => ne_of_none h nd1
    have nl_ne : ∀ x, (∃ o, H9 x = some o) → x ≠ nl := fun x ⟨_, h⟩ => ne_of_none h nnl
    have rw_ne : ∀ x, (∃ o, H10 x = some o) → x ≠ rw_ := fun x ⟨_, h⟩ => ne_of_none h nrw
    have up6 : ∀ x, (∃ o, H5 x = some o) → ∃ o, H6 x = some o := fun x ⟨_, h⟩ => ⟨_, s6 _ _ h⟩
    have up7 : ∀ x, (∃ o, H6 x = some o) → ∃ o, H7 x = some o := fun x ⟨_, h⟩ => ⟨_, s7 _ _ h⟩
    have up8 : ∀ x, (∃ o, H7 x = some o) → ∃ o, H8 x = some o := fun x ⟨_, h⟩ => ⟨_, s8 _ _ h⟩
    have up9 : ∀ x, (∃ o, H8 x = some o) → ∃ o, H9 x = some o := fun x ⟨_, h⟩ => ⟨_, s9 _ _ h⟩
    have up10 : ∀ x, (∃ o, H9 x = some o) → ∃ o, H10 x = some o := fun x ⟨_, h⟩ => ⟨_, s10 _ _ h⟩
    let B : Adr := ⟨le, g, L, pick e0 e1, pick f0 f1, pick t0 t1⟩
    have five_e : ∀ b, ∃ o, H5 (pick e0 e1 b) = some o := pick_all (p := fun x => ∃ o, H5 x = some o) ⟨_, p05⟩ ⟨_, p1⟩
    have five_f : ∀ b, ∃ o, H5 (pick f0 f1 b) = some o := pick_all (p := fun x => ∃ o, H5 x = some o) ⟨_, q05⟩ ⟨_, q1⟩
    have five_s : ∀ b, ∃ o, H5 (pick t0 t1 b) = some o := pick_all (p := fun x => ∃ o, H5 x = some o) ⟨_, r05⟩ ⟨_, r1⟩
    have five_g : ∃ o, H5 g = some o := ⟨_, hgo⟩
    have six_le : ∃ o, H6 le = some o := ⟨_, hle6⟩
    have sev_L : ∃ o, H7 L = some o := ⟨_, hL7⟩
    have ok : B.Ok := {
      ee := a1
      ss := a2
      ef := fun b c => match b, c with
        | false, false => sep0.1
        | false, true => a3
        | true, false => a5.symm
        | true, true => sep1.1
      es := fun b c => match b, c with
        | false, false => sep0.2.1
        | false, true => a4
        | true, false => a7.symm
        | true, true => sep1.2.1
      sf := fun b c => match b, c with
        | false, false => sep0.2.2
        | false, true => a8
        | true, false => a6.symm
        | true, true => sep1.2.2
      eg := pick_all (p := fun x => x ≠ g) b1.symm b3.symm
      el := fun b => le_ne _ (five_e b)
      eL := fun b => L_ne _ (up6 _ (five_e b))
      sg := pick_all (p := fun x => x ≠ g) b2.symm b4.symm
      sl := fun b => le_ne _ (five_s b)
      sL := fun b => L_ne _ (up6 _ (five_s b))
      Lf := fun b => (L_ne _ (up6 _ (five_f b))).symm
      Lg := (L_ne _ (up6 _ five_g)).symm
      Ll := (L_ne _ six_le).symm }
    have W0 : WdAt K H11 B 0 ⟨fun _ => ⟨⟨7, 0, m1, m2, [], false⟩, none⟩, []⟩ := {
      le := s611 _ _ hle6
      en := fun b => match b with
        | false => hE05.sm s511
        | true => hE1.sm s511
      L := ⟨[], s711 _ _ hL7, .nil⟩
      g := hg5.sm s511 }
    have seven : ∀ x ∈ B.mut, ∃ o, H7 x = some o := by
      intro x hx
      have hx : x = L ∨ x = e0 ∨ x = e1 ∨ x = t0 ∨ x = t1 := by
        have h2 : x ∈ [L, e0, e1, t0, t1] := hx
        simpa using h2
      rcases hx with rfl | rfl | rfl | rfl | rfl
      · exact sev_L
      · exact up7 _ (up6 _ (five_e false))
      · exact up7 _ (up6 _ (five_e true))
      · exact up7 _ (up6 _ (five_s false))
      · exact up7 _ (up6 _ (five_s true))
    have eight_d0 : ∃ o, H8 d0 = some o := ⟨_, hd08⟩
    have nine : ∀ x ∈ B.mut ++ [d0, d1], ∃ o, H9 x = some o := by
      intro x hx
      rcases List.mem_append.mp hx with h | h
      · exact up9 _ (up8 _ (seven x h))
      · have h : x = d0 ∨ x = d1 := by simpa using h
        rcases h with rfl | rfl
        · exact up9 _ eight_d0
        · exact ⟨_, hd19⟩
    have nlS : nl ∉ B.mut ++ [d0, d1] := fun h => nl_ne nl (nine nl h) rfl
    have rwS : rw_ ∉ B.mut ++ [d0, d1] := fun h => rw_ne rw_ (up10 _ (nine rw_ h)) rfl
    have dM : ∀ b, pick d0 d1 b ∉ B.mut := pick_all (p := fun x => x ∉ B.mut) (fun h => d0_ne d0 (seven d0 h) rfl) (fun h => d1_ne d1 (up8 _ (seven d1 h)) rfl)
    have d01 : d0 ≠ d1 := d1_ne d0 eight_d0
    have dN : ∀ x, (∃ o, H7 x = some o) → x ∉ [d0, d1] := fun x h z => by
      have z : x = d0 ∨ x = d1 := by simpa using z
      rcases z with z | z
      · exact d0_ne x h z
      · exact d1_ne x (up8 _ h) z
    have keepD : ∀ {H H' : Hp} {n : Nat} {W : WD}, WdAt K H B n W → Chg [d0, d1] H H' → WdAt K H' B n W := fun h c =>
      h.chg c (dN le (up7 _ six_le)) (dN g (up7 _ (up6 _ five_g))) (dN L sev_L) (fun b => dN _ (up7 _ (up6 _ (five_e b)))) (fun b => dN _ (up7 _ (up6 _ (five_f b)))) (fun b => dN _ (up7 _ (up6 _ (five_s b))))
    have hnl11 := s11 _ _ hnl10
    have ho11 := s511 _ _ ho5
    have hcl : (cutV (rs.map V.int) (some 1) none).length ≤ 51 := by
      refine Nat.le_trans (cutV_length _ _ _) ?_
      rw [List.length_map]
      omega
    refine for_list (K := K) (a := rw_) (xs := cutV (rs.map V.int) (some 1) none) (fun i σ H' => ∃ (x y : Option V) (W : WD), σ = [some (.ref a), some (.ref pr), some (.ref g), some (.ref o), some (.ref le), some (.ref L), some (.ref nl), x, y] ∧
        Chg (B.mut ++ [d0, d1]) H11 H' ∧ WdAt K H' B (2 * i) W ∧ PInv (m1 + m2) W ∧ W.ls.length ≤ 30 ∧ ∀ b, DcAt H' (pick d0 d1 b) (W.e b) (2 * i))
      ⟨none, none, _, rfl, Chg.refl _, W0, pinv0 m1 m2, Nat.zero_le _, pick_all (p := fun x => DcAt H11 x _ (2 * 0)) ⟨[], s811 _ _ hd08, Nat.le_refl _, fun k v h => (by cases h)⟩ ⟨[], s911 _ _ hd19, Nat.le_refl _, fun k v h => (by cases h)⟩⟩
      (fun i σ H' _ ⟨_, _, _, _, c, _⟩ => SqL.of (c.ext _ _ hrw11 rwS)) ?_ ?_
    · rintro i y σ H' hi ⟨x0, y0, W, rfl, c, hW, hI, h30, hD⟩
      obtain ⟨z, rfl⟩ := cut_ints hi
      have hil := (List.getElem?_eq_some_iff.mp hi).1
      -- the deed
      refine ⟨_, rfl, _, rfl, _, rfl, _, rfl, _, rfl, B, 2 * i, W, m1 + m2, z, rfl, ok, hW, hI, h30, by omega, fun W' H2 c2 hW2 hI2 ad h2 => ?_⟩
      -- the ends are close
      refine ⟨_, rfl, _, _, _, _, rfl, rfl, SqL.of (hW2.le), ends_ref B false, _, rfl, _, _, _, _, rfl, rfl, SqL.of (hW2.le), ends_ref B true, B.e false, B.f false, B.s false, B.e true, B.f true, B.s true, _, _, W'.e false, W'.e true, rfl, hW2.en false, hW2.en true,
        fun h => hI2.same (b := false) h, fun h => hI2.behind (b := false) h, fun h => hI2.behind (b := true) h, _, rfl, ?_⟩
      -- the notes
      refine ⟨2, rfl, by decide, by decide, ?_⟩
      have cS : Chg (B.mut ++ [d0, d1]) H11 H2 := c.trans (c2.mono fun x h => List.mem_append_left _ h)
      refine for_range (lo := 0) (n := 2) (fun j σ H3 => ∃ y : Option V, σ = [some (.ref a), some (.ref pr), some (.ref g), some (.ref o), some (.ref le), some (.ref L), some (.ref nl), some (.int z), y] ∧
          Chg [d0, d1] H2 H3 ∧ ∀ b, DcAt H3 (pick d0 d1 b) (W'.e b) (if b2z b < (j : Int) then 2 * i + 2 else 2 * i))
        ⟨_, rfl, Chg.refl _, fun b => ?_⟩ ?_ ?_
      · rw [if_neg (by cases b <;> decide)]
        exact ((hD b).adv (ad b)).chg c2 (dM b)
      · rintro j σ H3 hj ⟨y1, rfl, c3, hD3⟩
        obtain ⟨b, hb⟩ : ∃ b, b2z b = (j : Int) := by
          match j, hj with
          | 0, _ => exact ⟨false, rfl⟩
          | 1, _ => exact ⟨true, rfl⟩
        have hb0 : 0 + (j : Int) = b2z b := by omega
        have hW3 := keepD hW2 c3
        have cS3 : Chg (B.mut ++ [d0, d1]) H11 H3 := cS.trans (c3.mono fun x h => List.mem_append_right _ h)
        have hn3 := cS3.ext _ _ hnl11 nlS
        have ho3' := cS3.tup _ _ ho11
        have at1 : atI [V.ref d0, V.ref d1] (0 + (j : Int)) = some (.ref (pick d0 d1 b)) := by
          rw [hb0]
          cases b <;> rfl
        have at2 : atI [V.ref (B.e false), V.ref (B.e true)] (0 + (j : Int)) = some (.ref (B.e b)) := by
          rw [hb0]
          exact ends_ref B b
        have hDb := hD3 b
        rw [if_neg (b2z_lt b j hb)] at hDb
        refine ⟨_, rfl, _, rfl, _, _, _, _, rfl, rfl, SqL.of (hn3), at1, _, rfl, _, rfl, _, _, _, _, rfl, rfl, SqL.of (hW3.le), at2, _, rfl, _, _, _, _, rfl, rfl, SqT.of (ho3'), ati 3 rfl, _, rfl, _, _, _, _, rfl, rfl, SqT.of (ho3'), ati 4 rfl, _, _, rfl, rfl, pick d0 d1 b, B.e b, B.f b, B.s b, _, 2 * i, W'.e b, m1 + m2, rfl, hW3.en b, hDb, by omega, standing_tot hI2 b,
          fun ms s hs => ?_, fun H4 c4 hD4 => ⟨_, rfl, ?_⟩⟩
        · obtain ⟨cc, hc⟩ := hI2.opn b ms s hs
          exact nxt_num hc
        · refine ⟨_, rfl, c3.trans (c4.mono fun x h => ?_), fun d => ?_⟩
          · rw [List.mem_singleton.mp h]
            cases b <;> simp [pick]
          · rcases bool_or b d with rfl | rfl
            · rw [if_pos (by omega)]
              exact hD4
            · have hne : pick d0 d1 (!b) ∉ [pick d0 d1 b] := by
                cases b
                · simpa [pick] using d01.symm
                · simpa [pick] using d01
              refine ((hD3 (!b)).chg c4 hne).mono ?_
              split <;> split <;> omega
      · rintro σ H3 ⟨y1, rfl, c3, hD3⟩
        refine ⟨_, _, W', rfl, cS.trans (c3.mono fun x h => List.mem_append_right _ h), keepD hW2 c3, hI2, h2, fun b => ?_⟩
        have q := hD3 b
        rw [if_pos (b2z_two b)] at q
        exact q
    · rintro σ H' ⟨x0, y0, W, rfl, _⟩
      exact k _
end
end K45
set_option Elab.async false
set_option linter.all false
set_option maxRecDepth 100000
set_option maxHeartbeats 0
noncomputable section
namespace K45
open PySem PySem.Spec PyProof.Rows L2
def mkG (x : Str) (st : Stmt) : He.DefD := ⟨(x, none), x, x, defArgs st, defBody st, defScope st, [], []⟩
def mkM (c m q : Str) (st : Stmt) : He.DefD := ⟨(c, some m), m, q, defArgs st, defBody st, defScope st, [], []⟩
def fn : List He.DefD := [
  mkG "changes" sChanges,
  mkM "Footing" "__init__" "Footing.__init__" sFootInit,
  mkM "Footing" "cover" "Footing.cover" sCover,
  mkG "copy_footing" sCopyFoot,
  mkG "is_borne" sBorne,
  mkG "was_opened" sOpened,
  mkG "opening_state" sOpening,
  mkG "key_of" sKeyOf,
  mkG "sums_with" sSums,
  mkG "first_proposes" sFirst,
  mkM "Draft" "__init__" "Draft.__init__" sDrInit,
  mkM "Draft" "make" "Draft.make" sMake,
  mkM "Draft" "can_spend" "Draft.can_spend" sCan,
  mkM "Draft" "lock_at" "Draft.lock_at" sLockAt,
  mkM "Draft" "put_lock" "Draft.put_lock" sPut,
  mkM "Draft" "take_paid" "Draft.take_paid" sPaid,
  mkM "Draft" "drop_lock" "Draft.drop_lock" sDrop,
  mkM "Draft" "take_back" "Draft.take_back" sBack,
  mkM "Draft" "hand_over" "Draft.hand_over" sHand,
  mkM "Draft" "finish_up" "Draft.finish_up" sFin,
  mkM "Draft" "as_state" "Draft.as_state" sAsState,
  mkG "next_state" sNext,
  mkG "agrees_move" sAgM,
  mkG "agrees" sAgr,
  mkM "End" "__init__" "End.__init__" sEndInit,
  mkM "End" "standing" "End.standing" sStanding,
  mkM "End" "is_busy" "End.is_busy" sBusy,
  mkM "End" "is_turn" "End.is_turn" sTurn,
  mkM "End" "propose" "End.propose" sPropose,
  mkM "End" "hear_step" "End.hear_step" sHearStep,
  mkM "End" "close_step" "End.close_step" sClose,
  mkM "End" "hear_answer" "End.hear_answer" sHearAns,
  mkM "End" "cover_with" "End.cover_with" sCovWith,
  mkM "End" "may_sign" "End.may_sign" sMaySign,
  mkM "End" "sign" "End.sign" sSign,
  mkM "Settings" "__init__" "Settings.__init__" sSetInit,
  mkG "_law_rows" sRows,
  mkG "_law_key" sKey,
  mkG "_law_move" sMove,
  mkG "_law_moves" sMoves,
  mkG "_law_say" sSay,
  mkG "_law_hear" sHear,
  mkG "_law_deed" sDeed,
  mkG "_law_noted" sNoted,
  mkG "_law_close" sLClose,
  mkG "law" sLaw]
def gls : List Str := ["changes", "Footing", "copy_footing", "is_borne", "was_opened", "opening_state", "key_of", "sums_with", "first_proposes", "Draft", "next_state", "agrees_move", "agrees", "End", "Settings",
  "_law_rows", "_law_key", "_law_move", "_law_moves", "_law_say", "_law_hear", "_law_deed", "_law_noted", "_law_close", "law"]
def frs0 : List Str := ["len", "int", "range", "tuple", "list", "min", "max", "all"]
def ftMs : List Str := ["cover"]
def drMs : List Str := ["make", "can_spend", "lock_at", "put_lock", "take_paid", "drop_lock", "take_back", "hand_over", "finish_up", "as_state"]
def enMs : List Str := ["standing", "is_busy", "is_turn", "propose", "hear_step", "close_step", "hear_answer", "cover_with", "may_sign", "sign"]
def fa : List He.Fa := gls.map .glo ++ frs0.map .free
  ++ [.int "FACTOR" 1103515245, .int "SHIFT" 12345, .int "KEYS" 4294967296, .int "MOST_MONEY_reasons" 1000000000000000, .int "MOST_LOCKS" 8, .int "MOST_OPEN" 4,
    .int "MOST_MONEY_settings" 1000000000000000, .int "MOST_HEIGHT" 1000000000000, .int "MOST_SHARE" 100000]
  ++ (["Footing", "Draft", "End", "Settings"] : List Str).map .cls ++ (["Footing", "Draft", "End", "Settings"] : List Str).map .mkr
  ++ ftKs.map (.noat "Footing") ++ drKs.map (.noat "Draft") ++ enKs.map (.noat "End") ++ seKs.map (.noat "Settings")
  ++ ftMs.map (.meth "Footing") ++ drMs.map (.meth "Draft") ++ enMs.map (.meth "End")
abbrev R : PySem.W.OpenRow := PySem.W.OpenLaw.row PySem.Challenge.rw_turnpike_k45_whole_two_ends_agree
abbrev hk : PySem.W.Hook := He.hookD 5 fa fn
noncomputable def ob (s : PySem.W.SharedT) : He.AlD := He.obsDG 5 fa fn (HandSHeadRun.getT s)
theorem ob_eq (s : PySem.W.SharedT) : ob s = hk.obs s.abs := He.obsDG_eq (HandSHeadRun.getT_eq s)
def loose1 : List Str := ["_wall", "changes", "Footing", "copy_footing", "is_borne", "was_opened", "opening_state", "FACTOR", "SHIFT", "KEYS", "key_of", "MOST_MONEY_reasons", "sums_with", "MOST_LOCKS", "first_proposes", "Draft", "next_state", "agrees_move", "agrees", "MOST_OPEN"]
def loose2 : List Str := ["End", "TurnpikeError", "InvalidSettings", "MOST_MONEY_settings", "MOST_HEIGHT", "MOST_SHARE", "Settings", "_law_rows", "_law_key", "_law_settings", "_law_move", "_law_moves", "_law_receipts", "_law_say", "_law_hear", "_law_deed", "_law_noted", "_law_close"]
def loose : List Str := loose1 ++ loose2
theorem run (w : World) : HandSHeadRun.RunEq R (PySem.W.view R.prog [49]) hk ob 6000 loose w := by
  intro os
  kernel_rfl
end K45
end
set_option Elab.async false
set_option linter.all false
set_option maxRecDepth 100000
set_option maxHeartbeats 4000000
namespace K45
open PySem PySem.Spec PyProof.Rows L2
theorem tx_of {K : PySem.W.Frag} {h : Heap} {mg : Str → Option Value} (X : K.In h) (G : h.Ns mainGlobals mg) (c : He.SaysD fa fn K) : Tx K mg where
  g_changes := He.glo_ok X G (c.fact 0)
  g_Footing := He.glo_ok X G (c.fact 1)
  g_copy_footing := He.glo_ok X G (c.fact 2)
  g_is_borne := He.glo_ok X G (c.fact 3)
  g_was_opened := He.glo_ok X G (c.fact 4)
  g_opening_state := He.glo_ok X G (c.fact 5)
  g_key_of := He.glo_ok X G (c.fact 6)
  g_sums_with := He.glo_ok X G (c.fact 7)
  g_first_proposes := He.glo_ok X G (c.fact 8)
  g_Draft := He.glo_ok X G (c.fact 9)
  g_next_state := He.glo_ok X G (c.fact 10)
  g_agrees_move := He.glo_ok X G (c.fact 11)
  g_agrees := He.glo_ok X G (c.fact 12)
  g_End := He.glo_ok X G (c.fact 13)
  g_Settings := He.glo_ok X G (c.fact 14)
  g__law_rows := He.glo_ok X G (c.fact 15)
  g__law_key := He.glo_ok X G (c.fact 16)
  g__law_move := He.glo_ok X G (c.fact 17)
  g__law_moves := He.glo_ok X G (c.fact 18)
  g__law_say := He.glo_ok X G (c.fact 19)
  g__law_hear := He.glo_ok X G (c.fact 20)
  g__law_deed := He.glo_ok X G (c.fact 21)
  g__law_noted := He.glo_ok X G (c.fact 22)
  g__law_close := He.glo_ok X G (c.fact 23)
  g_law := He.glo_ok X G (c.fact 24)
  f_len := He.free_ok X G (c.fact 25)
  f_int := He.free_ok X G (c.fact 26)
  f_range := He.free_ok X G (c.fact 27)
  f_tuple := He.free_ok X G (c.fact 28)
  f_list := He.free_ok X G (c.fact 29)
  f_min := He.free_ok X G (c.fact 30)
  f_max := He.free_ok X G (c.fact 31)
  f_all := He.free_ok X G (c.fact 32)
  i_FACTOR := He.int_ok X G (c.fact 33)
  i_SHIFT := He.int_ok X G (c.fact 34)
  i_KEYS := He.int_ok X G (c.fact 35)
  i_MOST_MONEY_reasons := He.int_ok X G (c.fact 36)
  i_MOST_LOCKS := He.int_ok X G (c.fact 37)
  i_MOST_OPEN := He.int_ok X G (c.fact 38)
  i_MOST_MONEY_settings := He.int_ok X G (c.fact 39)
  i_MOST_HEIGHT := He.int_ok X G (c.fact 40)
  i_MOST_SHARE := He.int_ok X G (c.fact 41)
  c_Footing := He.cls_ok (c.fact 42)
  c_Draft := He.cls_ok (c.fact 43)
  c_End := He.cls_ok (c.fact 44)
  c_Settings := He.cls_ok (c.fact 45)
  k_Footing := He.mkr_ok (c.fact 46)
  k_Draft := He.mkr_ok (c.fact 47)
  k_End := He.mkr_ok (c.fact 48)
  k_Settings := He.mkr_ok (c.fact 49)
  n_Footing_sums := He.noat_ok (c.fact 50)
  n_Footing_taken := He.noat_ok (c.fact 51)
  n_Footing_splices := He.noat_ok (c.fact 52)
  n_Draft_from_first := He.noat_ok (c.fact 53)
  n_Draft_own := He.noat_ok (c.fact 54)
  n_Draft_others := He.noat_ok (c.fact 55)
  n_Draft_spare := He.noat_ok (c.fact 56)
  n_Draft_locks := He.noat_ok (c.fact 57)
  n_Draft_closed := He.noat_ok (c.fact 58)
  n_End_opening := He.noat_ok (c.fact 59)
  n_End_as_first := He.noat_ok (c.fact 60)
  n_End_last := He.noat_ok (c.fact 61)
  n_End_step := He.noat_ok (c.fact 62)
  n_End_next := He.noat_ok (c.fact 63)
  n_End_frozen := He.noat_ok (c.fact 64)
  n_End_leaving := He.noat_ok (c.fact 65)
  n_End_footing := He.noat_ok (c.fact 66)
  n_End_there := He.noat_ok (c.fact 67)
  n_Settings_fee := He.noat_ok (c.fact 68)
  n_Settings_lead := He.noat_ok (c.fact 69)
  n_Settings_margin := He.noat_ok (c.fact 70)
  n_Settings_delay := He.noat_ok (c.fact 71)
  n_Settings_far := He.noat_ok (c.fact 72)
  n_Settings_least := He.noat_ok (c.fact 73)
  n_Settings_farthest := He.noat_ok (c.fact 74)
  n_Settings_reveal_lead := He.noat_ok (c.fact 75)
  n_Settings_base := He.noat_ok (c.fact 76)
  n_Settings_per_mille := He.noat_ok (c.fact 77)
  n_Settings_gap := He.noat_ok (c.fact 78)
  m_Footing_cover := He.meth_ok (c.fact 79)
  m_Draft_make := He.meth_ok (c.fact 80)
  m_Draft_can_spend := He.meth_ok (c.fact 81)
  m_Draft_lock_at := He.meth_ok (c.fact 82)
  m_Draft_put_lock := He.meth_ok (c.fact 83)
  m_Draft_take_paid := He.meth_ok (c.fact 84)
  m_Draft_drop_lock := He.meth_ok (c.fact 85)
  m_Draft_take_back := He.meth_ok (c.fact 86)
  m_Draft_hand_over := He.meth_ok (c.fact 87)
  m_Draft_finish_up := He.meth_ok (c.fact 88)
  m_Draft_as_state := He.meth_ok (c.fact 89)
  m_End_standing := He.meth_ok (c.fact 90)
  m_End_is_busy := He.meth_ok (c.fact 91)
  m_End_is_turn := He.meth_ok (c.fact 92)
  m_End_propose := He.meth_ok (c.fact 93)
  m_End_hear_step := He.meth_ok (c.fact 94)
  m_End_close_step := He.meth_ok (c.fact 95)
  m_End_hear_answer := He.meth_ok (c.fact 96)
  m_End_cover_with := He.meth_ok (c.fact 97)
  m_End_may_sign := He.meth_ok (c.fact 98)
  m_End_sign := He.meth_ok (c.fact 99)
  d_changes := c.def_ 0
  d_Footing___init__ := c.def_ 1
  d_Footing_cover := c.def_ 2
  d_copy_footing := c.def_ 3
  d_is_borne := c.def_ 4
  d_was_opened := c.def_ 5
  d_opening_state := c.def_ 6
  d_key_of := c.def_ 7
  d_sums_with := c.def_ 8
  d_first_proposes := c.def_ 9
  d_Draft___init__ := c.def_ 10
  d_Draft_make := c.def_ 11
  d_Draft_can_spend := c.def_ 12
  d_Draft_lock_at := c.def_ 13
  d_Draft_put_lock := c.def_ 14
  d_Draft_take_paid := c.def_ 15
  d_Draft_drop_lock := c.def_ 16
  d_Draft_take_back := c.def_ 17
  d_Draft_hand_over := c.def_ 18
  d_Draft_finish_up := c.def_ 19
  d_Draft_as_state := c.def_ 20
  d_next_state := c.def_ 21
  d_agrees_move := c.def_ 22
  d_agrees := c.def_ 23
  d_End___init__ := c.def_ 24
  d_End_standing := c.def_ 25
  d_End_is_busy := c.def_ 26
  d_End_is_turn := c.def_ 27
  d_End_propose := c.def_ 28
  d_End_hear_step := c.def_ 29
  d_End_close_step := c.def_ 30
  d_End_hear_answer := c.def_ 31
  d_End_cover_with := c.def_ 32
  d_End_may_sign := c.def_ 33
  d_End_sign := c.def_ 34
  d_Settings___init__ := c.def_ 35
  d__law_rows := c.def_ 36
  d__law_key := c.def_ 37
  d__law_move := c.def_ 38
  d__law_moves := c.def_ 39
  d__law_say := c.def_ 40
  d__law_hear := c.def_ 41
  d__law_deed := c.def_ 42
  d__law_noted := c.def_ 43
  d__law_close := c.def_ 44
  d_law := c.def_ 45
end K45
set_option Elab.async false
set_option linter.all false
set_option maxRecDepth 100000
set_option maxHeartbeats 0
/-! the end -/
namespace K45
open PySem PySem.Spec PyProof.Rows L2
theorem facts {P : Program} {w : World} {K : PySem.W.Frag} {h : Heap} {mg : Str → Option Value} {f : Addr} (X : K.In h) (G : h.Ns mainGlobals mg) (hfa : mg ("law" : Str) = some (.ref f)) (c : He.SaysD fa fn K) :
    ∃ fd : FuncData, (∀ (s : Shared) (v : Value), BindsTo s fd ⟨[v], []⟩ [("_law_script", v)]) ∧ ∀ base : Heap, K.In base → base.Ns mainGlobals mg → FnOk P w K mg base CX0 8 f fd ["_law_script"] (spLaw K) := by
  have T : Tx K mg := tx_of X G c
  obtain ⟨fd, F⟩ := T.d_law
  have e := hfa.symm.trans T.g_law
  cases e
  have b := FunD.bindsA (ps := ["_law_script"]) F fun _ _ _ _ _ _ us hl => match us, hl with | [_], _ => rfl
  exact ⟨fd, fun s v => b s [v] rfl, fun base _ _ => ok_law T F⟩
end K45
open PySem PySem.W PySem.Calls PyProof.Rows
set_option maxRecDepth 100000 in
set_option maxHeartbeats 0 in
theorem PySem.Challenge.cw_turnpike_k45_whole_two_ends_agree_holds : PySem.Challenge.rw_turnpike_k45_whole_two_ends_agree.Holds := by
  w_on; o_law
  refine HandSHeadRun.head_any (r := OpenLaw.row PySem.Challenge.rw_turnpike_k45_whole_two_ends_agree) (q := view (OpenLaw.row PySem.Challenge.rw_turnpike_k45_whole_two_ends_agree).prog [49]) (H := K45.hk) (ob := K45.ob) (M := 6000) (loose := K45.loose)
    (d := HandSHeadRun.topDef (OpenLaw.row PySem.Challenge.rw_turnpike_k45_whole_two_ends_agree).prog 49) (kwd := []) K45.ob_eq
    (by kernel_rfl) (fun s => by kernel_rfl) K45.run (by kernel_rfl) (by kernel_rfl) (by kernel_rfl) (by rfl) (by first | assumption | decide +kernel) (by decide +kernel) ⟨rfl, rfl, rfl, rfl, rfl, by decide +kernel⟩ ?hw ?hc
  case hw => w_witness2
  case hc =>
    refine L2.walk_ofE (l := PySem.Challenge.rw_turnpike_k45_whole_two_ends_agree) (n := 63) (k := 8) (x := "_law_script") (CX := L2.CX0) rfl (by decide) (by kernel_rfl) ⟨rfl, by decide, by decide⟩ ?F (fun _ _ _ _ z => z)
    intro w mg fa h Y G hmg0
    obtain ⟨K, KX, c⟩ := Y
    have hmg : mg ("law" : PySem.Str) = some (.ref fa) := by
      have e : (HandSHeadRun.topDef (OpenLaw.row PySem.Challenge.rw_turnpike_k45_whole_two_ends_agree).prog 49).name = ("law" : PySem.Str) := by kernel_rfl
      rw [← e]
      exact hmg0
    obtain ⟨fd, hb, hF⟩ := K45.facts (P := (PySem.Challenge.rw_turnpike_k45_whole_two_ends_agree).prog) (w := w) KX G hmg c
    exact ⟨K, fd, K45.spLaw K, KX, hb, fun H a ns hl _ hS => ⟨a, ns, rfl, hS, hl, fun _ => rfl⟩, hF⟩
