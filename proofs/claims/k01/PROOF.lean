import PyProof.Rows.All
import Wide.All
import OpenK.AllK
import Wide.FinOn
import HandS.ForMost
import HandS.Evl
import HandS.Style
import HandS.IsInst
import HandS.Strs
import HandS.Set
import PyProof.Rows.SetFrom
import HandS.Walk
import HandS.Conv
import KE.KDictDisplayH
import KE.KAssignIn
import HandS.Exc
import HandS.ExcOwn
import HandS.ExcInit
import HandS.ExcField
import HandS.ExcIs
import HandS.TryOnly
import HandS.WordsExc
import HandS.CallSlots
import HandS.Hot
import HandS.HotCalls
import HandS.ExcInitHot
import HandS.Lambda
import HandS.EndOwn
import KE.KDflt
import KE.KExcIs
import KE.KNestM
import PySem.Challenge.RW_crossbeat_k01_what_is_none
set_option Elab.async false
set_option linter.all false
set_option maxRecDepth 100000
set_option maxHeartbeats 4000000
namespace G
open PySem L2 Evl
def topS (i : Nat) : Stmt := PySem.Challenge.pw_crossbeat_k01_what_is_none.main.body.getD i (.Pass ⟨0, 0, 0, 0⟩)
abbrev s_l_off : Stmt := topS 40
theorem sc_l_off : FnScope ["_law_d", "_law_most", "_law_found"] ["_law_d", "_law_most"] (defScope s_l_off) := ⟨rfl, rfl, rfl, by decide +kernel, rfl, by decide +kernel, by decide +kernel⟩
abbrev s_l_bad : Stmt := topS 48
theorem sc_l_bad : FnScope ["_law_d", "_law_words_here", "_law_at", "_law_wide", "_law_some", "_law_bad_here"] ["_law_d", "_law_words_here"] (defScope s_l_bad) := ⟨rfl, rfl, rfl, by decide +kernel, rfl, by decide +kernel, by decide +kernel⟩
abbrev s_l_dice : Stmt := topS 39
theorem sc_l_dice : FnScope ["_law_script", "_law_k", "_law_found", "_law_cell"] ["_law_script", "_law_k"] (defScope s_l_dice) := ⟨rfl, rfl, rfl, by decide +kernel, rfl, by decide +kernel, by decide +kernel⟩
abbrev s_l_plain : Stmt := topS 44
theorem sc_l_plain : FnScope ["_law_wide", "_law_found", "_law_number", "_law_word", "_law_at"] ["_law_wide"] (defScope s_l_plain) := ⟨rfl, rfl, rfl, by decide +kernel, rfl, by decide +kernel, by decide +kernel⟩
abbrev s_l_gray : Stmt := topS 45
theorem sc_l_gray : FnScope ["_law_wide", "_law_found", "_law_word", "_law_marks", "_law_at"] ["_law_wide"] (defScope s_l_gray) := ⟨rfl, rfl, rfl, by decide +kernel, rfl, by decide +kernel, by decide +kernel⟩
abbrev s_l_mixed : Stmt := topS 42
theorem sc_l_mixed : FnScope ["_law_d", "_law_row", "_law_left", "_law_found"] ["_law_d", "_law_row"] (defScope s_l_mixed) := ⟨rfl, rfl, rfl, by decide +kernel, rfl, by decide +kernel, by decide +kernel⟩
abbrev s_l_words : Stmt := topS 46
theorem sc_l_words : FnScope ["_law_d", "_law_room", "_law_wide", "_law_every", "_law_words_here", "_law_kind", "_law_at", "_law_by", "_law_k", "_law_order", "_law_turn", "_law_found", "_law_word", "_law_marks", "_law_mark"] ["_law_d", "_law_room"] (defScope s_l_words) := ⟨rfl, rfl, rfl, by decide +kernel, rfl, by decide +kernel, by decide +kernel⟩
abbrev s_l_lane : Stmt := topS 47
theorem sc_l_lane : FnScope ["_law_d", "_law_room"] ["_law_d"] (defScope s_l_lane) := ⟨rfl, rfl, rfl, by decide +kernel, rfl, by decide +kernel, by decide +kernel⟩
abbrev s_l_alike : Stmt := topS 41
theorem sc_l_alike : FnScope ["_law_found", "_law_due", "_law_k"] ["_law_found", "_law_due"] (defScope s_l_alike) := ⟨rfl, rfl, rfl, by decide +kernel, rfl, by decide +kernel, by decide +kernel⟩
abbrev s_l_refused : Stmt := topS 43
theorem sc_l_refused : FnScope ["_law_work", "_law_word", "_law_value", "_law_e", "_law_kinds", "_law_words_here", "_law_one"] ["_law_work", "_law_word", "_law_value"] (defScope s_l_refused) := ⟨rfl, rfl, rfl, by decide +kernel, rfl, by decide +kernel, by decide +kernel⟩
abbrev s_mirrored : Stmt := topS 15
theorem sc_mirrored : FnScope ["wide", "found", "turn", "word"] ["wide"] (defScope s_mirrored) := ⟨rfl, rfl, rfl, by decide +kernel, rfl, by decide +kernel, by decide +kernel⟩
abbrev s_cut : Stmt := topS 17
theorem sc_cut : FnScope ["many", "wide", "every"] ["many"] (defScope s_cut) := ⟨rfl, rfl, rfl, by decide +kernel, rfl, by decide +kernel, by decide +kernel⟩
abbrev s_Lane___init__ : Stmt := inClass (topS 27) 0
theorem sc_Lane___init__ : FnScope ["self", "room", "words", "box"] ["self", "room", "words"] (defScope s_Lane___init__) := ⟨rfl, rfl, rfl, by decide +kernel, rfl, by decide +kernel, by decide +kernel⟩
abbrev s_Lane_behind : Stmt := inClass (topS 27) 4
theorem sc_Lane_behind : FnScope ["self", "place"] ["self", "place"] (defScope s_Lane_behind) := ⟨rfl, rfl, rfl, by decide +kernel, rfl, by decide +kernel, by decide +kernel⟩
abbrev s_Lane_can_get : Stmt := inClass (topS 27) 7
theorem sc_Lane_can_get : FnScope ["self"] ["self"] (defScope s_Lane_can_get) := ⟨rfl, rfl, rfl, by decide +kernel, rfl, by decide +kernel, by decide +kernel⟩
abbrev s_Lane_inside : Stmt := inClass (topS 27) 3
theorem sc_Lane_inside : FnScope ["self"] ["self"] (defScope s_Lane_inside) := ⟨rfl, rfl, rfl, by decide +kernel, rfl, by decide +kernel, by decide +kernel⟩
abbrev s_Lane_place_of : Stmt := inClass (topS 27) 5
theorem sc_Lane_place_of : FnScope ["self", "word", "ahead"] ["self", "word", "ahead"] (defScope s_Lane_place_of) := ⟨rfl, rfl, rfl, by decide +kernel, rfl, by decide +kernel, by decide +kernel⟩
abbrev s_Lane_do_get : Stmt := inClass (topS 27) 10
theorem sc_Lane_do_get : FnScope ["self", "seen", "found"] ["self", "seen"] (defScope s_Lane_do_get) := ⟨rfl, rfl, rfl, by decide +kernel, rfl, by decide +kernel, by decide +kernel⟩
abbrev s_Lane_can_put : Stmt := inClass (topS 27) 6
theorem sc_Lane_can_put : FnScope ["self"] ["self"] (defScope s_Lane_can_put) := ⟨rfl, rfl, rfl, by decide +kernel, rfl, by decide +kernel, by decide +kernel⟩
abbrev s_Lane_do_put : Stmt := inClass (topS 27) 9
theorem sc_Lane_do_put : FnScope ["self", "seen", "found"] ["self", "seen"] (defScope s_Lane_do_put) := ⟨rfl, rfl, rfl, by decide +kernel, rfl, by decide +kernel, by decide +kernel⟩
abbrev s_Lane_do : Stmt := inClass (topS 27) 11
theorem sc_Lane_do : FnScope ["self", "event"] ["self", "event"] (defScope s_Lane_do) := ⟨rfl, rfl, rfl, by decide +kernel, rfl, by decide +kernel, by decide +kernel⟩
abbrev s_Lane_turns : Stmt := inClass (topS 27) 8
theorem sc_Lane_turns : FnScope ["self", "word", "here", "goes"] ["self", "word"] (defScope s_Lane_turns) := ⟨rfl, rfl, rfl, by decide +kernel, rfl, by decide +kernel, by decide +kernel⟩
abbrev s_seen_of : Stmt := topS 18
theorem sc_seen_of : FnScope ["one", "other", "found", "at", "marks", "longer", "word", "mark"] ["one", "other"] (defScope s_seen_of) := ⟨rfl, rfl, rfl, by decide +kernel, rfl, by decide +kernel, by decide +kernel⟩
abbrev s_Lane_events : Stmt := inClass (topS 27) 13
theorem sc_Lane_events : FnScope ["self", "found", "word", "one", "other", "seen"] ["self"] (defScope s_Lane_events) := ⟨rfl, rfl, rfl, by decide +kernel, rfl, by decide +kernel, by decide +kernel⟩
abbrev s_Lane_stand : Stmt := inClass (topS 27) 2
theorem sc_Lane_stand : FnScope ["self", "state"] ["self", "state"] (defScope s_Lane_stand) := ⟨rfl, rfl, rfl, by decide +kernel, rfl, by decide +kernel, by decide +kernel⟩
abbrev s_Lane_state : Stmt := inClass (topS 27) 1
theorem sc_Lane_state : FnScope ["self"] ["self"] (defScope s_Lane_state) := ⟨rfl, rfl, rfl, by decide +kernel, rfl, by decide +kernel, by decide +kernel⟩
abbrev s_BadWords___init__ : Stmt := inClass (topS 3) 0
theorem sc_BadWords___init__ : FnScope ["self", "at"] ["self", "at"] (defScope s_BadWords___init__) := ⟨rfl, rfl, rfl, by decide +kernel, rfl, by decide +kernel, by decide +kernel⟩
abbrev s_is_word : Stmt := topS 11
theorem sc_is_word : FnScope ["word", "mark"] ["word"] (defScope s_is_word) := ⟨rfl, rfl, rfl, by decide +kernel, rfl, by decide +kernel, by decide +kernel⟩
abbrev s_need_words : Stmt := topS 12
theorem sc_need_words : FnScope ["words", "at", "word"] ["words"] (defScope s_need_words) := ⟨rfl, rfl, rfl, by decide +kernel, rfl, by decide +kernel, by decide +kernel⟩
abbrev s_need_lane : Stmt := topS 26
theorem sc_need_lane : FnScope ["lane", "room", "words"] ["lane"] (defScope s_need_lane) := ⟨rfl, rfl, rfl, by decide +kernel, rfl, by decide +kernel, by decide +kernel⟩
abbrev s_fault : Stmt := topS 30
theorem sc_fault : FnScope ["lane", "here", "met", "level", "behind", "state", "event"] ["lane"] (defScope s_fault) := ⟨rfl, rfl, rfl, by decide +kernel, rfl, by decide +kernel, by decide +kernel⟩
abbrev s_first_torn : Stmt := topS 20
theorem sc_first_torn : FnScope ["words", "at", "both", "others", "word"] ["words"] (defScope s_first_torn) := ⟨rfl, rfl, rfl, by decide +kernel, rfl, by decide +kernel, by decide +kernel⟩
abbrev s_Lane_may : Stmt := inClass (topS 27) 12
theorem sc_Lane_may : FnScope ["self", "event", "one", "other"] ["self", "event"] (defScope s_Lane_may) := ⟨rfl, rfl, rfl, by decide +kernel, rfl, by decide +kernel, by decide +kernel⟩
abbrev s_played : Stmt := topS 28
theorem sc_played : FnScope ["lane", "events", "here", "found", "at", "event"] ["lane", "events"] (defScope s_played) := ⟨rfl, rfl, rfl, by decide +kernel, rfl, by decide +kernel, by decide +kernel⟩
abbrev s_got : Stmt := topS 29
theorem sc_got : FnScope ["lane", "events", "told", "at"] ["lane", "events"] (defScope s_got) := ⟨rfl, rfl, rfl, by decide +kernel, rfl, by decide +kernel, by decide +kernel⟩
abbrev s_need_wide : Stmt := topS 10
theorem sc_need_wide : FnScope ["wide"] ["wide"] (defScope s_need_wide) := ⟨rfl, rfl, rfl, by decide +kernel, rfl, by decide +kernel, by decide +kernel⟩
abbrev s_gray : Stmt := topS 16
theorem sc_gray : FnScope ["wide"] ["wide"] (defScope s_gray) := ⟨rfl, rfl, rfl, by decide +kernel, rfl, by decide +kernel, by decide +kernel⟩
abbrev s_gone_through : Stmt := topS 35
theorem sc_gone_through : FnScope ["room", "one", "other", "many", "puts", "gets", "met", "moment", "base", "key", "number", "begin", "put", "goes_in", "goes_out"] ["room", "one", "other"] (defScope s_gone_through) := ⟨rfl, rfl, rfl, by decide +kernel, rfl, by decide +kernel, by decide +kernel⟩
abbrev s_need_late : Stmt := topS 34
theorem sc_need_late : FnScope ["one", "other"] ["one", "other"] (defScope s_need_late) := ⟨rfl, rfl, rfl, by decide +kernel, rfl, by decide +kernel, by decide +kernel⟩
abbrev s_least_room : Stmt := topS 37
theorem sc_least_room : FnScope ["one", "other", "room", "begin", "beats", "letters"] ["one", "other"] (defScope s_least_room) := ⟨rfl, rfl, rfl, by decide +kernel, rfl, by decide +kernel, by decide +kernel⟩
abbrev s_all_words : Stmt := topS 13
theorem sc_all_words : FnScope ["wide", "found", "turn", "word"] ["wide"] (defScope s_all_words) := ⟨rfl, rfl, rfl, by decide +kernel, rfl, by decide +kernel, by decide +kernel⟩
abbrev s_plain : Stmt := topS 14
theorem sc_plain : FnScope ["wide"] ["wide"] (defScope s_plain) := ⟨rfl, rfl, rfl, by decide +kernel, rfl, by decide +kernel, by decide +kernel⟩
abbrev s_steady : Stmt := topS 36
theorem sc_steady : FnScope ["room", "one", "other"] ["room", "one", "other"] (defScope s_steady) := ⟨rfl, rfl, rfl, by decide +kernel, rfl, by decide +kernel, by decide +kernel⟩
abbrev s_torn : Stmt := topS 19
theorem sc_torn : FnScope ["one", "other"] ["one", "other"] (defScope s_torn) := ⟨rfl, rfl, rfl, by decide +kernel, rfl, by decide +kernel, by decide +kernel⟩
abbrev s_law : Stmt := topS 49
theorem sc_law : FnScope ["_law_script", "_law_d", "_law_far", "_law_wide", "_law_many", "_law_late", "_law_room", "_law_works", "_law_work", "_law_lane_here", "_law_words_here", "_law_bad_here", "_law_at", "_law_odd", "_law_k", "_law_none"] ["_law_script"] (defScope s_law) := ⟨rfl, rfl, rfl, by decide +kernel, rfl, by decide +kernel, by decide +kernel⟩
/-! isinstance(e, c), e the exception that the suite holds, with a dict of its own or none -/
structure IsC (K : PySem.W.Frag) (D : Addr) : Prop where
  hc : (PySem.W.clsIn K D).isSome = true
  hg : PySem.W.findIn K (.ref D) "__getattribute__" = some (some (.builtin "BaseException.__getattribute__"))
  hk : PySem.W.findIn K (.ref D) "__getattr__" = some none
  hs : PySem.W.subIn K (.ref D) (.type "BaseException") = some true
  ha : PySem.W.findIn K (.ref D) "__class__" = some (some (.builtin "object.__class__"))
  hn : PySem.W.specialIn K (.builtin "object.__class__") "__get__" = some (some (.builtin "getset_descriptor.__get__"))
  ht : PySem.W.takesIn K (.builtin "object.__class__") = some true
  hm : PySem.W.mroIn K D (.type "object") = some true

structure TX (K : PySem.W.Frag) (mg : Str → Option Value) where
  f_l_off : Addr
  fd_l_off : FuncData
  F_l_off : Fun K "_law_off" "_law_off" s_l_off f_l_off fd_l_off
  b_l_off : Binds K fd_l_off ["_law_d", "_law_most"] []
  g_l_off : mg "_law_off" = some (.ref f_l_off)
  f_l_bad : Addr
  fd_l_bad : FuncData
  F_l_bad : Fun K "_law_bad" "_law_bad" s_l_bad f_l_bad fd_l_bad
  b_l_bad : Binds K fd_l_bad ["_law_d", "_law_words_here"] []
  g_l_bad : mg "_law_bad" = some (.ref f_l_bad)
  f_l_dice : Addr
  fd_l_dice : FuncData
  F_l_dice : Fun K "_law_dice" "_law_dice" s_l_dice f_l_dice fd_l_dice
  b_l_dice : Binds K fd_l_dice ["_law_script", "_law_k"] []
  g_l_dice : mg "_law_dice" = some (.ref f_l_dice)
  f_l_plain : Addr
  fd_l_plain : FuncData
  F_l_plain : Fun K "_law_plain" "_law_plain" s_l_plain f_l_plain fd_l_plain
  b_l_plain : Binds K fd_l_plain ["_law_wide"] []
  g_l_plain : mg "_law_plain" = some (.ref f_l_plain)
  f_l_gray : Addr
  fd_l_gray : FuncData
  F_l_gray : Fun K "_law_gray" "_law_gray" s_l_gray f_l_gray fd_l_gray
  b_l_gray : Binds K fd_l_gray ["_law_wide"] []
  g_l_gray : mg "_law_gray" = some (.ref f_l_gray)
  f_l_mixed : Addr
  fd_l_mixed : FuncData
  F_l_mixed : Fun K "_law_mixed" "_law_mixed" s_l_mixed f_l_mixed fd_l_mixed
  b_l_mixed : Binds K fd_l_mixed ["_law_d", "_law_row"] []
  g_l_mixed : mg "_law_mixed" = some (.ref f_l_mixed)
  f_l_words : Addr
  fd_l_words : FuncData
  F_l_words : Fun K "_law_words" "_law_words" s_l_words f_l_words fd_l_words
  b_l_words : Binds K fd_l_words ["_law_d", "_law_room"] []
  g_l_words : mg "_law_words" = some (.ref f_l_words)
  f_l_lane : Addr
  fd_l_lane : FuncData
  F_l_lane : Fun K "_law_lane" "_law_lane" s_l_lane f_l_lane fd_l_lane
  b_l_lane : Binds K fd_l_lane ["_law_d"] []
  g_l_lane : mg "_law_lane" = some (.ref f_l_lane)
  f_l_alike : Addr
  fd_l_alike : FuncData
  F_l_alike : Fun K "_law_alike" "_law_alike" s_l_alike f_l_alike fd_l_alike
  b_l_alike : Binds K fd_l_alike ["_law_found", "_law_due"] []
  g_l_alike : mg "_law_alike" = some (.ref f_l_alike)
  f_l_refused : Addr
  fd_l_refused : FuncData
  F_l_refused : Fun K "_law_refused" "_law_refused" s_l_refused f_l_refused fd_l_refused
  b_l_refused : Binds K fd_l_refused ["_law_work", "_law_word", "_law_value"] []
  g_l_refused : mg "_law_refused" = some (.ref f_l_refused)
  f_mirrored : Addr
  fd_mirrored : FuncData
  F_mirrored : Fun K "mirrored" "mirrored" s_mirrored f_mirrored fd_mirrored
  b_mirrored : Binds K fd_mirrored ["wide"] []
  g_mirrored : mg "mirrored" = some (.ref f_mirrored)
  f_cut : Addr
  fd_cut : FuncData
  F_cut : Fun K "cut" "cut" s_cut f_cut fd_cut
  b_cut : Binds K fd_cut ["many"] []
  g_cut : mg "cut" = some (.ref f_cut)
  f_Lane___init__ : Addr
  fd_Lane___init__ : FuncData
  F_Lane___init__ : Fun K "__init__" "Lane.__init__" s_Lane___init__ f_Lane___init__ fd_Lane___init__
  b_Lane___init__ : Binds K fd_Lane___init__ ["self", "room", "words"] []
  f_Lane_behind : Addr
  fd_Lane_behind : FuncData
  F_Lane_behind : Fun K "behind" "Lane.behind" s_Lane_behind f_Lane_behind fd_Lane_behind
  b_Lane_behind : Binds K fd_Lane_behind ["self", "place"] []
  f_Lane_can_get : Addr
  fd_Lane_can_get : FuncData
  F_Lane_can_get : Fun K "can_get" "Lane.can_get" s_Lane_can_get f_Lane_can_get fd_Lane_can_get
  b_Lane_can_get : Binds K fd_Lane_can_get ["self"] []
  f_Lane_inside : Addr
  fd_Lane_inside : FuncData
  F_Lane_inside : Fun K "inside" "Lane.inside" s_Lane_inside f_Lane_inside fd_Lane_inside
  b_Lane_inside : Binds K fd_Lane_inside ["self"] []
  f_Lane_place_of : Addr
  fd_Lane_place_of : FuncData
  F_Lane_place_of : Fun K "place_of" "Lane.place_of" s_Lane_place_of f_Lane_place_of fd_Lane_place_of
  b_Lane_place_of : Binds K fd_Lane_place_of ["self", "word", "ahead"] []
  f_Lane_do_get : Addr
  fd_Lane_do_get : FuncData
  F_Lane_do_get : Fun K "do_get" "Lane.do_get" s_Lane_do_get f_Lane_do_get fd_Lane_do_get
  b_Lane_do_get : Binds K fd_Lane_do_get ["self", "seen"] []
  f_Lane_can_put : Addr
  fd_Lane_can_put : FuncData
  F_Lane_can_put : Fun K "can_put" "Lane.can_put" s_Lane_can_put f_Lane_can_put fd_Lane_can_put
  b_Lane_can_put : Binds K fd_Lane_can_put ["self"] []
  f_Lane_do_put : Addr
  fd_Lane_do_put : FuncData
  F_Lane_do_put : Fun K "do_put" "Lane.do_put" s_Lane_do_put f_Lane_do_put fd_Lane_do_put
  b_Lane_do_put : Binds K fd_Lane_do_put ["self", "seen"] []
  f_Lane_do : Addr
  fd_Lane_do : FuncData
  F_Lane_do : Fun K "do" "Lane.do" s_Lane_do f_Lane_do fd_Lane_do
  b_Lane_do : Binds K fd_Lane_do ["self", "event"] []
  f_Lane_turns : Addr
  fd_Lane_turns : FuncData
  F_Lane_turns : Fun K "turns" "Lane.turns" s_Lane_turns f_Lane_turns fd_Lane_turns
  b_Lane_turns : Binds K fd_Lane_turns ["self", "word"] []
  f_seen_of : Addr
  fd_seen_of : FuncData
  F_seen_of : Fun K "seen_of" "seen_of" s_seen_of f_seen_of fd_seen_of
  b_seen_of : Binds K fd_seen_of ["one", "other"] []
  g_seen_of : mg "seen_of" = some (.ref f_seen_of)
  f_Lane_events : Addr
  fd_Lane_events : FuncData
  F_Lane_events : Fun K "events" "Lane.events" s_Lane_events f_Lane_events fd_Lane_events
  b_Lane_events : Binds K fd_Lane_events ["self"] []
  f_Lane_stand : Addr
  fd_Lane_stand : FuncData
  F_Lane_stand : Fun K "stand" "Lane.stand" s_Lane_stand f_Lane_stand fd_Lane_stand
  b_Lane_stand : Binds K fd_Lane_stand ["self", "state"] []
  f_Lane_state : Addr
  fd_Lane_state : FuncData
  F_Lane_state : Fun K "state" "Lane.state" s_Lane_state f_Lane_state fd_Lane_state
  b_Lane_state : Binds K fd_Lane_state ["self"] []
  f_BadWords___init__ : Addr
  fd_BadWords___init__ : FuncData
  F_BadWords___init__ : Fun K "__init__" "BadWords.__init__" s_BadWords___init__ f_BadWords___init__ fd_BadWords___init__
  b_BadWords___init__ : Binds K fd_BadWords___init__ ["self", "at"] []
  f_is_word : Addr
  fd_is_word : FuncData
  F_is_word : Fun K "is_word" "is_word" s_is_word f_is_word fd_is_word
  b_is_word : Binds K fd_is_word ["word"] []
  g_is_word : mg "is_word" = some (.ref f_is_word)
  f_need_words : Addr
  fd_need_words : FuncData
  F_need_words : Fun K "need_words" "need_words" s_need_words f_need_words fd_need_words
  b_need_words : Binds K fd_need_words ["words"] []
  g_need_words : mg "need_words" = some (.ref f_need_words)
  f_need_lane : Addr
  fd_need_lane : FuncData
  F_need_lane : Fun K "need_lane" "need_lane" s_need_lane f_need_lane fd_need_lane
  b_need_lane : Binds K fd_need_lane ["lane"] []
  g_need_lane : mg "need_lane" = some (.ref f_need_lane)
  f_fault : Addr
  fd_fault : FuncData
  F_fault : Fun K "fault" "fault" s_fault f_fault fd_fault
  b_fault : Binds K fd_fault ["lane"] []
  g_fault : mg "fault" = some (.ref f_fault)
  f_first_torn : Addr
  fd_first_torn : FuncData
  F_first_torn : Fun K "first_torn" "first_torn" s_first_torn f_first_torn fd_first_torn
  b_first_torn : Binds K fd_first_torn ["words"] []
  g_first_torn : mg "first_torn" = some (.ref f_first_torn)
  f_Lane_may : Addr
  fd_Lane_may : FuncData
  F_Lane_may : Fun K "may" "Lane.may" s_Lane_may f_Lane_may fd_Lane_may
  b_Lane_may : Binds K fd_Lane_may ["self", "event"] []
  f_played : Addr
  fd_played : FuncData
  F_played : Fun K "played" "played" s_played f_played fd_played
  b_played : Binds K fd_played ["lane", "events"] []
  g_played : mg "played" = some (.ref f_played)
  f_got : Addr
  fd_got : FuncData
  F_got : Fun K "got" "got" s_got f_got fd_got
  b_got : Binds K fd_got ["lane", "events"] []
  g_got : mg "got" = some (.ref f_got)
  f_need_wide : Addr
  fd_need_wide : FuncData
  F_need_wide : Fun K "need_wide" "need_wide" s_need_wide f_need_wide fd_need_wide
  b_need_wide : Binds K fd_need_wide ["wide"] []
  g_need_wide : mg "need_wide" = some (.ref f_need_wide)
  f_gray : Addr
  fd_gray : FuncData
  F_gray : Fun K "gray" "gray" s_gray f_gray fd_gray
  b_gray : Binds K fd_gray ["wide"] []
  g_gray : mg "gray" = some (.ref f_gray)
  f_gone_through : Addr
  fd_gone_through : FuncData
  F_gone_through : Fun K "gone_through" "gone_through" s_gone_through f_gone_through fd_gone_through
  b_gone_through : Binds K fd_gone_through ["room", "one", "other"] []
  g_gone_through : mg "gone_through" = some (.ref f_gone_through)
  f_need_late : Addr
  fd_need_late : FuncData
  F_need_late : Fun K "need_late" "need_late" s_need_late f_need_late fd_need_late
  b_need_late : Binds K fd_need_late ["one", "other"] []
  g_need_late : mg "need_late" = some (.ref f_need_late)
  f_least_room : Addr
  fd_least_room : FuncData
  F_least_room : Fun K "least_room" "least_room" s_least_room f_least_room fd_least_room
  b_least_room : Binds K fd_least_room ["one", "other"] []
  g_least_room : mg "least_room" = some (.ref f_least_room)
  f_all_words : Addr
  fd_all_words : FuncData
  F_all_words : Fun K "all_words" "all_words" s_all_words f_all_words fd_all_words
  b_all_words : Binds K fd_all_words ["wide"] []
  g_all_words : mg "all_words" = some (.ref f_all_words)
  f_plain : Addr
  fd_plain : FuncData
  F_plain : Fun K "plain" "plain" s_plain f_plain fd_plain
  b_plain : Binds K fd_plain ["wide"] []
  g_plain : mg "plain" = some (.ref f_plain)
  f_steady : Addr
  fd_steady : FuncData
  F_steady : Fun K "steady" "steady" s_steady f_steady fd_steady
  b_steady : Binds K fd_steady ["room", "one", "other"] []
  g_steady : mg "steady" = some (.ref f_steady)
  f_torn : Addr
  fd_torn : FuncData
  F_torn : Fun K "torn" "torn" s_torn f_torn fd_torn
  b_torn : Binds K fd_torn ["one", "other"] []
  g_torn : mg "torn" = some (.ref f_torn)
  f_law : Addr
  fd_law : FuncData
  F_law : Fun K "law" "law" s_law f_law fd_law
  b_law : Binds K fd_law ["_law_script"] []
  g_law : mg "law" = some (.ref f_law)
  C_Lane : Addr
  cl_Lane : Cls K C_Lane
  g_Lane : mg "Lane" = some (.ref C_Lane)
  mk_Lane : Mk K C_Lane f_Lane___init__
  na_room : NoAttr K C_Lane "room"
  na_words : NoAttr K C_Lane "words"
  na_put : NoAttr K C_Lane "put"
  na_got : NoAttr K C_Lane "got"
  na_seen_got : NoAttr K C_Lane "seen_got"
  na_seen_put : NoAttr K C_Lane "seen_put"
  na_boxes : NoAttr K C_Lane "boxes"
  na_many : NoAttr K C_Lane "many"
  na_fault : NoAttr K C_Lane "fault"
  m_Lane_behind : Meth K C_Lane "behind" f_Lane_behind
  m_Lane_can_get : Meth K C_Lane "can_get" f_Lane_can_get
  m_Lane_inside : Meth K C_Lane "inside" f_Lane_inside
  m_Lane_place_of : Meth K C_Lane "place_of" f_Lane_place_of
  m_Lane_do_get : Meth K C_Lane "do_get" f_Lane_do_get
  m_Lane_can_put : Meth K C_Lane "can_put" f_Lane_can_put
  m_Lane_do_put : Meth K C_Lane "do_put" f_Lane_do_put
  m_Lane_do : Meth K C_Lane "do" f_Lane_do
  m_Lane_turns : Meth K C_Lane "turns" f_Lane_turns
  m_Lane_events : Meth K C_Lane "events" f_Lane_events
  m_Lane_stand : Meth K C_Lane "stand" f_Lane_stand
  m_Lane_state : Meth K C_Lane "state" f_Lane_state
  m_Lane_may : Meth K C_Lane "may" f_Lane_may
  C_CrossError : Addr
  g_CrossError : mg "CrossError" = some (.ref C_CrossError)
  C_BadNumber : Addr
  g_BadNumber : mg "BadNumber" = some (.ref C_BadNumber)
  C_BadLane : Addr
  g_BadLane : mg "BadLane" = some (.ref C_BadLane)
  C_BadWords : Addr
  g_BadWords : mg "BadWords" = some (.ref C_BadWords)
  C_BadEvent : Addr
  g_BadEvent : mg "BadEvent" = some (.ref C_BadEvent)
  ga_CE : PySem.W.specialIn K (.ref C_CrossError) "__getattribute__" = some (some (.builtin "type.__getattribute__"))
  rd_CE : PySem.W.readsIn K C_CrossError (.type "type") = true
  fi_CE : PySem.W.findCls K (.ref C_CrossError) (.type "type") "__init__" = some (.val (.builtin "ValueError.__init__"))
  ox_BadWords : OexC K C_BadWords
  iC_BadWords : PySem.W.findIn K (.ref C_BadWords) "__init__" = some (some (.ref f_BadWords___init__))
  tI_BadWords : PySem.W.typeIn K (.ref f_BadWords___init__) = some (.type "function")
  xf_BadWords : XfC K C_BadWords
  at_BadWords : PySem.W.findIn K (.ref C_BadWords) "at" = some none
  is_BadWords : IsC K C_BadWords
  ex_BadWords : PySem.W.exmOne K (.ref C_BadWords) (.ref C_CrossError) = some true
  ki_BadWords_BadNumber : PySem.W.kitOne K (.ref C_BadWords) (.ref C_BadNumber) = some false
  ki_BadWords_BadLane : PySem.W.kitOne K (.ref C_BadWords) (.ref C_BadLane) = some false
  ki_BadWords_BadWords : PySem.W.kitOne K (.ref C_BadWords) (.ref C_BadWords) = some true
  ki_BadWords_BadEvent : PySem.W.kitOne K (.ref C_BadWords) (.ref C_BadEvent) = some false
  kv_BadWords : PySem.W.kitOne K (.ref C_BadWords) (.type "ValueError") = some true
  xI_BadNumber : PySem.W.excIn K C_BadNumber [.type "ValueError", .type "Exception", .type "BaseException", .type "object"] "ValueError.__new__" = true
  kC_BadNumber : PySem.W.keepIn K (.ref C_BadNumber) = true
  bC_BadNumber : PySem.W.subIn K (.ref C_BadNumber) (.type "BaseException") = some true
  tC_BadNumber : PySem.W.typeIn K (.ref C_BadNumber) = some (.type "type")
  is_BadNumber : IsC K C_BadNumber
  ex_BadNumber : PySem.W.exmOne K (.ref C_BadNumber) (.ref C_CrossError) = some true
  ki_BadNumber_BadNumber : PySem.W.kitOne K (.ref C_BadNumber) (.ref C_BadNumber) = some true
  ki_BadNumber_BadLane : PySem.W.kitOne K (.ref C_BadNumber) (.ref C_BadLane) = some false
  ki_BadNumber_BadWords : PySem.W.kitOne K (.ref C_BadNumber) (.ref C_BadWords) = some false
  ki_BadNumber_BadEvent : PySem.W.kitOne K (.ref C_BadNumber) (.ref C_BadEvent) = some false
  kv_BadNumber : PySem.W.kitOne K (.ref C_BadNumber) (.type "ValueError") = some true
  xI_BadLane : PySem.W.excIn K C_BadLane [.type "ValueError", .type "Exception", .type "BaseException", .type "object"] "ValueError.__new__" = true
  kC_BadLane : PySem.W.keepIn K (.ref C_BadLane) = true
  bC_BadLane : PySem.W.subIn K (.ref C_BadLane) (.type "BaseException") = some true
  tC_BadLane : PySem.W.typeIn K (.ref C_BadLane) = some (.type "type")
  is_BadLane : IsC K C_BadLane
  ex_BadLane : PySem.W.exmOne K (.ref C_BadLane) (.ref C_CrossError) = some true
  ki_BadLane_BadNumber : PySem.W.kitOne K (.ref C_BadLane) (.ref C_BadNumber) = some false
  ki_BadLane_BadLane : PySem.W.kitOne K (.ref C_BadLane) (.ref C_BadLane) = some true
  ki_BadLane_BadWords : PySem.W.kitOne K (.ref C_BadLane) (.ref C_BadWords) = some false
  ki_BadLane_BadEvent : PySem.W.kitOne K (.ref C_BadLane) (.ref C_BadEvent) = some false
  kv_BadLane : PySem.W.kitOne K (.ref C_BadLane) (.type "ValueError") = some true
  z_ValueError : mg "ValueError" = none
  z_abs : mg "abs" = none
  z_all : mg "all" = none
  z_bool : mg "bool" = none
  z_enumerate : mg "enumerate" = none
  z_int : mg "int" = none
  z_isinstance : mg "isinstance" = none
  z_len : mg "len" = none
  z_list : mg "list" = none
  z_max : mg "max" = none
  z_min : mg "min" = none
  z_range : mg "range" = none
  z_set : mg "set" = none
  z_sorted : mg "sorted" = none
  z_str : mg "str" = none
  z_tuple : mg "tuple" = none
  a_MARKS : Addr
  c_MARKS : mg "MARKS" = some (.ref a_MARKS)
  m_MARKS : ∀ H, SqT K H a_MARKS [.str "0", .str "1"]
  t_MOST_EVENTS : Tok
  c_MOST_EVENTS : mg "MOST_EVENTS" = some (.int 100 t_MOST_EVENTS)
  t_MOST_LATE : Tok
  c_MOST_LATE : mg "MOST_LATE" = some (.int 6 t_MOST_LATE)
  t_MOST_ROOM : Tok
  c_MOST_ROOM : mg "MOST_ROOM" = some (.int 6 t_MOST_ROOM)
  t_MOST_STEADY : Tok
  c_MOST_STEADY : mg "MOST_STEADY" = some (.int 20 t_MOST_STEADY)
  t_MOST_WIDE : Tok
  c_MOST_WIDE : mg "MOST_WIDE" = some (.int 4 t_MOST_WIDE)
  t_MOST_WORDS : Tok
  c_MOST_WORDS : mg "MOST_WORDS" = some (.int 16 t_MOST_WORDS)
  t_OVER : Tok
  c_OVER : mg "OVER" = some (.str "over" t_OVER)
  t_UNDER : Tok
  c_UNDER : mg "UNDER" = some (.str "under" t_UNDER)
/-! ### heaps -/
/-- all but d stays -/
def Exd (d : Addr) (H H' : Hp) : Prop := ∀ a o, H a = some o → a ≠ d → H' a = some o
theorem Exd.refl (d : Addr) (H : Hp) : Exd d H H := fun _ _ h _ => h
theorem Exd.trans {d : Addr} {H H1 H2 : Hp} (a : Exd d H H1) (b : Exd d H1 H2) : Exd d H H2 := fun x o h n => b x o (a x o h n) n
theorem Exd.of {d : Addr} {H H1 : Hp} (a : Ex H H1) : Exd d H H1 := fun x o h _ => a x o h
theorem Exd.upd {d : Addr} {H H1 : Hp} {o : HO} (a : Exd d H H1) : Exd d H (L2.upd H1 d o) := fun x o h n => by
  rw [upd_ne n]
  exact a x o h n
theorem ifP {c A B : Prop} [Decidable c] (h : c) (k : A) : if c then A else B := by
  rw [if_pos h]
  exact k
theorem ifN {c A B : Prop} [Decidable c] (h : ¬ c) (k : B) : if c then A else B := by
  rw [if_neg h]
  exact k
theorem evt_use {tt : TT} {σ : L2.St} {H : Hp} {b : Bool} {Q : Bool → Hp → Prop} (h : EvT tt σ H b) (k : ∀ H2, Ex H H2 → Q b H2) : tt σ H Q := h H (Ex.refl H) Q k
theorem lo62 (n : Nat) : -(2 ^ 62 : Int) ≤ (n : Int) := by omega
theorem hi62 {n : Nat} (h : n ≤ 1000) : (n : Int) < 2 ^ 62 := by omega
theorem ats {α : Type} {xs : List α} {z : Int} {j : Nat} {v : α} (e : z = (j : Int)) (h : xs[j]? = some v) : atI xs z = some v := by
  rw [e]
  exact atI_nat h
/-- the dice: two numbers and the great ones that are left -/
def Dice (H : Hp) (d : Addr) : Prop := ∃ (s c : Int) (r : List Int), H d = some (.lst ((s :: c :: r).map V.int)) ∧ 0 ≤ s ∧ s < 2147483647 ∧ 0 ≤ c ∧ ∀ x ∈ r, 0 ≤ x
def sp_l_off : Sp := fun vs H Q _ => ∃ (d : Addr) (n : Int), vs = [.ref d, .int n] ∧ Dice H d ∧ 0 < n ∧ n < 1073741824 ∧ ∀ (x : Int) (H' : Hp), 0 ≤ x → x < n → Exd d H H' → Dice H' d → Q (.int x) H'
def sp_l_dice (K : PySem.W.Frag) : Sp := fun vs H Q _ => ∃ (a : Addr) (ns : List Int), vs = [.ref a, .int 0] ∧ SqL K H a (ns.map V.int) ∧ ns.length ≤ 63 ∧ ∀ (d : Addr) (H' : Hp), H d = none → Ex H H' → Dice H' d → Q (.ref d) H'
section
variable {P : Program} {w : World} {K : PySem.W.Frag} {mg : Str → Option Value} {base : Heap}
theorem Dice.mono {H H' : Hp} {d : Addr} (e : Ex H H') (h : Dice H d) : Dice H' d := by
  obtain ⟨s, c, r, h, h1⟩ := h
  exact ⟨s, c, r, e _ _ h, h1⟩
theorem Dice.upd {H : Hp} {d p : Addr} {o : HO} (h : Dice H d) (n : d ≠ p) : Dice (L2.upd H p o) d := by
  obtain ⟨s, c, r, h, h1⟩ := h
  exact ⟨s, c, r, by rw [upd_ne n]; exact h, h1⟩
theorem Dice.ne {H : Hp} {d p : Addr} (h : Dice H d) (n : H p = none) : d ≠ p := by
  obtain ⟨s, c, r, h, _⟩ := h
  exact ne_of_none h n
/-- the law's own promise -/
def sp_law (K : PySem.W.Frag) : Sp := fun vs H Q _ => ∃ (a : Addr) (ns : List Int), vs = [.ref a] ∧ SqL K H a (ns.map V.int) ∧ ns.length ≤ 63 ∧ ∀ H', Q (.bl true) H'
end
/-! ### words -/
def bit (b : Bool) : Nat := if b then 49 else 48
def wd (bs : List Bool) : Str := ⟨(bs.map bit).toArray⟩
abbrev wv (bs : List Bool) : V := .str (wd bs)
theorem str0 : ("0" : Str) = wd [false] := by decide +kernel
theorem str1 : ("1" : Str) = wd [true] := by decide +kernel
theorem strE : ("" : Str) = wd [] := by decide +kernel
theorem wd_app (a b : List Bool) : wd a ++ wd b = wd (a ++ b) := by
  show Str.append (wd a) (wd b) = wd (a ++ b)
  simp [Str.append, wd, List.map_append]
theorem wd_len (a : List Bool) : (wd a).length = a.length := by
  show (List.map bit a).toArray.size = a.length
  simp
theorem bit_inj {a b : Bool} (h : bit a = bit b) : a = b := by
  revert h
  cases a <;> cases b <;> decide
theorem map_bit_inj : ∀ {a b : List Bool}, a.map bit = b.map bit → a = b
  | [], [], _ => rfl
  | [], _ :: _, h => by cases h
  | _ :: _, [], h => by cases h
  | x :: a, y :: b, h => by
    have h : bit x :: a.map bit = bit y :: b.map bit := h
    injection h with h1 h2
    rw [bit_inj h1, map_bit_inj h2]
theorem wd_inj {a b : List Bool} (h : wd a = wd b) : a = b := by
  have h : (a.map bit).toArray = (b.map bit).toArray := congrArg Str.cps h
  exact map_bit_inj (by simpa using congrArg Array.toList h)
theorem wv_inj {a b : List Bool} (h : wv a = wv b) : a = b := wd_inj (V.str.inj h)
theorem wd_toList (a : List Bool) : (wd a).cps.toList = a.map bit := by
  show (a.map bit).toArray.toList = _
  simp
theorem sgn (b : Bool) : (⟨#[bit b]⟩ : Str) = wd [b] := rfl
theorem small9 {n : Nat} (h : n ≤ 1000) : n ≤ sizeLine := Nat.le_of_lt (small1000 h)
/-- all words, as numbers rise; the mirrored way -/
def plainW : Nat → List (List Bool)
  | 0 => [[]]
  | n + 1 => (plainW n).map (false :: ·) ++ (plainW n).map (true :: ·)
def grayW : Nat → List (List Bool)
  | 0 => [[]]
  | n + 1 => (grayW n).map (false :: ·) ++ (grayW n).reverse.map (true :: ·)
theorem plainW_len : ∀ n, (plainW n).length = 2 ^ n
  | 0 => rfl
  | n + 1 => by
    show ((plainW n).map _ ++ (plainW n).map _).length = _
    rw [List.length_append, List.length_map, List.length_map, plainW_len n, Nat.pow_succ]
    omega
theorem grayW_len : ∀ n, (grayW n).length = 2 ^ n
  | 0 => rfl
  | n + 1 => by
    show ((grayW n).map _ ++ (grayW n).reverse.map _).length = _
    rw [List.length_append, List.length_map, List.length_map, List.length_reverse, grayW_len n, Nat.pow_succ]
    omega
theorem plainW_wide : ∀ n, ∀ w ∈ plainW n, w.length = n
  | 0, w, h => by
    cases (List.mem_singleton.mp h)
    rfl
  | n + 1, w, h => by
    rcases List.mem_append.mp h with h | h <;> obtain ⟨u, hu, rfl⟩ := List.mem_map.mp h <;> simp [plainW_wide n u hu]
theorem grayW_wide : ∀ n, ∀ w ∈ grayW n, w.length = n
  | 0, w, h => by
    cases (List.mem_singleton.mp h)
    rfl
  | n + 1, w, h => by
    rcases List.mem_append.mp h with h | h <;> obtain ⟨u, hu, rfl⟩ := List.mem_map.mp h
    · simp [grayW_wide n u hu]
    · simp [grayW_wide n u (List.mem_reverse.mp hu)]
theorem pow16 {n : Nat} (h : n ≤ 4) : 2 ^ n ≤ 16 := by
  have : n = 0 ∨ n = 1 ∨ n = 2 ∨ n = 3 ∨ n = 4 := by omega
  rcases this with rfl | rfl | rfl | rfl | rfl <;> decide
/-! ### comprehensions whose element is a value -/
section
variable {K : PySem.W.Frag}
/-- over a list; the test's answer p, the element g -/
theorem lcFM {α : Type} {a : Addr} (l : List α) (ev : α → V) (p : α → Bool) (g : α → V) {j : Nat} {tt : TT} {te : TE} {vs : List Nat} {σ : L2.St} {H1 : Hp} {D : Addr} {Qd : Hp → Prop}
    (hx : SqL K H1 a (l.map ev)) (hz : l.length ≤ 1000) (hD : H1 D = none) (hw : ∀ x, wipe ((wipe σ vs).set j (some x)) vs = wipe σ vs)
    (hs : ∀ x ∈ l, ∀ H, Ex H1 H → ∀ (Y : VK) (N : Hp → Prop), (∀ H2, Ex H H2 → if p x = true then Y (g x) H2 else N H2) → tt ((wipe σ vs).set j (some (ev x))) H fun b H3 => if b = true then te ((wipe σ vs).set j (some (ev x))) H3 Y else N H3)
    (hd : ∀ H2, Ex H1 H2 → H2 D = some (.lst ((l.filter p).map g)) → Qd H2) :
    ∃ W : Nat → Nat → Hp → Prop, (∃ m, W 0 m (upd H1 D (.lst []))) ∧ ∀ i m H, W i m H →
      ((Itl K a).stop i H ∧ Qd H) ∨ ((Itl K a).go i H ∧ ∃ Nx : Hp → Prop, (∀ H', Nx H' → ∃ m', m' < m ∧ W (i + 1) m' H') ∧ ∀ x H', (Itl K a).yld i H x H' → (gName j) x (wipe σ vs) H' fun σ2 H2 => wipe σ2 vs = wipe σ vs ∧ tt σ2 H2 fun b H3 =>
        if b = true then te σ2 H3 fun y H4 => ∃ acc, H4 D = some (.lst acc) ∧ acc.length < sizeLine ∧ Nx (upd H4 D (.lst (acc ++ [y]))) else Nx H3) := by
  refine lc_list (xs := l.map ev) (fun i H => Ex H1 H ∧ H D = some (.lst (((l.take i).filter p).map g))) ⟨Ex.new hD, upd_same⟩ (fun i H _ h => ex_l h.1 hx) (fun i x H hi h => ?_) (fun H h => ?_)
  · obtain ⟨y, hy, rfl⟩ : ∃ y, l[i]? = some y ∧ ev y = x := by
      rw [List.getElem?_map] at hi
      cases e : l[i]? with
      | none => rw [e] at hi; cases hi
      | some y => rw [e] at hi; exact ⟨y, rfl, Option.some.inj hi⟩
    have hm : y ∈ l := List.mem_of_getElem? hy
    have ht : l.take (i + 1) = l.take i ++ [y] := by rw [List.take_add_one, hy]; rfl
    refine ⟨hw _, hs y hm H h.1 _ _ fun H2 e2 => ?_⟩
    have hl : (((l.take i).filter p).map g).length < sizeLine := by
      rw [List.length_map]
      refine small1000 (Nat.le_trans (List.length_filter_le _ _) ?_)
      rw [List.length_take]
      omega
    by_cases hp : p y = true
    · rw [if_pos hp]
      refine ⟨_, e2 _ _ h.2, hl, Ex.mut (h.1.trans e2) hD, ?_⟩
      rw [upd_same, ht, List.filter_append, List.map_append]
      simp [hp]
    · rw [if_neg hp]
      refine ⟨h.1.trans e2, ?_⟩
      rw [e2 _ _ h.2, ht, List.filter_append, List.map_append]
      simp [hp]
  · refine hd H h.1 ?_
    rw [h.2, List.length_map, List.take_length]
theorem lcM {α : Type} {a : Addr} (l : List α) (ev : α → V) (g : α → V) {j : Nat} {te : TE} {vs : List Nat} {σ : L2.St} {H1 : Hp} {D : Addr} {Qd : Hp → Prop}
    (hx : SqL K H1 a (l.map ev)) (hz : l.length ≤ 1000) (hD : H1 D = none) (hw : ∀ x, wipe ((wipe σ vs).set j (some x)) vs = wipe σ vs)
    (hs : ∀ x ∈ l, ∀ H, Ex H1 H → ∀ (Y : VK), (∀ H2, Ex H H2 → Y (g x) H2) → te ((wipe σ vs).set j (some (ev x))) H Y)
    (hd : ∀ H2, Ex H1 H2 → H2 D = some (.lst (l.map g)) → Qd H2) :
    ∃ W : Nat → Nat → Hp → Prop, (∃ m, W 0 m (upd H1 D (.lst []))) ∧ ∀ i m H, W i m H →
      ((Itl K a).stop i H ∧ Qd H) ∨ ((Itl K a).go i H ∧ ∃ Nx : Hp → Prop, (∀ H', Nx H' → ∃ m', m' < m ∧ W (i + 1) m' H') ∧ ∀ x H', (Itl K a).yld i H x H' → (gName j) x (wipe σ vs) H' fun σ2 H2 => wipe σ2 vs = wipe σ vs ∧ tYes σ2 H2 fun b H3 =>
        if b = true then te σ2 H3 fun y H4 => ∃ acc, H4 D = some (.lst acc) ∧ acc.length < sizeLine ∧ Nx (upd H4 D (.lst (acc ++ [y]))) else Nx H3) :=
  lcFM l ev (fun _ => true) g hx hz hD hw (fun x hm H e Y N h => iteT (B := N H) (hs x hm H e Y fun H2 e2 => by simpa using h H2 e2)) (fun H2 e h => hd H2 e (by rw [h, List.filter_eq_self.mpr (fun _ _ => rfl)]))
/-- over range(n) -/
theorem lcRF (n : Nat) (p : Nat → Bool) (g : Nat → V) {j : Nat} {tt : TT} {te : TE} {vs : List Nat} {σ : L2.St} {H1 : Hp} {D : Addr} {Qd : Hp → Prop} {z : Int}
    (hz0 : z = (n : Int)) (hz : n ≤ 1000) (hD : H1 D = none) (hw : ∀ x, wipe ((wipe σ vs).set j (some x)) vs = wipe σ vs)
    (hs : ∀ i, i < n → ∀ H, Ex H1 H → ∀ (Y : VK) (N : Hp → Prop), (∀ H2, Ex H H2 → if p i = true then Y (g i) H2 else N H2) → tt ((wipe σ vs).set j (some (.int (i : Int)))) H fun b H3 => if b = true then te ((wipe σ vs).set j (some (.int (i : Int)))) H3 Y else N H3)
    (hd : ∀ H2, Ex H1 H2 → H2 D = some (.lst (((List.range n).filter p).map g)) → Qd H2) :
    ∃ W : Nat → Nat → Hp → Prop, (∃ m, W 0 m (upd H1 D (.lst []))) ∧ ∀ i m H, W i m H →
      ((Itr 0 z.toNat).stop i H ∧ Qd H) ∨ ((Itr 0 z.toNat).go i H ∧ ∃ Nx : Hp → Prop, (∀ H', Nx H' → ∃ m', m' < m ∧ W (i + 1) m' H') ∧ ∀ x H', (Itr 0 z.toNat).yld i H x H' → (gName j) x (wipe σ vs) H' fun σ2 H2 => wipe σ2 vs = wipe σ vs ∧ tt σ2 H2 fun b H3 =>
        if b = true then te σ2 H3 fun y H4 => ∃ acc, H4 D = some (.lst acc) ∧ acc.length < sizeLine ∧ Nx (upd H4 D (.lst (acc ++ [y]))) else Nx H3) := by
  have hn : z.toNat = n := by omega
  refine lc_range (lo := 0) (n := z.toNat) (fun i H => Ex H1 H ∧ H D = some (.lst (((List.range i).filter p).map g))) ⟨Ex.new hD, upd_same⟩ (fun i H hi h => ?_) (fun H h => ?_)
  · have e0 : (0 : Int) + (i : Int) = (i : Int) := Int.zero_add _
    rw [e0]
    refine ⟨hw _, hs i (by omega) H h.1 _ _ fun H2 e2 => ?_⟩
    have hl : (((List.range i).filter p).map g).length < sizeLine := by
      rw [List.length_map]
      refine small1000 (Nat.le_trans (List.length_filter_le _ _) ?_)
      rw [List.length_range]
      omega
    by_cases hp : p i = true
    · rw [if_pos hp]
      refine ⟨_, e2 _ _ h.2, hl, Ex.mut (h.1.trans e2) hD, ?_⟩
      rw [upd_same, List.range_succ, List.filter_append, List.map_append]
      simp [hp]
    · rw [if_neg hp]
      refine ⟨h.1.trans e2, ?_⟩
      rw [e2 _ _ h.2, List.range_succ, List.filter_append, List.map_append]
      simp [hp]
  · refine hd H h.1 ?_
    rw [h.2, hn]
theorem lcR (n : Nat) (g : Nat → V) {j : Nat} {te : TE} {vs : List Nat} {σ : L2.St} {H1 : Hp} {D : Addr} {Qd : Hp → Prop} {z : Int}
    (hz0 : z = (n : Int)) (hz : n ≤ 1000) (hD : H1 D = none) (hw : ∀ x, wipe ((wipe σ vs).set j (some x)) vs = wipe σ vs)
    (hs : ∀ i, i < n → ∀ H, Ex H1 H → ∀ (Y : VK), (∀ H2, Ex H H2 → Y (g i) H2) → te ((wipe σ vs).set j (some (.int (i : Int)))) H Y)
    (hd : ∀ H2, Ex H1 H2 → H2 D = some (.lst ((List.range n).map g)) → Qd H2) :
    ∃ W : Nat → Nat → Hp → Prop, (∃ m, W 0 m (upd H1 D (.lst []))) ∧ ∀ i m H, W i m H →
      ((Itr 0 z.toNat).stop i H ∧ Qd H) ∨ ((Itr 0 z.toNat).go i H ∧ ∃ Nx : Hp → Prop, (∀ H', Nx H' → ∃ m', m' < m ∧ W (i + 1) m' H') ∧ ∀ x H', (Itr 0 z.toNat).yld i H x H' → (gName j) x (wipe σ vs) H' fun σ2 H2 => wipe σ2 vs = wipe σ vs ∧ tYes σ2 H2 fun b H3 =>
        if b = true then te σ2 H3 fun y H4 => ∃ acc, H4 D = some (.lst acc) ∧ acc.length < sizeLine ∧ Nx (upd H4 D (.lst (acc ++ [y]))) else Nx H3) :=
  lcRF n (fun _ => true) g hz0 hz hD hw (fun i hi H e Y N h => iteT (B := N H) (hs i hi H e Y fun H2 e2 => by simpa using h H2 e2)) (fun H2 e h => hd H2 e (by rw [h, List.filter_eq_self.mpr (fun _ _ => rfl)]))
end
section
variable {K : PySem.W.Frag}
/-- a comprehension over anything that is walked -/
theorem lcW {α : Type} {J : It} {Gd : Hp → Prop} (l : List α) (ev : α → V) (p : α → Bool) (g : α → V) (wk : Walk J l.length Gd (fun i H x H' => H' = H ∧ ∃ y, l[i]? = some y ∧ x = ev y)) {j : Nat} {tt : TT} {te : TE} {vs : List Nat} {σ : L2.St} {H1 : Hp} {D : Addr} {Qd : Hp → Prop}
    (hG : ∀ H, Ex H1 H → Gd H) (hz : l.length ≤ 1000) (hD : H1 D = none) (hw : ∀ x, wipe ((wipe σ vs).set j (some x)) vs = wipe σ vs)
    (hs : ∀ x ∈ l, ∀ H, Ex H1 H → ∀ (Y : VK) (N : Hp → Prop), (∀ H2, Ex H H2 → if p x = true then Y (g x) H2 else N H2) → tt ((wipe σ vs).set j (some (ev x))) H fun b H3 => if b = true then te ((wipe σ vs).set j (some (ev x))) H3 Y else N H3)
    (hd : ∀ H2, Ex H1 H2 → H2 D = some (.lst ((l.filter p).map g)) → Qd H2) :
    ∃ W : Nat → Nat → Hp → Prop, (∃ m, W 0 m (upd H1 D (.lst []))) ∧ ∀ i m H, W i m H →
      (J.stop i H ∧ Qd H) ∨ (J.go i H ∧ ∃ Nx : Hp → Prop, (∀ H', Nx H' → ∃ m', m' < m ∧ W (i + 1) m' H') ∧ ∀ x H', J.yld i H x H' → (gName j) x (wipe σ vs) H' fun σ2 H2 => wipe σ2 vs = wipe σ vs ∧ tt σ2 H2 fun b H3 =>
        if b = true then te σ2 H3 fun y H4 => ∃ acc, H4 D = some (.lst acc) ∧ acc.length < sizeLine ∧ Nx (upd H4 D (.lst (acc ++ [y]))) else Nx H3) := by
  refine lc_it wk (fun i H => Ex H1 H ∧ H D = some (.lst (((l.take i).filter p).map g))) ⟨Ex.new hD, upd_same⟩ (fun i H _ h => hG H h.1) (fun i x H H' hi h hy => ?_) (fun H h => ?_)
  · obtain ⟨rfl, y, hy, rfl⟩ := hy
    have hm : y ∈ l := List.mem_of_getElem? hy
    have ht : l.take (i + 1) = l.take i ++ [y] := by rw [List.take_add_one, hy]; rfl
    refine ⟨hw _, hs y hm _ h.1 _ _ fun H2 e2 => ?_⟩
    have hl : (((l.take i).filter p).map g).length < sizeLine := by
      rw [List.length_map]
      refine small1000 (Nat.le_trans (List.length_filter_le _ _) ?_)
      rw [List.length_take]
      omega
    by_cases hp : p y = true
    · rw [if_pos hp]
      refine ⟨_, e2 _ _ h.2, hl, Ex.mut (h.1.trans e2) hD, ?_⟩
      rw [upd_same, ht, List.filter_append, List.map_append]
      simp [hp]
    · rw [if_neg hp]
      refine ⟨h.1.trans e2, ?_⟩
      rw [e2 _ _ h.2, ht, List.filter_append, List.map_append]
      simp [hp]
  · refine hd H h.1 ?_
    rw [h.2, List.take_length]
theorem walk_sgn (z : Str) : Walk (Its z) z.cps.toList.length (fun _ => True) (fun i H x H' => H' = H ∧ ∃ y, z.cps.toList[i]? = some y ∧ x = V.str ⟨#[y]⟩) := by
  rw [Array.length_toList]
  exact walk_str.mono (fun _ h => h) (fun i H x H' _ _ ⟨h1, c, h2, h3⟩ => ⟨h1, c, by rw [Array.getElem?_toList]; exact h2, h3⟩)
theorem cutTake {xs : List V} {n : Nat} : cutV xs none (some (n : Int)) = xs.take n := by
  unfold cutV
  rw [show HT.sIx xs.length xs.length (some (n : Int)) = min n xs.length from HT.sIx_nat xs.length xs.length n, HT.sIx_none, List.drop_zero, Nat.sub_zero]
  exact List.take_eq_take_iff.mpr (by omega)
theorem cutDrop {xs : List V} {n : Nat} : cutV xs (some (n : Int)) none = xs.drop n := by
  unfold cutV
  rw [show HT.sIx xs.length 0 (some (n : Int)) = min n xs.length from HT.sIx_nat xs.length 0 n, HT.sIx_none]
  by_cases h : n ≤ xs.length
  · rw [Nat.min_eq_left h, List.take_of_length_le (by simp)]
  · rw [Nat.min_eq_right (by omega), List.drop_of_length_le (Nat.le_refl _), List.drop_of_length_le (by omega)]
    simp
theorem inV_wv (w : List Bool) (l : List (List Bool)) : inV (wv w) (l.map wv) = decide (w ∈ l) := by
  unfold inV
  rw [List.any_map]
  by_cases h : w ∈ l
  · rw [decide_eq_true h, List.any_eq_true]
    exact ⟨w, h, by simp [eqV]⟩
  · rw [decide_eq_false h, List.any_eq_false]
    intro x hx he
    have he : eqV (wv x) (wv w) = true := he
    refine h ?_
    have : wd x = wd w := by simpa [eqV] using he
    rw [← wd_inj this]
    exact hx
theorem flatW (l : List (List Bool)) : (l.map wv).all flatV = true := by
  rw [List.all_eq_true]
  intro x hx
  obtain ⟨w, _, rfl⟩ := List.mem_map.mp hx
  rfl
end
theorem atW {w : List Bool} {i : Nat} {z : Int} (e : z = (i : Int)) (h : i < w.length) : atI (wd w).cps.toList z = some (bit (w.getD i false)) := by
  refine ats e ?_
  rw [wd_toList, List.getElem?_map, List.getD_eq_getElem?_getD, List.getElem?_eq_getElem h]
  rfl
theorem dec_sgn (a b : Bool) : (!decide (V.str ⟨#[bit a]⟩ = V.str ⟨#[bit b]⟩)) = (a != b) := by
  cases a <;> cases b <;> decide
theorem getDW {ws : List (List Bool)} {i : Nat} (h : i < ws.length) : (ws.map wv)[i]? = some (wv (ws.getD i [])) := by
  rw [List.getElem?_map, List.getD_eq_getElem?_getD, List.getElem?_eq_getElem h]
  rfl
theorem getD_mem {ws : List (List Bool)} {i : Nat} (h : i < ws.length) : ws.getD i [] ∈ ws := by
  rw [List.getD_eq_getElem?_getD, List.getElem?_eq_getElem h]
  exact List.getElem_mem h
/-! ### own rules: an attribute as a target; a dict display with one tuple key -/
def gFld (K : PySem.W.Frag) (ta : TE) (f : Str) : TG := fun y σ H Q => ta σ H fun x H2 => ∃ a C dx fs, x = .ref a ∧ H2 a = some (.ins C dx fs) ∧ Cls K C ∧ NoAttr K C f ∧ fs.length < 1000 ∧ Q σ (upd H2 a (.ins C dx (putF f y fs)))
theorem pg_fld {X : Cx} {o : Expr} {f : Str} {pos : Pos} {ta : TE} (ha : PE X o ta) : PG X (.Attribute o f pos) (gFld X.K ta f) := by
  refine ⟨fun pins s σ H v u Q I r h => ?_⟩
  refine PySem.W.kas_attr (thn (ha.run pins s σ H _ I h) fun ov s2 ⟨x, H2, I2, rx, a, C, dx, fs, ex, ea, c, n, l, q2⟩ => ?_)
  subst ex
  obtain rfl : ov = Value.ref a := rx
  exact setattr_ok I2 ea c n l r fun s3 I3 => ⟨σ, _, I3, q2⟩
def tDispT (trs : List (TE × TE)) : TE := fun σ H Q => ∀ p, H p = none → tPairs trs σ (upd H p (.dT [])) fun ps H2 => H2 p = some (.dT []) ∧ ∃ (k : List Key) (b : Addr) (v : V), ps = [(.ref b, v)] ∧ H2 b = some (.tup (k.map kV)) ∧ Q (.ref p) (upd H2 p (.dT [(k, v)]))
theorem pe_dispT {X : Cx} {pos : Pos} {keys : List (Option Expr)} {values : List Expr} {trs : List (TE × TE)} (hu : X.A.units + 1 < cLine) (h : PPs X pos keys values trs) (hall : keys.all (·.isSome) = true) (hl : keys.length = values.length) (h0 : keys ≠ [])
    (h15 : keys.length ≤ 15) : PE X (.Dict keys values pos) (tDispT trs) := by
  refine ⟨fun pins s σ H Q I q => ?_⟩
  have hn := I.hok.fresh (Nat.le_refl s.heap.objs.size)
  have I1 := I.laid (a := s.heap.objs.size) (o := .dT []) (h' := s.heap.push { cls := .type "dict", data := .dict #[] }) (t' := s.toks) (fun _ _ q => Heap.get?_push_of_some _ q) (Nat.le_refl _) (dt_empty s.heap I.big)
  have hpl := pairTrees_length keys values X.env pos hall hl
  have hp0 : pairTrees keys values X.env pos ≠ [] := fun he => by
    rw [he] at hpl
    exact h0 (List.length_eq_zero_iff.mp hpl.symm)
  rw [arm_eval_Dict, zip_pairTrees keys values X.env pos hall hl, dictDisplay_pairs _ hp0 (by omega)]
  refine wpAny_bind (wpAny_standAt (wpAny_bind (wpAny_subDictH (knd := tupleKind (mixKind X.prog X.w)) (Q := fun d s' => wpAny (model X.prog X.w) X.A (pure (Value.ref d)) (EP X pins σ Q) X.xe s') (show X.A.units < cLine by omega) (by omega) (thn (h.run pins _ σ _ _ I1 (q _ hn)) fun ws s2 ⟨ps, H2, I2, rel, e, k, b, v, ep, eb, q2⟩ => ?_))))
  subst ep
  cases rel with
  | @cons _ c _ cs r1 t =>
    cases t
    obtain ⟨kb, vb⟩ := c
    obtain ⟨r1, r2⟩ := r1
    cases (show kb = Value.ref b from r1)
    obtain ⟨z, hd, xs, rk, dd⟩ := dt_of I2.hok e
    cases rk
    refine ⟨[(k, b, vb)], ⟨rfl, rfl, key_of I2.hok eb, trivial⟩, dd, fun h' tk dd' hs => wpAny_pure ⟨.ref s.heap.objs.size, _, ?_, rfl, q2⟩⟩
    obtain ⟨o, es, ep, hq, h2, h3, h4, _, h5⟩ := dd'
    have hz : ([(k, v)] : List (List Key × V)).length ≤ sizeLine := by rw [sizeLine_eq]; simp
    refine d_write I2 (by rw [e]; exact True.intro) hs ⟨o, hq⟩ ⟨hz, hd, _, (KT.put (H := H2) (kvs := []) (xs := []) .nil k eb r2).keeps fun c ys ec => ?_, o, es, ep, hq, h2, h3, h4, h5⟩
    rw [upd_ne (ne_of ec e (fun z => nomatch z))]
    exact ec
/-! ### data of a bounded depth: None, ints, texts, lists and tuples -/
def Leaf (v : V) (d : PyData) : Prop := (v = .non ∧ d = .none) ∨ (∃ i, v = .int i ∧ d = .int i) ∨ (∃ x, v = .str x ∧ d = .str x)
def Da (H : Hp) : Nat → V → PyData → Prop
  | 0, v, d => Leaf v d
  | n + 1, v, d => Leaf v d ∨ (∃ a xs ds, v = .ref a ∧ d = .list ds ∧ H a = some (.lst xs) ∧ xs.length ≤ 1000 ∧ Paired (Da H n) xs ds) ∨ (∃ a xs ds, v = .ref a ∧ d = .tuple ds ∧ H a = some (.tup xs) ∧ xs.length ≤ 1000 ∧ Paired (Da H n) xs ds)
theorem paired_imp {α β : Type} {R S : α → β → Prop} (h : ∀ a b, R a b → S a b) : ∀ {xs : List α} {ys : List β}, Paired R xs ys → Paired S xs ys
  | _, _, .nil => .nil
  | _, _, .cons r t => .cons (h _ _ r) (paired_imp h t)
theorem Da.mono {H H' : Hp} (e : Ex H H') : ∀ {n : Nat} {v : V} {d : PyData}, Da H n v d → Da H' n v d
  | 0, _, _, h => h
  | n + 1, _, _, h => by
    rcases h with h | ⟨a, xs, ds, h1, h2, h3, h4, h5⟩ | ⟨a, xs, ds, h1, h2, h3, h4, h5⟩
    · exact .inl h
    · exact .inr (.inl ⟨a, xs, ds, h1, h2, e _ _ h3, h4, paired_imp (fun _ _ => Da.mono e) h5⟩)
    · exact .inr (.inr ⟨a, xs, ds, h1, h2, e _ _ h3, h4, paired_imp (fun _ _ => Da.mono e) h5⟩)
theorem Da.leaf {H : Hp} {v : V} {d : PyData} (h : Leaf v d) : ∀ {n : Nat}, Da H n v d
  | 0 => h
  | _ + 1 => .inl h
theorem Da.int {H : Hp} {n : Nat} (i : Int) : Da H n (.int i) (.int i) := Da.leaf (.inr (.inl ⟨i, rfl, rfl⟩))
theorem Da.str {H : Hp} {n : Nat} (x : Str) : Da H n (.str x) (.str x) := Da.leaf (.inr (.inr ⟨x, rfl, rfl⟩))
theorem Da.non {H : Hp} {n : Nat} : Da H n .non .none := Da.leaf (.inl ⟨rfl, rfl⟩)
theorem Da.lst {H : Hp} {n : Nat} {a : Addr} {xs : List V} {ds : List PyData} (h : H a = some (.lst xs)) (l : xs.length ≤ 1000) (p : Paired (Da H n) xs ds) : Da H (n + 1) (.ref a) (.list ds) := .inr (.inl ⟨a, xs, ds, rfl, rfl, h, l, p⟩)
theorem Da.tup {H : Hp} {n : Nat} {a : Addr} {xs : List V} {ds : List PyData} (h : H a = some (.tup xs)) (l : xs.length ≤ 1000) (p : Paired (Da H n) xs ds) : Da H (n + 1) (.ref a) (.tuple ds) := .inr (.inr ⟨a, xs, ds, rfl, rfl, h, l, p⟩)
theorem paired_map {α β γ : Type} {R : α → β → Prop} (f : γ → α) (g : γ → β) : ∀ (l : List γ), (∀ x ∈ l, R (f x) (g x)) → Paired R (l.map f) (l.map g)
  | [], _ => .nil
  | x :: l, h => .cons (h x List.mem_cons_self) (paired_map f g l fun y hy => h y (List.mem_cons_of_mem _ hy))
theorem Da.strs {H : Hp} {n : Nat} {a : Addr} {l : List (List Bool)} (h : H a = some (.lst (l.map wv))) (hl : l.length ≤ 1000) : Da H (n + 1) (.ref a) (.list (l.map fun w => .str (wd w))) :=
  Da.lst h (by simpa using hl) (paired_map _ _ l fun w _ => Da.str _)
theorem paired_at {α β : Type} {R : α → β → Prop} : ∀ {xs : List α} {ys : List β} {i : Nat}, Paired R xs ys → i < ys.length → ∃ x y, xs[i]? = some x ∧ ys[i]? = some y ∧ R x y
  | _, _, i, .nil, h => absurd h (Nat.not_lt_zero _)
  | _, _, 0, .cons r _, _ => ⟨_, _, rfl, rfl, r⟩
  | _, _, i + 1, .cons _ t, h => paired_at (i := i) t (Nat.lt_of_succ_lt_succ h)
theorem paired_len {α β : Type} {R : α → β → Prop} : ∀ {xs : List α} {ys : List β}, Paired R xs ys → xs.length = ys.length
  | _, _, .nil => rfl
  | _, _, .cons _ t => congrArg (· + 1) (paired_len t)
/-! ### data compared -/
def Sd : Nat → PyData → Prop
  | _, .none => True
  | _, .bool _ => True
  | _, .int _ => True
  | _, .str x => PyData.strOk x = true
  | 0, _ => False
  | n + 1, .list ds => ∀ d ∈ ds, Sd n d
  | n + 1, .tuple ds => ∀ d ∈ ds, Sd n d
  | _ + 1, .dict _ => False
theorem strOk_wd (b : List Bool) : PyData.strOk (wd b) = true := by
  unfold PyData.strOk
  rw [← Array.all_toList, wd_toList, List.all_eq_true]
  intro x hx
  obtain ⟨c, _, rfl⟩ := List.mem_map.mp hx
  cases c <;> decide
theorem canAll : ∀ {ds : List PyData}, (∀ d ∈ ds, d.canLay0 = true) → PyData.canLayAll0 ds = true
  | [], _ => rfl
  | d :: ds, h => by
    rw [PyData.canLayAll0, h d List.mem_cons_self, canAll fun x hx => h x (List.mem_cons_of_mem _ hx)]
    rfl
theorem depthAll_le {n : Nat} : ∀ {ds : List PyData}, (∀ d ∈ ds, d.depth ≤ n) → PyData.depthAll ds ≤ n
  | [], _ => by
    rw [PyData.depthAll]
    exact Nat.zero_le _
  | d :: ds, h => by
    rw [PyData.depthAll]
    exact Nat.max_le.mpr ⟨h d List.mem_cons_self, depthAll_le fun x hx => h x (List.mem_cons_of_mem _ hx)⟩
theorem Sd.ok : ∀ {n : Nat} {d : PyData}, Sd n d → d.canLay0 = true ∧ d.depth ≤ n := by
  intro n
  induction n with
  | zero =>
    intro d h
    cases d with
    | none => exact ⟨by rw [PyData.canLay0], by rw [PyData.depth] <;> simp⟩
    | bool b => exact ⟨by rw [PyData.canLay0], by rw [PyData.depth] <;> simp⟩
    | int i => exact ⟨by rw [PyData.canLay0], by rw [PyData.depth] <;> simp⟩
    | str x => exact ⟨by rw [PyData.canLay0]; exact h, by rw [PyData.depth] <;> simp⟩
    | list ds => exact h.elim
    | tuple ds => exact h.elim
    | dict ds => exact h.elim
  | succ n ih =>
    intro d h
    cases d with
    | none => exact ⟨by rw [PyData.canLay0], by rw [PyData.depth] <;> simp⟩
    | bool b => exact ⟨by rw [PyData.canLay0], by rw [PyData.depth] <;> simp⟩
    | int i => exact ⟨by rw [PyData.canLay0], by rw [PyData.depth] <;> simp⟩
    | str x => exact ⟨by rw [PyData.canLay0]; exact h, by rw [PyData.depth] <;> simp⟩
    | list ds => exact ⟨by rw [PyData.canLay0]; exact canAll fun x hx => (ih (h x hx)).1, by rw [PyData.depth]; exact Nat.succ_le_succ (depthAll_le fun x hx => (ih (h x hx)).2)⟩
    | tuple ds => exact ⟨by rw [PyData.canLay0]; exact canAll fun x hx => (ih (h x hx)).1, by rw [PyData.depth]; exact Nat.succ_le_succ (depthAll_le fun x hx => (ih (h x hx)).2)⟩
    | dict ds => exact h.elim
theorem Sd.shaped {n : Nat} {d : PyData} (h : Sd n d) (hn : n ≤ 64) : SeqAt.shaped d = true := by
  obtain ⟨h1, h2⟩ := h.ok
  unfold SeqAt.shaped
  rw [h1, decide_eq_true (Nat.le_trans h2 hn)]
  rfl
theorem dpAll_of {K : PySem.W.Frag} {H : Hp} {R : V → PyData → Prop} (hR : ∀ v d, R v d → Dp K H v d) : ∀ {xs : List V} {ds : List PyData}, Paired R xs ds → DpAll K H xs ds
  | _, _, .nil => .nil
  | _, _, .cons r t => .cons (hR _ _ r) (dpAll_of hR t)
theorem Da.dp {K : PySem.W.Frag} {H : Hp} : ∀ {n : Nat} {v : V} {d : PyData}, Da H n v d → Dp K H v d := by
  have leaf : ∀ {v : V} {d : PyData}, Leaf v d → Dp K H v d := by
    rintro v d (⟨rfl, rfl⟩ | ⟨i, rfl, rfl⟩ | ⟨x, rfl, rfl⟩)
    · exact .non
    · exact .int i
    · exact .str x
  intro n
  induction n with
  | zero => exact fun h => leaf h
  | succ n ih =>
    rintro v d (h | ⟨a, xs, ds, rfl, rfl, h1, h2, h3⟩ | ⟨a, xs, ds, rfl, rfl, h1, h2, h3⟩)
    · exact leaf h
    · exact .lst (SqL.of h1) (dpAll_of (fun _ _ => ih) h3)
    · exact .tup (SqT.of h1) (dpAll_of (fun _ _ => ih) h3)
theorem dpStrs {K : PySem.W.Frag} {H : Hp} : ∀ (l : List Str), DpAll K H (l.map V.str) (l.map PyData.str)
  | [] => .nil
  | x :: l => .cons (.str x) (dpStrs l)
theorem dpL {K : PySem.W.Frag} {H : Hp} {a : Addr} {l : List Str} (h : SqL K H a (l.map V.str)) : Dp K H (.ref a) (.list (l.map PyData.str)) := .lst h (dpStrs l)
theorem sdStrs {n : Nat} {l : List Str} (h : ∀ x ∈ l, PyData.strOk x = true) : Sd (n + 1) (.list (l.map PyData.str)) := fun d hd => by
  obtain ⟨x, hx, rfl⟩ := List.mem_map.mp hd
  cases n <;> exact h x hx
theorem eqvStrs : ∀ (l m : List Str), PyData.eqv (.list (l.map PyData.str)) (.list (m.map PyData.str)) = decide (l = m) := by
  intro l m
  rw [PyData.eqv]
  induction l generalizing m with
  | nil =>
    cases m with
    | nil => rfl
    | cons y m => rfl
  | cons x l ih =>
    cases m with
    | nil => rfl
    | cons y m =>
      show PyData.eqvAll (.str x :: l.map PyData.str) (.str y :: m.map PyData.str) = _
      rw [PyData.eqvAll, ih m, PyData.eqv]
      by_cases h1 : x = y
      · by_cases h2 : l = m
        · simp [h1, h2]
        · simp [h1, h2]
      · simp [h1]
/-! ### sets of texts: set(list of texts), sorted of it, its length -/
section
open PyProof.Rows
def kOf (e : Int × Value) : Str := match e.2 with
  | .str k _ => k
  | _ => Str.empty
def GE (w : World) (e : Int × Value) : Prop := ∃ k tk, e.2 = Value.str k tk ∧ e.1 = hashStr w k
/-- at a stands a set of the texts l; its table rises and may be walked -/
def SetT (w : World) (h : Heap) (a : Addr) (l : List Str) : Prop :=
  ∃ o es ep t, h.get? a = some o ∧ o.ExactSet ∧ o.data = .set es ep t ∧ (∀ e ∈ es.toList, GE w e) ∧ (es.toList.map kOf).Perm l ∧ l.Nodup ∧ es.size < scanBound ∧ t.fits es.size = true ∧ Ris t.place.toList ∧
    (w.params.followText "set-order" = true ∨ t.led = true)
def insS (l : List Str) (k : Str) : List Str := if k ∈ l then l else k :: l
section
variable {P : Program} {w : World} {h h' : Heap} {a : Addr} {l : List Str}
theorem SetT.at (R : SetT w h a l) (k : ∀ o, h.get? a = some o → h'.get? a = some o) : SetT w h' a l := by
  obtain ⟨o, es, ep, t, ho, r⟩ := R
  exact ⟨o, es, ep, t, k o ho, r⟩
theorem ge_is {e : Int × Value} (g : GE w e) (k : Str) : (strKind P w).is k e.2 = true ↔ kOf e = k := by
  obtain ⟨k0, tk, h1, _⟩ := g
  unfold kOf
  rw [h1]
  show Value.isStrOf k (.str k0 tk) = true ↔ k0 = k
  simp [Value.isStrOf]
theorem ge_elems {m : List (Int × Value)} (g : ∀ e ∈ m, GE w e) : ElemsOf (strKind P w) m := fun e he => by
  obtain ⟨k, tk, h1, h2⟩ := g e he
  exact ⟨⟨k, by rw [h1]; exact strKind_is P w k tk, h2⟩, by rw [h1] <;> rfl⟩
theorem ge_mem {m : List (Int × Value)} (g : ∀ e ∈ m, GE w e) (k : Str) : k ∈ m.map kOf ↔ ∃ e ∈ m, (strKind P w).is k e.2 = true := by
  rw [List.mem_map]
  exact ⟨fun ⟨e, he, q⟩ => ⟨e, he, (ge_is (g e he) k).2 q⟩, fun ⟨e, he, q⟩ => ⟨e, he, (ge_is (g e he) k).1 q⟩⟩
theorem SetT.size (R : SetT w h a l) : ∃ o es ep t, h.get? a = some o ∧ o.ExactSet ∧ o.data = .set es ep t ∧ es.size = l.length ∧ t.fits es.size = true := by
  obtain ⟨o, es, ep, t, ho, hx, hd, g, pm, nd, hb, hf, _⟩ := R
  exact ⟨o, es, ep, t, ho, hx, hd, by rw [← pm.length_eq, List.length_map, Array.length_toList], hf⟩
theorem SetT.setOf (R : SetT w h a l) : h.SetOf (strKind P w) a (fun k => decide (k ∈ l)) l.length := by
  obtain ⟨o, es, ep, t, ho, hx, hd, g, pm, nd, hb, hf, _⟩ := R
  refine ⟨o, es, ep, t, ho, hx, hd, ge_elems g, fun k => ?_, hb, hf, by rw [← pm.length_eq, List.length_map, Array.length_toList]⟩
  rw [decide_eq_true_eq, ← pm.mem_iff]
  exact ge_mem g k
end
section
variable {P : Program} {w : World} {A : Around} {E : Value → Shared → Prop} {s : Shared} {a : Addr} {l : List Str}
theorem tail_T {g : Bool → Sem Unit} (hg : ∀ (b : Bool) (s1 : Shared) (Q' : Unit → Shared → Prop), Q' () s1 → wpAny (model P w) A (g b) Q' E s1)
    {o : Obj} {es : Array (Int × Value)} {ep : Nat} {t : SetTable} (ho : s.heap.get? a = some o) (hex : o.ExactSet) (hd : o.data = .set es ep t)
    {es1 : Array (Int × Value)} {t2 : SetTable} {l1 : List Str} (g1 : ∀ e ∈ es1.toList, GE w e) (p1 : (es1.toList.map kOf).Perm l1) (nd1 : l1.Nodup)
    (hb1 : es1.size < scanBound) (hf2 : t2.fits es1.size = true) (hr : Ris t2.place.toList) (hl : w.params.followText "set-order" = true ∨ t2.led = true) {wasDummy : Bool} {R : Option Bool → Shared → Prop}
    (hR : ∀ h', Heap.SameBut a s.heap h' → SetT w h' a l1 → R (some true) { s with heap := h' }) :
    wpAny (model P w) A (do
        storeSet a es1 t2
        if (!wasDummy && t2.tooFull) = true then do
            g (relayAll t2 es1 (SetTable.grown es1.size)).2.2
            storeSet a (relayAll t2 es1 (SetTable.grown es1.size)).1 (relayAll t2 es1 (SetTable.grown es1.size)).2.1
            pure (some true)
          else pure (some true)) R E s := by
  have o1 := store_at (es' := es1) (t' := t2) ho hd
  have s1 := Heap.SameBut.update s.heap a (Obj.putSet es1 t2)
  refine wpAny_bind (wpAny_storeSet_of ho hd ?_ (fits_of_scanBound hb1))
  split
  · have q1 := relayAll_perm t2 es1 (SetTable.grown es1.size)
    have q2 := relayAll_fits t2 es1 (SetTable.grown es1.size)
    have q3 := relayAll_ris t2 es1 (SetTable.grown es1.size)
    have q4 := relayAll_led t2 es1 (SetTable.grown es1.size)
    generalize relayAll t2 es1 (SetTable.grown es1.size) = Z at q1 q2 q3 q4 ⊢
    obtain ⟨es2, t3, gave⟩ := Z
    dsimp only at q1 q2 q3 q4 ⊢
    have z1 : es2.size = es1.size := by rw [← Array.length_toList, q1.length_eq, Array.length_toList]
    have z2 : es2.size < scanBound := by rw [z1]; exact hb1
    refine wpAny_bind (hg _ _ _ (wpAny_bind (wpAny_storeSet_of o1 rfl ?_ (fits_of_scanBound z2))))
    exact wpAny_pure (hR _ (s1.trans (Heap.SameBut.update _ a _)) ⟨_, es2, _, t3, store_at (es' := es2) (t' := t3) o1 rfl, hex, rfl, fun e he => g1 e (q1.mem_iff.mp he), (q1.map kOf).trans p1, nd1, z2, q2, q3, hl.imp id fun z => by rw [q4]; exact z⟩)
  · exact wpAny_pure (hR _ s1 ⟨_, es1, _, t2, o1, hex, rfl, g1, p1, nd1, hb1, hf2, hr, hl⟩)
theorem add_T {k : Str} {tk : Tok} {Q : Bool → Shared → Prop} (R : SetT w s.heap a l) (room : l.length + 1 < scanBound)
    (hQ : ∀ h' b, Heap.SameBut a s.heap h' → SetT w h' a (insS l k) → Q b { s with heap := h' }) :
    wpAny (model P w) A (setAddHashed a (.str k tk) ((strKind P w).hash k)) Q E s := by
  obtain ⟨o, es, ep, t, ho, hex, hd, g, pm, nd, hb, hf, hr, hl⟩ := R
  have hkey : (strKind P w).is k (.str k tk) = true := strKind_is P w k tk
  have hsc : (Value.str k tk).scannable = true := rfl
  have hel : ElemsOf (strKind P w) es.toList := ge_elems g
  unfold setAddHashed setAddHashedIn
  refine wpAny_holding (wpAny_bind (wpAny_setState_of ho hd hf ?_))
  dsimp only
  rw [byScan_of hsc hb hel]
  simp only [↓reduceIte]
  unfold setAddByScan
  refine wpAny_bind (wpAny_bind (wpAny_rule (wpAny_bind (wpAny_setScan_of hkey ho hd hf hel ?_))))
  cases hfi : List.findIdx? (fun e => (strKind P w).is k e.2) es.toList with
  | some j =>
    dsimp only
    obtain ⟨hj, pj, _⟩ := List.findIdx?_eq_some_iff_getElem.mp hfi
    have hk : k ∈ l := pm.mem_iff.mp ((ge_mem (P := P) (w := w) g k).2 ⟨es.toList[j], List.getElem_mem hj, pj⟩)
    refine wpAny_pure (wpAny_pure (hQ s.heap _ (Heap.SameBut.refl a s.heap) ?_))
    rw [insS, if_pos hk]
    exact ⟨o, es, ep, t, ho, hex, hd, g, pm, nd, hb, hf, hr, hl⟩
  | none =>
    dsimp only
    have hk0 : k ∉ es.toList.map kOf := fun z => by
      obtain ⟨e, he, q⟩ := (ge_mem (P := P) (w := w) g k).1 z
      have c := List.findIdx?_eq_none_iff.mp hfi e he
      rw [q] at c
      cases c
    have hk : k ∉ l := fun z => hk0 (pm.mem_iff.mpr z)
    have q1 := layNew_perm t es ((strKind P w).hash k) (.str k tk)
    have q2 := layNew_fits t es ((strKind P w).hash k) (.str k tk)
    have q3 := layNew_ris t es ((strKind P w).hash k) (.str k tk) hr
    have q4 := layNew_led t es ((strKind P w).hash k) (.str k tk)
    generalize layNew t es ((strKind P w).hash k) (.str k tk) = Z at q1 q2 q3 q4 ⊢
    obtain ⟨es1, t1, wasDummy, gave⟩ := Z
    dsimp only at q1 q2 q3 q4 ⊢
    rw [Array.toList_push] at q1
    have pc : es1.toList.Perm (((strKind P w).hash k, Value.str k tk) :: es.toList) := q1.trans (List.perm_append_singleton _ _)
    have pk : (es1.toList.map kOf).Perm (insS l k) := by
      rw [insS, if_neg hk]
      exact (pc.map kOf).trans (List.Perm.cons k pm)
    have g1 : ∀ e ∈ es1.toList, GE w e := fun e he => by
      rcases List.mem_cons.mp (pc.mem_iff.mp he) with z | z
      · rw [z]
        exact ⟨k, tk, rfl, rfl⟩
      · exact g e z
    have nd1 : (insS l k).Nodup := by
      rw [insS, if_neg hk]
      exact List.nodup_cons.mpr ⟨hk, nd⟩
    have hb1 : es1.size < scanBound := by
      rw [← Array.length_toList, pc.length_eq, List.length_cons, ← List.length_map (f := kOf), pm.length_eq]
      exact room
    have hled : w.params.followText "set-order" = true ∨ t1.led = true := hl.imp id fun z => by rw [q4]; exact z
    have fin : ∀ h', Heap.SameBut a s.heap h' → SetT w h' a (insS l k) → Q true { s with heap := h' } := fun h' sb r => hQ h' true sb r
    have hgw : ∀ (b : Bool) {s1 : Shared} {Q' : Unit → Shared → Prop}, Q' () s1 → wpAny (model P w) A (match b with | true => rule "set.scan.the-table-gave-way" | false => pure ()) Q' E s1 :=
      fun b s1 Q' q => by cases b <;> first | exact wpAny_pure q | exact wpAny_rule q
    refine wpAny_bind (hgw _ ?_)
    split
    · refine wpAny_bind ?_
      rw [hashByValue_scannable 8 hsc]
      refine wpAny_pure (tail_T ?_ ho hex hd g1 pk nd1 hb1 ?_ ?_ ?_ ?_)
      · intro b s1 Q' q; cases b <;> first | exact wpAny_pure q | exact wpAny_rule q
      · first | (split <;> first | exact q2 | exact SetTable.fits_plain_off q2) | exact q2
      · first | (split <;> exact q3) | exact q3
      · first | (split <;> exact hled) | exact hled
      · intro h' sb r; dsimp only; exact wpAny_pure (fin h' sb r)
    · refine wpAny_bind (wpAny_pure ?_)
      simp only [↓reduceIte]
      refine tail_T ?_ ho hex hd g1 pk nd1 hb1 q2 q3 hled ?_
      · intro b s1 Q' q; cases b <;> first | exact wpAny_pure q | exact wpAny_rule q
      · intro h' sb r; dsimp only; exact wpAny_pure (fin h' sb r)
end
/-- the members met ahead of place i -/
def metS (val : Nat → Str) (i : Nat) : List Str := ((List.range i).map val).foldl insS []
theorem metS_succ (val : Nat → Str) (i : Nat) : metS val (i + 1) = insS (metS val i) (val i) := by
  unfold metS
  rw [List.range_succ, List.map_append, List.foldl_append]
  rfl
theorem insS_len (l : List Str) (k : Str) : (insS l k).length ≤ l.length + 1 := by
  unfold insS
  split <;> simp
theorem metS_len (val : Nat → Str) : ∀ i, (metS val i).length ≤ i
  | 0 => Nat.le_refl _
  | i + 1 => by
    rw [metS_succ]
    have := insS_len (metS val i) (val i)
    have := metS_len val i
    omega
section
variable {P : Program} {w : World} {A : Around} {R : Result → Shared → Prop} {I : Addr} {fp wr : List Addr} {Gn : Array GenState → Array GenState → Prop} {n : Nat} {Pv : Nat → Value → Prop} {St : Nat → Shared → Prop}
theorem loop_T (W : WalksS P w A.in1 I fp wr Gn n Pv St) (S : Addr) (hSf : S ∉ fp) (val : Nat → Str) (hval : ∀ i v, Pv i v → ∃ t, v = .str (val i) t) (hb : n + 1 < scanBound) :
    ∀ (k i : Nat) (s : Shared), n - i = k → i ≤ n → St i s → SetT w s.heap S (metS val i) → (∀ s', Moved (S :: wr) Gn s s' → SetT w s'.heap S (metS val n) → R (.ok (.ret .none)) s') →
      codeAny (model P w) A (.builtin "set.update.loop" ⟨[.ref S, .ref I], []⟩) R s := by
  have hSw : S ∉ wr := fun h => hSf (W.sub _ h)
  have hsub : ∀ b ∈ wr, b ∈ S :: wr := fun b hb => List.mem_cons_of_mem _ hb
  intro k
  induction k with
  | zero =>
    intro i s hk hi hst hS hR
    obtain rfl : i = n := by omega
    refine codeAny_builtin F.entry_set_update_loop ?_
    rw [Around.under_plainId F.plain_set_update_loop _]
    show wpAny _ A.in1 (pyNext (.ref I) >>= _) _ _ s
    exact wpAny_bind (W.done s _ _ hst fun s' hm => (show wpAny _ A.in1 (ret Value.none) _ _ s' from wpAny_pure (hR s' (hm.mono hsub) (hS.at fun o e => hm.heap S _ hSw e))))
  | succ k ih =>
    intro i s hk hi hst hS hR
    have hlt : i < n := by omega
    refine codeAny_builtin F.entry_set_update_loop ?_
    rw [Around.under_plainId F.plain_set_update_loop _]
    show wpAny _ A.in1 (pyNext (.ref I) >>= _) _ _ s
    refine wpAny_bind (W.item i s _ _ hlt hst fun v s' hP hst' hm => ?_)
    obtain ⟨t, rfl⟩ := hval i v hP
    have hS' : SetT w s'.heap S (metS val i) := hS.at fun o e => hm.heap S _ hSw e
    show wpAny _ A.in1 (holding [Value.str (val i) t] (setAdd S (.str (val i) t)) >>= _) _ _ s'
    refine wpAny_bind (wpAny_holding ?_)
    unfold setAdd
    refine wpAny_holding (wpAny_bind ((strKind P w).pyHash (k := val i) (strKind_is _ _ _ _) ?_))
    have hroom : (metS val i).length + 1 < scanBound := by have := metS_len val i; omega
    refine add_T (s := { s' with toks := s'.toks + 1 }) hS' hroom fun h' b hsb hS2 => ?_
    rw [← metS_succ] at hS2
    refine wpAny_pure ⟨plainId_quiet F.plain_set_update_loop _, ih (i + 1) _ (by omega) hlt (W.frame _ s' _ _ hst' (Nat.le_succ _) fun b hb o e => ?_) hS2 fun s'' hm'' hS'' => ?_⟩
    · exact (hsb.2 b (fun h : b = S => hSf (by rw [← h]; exact hb))).trans e
    · refine hR s'' (Moved.trans W.gtrans ((hm.mono hsub).then_heap (Nat.le_succ _) fun b o hb e => ?_) hm'') hS''
      exact (hsb.2 b (fun h : b = S => hb (by rw [h]; exact List.mem_cons_self))).trans e
end
section
variable {P : Program} {w : World} {A : Around} {E : Value → Shared → Prop} {s : Shared}
abbrev emptyT (w : World) : Obj := { cls := .type "set", dict := none, data := .set #[] 0 (.fresh 0 0 (!w.params.followText "set-order")) }
theorem new_T (a : Value) {Q1 : Value → Shared → Prop} (h : Q1 (.ref s.heap.objs.size) { s with heap := s.heap.push (emptyT w) }) :
    codeAny (model P w) A (.call (.builtin "set.__new__") ⟨[.type "set", a], []⟩) (wants Q1 E) s := by
  refine codeAny_of_tree ?_
  show wpAny _ A.in1 (do checkBuiltinCall "set.__new__" ⟨[.type "set", a], []⟩; again (.builtin "set.__new__" ⟨[.type "set", a], []⟩)) _ _ s
  refine wpAny_bind (wpAny_of_eq (F.newCall_set_1 a) (wpAny_pure ⟨plainId_quiet F.plain_set_new _, codeAny_builtin F.entry_set_new ?_⟩))
  rw [Around.under_plainId F.plain_set_new _]
  unfold Builtin.«set.__new__» Builtin.Frozenset.newClass
  have hsub := sub_set_self
  obtain ⟨hp, g, d, tk, os⟩ := s
  dsimp only
  wp_walk
  refine wpAny_askSetting (wpAny_pure ?_)
  dsimp only
  simp only [newObj]
  exact wpAny_bind (wpAny_alloc (wpAny_pure (wpAny_pure h)))
theorem fresh_T {h : Heap} (w : World) {a : Addr} (e : h.get? a = some (emptyT w)) : SetT w h a [] :=
  ⟨_, #[], 0, _, e, ⟨rfl, rfl, rfl⟩, rfl, (fun e he => by simp at he), (by simp), List.nodup_nil, (by decide), (by rfl), List.Pairwise.nil, by
    show _ ∨ (!w.params.followText "set-order") = true
    cases w.params.followText "set-order"
    · exact .inr rfl
    · exact .inl rfl⟩
set_option maxRecDepth 100000 in
set_option maxHeartbeats 3200000 in
theorem call_set_T {l : Addr} {items : Array Value} {xs : List Str} {Q : Value → Shared → Prop} (hh : A.handled = none) (hl : s.heap.IsList l items) (hi : StrsAre items.toList xs) (hb : items.size + 1 < scanBound)
    (h : ∀ (h' : Heap) (tk : Nat), SetT w h' s.heap.objs.size (xs.foldl insS []) → (∀ b o, b < s.heap.objs.size → s.heap.get? b = some o → h'.get? b = some o) → Q (.ref s.heap.objs.size) { s with heap := h', toks := tk }) :
    wpAny (model P w) A (call (.type "set") [.ref l]) Q E s := by
  have hsz : xs.length = items.size := by rw [← StrsAre.len_eq hi, Array.length_toList]
  have hmet : metS (fun i => xs.getD i Str.empty) items.size = xs.foldl insS [] := by
    unfold metS
    congr 1
    rw [← hsz]
    refine List.ext_getElem (by simp) fun i h1 h2 => ?_
    simp only [List.getElem_map, List.getElem_range]
    rw [List.getD_eq_getElem?_getD, List.getElem?_eq_getElem h2]
    rfl
  obtain ⟨c, tl, hmro⟩ := F.called_set.mro
  have hmade := F.called_set.made
  have hsub := F.called_set.sub
  refine wpAny_call (codeAny_of_tree ?_)
  show wpAny _ _ (callAny (.type "set") _) _ _ _
  refine wpAny_pure ⟨Code.quiet_builtin _ (by decide +kernel), codeAny_builtin F.entry_type_call ?_⟩
  rw [Around.under_plain (weight_type_call_type "set" [.ref l] []) rfl]
  have h1 := F.called_set.notType
  have h2 := F.called_set.canCreate
  have hct := F.typeCall_set_1 (.ref l)
  repeat (any_goals (first | assumption | wp_step))
  refine codeAny_mono (new_T (.ref l) (E := E) (Q1 := fun obj s1 => obj = .ref s.heap.objs.size ∧ s1 = { s with heap := s.heap.push (emptyT w) }) ⟨rfl, rfl⟩) fun r s1 hr => ?_
  cases r with
  | error e => exact hr
  | ok fl =>
    cases fl with
    | ret obj =>
      obtain ⟨rfl, rfl⟩ := hr
      have hS : (s.heap.push (emptyT w)).get? s.heap.objs.size = some (emptyT w) := Heap.get?_push_size _ rfl
      have hT : Shared.TypeIs { s with heap := s.heap.push (emptyT w) } (.ref s.heap.objs.size) "set" := ⟨_, hS, rfl⟩
      have hli := F.called_set.init.lookup
      have hbi := F.called_set.init.bind (.ref s.heap.objs.size)
      repeat (any_goals (first | assumption | wp_step))
      refine codeAny_mono (codeAny_call_builtin (R := wants (fun r s2 => r = .none ∧ ∃ h' tk, s2 = { s with heap := h', toks := tk } ∧ SetT w h' s.heap.objs.size (xs.foldl insS []) ∧
          (∀ b o, b < s.heap.objs.size → s.heap.get? b = some o → h'.get? b = some o)) E) F.called_set.init.plain F.entry_set_init (check_set_init_1 hT ?_)) fun r2 s2 hr2 => ?_
      · obtain ⟨ol, hol, hcl, nl, hdl⟩ := hl
        obtain ⟨ocls, odict, odata, oslots⟩ := ol
        simp only at hcl hdl
        subst hcl; subst hdl
        have hol' : (s.heap.push (emptyT w)).get? l = some { cls := .type "list", dict := odict, data := .seq items nl, slots := oslots } := Heap.get?_push_of_some _ hol
        have hsls := F.sub_list_set
        have hslf := F.sub_list_frozenset
        have hne : (Value.type "list" == Value.type "dict") = false := by decide
        have hl1 : (s.heap.push (emptyT w)).IsList l items := ⟨_, hol', rfl, nl, rfl⟩
        unfold Builtin.«set.__init__» noKeywords Builtin.Frozenset.updateFrom
        generalize hPI : pyIter = PI
        wp_walk
        subst hPI
        refine wpAny_pyIter_list hl1 (wpAny_bind (wpAny_runValue ?_))
        have hlS : l < s.heap.objs.size := Heap.lt_size hol
        have hh3 : A.in1.in1.in1.handled = none := by simp [hh]
        have hneI : l ≠ (s.heap.push (emptyT w)).objs.size := by
          rw [Heap.size_push]
          exact Nat.ne_of_lt (Nat.lt_succ_of_lt hlS)
        have hSf : s.heap.objs.size ∉ [(s.heap.push (emptyT w)).objs.size, l] := by
          rw [Heap.size_push]
          simp only [List.mem_cons, List.mem_singleton, List.not_mem_nil, or_false, not_or]
          exact ⟨Nat.ne_of_lt (Nat.lt_succ_self _), Nat.ne_of_gt hlS⟩
        have hval : ∀ (i : Nat) (v : Value), items[i]? = some v → ∃ t, v = .str ((fun i => xs.getD i Str.empty) i) t := fun i v hv => SS.strs_at hi i v (by rw [Array.getElem?_toList]; exact hv)
        refine loop_T ((Walks.list hh3 _ l hneI items).toS) s.heap.objs.size hSf (fun i => xs.getD i Str.empty) hval hb (items.size - 0) 0 _ (by omega) (Nat.zero_le _)
          ⟨⟨_, Heap.get?_push_size _ rfl, rfl, rfl⟩, (hl1.push _)⟩ ?hS0 ?hR
        case hS0 =>
          exact fresh_T w (Heap.get?_push_of_some _ hS)
        case hR =>
          intro s' hm hS'
          rw [hmet] at hS'
          obtain ⟨h', g', d', tk', os'⟩ := s'
          have eg : g' = s.gens := hm.gens
          have ed : d' = s.drawn := hm.drawn
          have eo : os' = s.os := hm.os
          subst eg; subst ed; subst eo
          show wpAny _ _ _ _ _ _
          refine wpAny_pure ?_
          show wpAny _ _ (ret Value.none) _ _ _
          refine wpAny_pure ⟨rfl, h', tk', rfl, hS', fun b o hb e => ?_⟩
          have hb1 : b ≠ s.heap.objs.size := Nat.ne_of_lt hb
          have hb2 : b ≠ (s.heap.push (emptyT w)).objs.size := by
            rw [Heap.size_push]
            exact Nat.ne_of_lt (Nat.lt_succ_of_lt hb)
          exact hm.heap b o (by simp only [List.mem_cons, List.mem_singleton, List.not_mem_nil, or_false, not_or]; exact ⟨hb1, hb2⟩) (Heap.get?_push_of_some _ (Heap.get?_push_of_some _ e))
      · cases r2 with
        | error e => exact hr2
        | ok fl2 =>
          cases fl2 with
          | ret r =>
            obtain ⟨rfl, h', tk, rfl, hS', hk'⟩ := hr2
            repeat (any_goals (first | assumption | wp_step))
            exact h _ _ hS' hk'
          | _ => exact hr2.elim
    | _ => exact hr.elim
end
section
variable {P : Program} {w : World} {A : Around} {E : Value → Shared → Prop} {s : Shared} {a : Addr}
theorem strs_of : ∀ (l : List Value), (∀ v ∈ l, ∃ k tk, v = Value.str k tk) → StrsAre l (l.map strOf)
  | l, h => strsAre_map l h
theorem sorted_T {l : List Str} {Q : Value → Shared → Prop} (R : SetT w s.heap a l) (hh : A.handled = none) (h64 : l.length < 64)
    (hQ : ∀ s' p (out : Array Value) (c : Nat) (ys : List Str), (∀ b o, s.heap.get? b = some o → s'.heap.get? b = some o) → s'.gens = s.gens → s'.os = s.os → s.heap.objs.size ≤ p →
      s'.heap.get? p = some (seqObj "list" out c) → StrsAre out.toList ys → ys.Perm l → sortedS ys = true → Q (.ref p) s') :
    wpAny (model P w) A (call (.builtin "sorted") [.ref a]) Q E s := by
  obtain ⟨o, es, ep, t, ho, hex, hd, g, pm, nd, hb, hf, hr, hl⟩ := R
  refine Calls.call_function_entry kind_sorted plain_sorted entry_sorted (args_sorted1 _) ?_
  unfold Builtin.«sorted»
  refine wpAny_bind (m := checkCount "sorted" 1 1 _) (wpAny_pure ?_)
  refine wpAny_bind (collect_set (A := A.in1) hh ⟨o, ho, hex.1, hd⟩ hf hb hr hl fun s1 vs k1 hz g1 o1 pv => ?_)
  have hS : StrsAre vs (vs.map strOf) := strs_of vs fun v hv => by
    obtain ⟨e, he, q⟩ := List.mem_map.mp (pv.mem_iff.mp hv)
    obtain ⟨k, tk, h1, _⟩ := g e he
    exact ⟨k, tk, by rw [← q]; exact h1⟩
  have pk : (vs.map strOf).Perm l := by
    have q := pv.map strOf
    rw [List.map_map] at q
    refine q.trans (List.Perm.trans (List.Perm.of_eq ?_) pm)
    refine List.map_congr_left fun e he => ?_
    obtain ⟨k, tk, h1, _⟩ := g e he
    show strOf e.2 = kOf e
    unfold kOf
    rw [h1]
    rfl
  have hvl : vs.length = l.length := by rw [← pk.length_eq, List.length_map]
  refine wpAny_bind (wpAny_newList ?_ (by rw [hvl, sizeLine_eq]; omega))
  have hoL : (s1.heap.push (seqObj "list" vs.toArray 0)).get? s1.heap.objs.size = some (seqObj "list" vs.toArray 0) := Heap.get?_push_size _ rfl
  refine wpAny_bind (wpAny_holding (wpAny_call_entry slot_list_sort ⟨_, hoL, rfl⟩ entry_list_sort (list_sort_treeK strKind_oneLt hoL hS.keysOf (fun v1 v2 rest e => keyKind_strs (by rw [← e]; exact hS)) (by rw [hvl]; exact h64) fun st' a1 a2 => ⟨_, rfl, ?_⟩) (args_list_sort _)))
  obtain ⟨ys, y1, y2, y3⟩ := sorted_out_str hS a1 a2
  obtain ⟨c, hc⟩ := sortedHeap_at (vs := vs) (out := (arrOf st').map (·.2)) hoL
  refine wpAny_pure ⟨_, rfl, hQ _ s1.heap.objs.size _ c ys (fun b u e => ?_) g1 o1 hz hc y1 (y2.trans pk) y3⟩
  have q := k1 b u e
  have hlt := Heap.lt_size q
  show (sortedHeap (s1.heap.push (seqObj "list" vs.toArray 0)) s1.heap.objs.size vs ((arrOf st').map (·.2))).get? b = some u
  rw [sortedHeap_old (Nat.ne_of_lt hlt) (by rw [size_push']; exact Nat.lt_succ_of_lt hlt)]
  exact Heap.get?_push_of_some _ q
end
/-! the same as rules -/
def SetH (w : World) (a : Addr) (l : List Str) : HO := .ext fun h => SetT w h a l
section
variable {X : Cx}
theorem setH_new {w : World} {P : Program} {H : Hp} {h : Heap} {a : Addr} {l : List Str} (R : SetT w h a l) : ObjOk P w H h a (SetH w a l) :=
  ⟨R, (by obtain ⟨o, _, _, _, ho, _⟩ := R; exact ⟨o, ho⟩), fun h1 h2 r k => SetT.at r k⟩
theorem setH_get {pins : List (Addr × Obj)} {σ : L2.St} {H : Hp} {s : Shared} {a : Addr} {l : List Str} (I : Inv X pins σ H s) (ha : H a = some (SetH X.w a l)) : SetT X.w s.heap a l := (I.hok a _ ha).1
def rSetS (K : PySem.W.Frag) (w : World) : List V → Hp → VK → Prop := fun vs H Q => ∃ (b : Addr) (xs : List Str), vs = [V.ref b] ∧ SqL K H b (xs.map V.str) ∧ xs.length ≤ 100 ∧ ∀ p, H p = none → Q (.ref p) (upd H p (SetH w p (xs.foldl insS [])))
theorem cr_setS (hc : X.calm = true) : CallR X (.type "set") (rSetS X.K X.w) := by
  intro pins s σ H vs us Q I r h
  obtain ⟨b, xs, rfl, hb, hx, q⟩ := h
  obtain ⟨its, rv, hl, _⟩ := I.list hb
  rw [Vals.ref1 r]
  have hlen := rv.length
  rw [List.length_map] at hlen
  refine call_set_T (I.ok.hd hc) hl.isList rv.strs (by rw [List.size_toArray, ← hlen]; unfold scanBound; omega) fun h' tk R k => ?_
  have hn : H s.heap.objs.size = none := I.hok.fresh (Nat.le_refl _)
  have J : Inv X pins σ (upd H s.heap.objs.size (SetH X.w s.heap.objs.size (xs.foldl insS []))) { s with heap := h', toks := tk } :=
    I.call (ch := []) (Un.laid (fun b o e => k b o (Heap.lt_size e) e) (Nat.le_refl _) hn) (I.hok.laid (fun b o e => k b o (Heap.lt_size e) e) (Nat.le_refl _) (setH_new R)) I.bare (fun _ z => nomatch z)
  exact ⟨.ref _, _, J, rfl, q _ hn⟩
def rSortSet (w : World) : List V → Hp → VK → Prop := fun vs H Q => ∃ (a : Addr) (l : List Str), vs = [V.ref a] ∧ H a = some (SetH w a l) ∧ l.length < 64 ∧ ∀ (ys : List Str) (p : Addr), ys.Perm l → sortedS ys = true → H p = none → Q (.ref p) (upd H p (.lst (ys.map V.str)))
theorem cr_sortSet (hc : X.calm = true) : CallR X (.builtin "sorted") (rSortSet X.w) := by
  intro pins s σ H vs us Q I r h
  obtain ⟨a, l, rfl, ha, h64, q⟩ := h
  rw [Vals.ref1 r]
  refine sorted_T (setH_get I ha) (I.ok.hd hc) h64 fun s' p out c ys k g o hp hg hi hpm hs => ?_
  have hlen : (ys.map V.str).length ≤ sizeLine := by rw [List.length_map, hpm.length_eq, sizeLine_eq]; omega
  have hn : H p = none := I.hok.fresh hp
  have J : Inv X pins σ (upd H p (.lst (ys.map V.str))) { s with heap := s'.heap, gens := s'.gens, drawn := s'.drawn, toks := s'.toks } :=
    I.call (ch := []) (Un.laid k hp hn) (I.hok.laid k hp ⟨hlen, out.toList, c, vals_of_strs hi, hg⟩) (by rw [g]; exact I.bare) (fun _ z => nomatch z)
  have e : s' = { s with heap := s'.heap, gens := s'.gens, drawn := s'.drawn, toks := s'.toks } := by
    cases s'; cases s; cases o; rfl
  rw [e]
  exact ⟨.ref p, _, J, rfl, q ys p hpm hs hn⟩
def rLenSet (w : World) : List V → Hp → VK → Prop := fun vs H Q => ∃ (a : Addr) (l : List Str), vs = [V.ref a] ∧ H a = some (SetH w a l) ∧ l.length ≤ 100 ∧ Q (.int l.length) H
theorem call_lenSet : CallR X (.builtin "len") (rLenSet X.w) := by
  intro pins s σ H vs us Q I r h
  obtain ⟨a, l, rfl, ha, hl, q⟩ := h
  rw [Vals.ref1 r]
  obtain ⟨o, es, ep, t, ho, hex, hd, hn, hf⟩ := (setH_get I ha).size
  exact call_len_set ho hex hd hf (by rw [hn]; omega) ⟨.int l.length, H, I.tok _, ⟨_, by rw [hn]⟩, q⟩
end
end
/-! ### what is seen while a word turns -/
def mk2 (x y : Bool) : List Bool := if x = y then [x] else [false, true]
def seenZ : List (Bool × Bool) → List (List Bool)
  | [] => [[]]
  | z :: zs => (mk2 z.1 z.2).flatMap fun m => (seenZ zs).map (m :: ·)
def seenW (a b : List Bool) : List (List Bool) := seenZ (a.zip b)
def stepS (F : List (List Bool)) (z : Bool × Bool) : List (List Bool) := F.flatMap fun w => (mk2 z.1 z.2).map fun m => w ++ [m]
theorem seen_fold : ∀ (zs : List (Bool × Bool)) (F : List (List Bool)), zs.foldl stepS F = F.flatMap fun w => (seenZ zs).map (w ++ ·)
  | [], F => by simp [seenZ]
  | z :: zs, F => by
    rw [List.foldl_cons, seen_fold zs]
    simp only [stepS, seenZ, List.flatMap_assoc, List.flatMap_map, List.map_flatMap, List.map_map]
    congr 1
    funext w
    congr 1
    funext m
    refine List.map_congr_left fun u _ => ?_
    simp
def sUp (a b : List Bool) (i : Nat) : List (List Bool) := ((a.zip b).take i).foldl stepS [[]]
theorem sUp_all {a b : List Bool} {n : Nat} (ha : a.length = n) (hb : b.length = n) : sUp a b n = seenW a b := by
  unfold sUp seenW
  rw [List.take_of_length_le (by simp [ha, hb]), seen_fold]
  simp
theorem sUp_succ {a b : List Bool} {i : Nat} (ha : i < a.length) (hb : i < b.length) : sUp a b (i + 1) = stepS (sUp a b i) (a.getD i false, b.getD i false) := by
  unfold sUp
  have h : (a.zip b)[i]? = some (a.getD i false, b.getD i false) := by
    rw [List.getElem?_zip_eq_some]
    rw [List.getD_eq_getElem?_getD, List.getD_eq_getElem?_getD, List.getElem?_eq_getElem ha, List.getElem?_eq_getElem hb]
    exact ⟨rfl, rfl⟩
  rw [List.take_add_one, h, List.foldl_append]
  rfl
theorem mk2_len (x y : Bool) : (mk2 x y).length ≤ 2 := by
  unfold mk2
  split <;> simp
theorem stepS_len (F : List (List Bool)) (z : Bool × Bool) : (stepS F z).length ≤ 2 * F.length := by
  unfold stepS
  induction F with
  | nil => simp
  | cons w F ih =>
    rw [List.flatMap_cons, List.length_append, List.length_map]
    have := mk2_len z.1 z.2
    simp only [List.length_cons]
    omega
theorem sUp_len (a b : List Bool) : ∀ i, (sUp a b i).length ≤ 2 ^ i
  | 0 => by simp [sUp]
  | i + 1 => by
    by_cases h : i < (a.zip b).length
    · have ha : i < a.length := by simp at h; omega
      have hb : i < b.length := by simp at h; omega
      rw [sUp_succ ha hb, Nat.pow_succ]
      have := stepS_len (sUp a b i) (a.getD i false, b.getD i false)
      have := sUp_len a b i
      omega
    · have e : sUp a b (i + 1) = sUp a b i := by
        unfold sUp
        rw [List.take_of_length_le (by omega), List.take_of_length_le (by omega)]
      rw [e, Nat.pow_succ]
      have := sUp_len a b i
      omega
theorem sUp_wide {a b : List Bool} : ∀ {i : Nat}, i ≤ a.length → i ≤ b.length → ∀ w ∈ sUp a b i, w.length = i
  | 0, _, _, w, h => by
    have h : w ∈ [[]] := by simpa [sUp] using h
    rw [List.mem_singleton.mp h]
    rfl
  | i + 1, ha, hb, w, h => by
    rw [sUp_succ (by omega) (by omega)] at h
    obtain ⟨u, hu, hw⟩ := List.mem_flatMap.mp h
    obtain ⟨m, _, rfl⟩ := List.mem_map.mp hw
    simp [sUp_wide (by omega) (by omega) u hu]
theorem seenW_len {a b : List Bool} {n : Nat} (ha : a.length = n) (hb : b.length = n) : (seenW a b).length ≤ 2 ^ n := by
  rw [← sUp_all ha hb]
  exact sUp_len a b n
theorem seenW_wide {a b : List Bool} {n : Nat} (ha : a.length = n) (hb : b.length = n) : ∀ w ∈ seenW a b, w.length = n := by
  rw [← sUp_all ha hb]
  exact sUp_wide (by omega) (by omega)
theorem perm_two {α : Type} {ys : List α} {p q : α} (h : ys.Perm [p, q]) : ys = [p, q] ∨ ys = [q, p] := by
  have hl := h.length_eq
  match ys, hl with
  | [u, v], _ =>
    have hu : u = p ∨ u = q := by simpa using h.mem_iff.mp (List.mem_cons_self)
    rcases hu with rfl | rfl
    · have := (List.perm_cons u).mp h
      have := List.perm_singleton.mp this
      exact .inl (by rw [this])
    · have h2 : [u, v].Perm [u, p] := h.trans (List.Perm.swap u p [])
      have := List.perm_singleton.mp ((List.perm_cons u).mp h2)
      exact .inr (by rw [this])
theorem sorted_marks {x y : Bool} {ys : List Str} (h : ys.Perm ([wd [x], wd [y]].foldl insS [])) (hs : PyProof.Rows.sortedS ys = true) : ys = (mk2 x y).map fun m => wd [m] := by
  have c1 : (wd [true] : Str) ∉ [wd [false]] := by decide
  have c2 : (wd [false] : Str) ∉ [wd [true]] := by decide
  have h1 : ([wd [x], wd [y]].foldl insS []) = insS [wd [x]] (wd [y]) := rfl
  rw [h1] at h
  cases x <;> cases y
  · rw [show insS [wd [false]] (wd [false]) = [wd [false]] by decide] at h
    rw [List.perm_singleton.mp h]
    rfl
  · rw [show insS [wd [false]] (wd [true]) = [wd [true], wd [false]] by decide] at h
    rcases perm_two h with rfl | rfl
    · exact absurd hs (by decide)
    · rfl
  · rw [show insS [wd [true]] (wd [false]) = [wd [false], wd [true]] by decide] at h
    rcases perm_two h with rfl | rfl
    · rfl
    · exact absurd hs (by decide)
  · rw [show insS [wd [true]] (wd [true]) = [wd [true]] by decide] at h
    rw [List.perm_singleton.mp h]
    rfl
theorem setM_len (x y : Str) : ([x, y].foldl insS []).length ≤ 2 := by
  have h1 : ([x, y].foldl insS []) = insS [x] y := rfl
  rw [h1]
  exact insS_len [x] y
def RetU (xs : List V) (H : Hp) (Q : VK) : Prop := ∀ p H2, H p = none → Ex H H2 → H2 p = some (.tup xs) → Q (.ref p) H2
/-! ### lanes: the places, the events, a step -/
inductive Ev where
  | look (w : Bool)
  | tp (p : Bool) (o : Option (List Bool))
  deriving DecidableEq
structure Co where
  put : Nat
  got : Nat
  sp : Nat
  sg : Nat
  deriving DecidableEq
def oV : Option (List Bool) → V
  | none => .non
  | some w => wv w
def pS : Bool → Str
  | true => "put"
  | false => "get"
def wS : Bool → Str
  | true => "writer"
  | false => "reader"
def evV : Ev → List V
  | .look w => [.str "look", .str (wS w)]
  | .tp p o => [.str (pS p), oV o]
def goes (r : Nat) (c : Co) : Bool → Bool
  | true => decide (((c.put : Int) - c.sg) % (2 * r) < r)
  | false => !decide (c.sp = c.got)
def insd (r : Nat) (c : Co) : Int := ((c.put : Int) - c.got) % (2 * r)
def nxt (r i : Nat) : Nat := (i + 1) % (2 * r)
def here (c : Co) : Bool → Nat
  | true => c.put
  | false => c.got
def other (r : Nat) (c : Co) (p : Bool) : Nat := if goes r c p then nxt r (here c p) else here c p
def mayW (r : Nat) (ws : List (List Bool)) (c : Co) (p : Bool) : List (List Bool) := seenW (ws.getD (here c p) []) (ws.getD (other r c p) [])
def canP (r : Nat) (ws : List (List Bool)) (c : Co) (p : Bool) : List Ev := .tp p none :: (mayW r ws c p).map fun w => .tp p (some w)
def canE (r : Nat) (ws : List (List Bool)) (c : Co) : List Ev := [.look true, .look false] ++ canP r ws c true ++ canP r ws c false
def bad (r : Nat) (c : Co) : Bool → Bool
  | true => decide (insd r c = r)
  | false => decide (insd r c = 0)
def adv (r : Nat) (c : Co) : Bool → Co
  | true => { c with put := nxt r c.put }
  | false => { c with got := nxt r c.got }
def sees (ws : List (List Bool)) (p : Bool) (o : Option (List Bool)) (c : Co) : Co :=
  match o with
  | none => c
  | some w => if w ∈ ws then (match p with | true => { c with sp := ws.idxOf w } | false => { c with sg := ws.idxOf w }) else c
/-- a letter that moves -/
def movs (r : Nat) (c : Co) : Ev → Option Bool
  | .look _ => none
  | .tp p _ => if goes r c p && !bad r c p then some p else none
def cst (r : Nat) (ws : List (List Bool)) (c : Co) : Ev → Co
  | .look true => { c with sg := c.got }
  | .look false => { c with sp := c.put }
  | .tp p o => if goes r c p then (if bad r c p then c else sees ws p o (adv r c p)) else sees ws p o c
/-- a fault -/
def flt (r : Nat) (c : Co) : Ev → Option Bool
  | .look _ => none
  | .tp p _ => if goes r c p && bad r c p then some p else none
def fltV : Option Bool → V
  | none => .non
  | some true => .str "over"
  | some false => .str "under"
def CoOk (r : Nat) (c : Co) : Prop := c.put < 2 * r ∧ c.got < 2 * r ∧ c.sp < 2 * r ∧ c.sg < 2 * r
structure WW (ws : List (List Bool)) (n r : Nat) : Prop where
  r1 : 1 ≤ r
  r6 : r ≤ 6
  n1 : 1 ≤ n
  n4 : n ≤ 4
  len : ws.length = 2 * r
  wide : ∀ w ∈ ws, w.length = n
theorem nxt_lt {r : Nat} (h : 1 ≤ r) (i : Nat) : nxt r i < 2 * r := Nat.mod_lt _ (by omega)
theorem nxt_int (r i : Nat) : ((nxt r i : Nat) : Int) = ((i : Int) + 1) % (2 * (r : Int)) := by
  unfold nxt
  rw [Int.natCast_emod]
  simp
theorem coOk_zero {r : Nat} (h : 1 ≤ r) : CoOk r ⟨0, 0, 0, 0⟩ := by
  refine ⟨?_, ?_, ?_, ?_⟩ <;> show 0 < 2 * r <;> omega
theorem sees_ok {r : Nat} {ws : List (List Bool)} {c : Co} (hl : ws.length = 2 * r) (h : CoOk r c) (p : Bool) (o : Option (List Bool)) : CoOk r (sees ws p o c) := by
  unfold sees
  cases o with
  | none => exact h
  | some w =>
    by_cases hm : w ∈ ws
    · have hi : ws.idxOf w < 2 * r := by
        rw [← hl]
        exact List.idxOf_lt_length_of_mem hm
      simp only [if_pos hm]
      cases p
      · exact ⟨h.1, h.2.1, h.2.2.1, hi⟩
      · exact ⟨h.1, h.2.1, hi, h.2.2.2⟩
    · simp only [if_neg hm]
      exact h
theorem adv_ok {r : Nat} {c : Co} (hr : 1 ≤ r) (h : CoOk r c) (p : Bool) : CoOk r (adv r c p) := by
  cases p
  · exact ⟨h.1, nxt_lt hr _, h.2.2.1, h.2.2.2⟩
  · exact ⟨nxt_lt hr _, h.2.1, h.2.2.1, h.2.2.2⟩
theorem cst_ok {r : Nat} {ws : List (List Bool)} {c : Co} (hr : 1 ≤ r) (hl : ws.length = 2 * r) (h : CoOk r c) (e : Ev) : CoOk r (cst r ws c e) := by
  cases e with
  | look w =>
    cases w
    · exact ⟨h.1, h.2.1, h.1, h.2.2.2⟩
    · exact ⟨h.1, h.2.1, h.2.2.1, h.2.1⟩
  | tp p o =>
    show CoOk r (if goes r c p then (if bad r c p then c else sees ws p o (adv r c p)) else sees ws p o c)
    split
    · split
      · exact h
      · exact sees_ok hl (adv_ok hr h p) p o
    · exact sees_ok hl h p o
theorem here_lt {r : Nat} {c : Co} (h : CoOk r c) (p : Bool) : here c p < 2 * r := by
  cases p
  · exact h.2.1
  · exact h.1
theorem other_lt {r : Nat} {c : Co} (hr : 1 ≤ r) (h : CoOk r c) (p : Bool) : other r c p < 2 * r := by
  unfold other
  split
  · exact nxt_lt hr _
  · exact here_lt h p
theorem WW.at {ws : List (List Bool)} {n r i : Nat} (h : WW ws n r) (hi : i < 2 * r) : (ws.map wv)[i]? = some (wv (ws.getD i [])) := by
  have : i < ws.length := by rw [h.len]; exact hi
  rw [List.getElem?_map, List.getD_eq_getElem?_getD, List.getElem?_eq_getElem this]
  rfl
theorem WW.wat {ws : List (List Bool)} {n r i : Nat} (h : WW ws n r) (hi : i < 2 * r) : (ws.getD i []).length = n := by
  have : i < ws.length := by rw [h.len]; exact hi
  rw [List.getD_eq_getElem?_getD, List.getElem?_eq_getElem this]
  exact h.wide _ (List.getElem_mem this)
theorem mayW_len {ws : List (List Bool)} {n r : Nat} {c : Co} (h : WW ws n r) (hc : CoOk r c) (p : Bool) : (mayW r ws c p).length ≤ 16 := by
  have := seenW_len (h.wat (here_lt hc p)) (h.wat (other_lt h.r1 hc p))
  have := pow16 h.n4
  unfold mayW
  omega
theorem mayW_wide {ws : List (List Bool)} {n r : Nat} {c : Co} (h : WW ws n r) (hc : CoOk r c) (p : Bool) : ∀ w ∈ mayW r ws c p, w.length = n := seenW_wide (h.wat (here_lt hc p)) (h.wat (other_lt h.r1 hc p))
/-! the fields of a lane -/
def FS (r : Nat) (pw pb : Addr) (c : Co) (m : Nat) (f : V) : List (Str × V) :=
  [("room", .int (r : Int)), ("words", .ref pw), ("put", .int (c.put : Int)), ("got", .int (c.got : Int)), ("seen_got", .int (c.sg : Int)), ("seen_put", .int (c.sp : Int)), ("boxes", .ref pb), ("many", .int (m : Int)), ("fault", f)]
section
variable {r : Nat} {pw pb : Addr} {c : Co} {m : Nat} {f : V}
theorem fs_room : (FS r pw pb c m f).lookup ("room" : Str) = some (.int (r : Int)) := by rfl
theorem fs_words : (FS r pw pb c m f).lookup ("words" : Str) = some (.ref pw) := by rfl
theorem fs_put : (FS r pw pb c m f).lookup ("put" : Str) = some (.int (c.put : Int)) := by rfl
theorem fs_got : (FS r pw pb c m f).lookup ("got" : Str) = some (.int (c.got : Int)) := by rfl
theorem fs_sg : (FS r pw pb c m f).lookup ("seen_got" : Str) = some (.int (c.sg : Int)) := by rfl
theorem fs_sp : (FS r pw pb c m f).lookup ("seen_put" : Str) = some (.int (c.sp : Int)) := by rfl
theorem fs_boxes : (FS r pw pb c m f).lookup ("boxes" : Str) = some (.ref pb) := by rfl
theorem fs_many : (FS r pw pb c m f).lookup ("many" : Str) = some (.int (m : Int)) := by rfl
theorem fs_fault : (FS r pw pb c m f).lookup ("fault" : Str) = some f := by rfl
theorem fs_len : (FS r pw pb c m f).length < 1000 := by simp [FS]
theorem fp_put {z : Nat} : putF "put" (.int (z : Int)) (FS r pw pb c m f) = FS r pw pb { c with put := z } m f := by rfl
theorem fp_got {z : Nat} : putF "got" (.int (z : Int)) (FS r pw pb c m f) = FS r pw pb { c with got := z } m f := by rfl
theorem fp_sg {z : Nat} : putF "seen_got" (.int (z : Int)) (FS r pw pb c m f) = FS r pw pb { c with sg := z } m f := by rfl
theorem fp_sp {z : Nat} : putF "seen_put" (.int (z : Int)) (FS r pw pb c m f) = FS r pw pb { c with sp := z } m f := by rfl
theorem fp_many {z : Nat} : putF "many" (.int (z : Int)) (FS r pw pb c m f) = FS r pw pb c z f := by rfl
theorem fp_fault {z : V} : putF "fault" z (FS r pw pb c m f) = FS r pw pb c m z := by rfl
end
/-- a lane's object -/
def Ln (C : Addr) (r : Nat) (pw pb : Addr) (H : Hp) (x : Addr) (c : Co) (m : Nat) (f : V) : Prop := ∃ dx, H x = some (.ins C dx (FS r pw pb c m f))
theorem Ln.mono {C : Addr} {r : Nat} {pw pb : Addr} {H H' : Hp} {x : Addr} {c : Co} {m : Nat} {f : V} (e : Ex H H') (h : Ln C r pw pb H x c m f) : Ln C r pw pb H' x c m f := by
  obtain ⟨dx, h⟩ := h
  exact ⟨dx, e _ _ h⟩
/-- all but d and e stays -/
def Ex2 (d e : Addr) (H H' : Hp) : Prop := ∀ a o, H a = some o → a ≠ d → a ≠ e → H' a = some o
theorem Ex2.refl (d e : Addr) (H : Hp) : Ex2 d e H H := fun _ _ h _ _ => h
theorem Ex2.trans {d e : Addr} {H H1 H2 : Hp} (a : Ex2 d e H H1) (b : Ex2 d e H1 H2) : Ex2 d e H H2 := fun x o h n m => b x o (a x o h n m) n m
theorem Ex2.of {d e : Addr} {H H1 : Hp} (a : Ex H H1) : Ex2 d e H H1 := fun x o h _ _ => a x o h
theorem Ex2.upd1 {d e : Addr} {H H1 : Hp} {o : HO} (a : Ex2 d e H H1) : Ex2 d e H (L2.upd H1 d o) := fun x o h n m => by
  rw [upd_ne n]
  exact a x o h n m
theorem Ex2.upd2 {d e : Addr} {H H1 : Hp} {o : HO} (a : Ex2 d e H H1) : Ex2 d e H (L2.upd H1 e o) := fun x o h n m => by
  rw [upd_ne m]
  exact a x o h n m
theorem EvAt_none {t : Addr} {H : Hp} {xs : List V} {C dx : Addr} {fs : List (Str × V)} {x : Addr} (h : H t = some (.tup xs)) (h2 : H x = some (.ins C dx fs)) : t ≠ x := by
  rintro rfl
  rw [h] at h2
  cases h2
theorem idx_spec {ws : List (List Bool)} {w : List Bool} (h : w ∈ ws) : (ws.map wv)[ws.idxOf w]? = some (wv w) ∧ ∀ (k : Nat) (z : V), k < ws.idxOf w → (ws.map wv)[k]? = some z → eqV z (wv w) = false := by
  have hl := List.idxOf_lt_length_of_mem h
  refine ⟨?_, fun k z hk hz => ?_⟩
  · rw [List.getElem?_map, List.getElem?_eq_getElem hl, List.getElem_idxOf]
    rfl
  · rw [List.getElem?_map] at hz
    have hkl : k < ws.length := Nat.lt_trans hk hl
    rw [List.getElem?_eq_getElem hkl] at hz
    have hz : wv ws[k] = z := Option.some.inj hz
    subst hz
    have : ws[k] ≠ w := by
      intro e
      have := List.not_of_lt_findIdx (p := (· == w)) hk
      simp [e] at this
    have hn : wd ws[k] ≠ wd w := fun e => this (wd_inj e)
    simpa [eqV] using hn
/-! what the lane's object holds behind an event -/
def pMany (r : Nat) (c : Co) (m : Nat) (e : Ev) : Nat := if movs r c e = some true then m + 1 else m
def pBox (r : Nat) (c : Co) (m : Nat) (bx : List V) (e : Ev) : List V := if movs r c e = some true then bx.set (c.put % r) (.int (m : Int)) else bx
def pAns (r : Nat) (c : Co) (m : Nat) (bx : List V) (e : Ev) : V :=
  match movs r c e with
  | some true => .int (m : Int)
  | some false => bx.getD (c.got % r) .non
  | none => fltV (flt r c e)
def pFlt (r : Nat) (c : Co) (f : V) (e : Ev) : V :=
  match flt r c e with
  | none => f
  | some p => fltV (some p)
def PDo (C : Addr) (r : Nat) (pw pb x : Addr) (ws : List (List Bool)) (c : Co) (m : Nat) (f : V) (bx : List V) (e : Ev) (H : Hp) (Q : VK) : Prop :=
  ∀ H', Ex2 x pb H H' → Ln C r pw pb H' x (cst r ws c e) (pMany r c m e) (pFlt r c f e) → H' pb = some (.lst (pBox r c m bx e)) → Q (pAns r c m bx e) H'
theorem pBox_len {r : Nat} {c : Co} {m : Nat} {bx : List V} {e : Ev} (h : bx.length = r) : (pBox r c m bx e).length = r := by
  unfold pBox
  split
  · rw [List.length_set]
    exact h
  · exact h
section
variable {r : Nat} {c : Co} {p : Bool} {o : Option (List Bool)}
theorem movs_go (h1 : goes r c p = true) (h2 : bad r c p = false) : movs r c (.tp p o) = some p := by
  show (if goes r c p && !bad r c p then some p else none) = _
  rw [h1, h2]
  rfl
theorem movs_bad (h2 : bad r c p = true) : movs r c (.tp p o) = none := by
  show (if goes r c p && !bad r c p then some p else none) = _
  rw [h2]
  simp
theorem movs_stay (h1 : goes r c p = false) : movs r c (.tp p o) = none := by
  show (if goes r c p && !bad r c p then some p else none) = _
  rw [h1]
  rfl
theorem flt_go (h2 : bad r c p = false) : flt r c (.tp p o) = none := by
  show (if goes r c p && bad r c p then some p else none) = _
  rw [h2]
  simp
theorem flt_bad (h1 : goes r c p = true) (h2 : bad r c p = true) : flt r c (.tp p o) = some p := by
  show (if goes r c p && bad r c p then some p else none) = _
  rw [h1, h2]
  rfl
theorem flt_stay (h1 : goes r c p = false) : flt r c (.tp p o) = none := by
  show (if goes r c p && bad r c p then some p else none) = _
  rw [h1]
  rfl
theorem cst_go {ws : List (List Bool)} (h1 : goes r c p = true) (h2 : bad r c p = false) : cst r ws c (.tp p o) = sees ws p o (adv r c p) := by
  show (if goes r c p then (if bad r c p then c else sees ws p o (adv r c p)) else sees ws p o c) = _
  rw [h1, h2]
  rfl
theorem cst_bad {ws : List (List Bool)} (h1 : goes r c p = true) (h2 : bad r c p = true) : cst r ws c (.tp p o) = c := by
  show (if goes r c p then (if bad r c p then c else sees ws p o (adv r c p)) else sees ws p o c) = _
  rw [h1, h2]
  rfl
theorem cst_stay {ws : List (List Bool)} (h1 : goes r c p = false) : cst r ws c (.tp p o) = sees ws p o c := by
  show (if goes r c p then (if bad r c p then c else sees ws p o (adv r c p)) else sees ws p o c) = _
  rw [h1]
  rfl
end
def nwin (m : Nat) (ps : List Nat) : List Nat := (List.range m).map fun i => ps.getD (m - 1 - i) 0
def skey (m : Nat) (ps gs : List Nat) : List Nat := (nwin m ps ++ nwin m gs).map (· - gs.getD (m - 1) 0)
def ixOf (k : List Nat) : List (List Nat) → Option Nat
  | [] => none
  | x :: r => if x = k then some 0 else (ixOf k r).map (· + 1)
def newP (r a : Nat) (ps gs : List Nat) : Nat := if ps.getD 0 0 < r + gs.getD a 0 then ps.getD 0 0 + 1 else ps.getD 0 0
def newG (b : Nat) (ps gs : List Nat) : Nat := if gs.getD 0 0 < ps.getD b 0 then gs.getD 0 0 + 1 else gs.getD 0 0
/-- the going by beats: fuel, the beat, the counts (newest first), the keys met (newest first) -/
def sgo (r a b m : Nat) : Nat → Nat → List Nat → List Nat → List (List Nat) → Option (Nat × Nat × Nat)
  | 0, _, _, _, _ => none
  | f + 1, t, ps, gs, ks => match ixOf (skey m ps gs) ks with
    | some i => some (t - 1 - i, i + 1, ps.getD 0 0 - ps.getD (i + 1) 0)
    | none => sgo r a b m f (t + 1) (newP r a ps gs :: ps) (newG b ps gs :: gs) (skey m ps gs :: ks)
def sRes (r a b : Nat) : Option (Nat × Nat × Nat) := sgo r a b (max a b + 1) 40 0 [0] [0] []
/-! quick forms for the kernel -/
def beqL : List Nat → List Nat → Bool
  | [], [] => true
  | x :: a, y :: b => Nat.beq x y && beqL a b
  | _, _ => false
def at0 : List Nat → Nat → Nat
  | [], _ => 0
  | x :: _, 0 => x
  | _ :: r, n + 1 => at0 r n
def winQ (base : Nat) : Nat → List Nat → List Nat → List Nat
  | 0, _, acc => acc
  | m + 1, [], acc => winQ base m [] (0 :: acc)
  | m + 1, x :: r, acc => winQ base m r ((x - base) :: acc)
def ixQ (k : List Nat) : List (List Nat) → Nat → Option Nat
  | [], _ => none
  | x :: r, i => cond (beqL x k) (some i) (ixQ k r (i + 1))
def sQ (r a b m : Nat) : Nat → Nat → List Nat → List Nat → List (List Nat) → Option (Nat × Nat × Nat)
  | 0, _, _, _, _ => none
  | f + 1, t, ps, gs, ks =>
    match ixQ (winQ (at0 gs (m - 1)) m ps (winQ (at0 gs (m - 1)) m gs [])) ks 0 with
    | some i => some (t - 1 - i, i + 1, at0 ps 0 - at0 ps (i + 1))
    | none => sQ r a b m f (t + 1) ((cond (Nat.blt (at0 ps 0) (r + at0 gs a)) (at0 ps 0 + 1) (at0 ps 0)) :: ps) ((cond (Nat.blt (at0 gs 0) (at0 ps b)) (at0 gs 0 + 1) (at0 gs 0)) :: gs) (winQ (at0 gs (m - 1)) m ps (winQ (at0 gs (m - 1)) m gs []) :: ks)
theorem at0_eq : ∀ (l : List Nat) (n : Nat), at0 l n = l.getD n 0
  | [], _ => by simp [at0]
  | x :: _, 0 => by simp [at0]
  | _ :: r, n + 1 => by simp [at0, at0_eq r n]
theorem beqL_iff : ∀ (a b : List Nat), beqL a b = true ↔ a = b
  | [], [] => by simp [beqL]
  | [], _ :: _ => by simp [beqL]
  | _ :: _, [] => by simp [beqL]
  | x :: a, y :: b => by simp [beqL, beqL_iff a b]
theorem nwin_succ (m : Nat) (ps : List Nat) : nwin (m + 1) ps = nwin m ps.tail ++ [ps.getD 0 0] := by
  unfold nwin
  rw [List.range_succ, List.map_append]
  congr 1
  · refine List.map_congr_left fun i hi => ?_
    have hi : i < m := List.mem_range.mp hi
    have e : m + 1 - 1 - i = (m - 1 - i) + 1 := by omega
    rw [e]
    cases ps with
    | nil => simp
    | cons x r => simp
  · simp
theorem winQ_eq (base : Nat) : ∀ (m : Nat) (ps acc : List Nat), winQ base m ps acc = (nwin m ps).map (· - base) ++ acc
  | 0, _, _ => by simp [winQ, nwin]
  | m + 1, [], acc => by
    rw [nwin_succ]
    show winQ base m [] (0 :: acc) = _
    rw [winQ_eq base m [] (0 :: acc)]
    simp
  | m + 1, x :: r, acc => by
    rw [nwin_succ]
    show winQ base m r ((x - base) :: acc) = _
    rw [winQ_eq base m r]
    simp
theorem key_eq (m : Nat) (ps gs : List Nat) : winQ (at0 gs (m - 1)) m ps (winQ (at0 gs (m - 1)) m gs []) = skey m ps gs := by
  rw [winQ_eq, winQ_eq, at0_eq]
  simp [skey]
theorem ixQ_eq (k : List Nat) : ∀ (ks : List (List Nat)) (i : Nat), ixQ k ks i = (ixOf k ks).map (· + i)
  | [], _ => rfl
  | x :: r, i => by
    unfold ixQ ixOf
    by_cases h : x = k
    · rw [(beqL_iff x k).mpr h, if_pos h]
      simp
    · have hb : beqL x k = false := by
        cases e : beqL x k with
        | false => rfl
        | true => exact absurd ((beqL_iff x k).mp e) h
      rw [hb, if_neg h, Option.map_map]
      show ixQ k r (i + 1) = _
      rw [ixQ_eq k r (i + 1)]
      congr 1
      funext j
      simp
      omega
theorem sQ_eq (r a b m : Nat) : ∀ (f t : Nat) (ps gs : List Nat) (ks : List (List Nat)), sQ r a b m f t ps gs ks = sgo r a b m f t ps gs ks
  | 0, _, _, _, _ => rfl
  | f + 1, t, ps, gs, ks => by
    unfold sQ sgo
    rw [key_eq, ixQ_eq]
    cases ixOf (skey m ps gs) ks with
    | some i => simp [at0_eq]
    | none =>
      show sQ r a b m f (t + 1) _ _ _ = sgo r a b m f (t + 1) _ _ _
      rw [sQ_eq r a b m f]
      simp only [at0_eq]
      have e1 : (cond (Nat.blt (ps.getD 0 0) (r + gs.getD a 0)) (ps.getD 0 0 + 1) (ps.getD 0 0)) = newP r a ps gs := by
        unfold newP
        by_cases h : ps.getD 0 0 < r + gs.getD a 0
        · rw [if_pos h, show Nat.blt (ps.getD 0 0) (r + gs.getD a 0) = true from Nat.ble_eq.mpr h]
          rfl
        · rw [if_neg h]
          cases e : Nat.blt (ps.getD 0 0) (r + gs.getD a 0) with
          | false => rfl
          | true => exact absurd (Nat.ble_eq.mp e) h
      have e2 : (cond (Nat.blt (gs.getD 0 0) (ps.getD b 0)) (gs.getD 0 0 + 1) (gs.getD 0 0)) = newG b ps gs := by
        unfold newG
        by_cases h : gs.getD 0 0 < ps.getD b 0
        · rw [if_pos h, show Nat.blt (gs.getD 0 0) (ps.getD b 0) = true from Nat.ble_eq.mpr h]
          rfl
        · rw [if_neg h]
          cases e : Nat.blt (gs.getD 0 0) (ps.getD b 0) with
          | false => rfl
          | true => exact absurd (Nat.ble_eq.mp e) h
      rw [e1, e2]
def okQ (r a b : Nat) : Bool := match sQ r a b (max a b + 1) 40 0 [0] [0] [] with
  | some (_, p, q) => Nat.beq (q * (a + b + 2)) (p * min r (a + b + 2)) && (Nat.blt 0 p && Nat.blt p 100)
  | none => false
def upTo (p : Nat → Bool) : Nat → Bool
  | 0 => true
  | n + 1 => p n && upTo p n
theorem upTo_ok {p : Nat → Bool} : ∀ {n : Nat}, upTo p n = true → ∀ i, i < n → p i = true
  | 0, _, i, h => absurd h (Nat.not_lt_zero _)
  | n + 1, h, i, hi => by
    have h : (p n && upTo p n) = true := h
    rw [Bool.and_eq_true] at h
    by_cases e : i = n
    · rw [e]
      exact h.1
    · exact upTo_ok h.2 i (by omega)
def allQ : Bool := upTo (fun a => upTo (fun b => upTo (fun r => okQ (r + 1) a b) 20) 7) 7
set_option maxHeartbeats 0 in
theorem allQ_ok : allQ = true := by decide +kernel
/-- of each room, each lateness: it goes round, and as many letters as told -/
theorem sRes_ok {r a b : Nat} (h1 : 1 ≤ r) (h2 : r ≤ 20) (ha : a ≤ 6) (hb : b ≤ 6) : ∃ s p q, sRes r a b = some (s, p, q) ∧ q * (a + b + 2) = p * min r (a + b + 2) ∧ 1 ≤ p ∧ p < 100 := by
  have h := upTo_ok (upTo_ok (upTo_ok allQ_ok a (by omega)) b (by omega)) (r - 1) (by omega)
  have e : r - 1 + 1 = r := by omega
  rw [e] at h
  unfold okQ at h
  rw [sQ_eq] at h
  unfold sRes
  cases hs : sgo r a b (max a b + 1) 40 0 [0] [0] [] with
  | none =>
    rw [hs] at h
    cases h
  | some x =>
    obtain ⟨s, p, q⟩ := x
    rw [hs] at h
    have h : (Nat.beq (q * (a + b + 2)) (p * min r (a + b + 2)) && (Nat.blt 0 p && Nat.blt p 100)) = true := h
    rw [Bool.and_eq_true, Bool.and_eq_true] at h
    exact ⟨s, p, q, rfl, Nat.eq_of_beq_eq_true h.1, Nat.ble_eq.mp h.2.1, Nat.ble_eq.mp h.2.2⟩
/-! ### steady: windows, keys met -/
abbrev nv (n : Nat) : V := .int (n : Int)
theorem nwin_len (m : Nat) (ps : List Nat) : (nwin m ps).length = m := by simp [nwin]
theorem nwin_at {m i : Nat} (ps : List Nat) (h : i < m) : ((nwin m ps).map nv)[i]? = some (nv (ps.getD (m - 1 - i) 0)) := by
  unfold nwin
  rw [List.map_map, List.getElem?_map, List.getElem?_range h]
  rfl
theorem nwin_last {m : Nat} (ps : List Nat) (h : 0 < m) : atI ((nwin m ps).map nv) (-1) = some (nv (ps.getD 0 0)) := by
  obtain ⟨k, rfl⟩ : ∃ k, m = k + 1 := ⟨m - 1, by omega⟩
  rw [nwin_succ, List.map_append]
  exact atI_last _ _
theorem nwin_new {m : Nat} (ps : List Nat) (x : Nat) (h : 0 < m) : (nwin m ps).drop 1 ++ [x] = nwin m (x :: ps) := by
  obtain ⟨k, rfl⟩ : ∃ k, m = k + 1 := ⟨m - 1, by omega⟩
  rw [nwin_succ k (x :: ps)]
  show (nwin (k + 1) ps).drop 1 ++ [x] = nwin k ps ++ [x]
  congr 1
  unfold nwin
  rw [← List.map_drop, List.range_succ_eq_map, List.drop_one, List.tail_cons, List.map_map]
  refine List.map_congr_left fun i hi => ?_
  have hi := List.mem_range.mp hi
  show ps.getD (k + 1 - 1 - (i + 1)) 0 = ps.getD (k - 1 - i) 0
  congr 1
  omega
theorem nwin_zero (m : Nat) : nwin m [0] = List.replicate m 0 := by
  unfold nwin
  have h : ∀ i ∈ List.range m, (fun i => [0].getD (m - 1 - i) 0) i = (fun _ => 0) i := fun i _ => by
    show [0].getD (m - 1 - i) 0 = 0
    cases (m - 1 - i) <;> rfl
  rw [List.map_congr_left h, List.map_const', List.length_range]
theorem rep_flat (n : Nat) (x : V) : (List.replicate n [x]).flatten = List.replicate n x := by
  induction n with
  | zero => rfl
  | succ n ih => rw [List.replicate_succ, List.flatten_cons, ih]; rfl
/-- the counts never fall, no more are got than put -/
structure SInv (ps gs : List Nat) : Prop where
  g : ∀ i, gs.getD (i + 1) 0 ≤ gs.getD i 0
  p : ∀ i, ps.getD (i + 1) 0 ≤ ps.getD i 0
  gp : ∀ i, gs.getD i 0 ≤ ps.getD i 0
theorem SInv.start : SInv [0] [0] := ⟨fun i => by simp, fun i => by simp, fun i => by cases i <;> simp⟩
theorem mono_getD {l : List Nat} (h : ∀ i, l.getD (i + 1) 0 ≤ l.getD i 0) : ∀ (i j : Nat), l.getD (i + j) 0 ≤ l.getD i 0
  | i, 0 => Nat.le_refl _
  | i, j + 1 => Nat.le_trans (h (i + j)) (mono_getD h i j)
theorem SInv.step {ps gs : List Nat} (h : SInv ps gs) (r a b : Nat) : SInv (newP r a ps gs :: ps) (newG b ps gs :: gs) := by
  have hp : ps.getD 0 0 ≤ newP r a ps gs := by unfold newP; split <;> omega
  have hg : gs.getD 0 0 ≤ newG b ps gs := by unfold newG; split <;> omega
  have hgp : newG b ps gs ≤ newP r a ps gs := by
    have h1 := h.gp 0
    have h2 := mono_getD h.p 0 b
    rw [Nat.zero_add] at h2
    have : newG b ps gs ≤ ps.getD 0 0 := by unfold newG; split <;> omega
    omega
  refine ⟨fun i => ?_, fun i => ?_, fun i => ?_⟩
  · cases i with
    | zero => simpa using hg
    | succ i => simpa using h.g i
  · cases i with
    | zero => simpa using hp
    | succ i => simpa using h.p i
  · cases i with
    | zero => simpa using hgp
    | succ i => simpa using h.gp i
theorem SInv.base {ps gs : List Nat} (h : SInv ps gs) (m : Nat) : ∀ x ∈ nwin m ps ++ nwin m gs, gs.getD (m - 1) 0 ≤ x := by
  intro x hx
  have key : ∀ i, gs.getD (m - 1) 0 ≤ gs.getD (m - 1 - i) 0 := fun i => by
    have h1 := mono_getD h.g (m - 1 - i) (min i (m - 1))
    have e : m - 1 - i + min i (m - 1) = m - 1 := by omega
    rw [e] at h1
    exact h1
  rcases List.mem_append.mp hx with hx | hx <;> obtain ⟨i, _, rfl⟩ := List.mem_map.mp hx
  · exact Nat.le_trans (key i) (h.gp _)
  · exact key i
theorem skey_len (m : Nat) (ps gs : List Nat) : (skey m ps gs).length = 2 * m := by simp [skey, nwin_len]; omega
/-- what is met: keys (newest first), the counts beside them, the dict's pairs; F: what stands for a beat and a count -/
def Met (F : Hp → Nat → Nat → V → Prop) (H : Hp) : List (List Nat) → List Nat → List (List Key × V) → Prop
  | [], _, kvs => kvs = []
  | k :: ks, qs, kvs => ∃ kvs' v, kvs = kvs' ++ [(k.map fun (n : Nat) => (Sum.inl (n : Int) : Key), v)] ∧ F H ks.length (qs.getD 0 0) v ∧ k ∉ ks ∧ Met F H ks qs.tail kvs'
abbrev skk (k : List Nat) : List Key := k.map fun (n : Nat) => (Sum.inl (n : Int) : Key)
theorem skk_inj : ∀ {a b : List Nat}, skk a = skk b → a = b
  | [], [], _ => rfl
  | [], _ :: _, h => by cases h
  | _ :: _, [], h => by cases h
  | x :: a, y :: b, h => by
    have h : (Sum.inl (x : Int) : Key) :: skk a = (Sum.inl (y : Int) : Key) :: skk b := h
    injection h with h1 h2
    have h3 := Sum.inl.inj h1
    rw [skk_inj h2, show x = y by omega]
theorem skk_kV (k : List Nat) : (skk k).map kV = k.map nv := by
  rw [List.map_map]
  rfl
theorem Met.imp {F : Hp → Nat → Nat → V → Prop} {H H' : Hp} (h : ∀ j q v, F H j q v → F H' j q v) : ∀ {ks : List (List Nat)} {qs : List Nat} {kvs : List (List Key × V)}, Met F H ks qs kvs → Met F H' ks qs kvs
  | [], _, _, m => m
  | _ :: _, _, _, ⟨kvs', v, e, f, n, m⟩ => ⟨kvs', v, e, h _ _ _ f, n, Met.imp h m⟩
theorem Met.len {F : Hp → Nat → Nat → V → Prop} {H : Hp} : ∀ {ks : List (List Nat)} {qs : List Nat} {kvs : List (List Key × V)}, Met F H ks qs kvs → kvs.length = ks.length
  | [], _, _, m => by
    have m : _ = [] := m
    rw [m]
    rfl
  | _ :: _, _, _, ⟨kvs', v, e, f, n, m⟩ => by
    rw [e, List.length_append, Met.len m]
    rfl
theorem Met.none {F : Hp → Nat → Nat → V → Prop} {H : Hp} {k : List Nat} : ∀ {ks : List (List Nat)} {qs : List Nat} {kvs : List (List Key × V)}, Met F H ks qs kvs → k ∉ ks → valV kvs (skk k) = Option.none
  | [], _, _, m, _ => by
    have m : _ = [] := m
    rw [m]
    rfl
  | k' :: ks, qs, _, ⟨kvs', v, e, f, n, m⟩, h => by
    have h1 : ¬ k = k' := fun e => h (by rw [e]; exact List.mem_cons_self)
    have h2 : k ∉ ks := fun q => h (List.mem_cons_of_mem _ q)
    rw [e, valV_snoc _ _ _ _ (Met.none m n), if_neg (fun q => h1 (skk_inj q)), Met.none m h2]
theorem ixOf_none {k : List Nat} : ∀ {ks : List (List Nat)}, ixOf k ks = Option.none → k ∉ ks
  | [], _ => by simp
  | x :: r, h => by
    unfold ixOf at h
    by_cases e : x = k
    · rw [if_pos e] at h
      cases h
    · rw [if_neg e] at h
      intro hm
      rcases List.mem_cons.mp hm with q | q
      · exact e q.symm
      · exact ixOf_none (Option.map_eq_none_iff.mp h) q
theorem ixOf_some {k : List Nat} : ∀ {ks : List (List Nat)} {i : Nat}, ixOf k ks = some i → i < ks.length ∧ k ∈ ks
  | [], _, h => by cases h
  | x :: r, i, h => by
    unfold ixOf at h
    by_cases e : x = k
    · rw [if_pos e] at h
      obtain rfl := Option.some.inj h
      exact ⟨by simp, by rw [e]; exact List.mem_cons_self⟩
    · rw [if_neg e] at h
      obtain ⟨j, hj, rfl⟩ := Option.map_eq_some_iff.mp h
      have := ixOf_some hj
      exact ⟨by simp; omega, List.mem_cons_of_mem _ this.2⟩
theorem Met.some {F : Hp → Nat → Nat → V → Prop} {H : Hp} {k : List Nat} : ∀ {ks : List (List Nat)} {qs : List Nat} {kvs : List (List Key × V)} {i : Nat}, Met F H ks qs kvs → ixOf k ks = some i →
    ∃ v, valV kvs (skk k) = some v ∧ F H (ks.length - 1 - i) (qs.getD i 0) v
  | [], _, _, _, _, h => by cases h
  | k' :: ks, qs, _, i, ⟨kvs', v, e, f, n, m⟩, h => by
    unfold ixOf at h
    by_cases q : k' = k
    · rw [if_pos q] at h
      obtain rfl := Option.some.inj h
      subst q
      refine ⟨v, ?_, ?_⟩
      · rw [e, valV_snoc _ _ _ _ (Met.none m n), if_pos rfl]
      · simpa using f
    · rw [if_neg q] at h
      obtain ⟨j, hj, rfl⟩ := Option.map_eq_some_iff.mp h
      obtain ⟨v', h1, h2⟩ := Met.some m hj
      refine ⟨v', ?_, ?_⟩
      · rw [e, valV_snoc _ _ _ _ (Met.none m n), if_neg (fun z => q (skk_inj z).symm), h1]
      · have e1 : (k' :: ks).length - 1 - (j + 1) = ks.length - 1 - j := by simp; omega
        have e2 : qs.getD (j + 1) 0 = qs.tail.getD j 0 := by cases qs <;> simp
        rw [e1, e2]
        exact h2
theorem Met.add {F : Hp → Nat → Nat → V → Prop} {H : Hp} {k : List Nat} {ks : List (List Nat)} {ps : List Nat} {kvs : List (List Key × V)} {v : V} (m : Met F H ks ps.tail kvs) (h : k ∉ ks) (f : F H ks.length (ps.getD 0 0) v) : Met F H (k :: ks) ps (putK kvs (skk k) v) :=
  ⟨kvs, v, putK_new _ (Met.none m h), f, h, m⟩
theorem cut1 (xs : List V) : cutV xs (some 1) none = xs.drop 1 := by
  unfold cutV
  rw [show HT.sIx xs.length 0 (some 1) = min 1 xs.length from HT.sIx_nat xs.length 0 1, HT.sIx_none]
  cases xs with
  | nil => rfl
  | cons x r =>
    rw [show min 1 (x :: r).length = 1 by simp]
    simp
def sp_gone_through : Sp := fun vs H Q _ => ∃ r a b s p q : Nat, vs = [nv r, nv a, nv b] ∧ r ≤ 1000 ∧ a ≤ 100 ∧ b ≤ 100 ∧ sRes r a b = some (s, p, q) ∧ RetU [nv s, nv p, nv q] H Q
theorem int_max (a b : Nat) : (if (b : Int) > (a : Int) then (b : Int) else (a : Int)) = ((max a b : Nat) : Int) := by
  by_cases h : (b : Int) > (a : Int)
  · rw [if_pos h]
    omega
  · rw [if_neg h]
    omega
theorem b2n (c : Bool) (n : Nat) : (n : Int) + (if c = true then (1 : Int) else 0) = ((if c = true then n + 1 else n : Nat) : Int) := by
  cases c <;> simp
theorem sgo_pos {r a b m t : Nat} {ps gs : List Nat} {ks : List (List Nat)} {x : Nat × Nat × Nat} : ∀ {f : Nat}, sgo r a b m f t ps gs ks = some x → ∃ f', f = f' + 1
  | 0, h => by cases h
  | f + 1, _ => ⟨f, rfl⟩
theorem sgo_hit {r a b m f t i : Nat} {ps gs : List Nat} {ks : List (List Nat)} {x : Nat × Nat × Nat} (h : sgo r a b m (f + 1) t ps gs ks = some x) (hi : ixOf (skey m ps gs) ks = some i) : x = (t - 1 - i, i + 1, ps.getD 0 0 - ps.getD (i + 1) 0) := by
  unfold sgo at h
  rw [hi] at h
  exact (Option.some.inj h).symm
theorem sgo_miss {r a b m f t : Nat} {ps gs : List Nat} {ks : List (List Nat)} {x : Nat × Nat × Nat} (h : sgo r a b m (f + 1) t ps gs ks = some x) (hi : ixOf (skey m ps gs) ks = none) : sgo r a b m f (t + 1) (newP r a ps gs :: ps) (newG b ps gs :: gs) (skey m ps gs :: ks) = some x := by
  unfold sgo at h
  rw [hi] at h
  exact h
section
variable {P : Program} {w : World} {K : PySem.W.Frag} {mg : Str → Option Value} {base : Heap}
/-! ### lambdas as values -/
/-- a made lambda: its words, the cells that it captured, its defaults, its code object -/
structure LamD where
  params : Arguments
  body : Expr
  scope : Scope
  q : Str
  cl : List (Str × Addr)
  dV : Value
  c : Addr
abbrev LamD.fd (L : LamD) (doc pm ctv : Value) : FuncData := PySem.W.kdv_fn "<lambda>" L.q L.params (.expr L.body) L.scope L.cl L.dV doc pm (.ref L.c) ctv
def LamO (f : Addr) (L : LamD) : HO := .ext fun h => ∃ doc pm ctv : Value, h.get? f = some (PySem.W.kdv_obj "<lambda>" L.q L.params (.expr L.body) L.scope L.cl L.dV doc pm L.c ctv)
/-- what a lambda's defaults come to: nothing, or a tuple -/
def DefOk (ds : List Expr) (dV : Value) (R : Addr → Prop) : Prop := match ds with
  | [] => dV = .none
  | _ :: _ => ∃ t, dV = .ref t ∧ R t
theorem DefOk.imp {ds : List Expr} {dV : Value} {R S : Addr → Prop} (k : ∀ t, R t → S t) (h : DefOk ds dV R) : DefOk ds dV S := by
  cases ds with
  | nil => exact h
  | cons d ds =>
    obtain ⟨t, e, r⟩ := h
    exact ⟨t, e, k t r⟩
/-- the lambda stands in a heap: its object, its code object, its one default (0), if it has one -/
def ThkH (H : Hp) (f : Addr) (L : LamD) : Prop := H f = some (LamO f L) ∧ H L.c = some (LamX.CodeO L.c L.q) ∧ DefOk L.params.defaults L.dV (fun t => H t = some (.tup [.int 0]))
theorem lamO_ok {P : Program} {w : World} {H : Hp} {h : Heap} {f : Addr} {L : LamD} {doc pm ctv : Value} (e : h.get? f = some (PySem.W.kdv_obj "<lambda>" L.q L.params (.expr L.body) L.scope L.cl L.dV doc pm L.c ctv)) : ObjOk P w H h f (LamO f L) :=
  ⟨⟨doc, pm, ctv, e⟩, ⟨_, e⟩, fun _ _ ⟨d, p, c, z⟩ st => ⟨d, p, c, st _ z⟩⟩
theorem lamO_tbl {f : Addr} {L : LamD} (ps : Array Value) : LamO f L ≠ .tbl ps := fun z => by
  unfold LamO at z
  cases z
theorem ThkH.extN {H H' : Hp} {f : Addr} {L : LamD} (e : LamX.ExtN H H') (h : ThkH H f L) : ThkH H' f L := by
  obtain ⟨h1, h2, h3⟩ := h
  exact ⟨e _ _ h1 lamO_tbl, e _ _ h2 LamX.codeO_ne, h3.imp fun t h4 => e _ _ h4 fun ps z => by cases z⟩
theorem ThkH.mono {H H' : Hp} {f : Addr} {L : LamD} (e : Ex H H') (h : ThkH H f L) : ThkH H' f L := h.extN (LamX.ExtN.of e)
section
variable {X : Cx} {pins : List (Addr × Obj)} {σ : L2.St} {H : Hp} {s : Shared}
/-- the function object is made, its defaults being known -/
theorem lam_tail {T : List (Addr × Str)} {c P : Addr} {params : Arguments} {body : Expr} {scope : Scope} {pos : Pos} {dV : Value} {fl : Nat} {E : Value → Shared → Prop} {Q : Value → Shared → Prop} (I : Inv X pins σ H s) (TB : LamX.TabB X.base X.mg c P) (hcode : X.env.code = .ref c)
    (hm : (P, X.env.qual ++ "<lambda>") ∈ T) (hu : ∀ p ∈ T, p.1 = P → p.2 = X.env.qual ++ "<lambda>") (hT : LamX.Tabs T H) (hfree : ∀ y ∈ scope.names, y.2 = .free → ∃ c, X.env.cells.lookup y.1 = some c)
    (k : ∀ (f c' : Addr) (H1 : Hp) (s' : Shared), Inv X pins σ H1 s' → LamX.ExtN H H1 → LamX.Tabs T H1 → H f = none → H1 f = some (LamO f ⟨params, body, scope, X.env.qual ++ "<lambda>", cloFrom X.env.cells scope.names [], dV, c'⟩) → H1 c' = some (LamX.CodeO c' (X.env.qual ++ "<lambda>")) → Q (.ref f) s') :
    wpAny (model X.prog X.w) X.A (makeTail "<lambda>" (X.env.qual ++ "<lambda>") params (.expr body) scope X.env dV .none none pos fl) Q E s := by
  obtain ⟨ps, hP, ht, ha⟩ := hT _ hm
  have bP : s.heap.BuiltinsAt X.mg P := TB.bm.keeps I.bk
  have hPs : s.heap.get? P = some { cls := .none, data := .fields ps } := I.hok P _ hP
  cases hc : codeAmong pos ps.toList with
  | none =>
    refine PySem.W.kdv_makeTail (mg := X.mg) (c := c) (P := P) (ps := ps) (closure_ok hfree) I.ok.glob (I.mod.glob.keeps I.bk) hcode (TB.code.keeps I.bk) hPs ht hc TB.gP bP fun c' ctv doc h' tk hx hge hlt hrec htb => ?_
    obtain ⟨c2, oc, vs, t, e2, hoc, hd, hv⟩ := hrec
    cases e2
    have hsz : s.heap.objs.size ≤ h'.objs.size := Nat.le_trans hge (Nat.le_of_lt hlt)
    have nC : H c' = none := I.hok.fresh hge
    have I1 := LamX.inv_table (t' := tk) (more := #[rawInt pos.line, rawInt pos.col, .ref c']) (h' := h') I hP (fun b o hb e => hx b o hb e) htb hge ⟨oc, vs, t, hoc, hd, hv⟩
    generalize hH1 : upd (upd H P (.tbl (ps ++ #[rawInt pos.line, rawInt pos.col, .ref c']))) c' (LamX.CodeO c' (X.env.qual ++ "<lambda>")) = H1 at I1
    have nF1 : H1 h'.objs.size = none := I1.hok.fresh (Nat.le_refl _)
    have I2 := I1.laid (t' := tk) (a := h'.objs.size) (o := LamO h'.objs.size ⟨params, body, scope, X.env.qual ++ "<lambda>", cloFrom X.env.cells scope.names [], dV, c'⟩) (h' := h'.push (PySem.W.kdv_obj "<lambda>" (X.env.qual ++ "<lambda>") params (.expr body) scope (cloFrom X.env.cells scope.names []) dV doc ((X.mg "__name__").getD .none) c' ctv)) (fun b o e => Heap.get?_push_of_some _ e) (Nat.le_refl _) (lamO_ok (Heap.get?_push_size _ rfl))
    have eH : LamX.ExtN H H1 := fun b o e n => by
      rw [← hH1, upd_ne (ne_of_none e nC), upd_ne (fun z => n ps (Option.some.inj (e.symm.trans (by rw [z]; exact hP))))]
      exact e
    have eF : Ex H1 (upd H1 h'.objs.size (LamO h'.objs.size ⟨params, body, scope, X.env.qual ++ "<lambda>", cloFrom X.env.cells scope.names [], dV, c'⟩)) := Ex.new nF1
    have eL : (ps ++ #[rawInt pos.line, rawInt pos.col, .ref c']).toList = ps.toList ++ [rawInt pos.line, rawInt pos.col, .ref c'] := by simp
    have T1 : LamX.Tabs T H1 := by
      intro p hp
      by_cases hb : p.1 = P
      · rw [hu p hp hb, hb]
        refine ⟨_, by rw [← hH1, upd_ne (ne_of_none hP nC), upd_same], by rw [eL]; exact PySem.TriplesOk_snoc _ _ _ _ ht, fun p' cv hcv => ?_⟩
        rw [eL] at hcv
        rcases LamX.among_app _ ht hcv with z | z
        · obtain ⟨c0, e1, e2⟩ := ha p' cv z
          exact ⟨c0, e1, eH _ _ e2 LamX.codeO_ne⟩
        · exact ⟨c', z, by rw [← hH1]; exact upd_same⟩
      · obtain ⟨ps', a1, a2, a3⟩ := hT p hp
        refine ⟨ps', by rw [← hH1, upd_ne (ne_of_none a1 nC), upd_ne hb]; exact a1, a2, fun p' cv hcv => ?_⟩
        obtain ⟨c0, e1, e2⟩ := a3 p' cv hcv
        exact ⟨c0, e1, eH _ _ e2 LamX.codeO_ne⟩
    have nF : H h'.objs.size = none := I.hok.fresh hsz
    refine k h'.objs.size c' _ _ I2 (eH.trans (LamX.ExtN.of eF)) (T1.ext eF) nF upd_same ?_
    rw [upd_ne (Nat.ne_of_lt hlt), ← hH1]
    exact upd_same
  | some cv =>
    obtain ⟨c', e, hco⟩ := ha pos cv hc
    subst e
    refine PySem.W.kdv_makeTailHit (mg := X.mg) (c := c) (P := P) (ps := ps) (closure_ok hfree) I.ok.glob (I.mod.glob.keeps I.bk) hcode (TB.code.keeps I.bk) hPs ht hc bP fun ctv doc h' tk hx hsz => ?_
    have nF : H h'.objs.size = none := I.hok.fresh hsz
    have I2 := I.laid (t' := tk) (a := h'.objs.size) (o := LamO h'.objs.size ⟨params, body, scope, X.env.qual ++ "<lambda>", cloFrom X.env.cells scope.names [], dV, c'⟩) (h' := h'.push (PySem.W.kdv_obj "<lambda>" (X.env.qual ++ "<lambda>") params (.expr body) scope (cloFrom X.env.cells scope.names []) dV doc ((X.mg "__name__").getD .none) c' ctv)) (fun b o e => Heap.get?_push_of_some _ (hx b o e)) hsz (lamO_ok (Heap.get?_push_size _ rfl))
    have eF : Ex H (upd H h'.objs.size (LamO h'.objs.size ⟨params, body, scope, X.env.qual ++ "<lambda>", cloFrom X.env.cells scope.names [], dV, c'⟩)) := Ex.new nF
    exact k h'.objs.size c' _ _ I2 (LamX.ExtN.of eF) (hT.ext eF) nF upd_same (eF _ _ hco)
end
/-- the lambda of a written expression, made in X -/
abbrev lamOf (X : Cx) (params : Arguments) (body : Expr) (scope : Scope) (dV : Value) (c' : Addr) : LamD := ⟨params, body, scope, X.env.qual ++ "<lambda>", cloFrom X.env.cells scope.names [], dV, c'⟩
def tLamV (X : Cx) (T : List (Addr × Str)) (params : Arguments) (body : Expr) (scope : Scope) : TE := fun _ H Q => LamX.Tabs T H ∧ ∀ (f c' : Addr) (dV : Value) (H1 : Hp), LamX.ExtN H H1 → LamX.Tabs T H1 → H f = none → ThkH H1 f (lamOf X params body scope dV c') → Q (.ref f) H1
section
variable {X : Cx}
/-- lambda: body -/
theorem pe_lam0 {T : List (Addr × Str)} {c P : Addr} {params : Arguments} {body : Expr} {scope : Scope} {pos : Pos} (TB : LamX.TabB X.base X.mg c P) (hcode : X.env.code = .ref c) (hm : (P, X.env.qual ++ "<lambda>") ∈ T) (hu : ∀ p ∈ T, p.1 = P → p.2 = X.env.qual ++ "<lambda>")
    (hfree : ∀ y ∈ scope.names, y.2 = .free → X.env.scope.names.lookup y.1 = some .cell ∨ X.env.scope.names.lookup y.1 = some .free) (hdef : defaultsOf params X.env = ([], []) := by rfl) (hd0 : params.defaults = [] := by rfl) : PE X (.Lambda params body scope pos) (tLamV X T params body scope) := by
  refine ⟨fun pins s σ H Q I h => ?_⟩
  obtain ⟨hT, h⟩ := h
  refine PySem.W.kla_eval hdef ?_
  rw [makeFunction_eq]
  simp only [List.zip_nil_right, List.filterMap_nil, List.isEmpty_nil, if_true, pure_bind]
  refine lam_tail I TB hcode hm hu hT (fun y hy e => I.ok.has _ (hfree y hy e)) fun f c' H1 s' I1 e1 T1 nf hf hc => ?_
  exact ⟨.ref f, H1, I1, rfl, h f c' .none H1 e1 T1 nf ⟨hf, hc, by show DefOk params.defaults _ _; rw [hd0]; rfl⟩⟩
end
section
variable {X : Cx}
/-- lambda a=0: body -/
theorem pe_lam1 {T : List (Addr × Str)} {c P : Addr} {params : Arguments} {body : Expr} {scope : Scope} {pos pk : Pos} {kk} (TB : LamX.TabB X.base X.mg c P) (hcode : X.env.code = .ref c) (hm : (P, X.env.qual ++ "<lambda>") ∈ T) (hu : ∀ p ∈ T, p.1 = P → p.2 = X.env.qual ++ "<lambda>")
    (hfree : ∀ y ∈ scope.names, y.2 = .free → X.env.scope.names.lookup y.1 = some .cell ∨ X.env.scope.names.lookup y.1 = some .free) (hdef : params.defaults = [.Constant (.int 0) kk pk] := by rfl) (hk0 : params.kw_defaults = [] := by rfl) : PE X (.Lambda params body scope pos) (tLamV X T params body scope) := by
  refine ⟨fun pins s σ H Q I h => ?_⟩
  obtain ⟨hT, h⟩ := h
  refine PySem.W.kdv_lam (by rw [hdef]; rfl) hk0 ?_
  rw [hdef]
  refine PySem.W.kdv_all1 (thn ((pe_int (X := X) (i := 0) (j := kk) (pos := pk)).run pins s σ H (fun v H1 => v = .int 0 ∧ H1 = H) I ⟨rfl, rfl⟩) fun u s1 ⟨v, H1, I1, r1, ev, eH⟩ => PySem.W.kdv_all0 ?_)
  subst ev
  rw [eH] at I1
  rw [makeFunction_eq]
  simp only [List.zip_nil_right, List.filterMap_nil, List.isEmpty_nil, List.isEmpty_cons, Bool.false_eq_true, if_false, if_true, pure_bind]
  refine wpAny_bind (wpAny_newTextTuple ?_)
  have nt : H s1.heap.objs.size = none := I1.hok.fresh (Nat.le_refl _)
  have I2 := I1.laid (t' := s1.toks) (a := s1.heap.objs.size) (o := HO.tup [.int 0]) (h' := s1.heap.push { cls := .type "tuple", data := .seq [u].toArray }) (fun b o e => Heap.get?_push_of_some _ e) (Nat.le_refl _) ⟨by rw [sizeLine_eq]; decide, [u], .cons r1 .nil, ⟨_, Heap.get?_push_size _ rfl, rfl, _, rfl⟩⟩
  have eT : Ex H (upd H s1.heap.objs.size (.tup [.int 0])) := Ex.new nt
  refine lam_tail I2 TB hcode hm hu (hT.ext eT) (fun y hy e => I.ok.has _ (hfree y hy e)) fun f c' H3 s' I3 e3 T3 nf hf hc => ?_
  exact ⟨.ref f, H3, I3, rfl, h f c' _ H3 ((LamX.ExtN.of eT).trans e3) T3 (fresh_back eT nf) ⟨hf, hc, by show DefOk params.defaults _ _; rw [hdef]; exact ⟨_, rfl, e3 _ _ upd_same (fun ps z => by cases z)⟩⟩⟩
end
/-! ### a lambda called -/
/-- no cell of its own; what is captured is captured -/
structure LScope (sc scope : Scope) : Prop where
  kind : scope.kind = .function
  co : scope.isCoroutine = false
  gen : scope.isGenerator = false
  own : ∀ y ∈ scope.names, y.2 ≠ .cell
  free : ∀ y ∈ scope.names, y.2 = .free → sc.names.lookup y.1 = some .cell ∨ sc.names.lookup y.1 = some .free
def lScopeB (sc scope : Scope) : Bool :=
  decide (scope.kind = .function) && (!scope.isCoroutine && (!scope.isGenerator && scope.names.all fun y => !decide (y.2 = .cell) && (!decide (y.2 = .free) || (decide (sc.names.lookup y.1 = some .cell) || decide (sc.names.lookup y.1 = some .free)))))
theorem lScope_by {sc scope : Scope} (h : lScopeB sc scope = true) : LScope sc scope := by
  unfold lScopeB at h
  simp only [Bool.and_eq_true, Bool.or_eq_true, Bool.not_eq_true', decide_eq_true_eq, decide_eq_false_iff_not, List.all_eq_true] at h
  obtain ⟨h1, h2, h3, h4⟩ := h
  refine ⟨h1, h2, h3, fun y hy => (h4 y hy).1, fun y hy e => ?_⟩
  rcases (h4 y hy).2 with z | z
  · exact absurd e z
  · exact z
/-- the cells of a context, as they stand in a heap -/
structure CellsOk (X : Cx) (σ : L2.St) (H : Hp) (h : Heap) : Prop where
  at' : ∀ x c, X.env.cells.lookup x = some c → H c = none ∧ ∃ v, h.IsCell c v
  val : ∀ (i : Nat) (x : Str) (v : V), X.N[i]? = some x → σ[i]? = some (some v) → (X.env.scope.names.lookup x = some .cell ∨ X.env.scope.names.lookup x = some .free) → ∃ u c, RelV v u ∧ X.env.cells.lookup x = some c ∧ h.IsCell c (some u)
  inj : ∀ x y c, X.env.cells.lookup x = some c → X.env.cells.lookup y = some c → x = y
  has : ∀ x, (X.env.scope.names.lookup x = some .cell ∨ X.env.scope.names.lookup x = some .free) → ∃ c, X.env.cells.lookup x = some c
  len : σ.length = X.N.length
theorem cellsOk_of {X : Cx} {pins : List (Addr × Obj)} {σ : L2.St} {H : Hp} {s : Shared} (I : Inv X pins σ H s) : CellsOk X σ H s.heap := by
  refine ⟨fun x c e => ⟨I.freeC x c e, I.cell x c e⟩, fun i x v e1 e2 e3 => ?_, I.ok.inj, I.ok.has, I.len⟩
  obtain ⟨m, _, hl⟩ := I.loc
  obtain ⟨u, r, q⟩ := hl i x v e1 e2 (.inr e3)
  rcases q with ⟨k, _⟩ | ⟨_, c, hc, z⟩
  · have k : X.env.scope.names.lookup x = some .local := k
    rcases e3 with e3 | e3 <;> rw [e3] at k <;> cases k
  · exact ⟨u, c, r, hc, z⟩
theorem CellsOk.un {X : Cx} {σ : L2.St} {fs ex : List Addr} {H H' : Hp} {h h' : Heap} (c : CellsOk X σ H h) (u : Un fs ex H H' h h') (hx : ∀ x d, X.env.cells.lookup x = some d → d ∉ ex) : CellsOk X σ H' h' := by
  have key : ∀ x d v, X.env.cells.lookup x = some d → h.IsCell d v → h'.IsCell d v := fun x d v e ⟨o, ho, hd⟩ => by
    obtain ⟨sl, q⟩ := u.any ho (c.at' x d e).1 (hx x d e)
    exact ⟨_, q, hd⟩
  refine ⟨fun x d e => ?_, fun i x v e1 e2 e3 => ?_, c.inj, c.has, c.len⟩
  · obtain ⟨n, v, z⟩ := c.at' x d e
    obtain ⟨o, ho, _⟩ := id z
    exact ⟨u.free d o ho n (hx x d e), v, key x d v e z⟩
  · obtain ⟨uu, d, r, e, z⟩ := c.val i x v e1 e2 e3
    exact ⟨uu, d, r, e, key x d _ e z⟩
abbrev thkEnv (L : LamD) (a f : Addr) : Env := PySem.W.envX L.q L.scope a f (.ref L.c) L.cl
/-- the context of a lambda's body -/
def thkCx (X : Cx) (L : LamD) (A : Around) (outer : List Env) (s : Shared) (H : Hp) (E : XK) (f : Addr) : Cx where
  prog := X.prog
  w := X.w
  K := X.K
  mg := X.mg
  base := X.base
  A := A.deeper (thkEnv L s.heap.objs.size f)
  N := X.N
  s_0 := s
  H_0 := H
  env := thkEnv L s.heap.objs.size f
  outer := outer
  stack := thkEnv L s.heap.objs.size f :: outer
  ex := []
  fn := fun _ => false
  calm := true
  pn := []
  xe := fun e s' => wpAny (model X.prog X.w) (A.deeper (thkEnv L s.heap.objs.size f)) (leaving (thkEnv L s.heap.objs.size f) e) (fun _ s2 => L2N.CX X.prog X.w outer H s E e s2) (fun e' s2 => L2N.CX X.prog X.w outer H s E e' s2) s'
section
variable {X : Cx} {σ : L2.St} {params : Arguments} {body : Expr} {scope : Scope} {dV : Value} {c' : Addr}
theorem clo_of (LS : LScope X.env.scope scope) {H : Hp} {h : Heap} (C : CellsOk X σ H h) {y : Str} {c : Addr} (e : (cloFrom X.env.cells scope.names []).lookup y = some c) : X.env.cells.lookup y = some c := by
  rcases cloFrom_mem (PySem.mem_of_lookup e) with hm | ⟨h1, h2⟩
  · cases hm
  · obtain ⟨c1, hc⟩ := C.has _ (LS.free _ h1 rfl)
    have hc : X.env.cells.lookup y = some c1 := hc
    rw [h2, hc]
    rfl
theorem clo_has {y : Str} (hl : scope.names.lookup y = some .free) : ∃ c, (cloFrom X.env.cells scope.names []).lookup y = some c :=
  mem_lookup (cloFrom_has (cells := X.env.cells) (acc := []) (PySem.mem_of_lookup hl))
theorem thk_start {A : Around} {outer : List Env} {E : XK} {f : Addr} {h1 : Heap} {tk : Nat} {H : Hp} {s : Shared} {m : Str → Option Value} (LS : LScope X.env.scope scope) (hloc : ∀ y ∈ scope.names, y.2 = .local → y.1 ∉ X.N) (C : CellsOk X σ H s.heap) (e0 : Env0 X.prog X.w X.K X.mg X.base A outer s H) (hd : A.handled = none)
    (hns : h1.Ns s.heap.objs.size m) (kp : ∀ b o, s.heap.get? b = some o → h1.get? b = some o) :
    Inv (thkCx X (lamOf X params body scope dV c') A outer s H E f) [] σ H { s with heap := h1, toks := tk } := by
  have noA : ∀ b : Addr, b ∉ (thkCx X (lamOf X params body scope dV c') A outer s H E f).ex := fun b z => absurd (show b ∈ ([] : List Addr) from z) (by simp)
  refine ⟨⟨e0.mod, LS.kind, rfl, rfl, Nat.le_refl _, fun y z c e1 e2 => C.inj y z c (clo_of LS C e1) (clo_of LS C e2), fun y hy => ?_, fun y c z _ => Bool.noConfusion (show false = true from z), fun _ => hd, Around.frames_deeper e0.frames, .inr ⟨rfl, rfl⟩, fun b z => absurd z (noA b), e0.bs, e0.bsz, fun b _ _ => noA b, fun b z => absurd z (noA b), e0.funs, e0.frf⟩,
    rfl, e0.bare, Un.kept kp, ⟨m, hns, fun i y v e1 e2 e3 => ?_⟩, fun y c e => ?_, e0.hok.fresh (Nat.le_refl _), fun y c e => ?_, fun q hq => absurd (show q ∈ ([] : List (Addr × Obj)) ++ [] from hq) (by simp), e0.hok.kept kp, C.len⟩
  · have hy : scope.names.lookup y = some .cell ∨ scope.names.lookup y = some .free := hy
    rcases hy with hy | hy
    · exact absurd rfl (LS.own _ (PySem.mem_of_lookup hy))
    · exact clo_has hy
  · have e3 : Vis scope y := e3
    rcases e3 with k | k | k
    · exact absurd (List.mem_of_getElem? e1) (hloc _ (PySem.mem_of_lookup k) rfl)
    · exact absurd rfl (LS.own _ (PySem.mem_of_lookup k))
    · obtain ⟨u, c, r, hc, z⟩ := C.val i y v e1 e2 (LS.free _ (PySem.mem_of_lookup k) rfl)
      obtain ⟨c2, h2⟩ := clo_has (X := X) k
      have h3 := clo_of LS C h2
      rw [hc] at h3
      cases h3
      exact ⟨u, r, .inr ⟨.inr k, c, h2, z.keeps kp⟩⟩
  · obtain ⟨_, v, z⟩ := C.at' y c (clo_of LS C e)
    exact ⟨v, z.keeps kp⟩
  · exact (C.at' y c (clo_of LS C e)).1
/-- what a lambda's arguments come to: none, or its default -/
def BindsL (params : Arguments) (body : Expr) (scope : Scope) (bs : List Str) : Prop :=
  ∀ (s : Shared) (q : Str) (cl : List (Str × Addr)) (dV doc pm cv ctv : Value), DefOk params.defaults dV (fun t => ∃ u, PyProof.Rows.IsTup s.heap t #[u]) → ∃ us : List Value, BindsTo s (PySem.W.kdv_fn "<lambda>" q params (.expr body) scope cl dV doc pm cv ctv) ⟨[], []⟩ (bs.zip us)
theorem thk_run {A : Around} {outer : List Env} {f : Addr} {H : Hp} {s : Shared} {Q : VK} {E : XK} {k : Nat} {bs : List Str} {tb : XK → TE} (LS : LScope X.env.scope scope) (hloc : ∀ y ∈ scope.names, y.2 = .local → y.1 ∉ X.N) (hb : BindsL params body scope bs) (hbs : ∀ y ∈ bs, scope.names.lookup y = some .local)
    (hbody : ∀ (dV : Value) (c' : Addr) (A : Around) (outer : List Env) (s : Shared) (H : Hp) (E : XK) (f : Addr), Room k (A.deeper (thkEnv (lamOf X params body scope dV c') s.heap.objs.size f)) → PE (thkCx X (lamOf X params body scope dV c') A outer s H E f) body (tb E))
    (hr : Room (k + 1) A) (e0 : Env0 X.prog X.w X.K X.mg X.base A outer s H) (C : CellsOk X σ H s.heap) (hT : ThkH H f (lamOf X params body scope dV c')) (ht : tb E σ H Q) :
    codeAny (model X.prog X.w) A (.call (.ref f) ⟨[], []⟩) (CR (L2N.CX X.prog X.w) outer X.prog X.w H s Q E) s := by
  obtain ⟨h1, h2, h3⟩ := hT
  obtain ⟨⟨doc, pm, ctv, of⟩, _, _⟩ := e0.hok f _ h1
  obtain ⟨⟨oc, vs, t, hoc, hdc, hvc⟩, _, _⟩ := e0.hok c' _ h2
  have lim : s.heap.NoLimit := e0.mod.nolimit.keeps fun b o e => (e0.bs b o e).1
  have hdv : DefOk params.defaults dV (fun t => ∃ u, PyProof.Rows.IsTup s.heap t #[u]) := h3.imp fun t h4 => by
    obtain ⟨_, its, rv, p⟩ := e0.hok t _ h4
    cases rv with
    | cons r rr =>
      cases rr
      exact ⟨_, p⟩
  obtain ⟨us, hbind⟩ := hb s (X.env.qual ++ "<lambda>") (cloFrom X.env.cells scope.names []) dV doc pm (.ref c') ctv hdv
  refine PySem.W.kla_callFunE hr.depth of rfl LS.co LS.gen rfl ⟨c', oc, vs, t, rfl, hoc, hdc, hvc⟩ (hbind _ _ _ _ ?_)
  refine wpAny_newFunctionEnv LS.own (fun y hy => hbs _ (List.of_mem_zip hy).1) (fun hh hns hsb => ⟨lim.fresh _ hsb, ?_⟩) LS.kind
  have kp : ∀ b o, s.heap.get? b = some o → hh.get? b = some o := fun b o e => hsb.extBut b o (Nat.ne_of_lt (Heap.lt_size e)) (Heap.get?_push_of_some _ e)
  have J := thk_start (params := params) (body := body) (dV := dV) (c' := c') (E := E) (f := f) (tk := s.toks + (bs.zip us).length) LS hloc C e0 hr.hd hns kp
  refine PySem.W.kla_codeExpr (wpAny_mono ((hbody dV c' A outer s H E f (hr.deeper _)).run [] _ σ H Q J ht) (fun v s' hq => ?_) fun e s' hq => hq)
  obtain ⟨w', H', J', rv, q⟩ := hq
  exact ⟨w', H', J'.os, J'.bare, J'.base, J'.hok, rv, q⟩
end
/-- a(), in a def that was handed a lambda: entered at s -/
theorem pe_thk {X : Cx} {σ : L2.St} {params : Arguments} {body : Expr} {scope : Scope} {dV : Value} {c' f : Addr} {k i : Nat} {bs : List Str} {tb : XK → TE} {CXg : CXT} {Eg : XK} {Ng : List Str} {qg a : Str} {sg : Scope} {g : Addr} {cdg : Value} {A : Around} {outer : List Env} {s : Shared} {H : Hp} {pn : List (Addr × Obj)} {xe : Value → Shared → Prop} {W : WX} {p1 p2 : Pos}
    (LS : LScope X.env.scope scope) (hloc : ∀ y ∈ scope.names, y.2 = .local → y.1 ∉ X.N) (hb : BindsL params body scope bs) (hbs : ∀ y ∈ bs, scope.names.lookup y = some .local)
    (hbody : ∀ (dV : Value) (c' : Addr) (A : Around) (outer : List Env) (s : Shared) (H : Hp) (E : XK) (f : Addr), Room k (A.deeper (thkEnv (lamOf X params body scope dV c') s.heap.objs.size f)) → PE (thkCx X (lamOf X params body scope dV c') A outer s H E f) body (tb E))
    (C : CellsOk X σ H s.heap) (hr : Room (k + 1) (A.deeper (PyProof.Rows.envOfC qg sg s.heap.objs.size g cdg)))
    (tk : L2N.Takes ((cxOf CXg X.prog X.w X.K X.mg X.base Ng qg sg g cdg A outer s H Eg).tr pn xe) W)
    (hN : Ng[i]? = some a) (hv : Vis sg a) (hd : (a == ("__debug__" : Str)) = false := by decide) (hcd : (a == ("__classdict__" : Str)) = false := by decide) :
    PE ((cxOf CXg X.prog X.w X.K X.mg X.base Ng qg sg g cdg A outer s H Eg).tr pn xe) (.Call (.Name a p1) [] [] p2)
      (fun σZ HZ Q => σZ[i]? = some (some (.ref f)) ∧ ThkH HZ f (lamOf X params body scope dV c') ∧ tb (fun cls d H' => W cls d σZ H') σ HZ Q) := by
  refine ⟨fun pinsZ sZ σZ HZ Q IZ h => ?_⟩
  obtain ⟨hs, hT, ht⟩ := h
  refine wpAny_Call_Name_kw (thn ((pe_var (pos := p1) (i := i) hN hv hd hcd).run pinsZ sZ σZ HZ (fun v H1 => v = .ref f ∧ H1 = HZ) IZ ⟨.ref f, hs, rfl, rfl⟩) fun u s1 ⟨v, H1, I1, r1, ev, eH⟩ => ?_)
  subst ev
  rw [eH] at I1
  obtain rfl : u = Value.ref f := r1
  obtain ⟨⟨doc, pm, ctv, of⟩, _, _⟩ := I1.hok f _ hT.1
  refine PySem.W.callWith_F0 ⟨_, _, _, _, of⟩ ?_
  have un : Un (frs outer) [] H HZ s.heap s1.heap := I1.base
  have C1 : CellsOk X σ HZ s1.heap := C.un un (fun _ _ _ => by simp)
  have rc := thk_run (Q := Q) (E := fun cls d H' => W cls d σZ H') LS hloc hb hbs hbody hr I1.env0 C1 hT ht
  refine wpAny_call (codeAny_mono rc fun r s' hq => ?_)
  cases r with
  | error e => exact L2N.passAt tk σZ pinsZ HZ s1 e s' I1 hq
  | ok fl =>
    cases fl with
    | ret u => exact I1.after hq
    | next => exact False.elim hq
    | brk => exact False.elim hq
    | cont => exact False.elim hq
/-! ### a list's end while an exception is handled -/
theorem next_end_hot {prog : Program} {w : World} {A : Around} {E : Value → Shared → Prop} {st : Shared} {ia la xa : Addr} {n : Nat} {its : Array Value} {Q : Option Value → Shared → Prop} (hot : HotX.HotAt A xa st.heap) (nx : xa ≠ ia) (hi : st.heap.IsListIter ia la n) (hl : st.heap.IsList la its) (hn : its[n]? = none)
    (q : ∀ h', Heap.ExtBut ia st.heap h' → Q none { st with heap := h' }) : wpAny (model prog w) A (pyNext (.ref ia)) Q E st := by
  obtain ⟨oi, hoi, _, hdi⟩ := id hi
  obtain ⟨oo, hoo, _, no, hdo⟩ := hl
  obtain ⟨hh, ox, vx, hox, hdx, hcx⟩ := hot
  unfold pyNext
  refine wpAny_bind (wpAny_attempt (wpAny_callSpecial?_slot (name := Str.ofString "__next__") hi.typeIs slot_listiter_next (wpAny_call_entry slot_listiter_next hi.typeIs entry_listiter_next ?_ (args_listiter_next _))))
  show wpAny _ _ (field (.ref ia) 0 >>= _) _ _ st
  refine wpAny_bind (wpAny_field hoi hdi (x := .ref la) rfl ?_)
  show wpAny _ _ (if (Value.ref la == Value.none) = true then _ else _) _ _ st
  rw [if_neg (show ¬ ((Value.ref la == Value.none) = true) from fun z => Bool.false_ne_true z)]
  show wpAny _ _ (field (.ref ia) 1 >>= _) _ _ st
  refine wpAny_bind (wpAny_field hoi hdi (x := .int n 0) rfl ?_)
  show wpAny _ _ (seqItems? (.ref la) >>= _) _ _ st
  refine wpAny_bind (wpAny_seqItems hoo hdo ?_)
  simp only [Int.toNat_natCast, hn]
  refine wpAny_bind (wpAny_rule (wpAny_bind (wpAny_setField hoi hdi (by simp) ?_)))
  generalize hU : st.heap.update ia _ = hu
  have ku : Heap.ExtBut ia st.heap hu := by
    rw [← hU]
    exact (Heap.SameBut.update ..).extBut
  have hxu : hu.get? xa = some ox := ku _ _ nx hox
  show wpAny _ _ (newExc (.type "StopIteration") [] >>= raiseNew) _ _ _
  refine wpAny_bind ?_
  simp only [newExc, newTuple]
  refine wpAny_bind (wpAny_newObj_type ?_ (by size_fits))
  refine wpAny_bind (m := firstArgMember _ _) (wpAny_of_eq (a := Value.none) (by first | rfl | simp only [firstArgMember]; rfl) ?_)
  refine wpAny_newObj_type ?_ (by size_fits)
  refine HotX.raiseNew_hot ⟨hh, ox, vx, Heap.get?_push_of_some _ (Heap.get?_push_of_some _ hxu), hdx, hcx⟩ (Nat.ne_of_lt (Heap.lt_size (Heap.get?_push_of_some _ hxu))) (Heap.get?_push_size _ rfl) rfl (by first | (simp; done) | (simp; omega) | (simp only [Array.size_append]; simp; omega)) ?_
  refine wpAny_bind (wpAny_isInstance (T := "StopIteration") (b := true) ⟨_, Heap.get?_update_self _ (Heap.get?_push_size _ rfl) rfl, rfl⟩ isSubtype_stop ?_)
  refine wpAny_pure (q _ fun b ob hb eb => ?_)
  have eu := ku b ob hb eb
  rw [Heap.get?_update_other _ _ (Nat.ne_of_gt (Heap.lt_size (Heap.get?_push_of_some _ eu)))]
  exact Heap.get?_push_of_some _ (Heap.get?_push_of_some _ eu)
/-! ### a comprehension over a list, its parts told of the state where it starts; an exception may be handled meanwhile -/
def EndOk (X : Cx) : Prop := X.calm = true ∨ L2H.HotC X
def tLcO (K : PySem.W.Frag) (tl : TE) (tt : L2.St → TT) (te : L2.St → TE) (j : Nat) : TE := fun σ H Q => tLc (iList K tl) (gName j) (tt σ) (te σ) [j] σ H Q
section
variable {X : Cx}
theorem pe_lcO {elt iter : Expr} {x : Str} {px pos : Pos} {ifs : List Expr} {scope : Scope} {j : Nat} {tl : TE} {tt : L2.St → TT} {te : L2.St → TE} (hE : EndOk X) (hN : X.N.Nodup) (hl : PE X iter tl) (ok : BlkOk X.N X.env.scope scope [(x, j)])
    (hg : ∀ (s : Shared) (H : Hp) (C : Addr) (cl : List (Str × Addr)) (fp : List Addr), PG (X.blk s H scope (compEnvC scope cl C X.env) fp) (.Name x px) (gName j))
    (ht : ∀ (pins : List (Addr × Obj)) (σ : L2.St) (s : Shared) (H : Hp) (C : Addr) (cl : List (Str × Addr)) (fp : List Addr), Inv X pins σ H s → (∀ y c, X.env.cells.lookup y = some c → c ∉ fp) → PTs (X.blk s H scope (compEnvC scope cl C X.env) fp) ifs (tt σ))
    (he : ∀ (pins : List (Addr × Obj)) (σ : L2.St) (s : Shared) (H : Hp) (C : Addr) (cl : List (Str × Addr)) (fp : List Addr), Inv X pins σ H s → (∀ y c, X.env.cells.lookup y = some c → c ∉ fp) → PE (X.blk s H scope (compEnvC scope cl C X.env) fp) elt (te σ))
    (hs : ∀ v, foldedSetIterable iter X.env v = pure v := by intro _; rfl) : PE X (.ListComp elt [⟨.Name x px, iter, ifs, 0⟩] scope pos) (tLcO X.K tl tt te j) := by
  refine ⟨fun pins s σ H Q I h => ?_⟩
  have hfr : ∀ y ∈ scope.names, y.2 = .free → ∃ c, X.env.cells.lookup y.1 = some c := fun y hy e => I.ok.has _ (ok.free y hy e)
  rw [eval_ListComp]
  refine wpAny_comprehension_free (use := none) rfl hs (closure_ok hfr) ok.kind (fun y hy e => by rw [ok.uniq y hy, e]) (thn (hl.run pins s σ H _ I h) fun v0 s1 ⟨lv, H1, I1, rl, la, el, ⟨xs0, hx0⟩, q⟩ => ?_)
  subst el
  cases rl
  obtain ⟨vs0, _, pl0, _⟩ := I1.list hx0
  refine wpAny_pyIter_list pl0.isList ?_
  -- the iterator, then the new list
  have fIt : FpOk X pins H1 s1.heap.objs.size := I1.fpOk (Nat.le_refl _) (I1.hok.fresh (Nat.le_refl _))
  generalize hia : s1.heap.objs.size = ia at fIt ⊢
  have I2 : Inv X pins σ H1 { s1 with heap := s1.heap.push { cls := .type "list_iterator", data := .fields #[.ref la, .int 0 0] } } := I1.kept (t' := s1.toks) fun b o e => Heap.get?_push_of_some _ e
  have st2 : (s1.heap.push { cls := .type "list_iterator", data := .fields #[.ref la, .int 0 0] }).IsListIter ia la 0 := by
    rw [← hia]
    exact ⟨_, Heap.get?_push_size _ rfl, rfl, rfl⟩
  have lt2 : ia < (s1.heap.push { cls := .type "list_iterator", data := .fields #[.ref la, .int 0 0] }).objs.size := by
    rw [Heap.size_push, ← hia]
    exact Nat.lt_succ_self _
  generalize hs2 : ({ s1 with heap := s1.heap.push { cls := .type "list_iterator", data := .fields #[.ref la, .int 0 0] } } : Shared) = s2 at I2 ⊢
  rw [show s1.heap.push { cls := .type "list_iterator", data := .fields #[.ref la, .int 0 0] } = s2.heap by rw [← hs2]] at st2 lt2
  refine wpAny_newObj_type (newEnv_comp ?_) (by show 0 ≤ sizeLine; decide)
  have nD : H1 s2.heap.objs.size = none := I2.hok.fresh (Nat.le_refl _)
  have nDi : ia ≠ s2.heap.objs.size := Nat.ne_of_lt lt2
  obtain ⟨W, ⟨m0, w0⟩, turn⟩ := q s2.heap.objs.size nD
  have I3 : Inv X pins σ (upd H1 s2.heap.objs.size (.lst [])) { s2 with heap := s2.heap.push { cls := .type "list", data := .seq ([] : List Value).toArray } } := I2.laid (t' := s2.toks) (fun b o e => Heap.get?_push_of_some _ e) (Nat.le_refl _) ⟨Nat.zero_le _, [], 0, .nil, Heap.get?_push_size _ rfl⟩
  generalize hDD : s2.heap.objs.size = D at nD nDi w0 turn I3 ⊢
  have st3 : (s2.heap.push { cls := .type "list", data := .seq ([] : List Value).toArray }).IsListIter ia la 0 := st2.at fun o e => Heap.get?_push_of_some _ e
  have lt3 : ia < (s2.heap.push { cls := .type "list", data := .seq ([] : List Value).toArray }).objs.size := by
    rw [Heap.size_push]
    omega
  generalize hs3 : ({ s2 with heap := s2.heap.push { cls := .type "list", data := .seq ([] : List Value).toArray } } : Shared) = s3 at I3 ⊢
  rw [show s2.heap.push { cls := .type "list", data := .seq ([] : List Value).toArray } = s3.heap by rw [← hs3]] at st3 lt3
  have f3 : FpOk X pins (upd H1 D (.lst [])) ia := ⟨by rw [upd_ne nDi]; exact fIt.1, fIt.2⟩
  generalize hH3 : upd H1 D (.lst []) = H3 at I3 w0 f3
  have I4 := block_start (fp := [ia]) I3 ok hN (fun b hb => by
    rw [List.mem_singleton.mp hb]
    exact ⟨f3, lt3⟩)
  have ncell : ∀ y c, X.env.cells.lookup y = some c → c ∉ [ia] := fun y c e z => f3.2.2.2.2.1 y c e (List.mem_singleton.mp z)
  have pg := hg s3 H3 s3.heap.objs.size (cellsFrom (s3.heap.objs.size + 1) scope.names (cloFrom X.env.cells scope.names [])) [ia]
  have pt := ht pins σ s3 H3 s3.heap.objs.size (cellsFrom (s3.heap.objs.size + 1) scope.names (cloFrom X.env.cells scope.names [])) [ia] I3 ncell
  have pe := he pins σ s3 H3 s3.heap.objs.size (cellsFrom (s3.heap.objs.size + 1) scope.names (cloFrom X.env.cells scope.names [])) [ia] I3 ncell
  show codeAny _ _ (.compStart (.ListComp elt [⟨.Name x px, iter, ifs, 0⟩] scope pos) 0 (.ref ia) (.ref D) (compEnvC scope (cellsFrom (s3.heap.objs.size + 1) scope.names (cloFrom X.env.cells scope.names [])) s3.heap.objs.size X.env)) (compPost (model X.prog X.w) X.A X.xe none (EP X pins σ Q) (.ref D) s3.heap.objs.size) { s3 with heap := pushCells (s3.heap.push { cls := .type "dict", data := .dict #[] }) scope.names }
  generalize hce : compEnvC scope (cellsFrom (s3.heap.objs.size + 1) scope.names (cloFrom X.env.cells scope.names [])) s3.heap.objs.size X.env = ce at I4 pg pt pe ⊢
  have hcl : ce.locals = s3.heap.objs.size := by rw [← hce]; rfl
  have st4 : (pushCells (s3.heap.push { cls := .type "dict", data := .dict #[] }) scope.names).IsListIter ia la 0 := st3.at fun o e => pushCells_keeps _ _ _ _ (Heap.get?_push_of_some _ e)
  generalize hs4 : ({ s3 with heap := pushCells (s3.heap.push { cls := .type "dict", data := .dict #[] }) scope.names } : Shared) = s4 at I4 ⊢
  rw [show pushCells (s3.heap.push { cls := .type "dict", data := .dict #[] }) scope.names = s4.heap by rw [← hs4]] at st4
  -- the iterator's object may turn within the block
  have fB : ∀ {σ' : L2.St} {H' : Hp} {s' : Shared} {pq : List (Addr × Obj)}, Inv (X.blk s3 H3 scope ce [ia]) [] σ' H' s' → H' ia = none → FpOk (X.blk s3 H3 scope ce [ia]) [] H' ia := fun I' hn =>
    ⟨hn, (I'.ok.exf ia (by simp)).1, I'.ok.exfs ia (by simp), .inl (by simp), fun y c e => (I'.ok.exf ia (by simp)).2 y c e, fun p hp => absurd (show p ∈ ([] : List (Addr × Obj)) ++ [] from hp) (by simp)⟩
  -- the walk's end, calm or not
  have fin : ∀ {σ' : L2.St} {H' : Hp} {s' : Shared} {i : Nat} {R : Option Value → Shared → Prop} {E : Value → Shared → Prop} {vs : List Value}, Inv (X.blk s3 H3 scope ce [ia]) [] σ' H' s' → s'.heap.IsListIter ia la i → s'.heap.IsList la vs.toArray → vs.toArray[i]? = none → (∀ h', Heap.ExtBut ia s'.heap h' → R none { s' with heap := h' }) → wpAny (model X.prog X.w) X.A (pyNext (.ref ia)) R E s' := by
    intro σ' H' s' i R E vs I' st hL hn k
    rcases hE with hE | ⟨p, ⟨hh, vx, hdx, hcx⟩, hp⟩
    · exact wpAny_pyNext_list_end (I.ok.hd hE) st hL hn k
    · obtain ⟨p1, p2, p3, p4, _⟩ := I3.pin p (List.mem_append_left _ hp)
      have pns : p.1 ∉ frs X.stack := fun z => by
        rcases List.mem_cons.mp (I3.stkSub _ z) with z | z
        · exact p3 z
        · exact p4 z
      have pni : p.1 ≠ ia := fun z => f3.2.2.2.2.2 p (List.mem_append_left _ hp) z
      have pk := I'.base.keep p.1 p.2 p1 p2 pns (fun z => pni (List.mem_singleton.mp z))
      exact next_end_hot ⟨hh, p.2, vx, pk, hdx, hcx⟩ pni st hL hn k
  have loop : codeAny (model X.prog X.w) X.A (.compLoop (.ListComp elt [⟨.Name x px, iter, ifs, 0⟩] scope pos) 0 (.ref ia) (.ref D) ce) (compPost (model X.prog X.w) X.A X.xe none (EP X pins σ Q) (.ref D) s3.heap.objs.size) s4 := by
    refine compLoop_any (fun n s' => ∃ i H', Inv (X.blk s3 H3 scope ce [ia]) [] (wipe σ [j]) H' s' ∧ s'.heap.IsListIter ia la i ∧ H' ia = none ∧ W i n H') ?_ m0 ⟨0, H3, I4, st4, f3.1, w0⟩
    rintro n s5 ⟨i, H5, I5, st5, n5, w5⟩
    obtain ⟨g0, g1, g2, g3, g4, g5⟩ := fB (pq := []) I5 n5
    rcases turn i n H5 w5 with ⟨⟨ys, hys, hyl⟩, qq⟩ | ⟨⟨ys, y, hys, hyi⟩, Nx, hNx, step⟩
    · obtain ⟨us, ru, pu, _⟩ := I5.list hys
      have hle := ru.length
      refine fin I5 st5 pu.isList (by simp; omega) fun h6 k6 => ?_
      have I6 : Inv (X.blk s3 H3 scope ce [ia]) [] (wipe σ [j]) H5 { s5 with heap := h6 } := I5.turned (t' := s5.toks) (fun b o hb e => k6 b o hb e) g0 g1 g3 g4 g5
      have I7 : Inv X pins σ H5 { s5 with heap := h6 } := I3.call' (ch := [ia]) I6.os I6.base I6.hok I6.bare fun b hb => by
        rw [List.mem_singleton.mp hb]
        exact ⟨f3.2.2.2.1, f3.2.1, f3.2.2.2.2.1, f3.2.2.2.2.2⟩
      have nC : H5 s3.heap.objs.size = none := by
        have z : H5 ce.locals = none := I6.free
        rwa [hcl] at z
      obtain ⟨m, hm, _⟩ := I6.loc
      have hm : h6.Ns ce.locals m := hm
      rw [hcl] at hm
      obtain ⟨e0, e1, e2, e3, e4, e5⟩ := I3.fpOk (H' := H5) (Nat.le_refl _) nC
      exact ⟨m, hm, fun h7 sb => ⟨.ref D, H5, I7.turned (t' := s5.toks) (fun b o hb e => (sb.2 b hb).trans e) e0 e1 e3 e4 e5, rfl, qq⟩⟩
    · obtain ⟨us, ru, pu, _⟩ := I5.list hys
      obtain ⟨u, hu, rr⟩ := ru.get hyi
      refine wpAny_pyNext_list_item st5 pu.isList (x := u) (by simpa using hu) fun h6 st6 sb => ?_
      have I6 : Inv (X.blk s3 H3 scope ce [ia]) [] (wipe σ [j]) H5 { s5 with heap := h6 } := I5.turned (t' := s5.toks) (fun b o hb e => (sb.2 b hb).trans e) g0 g1 g3 g4 g5
      refine wpAny_pure ?_
      obtain ⟨o6, ho6, _, hd6⟩ := id st6
      have I6p := I6.pinned (fp := [ia]) (fun b hb => by rw [List.mem_singleton.mp hb]; exact fB (pq := []) I6 n5) (fun b hb => by rw [List.mem_singleton.mp hb]; exact ⟨o6, ho6, fun v z => by rw [hd6] at z; cases z⟩)
      refine thnF (pg.run _ { s5 with heap := h6 } _ H5 y u _ I6p rr (step y H5 ⟨rfl, fun zs hz => by rw [I5.list_inj hz hys]; exact hyi⟩)) fun _ s8 ⟨σ8, H8, I8, hw8, q8⟩ => ?_
      refine thnF (pt.run _ s8 σ8 H8 _ I8 q8) fun b s9 ⟨H9, I9, q9⟩ => ?_
      have again : ∀ {s' : Shared} {H' : Hp}, Inv (X.blk s3 H3 scope ce [ia]) ([] ++ pinsAt [ia] h6) σ8 H' s' → Nx H' → ∃ m, m < n ∧ ∃ i H', Inv (X.blk s3 H3 scope ce [ia]) [] (wipe σ [j]) H' s' ∧ s'.heap.IsListIter ia la i ∧ H' ia = none ∧ W i m H' := fun {s' H'} I' nx => by
        obtain ⟨m', hm, w'⟩ := hNx H' nx
        obtain ⟨z1, z2, _⟩ := I'.pin (ia, o6) (List.mem_append_right _ (List.mem_append_right _ (mem_pinsAt (List.mem_singleton.mpr rfl) ho6)))
        refine ⟨m', hm, i + 1, H', (I'.unpinned (pins := [])).weak (by rw [← hw8, wipe_length]) (fun i' v e => ?_), st6.at fun o e => ?_, z2, w'⟩
        · rw [← hw8] at e
          exact (wipe_some e).1
        · rw [ho6] at e
          cases e
          exact z1
      cases b with
      | false =>
        rw [if_neg (by decide)] at q9 ⊢
        exact again I9 q9
      | true =>
        rw [if_pos rfl] at q9 ⊢
        refine thnF (pe.run _ s9 σ8 H9 _ I9 q9) fun z s10 ⟨yv, H10, I10, r10, acc, hD10, hz10, nx⟩ => ?_
        exact app_ok (X := X.blk s3 H3 scope ce [ia]) I10 hD10 hz10 r10 fun s11 I11 => again I11 nx
  exact codeAny_compStart_list loop (wpAny_pyIter_listiter st4 loop)
/-- the same, the written part named apart -/
theorem pe_lcK {K : PySem.W.Frag} {elt iter : Expr} {x : Str} {px pos : Pos} {ifs : List Expr} {scope : Scope} {j : Nat} {tl : TE} {tt : L2.St → TT} {te : L2.St → TE} (hE : EndOk X) (hN : X.N.Nodup) (hl : PE X iter tl) (ok : BlkOk X.N X.env.scope scope [(x, j)])
    (hg : ∀ (s : Shared) (H : Hp) (C : Addr) (cl : List (Str × Addr)) (fp : List Addr), PG (X.blk s H scope (compEnvC scope cl C X.env) fp) (.Name x px) (gName j))
    (ht : ∀ (pins : List (Addr × Obj)) (σ : L2.St) (s : Shared) (H : Hp) (C : Addr) (cl : List (Str × Addr)) (fp : List Addr), Inv X pins σ H s → (∀ y c, X.env.cells.lookup y = some c → c ∉ fp) → PTs (X.blk s H scope (compEnvC scope cl C X.env) fp) ifs (tt σ))
    (he : ∀ (pins : List (Addr × Obj)) (σ : L2.St) (s : Shared) (H : Hp) (C : Addr) (cl : List (Str × Addr)) (fp : List Addr), Inv X pins σ H s → (∀ y c, X.env.cells.lookup y = some c → c ∉ fp) → PE (X.blk s H scope (compEnvC scope cl C X.env) fp) elt (te σ))
    (hs : ∀ v, foldedSetIterable iter X.env v = pure v := by intro _; rfl) (hK : X.K = K := by rfl) : PE X (.ListComp elt [⟨.Name x px, iter, ifs, 0⟩] scope pos) (tLcO K tl tt te j) := by
  subst hK
  exact pe_lcO hE hN hl ok hg ht he hs
end
/-! ### own exceptions: CrossError.__init__(self, at); made, raised, asked -/
section
variable {X : Cx} {e : Expr} {es : List Expr} {ta : TA} {p1 p2 p pos : Pos}
/-- B.__init__(self, ..), B an own class that has ValueError's -/
theorem pe_ownInit {x : Str} {B : Addr} {pl : Sem Bool} (hg : Gl X x) (hm : X.mg x = some (.ref B)) (hga : PySem.W.specialIn X.K (.ref B) "__getattribute__" = some (some (.builtin "type.__getattribute__"))) (hrd : PySem.W.readsIn X.K B (.type "type") = true)
    (hf : PySem.W.findCls X.K (.ref B) (.type "type") "__init__" = some (.val (.builtin "ValueError.__init__"))) (ha : PA X (e :: es) ta) (hdb : (x == ("__debug__" : Str)) = false := by decide)
    (hc : eval (.Call (.Attribute (.Name x p1) "__init__" p2) (e :: es) [] pos) X.env = (do
      let ov ← eval (.Name x p1) X.env
      standAt p2.atName
      let (f, first) ← holding [ov] (getMethod ov "__init__" pl)
      callWith pos f first (backTo pos (starEach (e :: es) X.env)) (backToKw pos (keywordEach [] X.env))) := by rfl)
    (he : starEach (e :: es) X.env = (false, eval e X.env) :: starEach es X.env := by rfl) (hpl : (backTo pos (starEach es X.env)).any (·.1) = false := by rfl) :
    PE X (.Call (.Attribute (.Name x p1) "__init__" p2) (e :: es) [] pos) (tVeI X.K ta) := by
  refine ⟨fun pins s σ H Q I h => ?_⟩
  refine PySem.W.methodCall_KW (ld_glob I hg hm ?_ hdb) hc
  refine PySem.W.method_cls I.kIn hga (PySem.W.cls_value I.kIn hrd hf (by decide +kernel) ?_)
  show wpAny _ _ (callWith pos (Value.builtin "ValueError.__init__") [] (backTo pos (starEach (e :: es) X.env)) []) _ _ _
  refine PyProof.Rows.callWith_method1 (thn (ha.run pos pins _ σ H _ (I.tok _) h) fun us s1 ⟨vs, H1, I1, r1, a, C, ws, ev, hl, T, ea, q⟩ => ?_) he hpl
  subst ev
  cases r1 with
  | @cons _ u0 _ ur r0 rw' =>
    obtain rfl : u0 = Value.ref a := r0
    exact oinit_ok T I1 ea (by rw [← Paired.length rw', sizeLine_eq]; omega) fun s2 J => ⟨.non, H1, J, rfl, q⟩
/-- C(e, ..) whose exception has no context -/
theorem pmk_oexN {CX : CXT} {x : Str} {C fI : Addr} {k : Nat} {fd : FuncData} {ps : List Str} {sp : Sp} (T : OexC X.K C) (iC : PySem.W.findIn X.K (.ref C) "__init__" = some (some (.ref fI))) (tI : PySem.W.typeIn X.K (.ref fI) = some (.type "function"))
    (F1 : FnOk X.prog X.w X.K X.mg X.base CX k fI fd ps sp) (hr : Room (k + 1) X.A) (hb : Binds X.K fd ps []) (hx : Passes CX X (fun _ _ _ => False)) (hg : Gl X x) (hm : X.mg x = some (.ref C)) (ha : PA X (e :: es) ta)
    (hdb : (x == ("__debug__" : Str)) = false := by decide) (he : starEach (e :: es) X.env = (false, eval e X.env) :: starEach es X.env := by rfl) (hpl : (backTo pos (starEach es X.env)).any (·.1) = false := by rfl) :
    L2N.PMk X (.Call (.Name x p) (e :: es) [] pos) (tMkO C sp [] ta) := by
  intro pins s σ H Q I h
  obtain ⟨nm, qn, N, bs, bm, sn, sub, ab, col, dd, k0, k1, k2, k3, k5, hC, hbm⟩ := T.cls
  refine wpAny_Call_Name_kw (ld_glob I hg hm (PySem.W.callWith_K (h₀ := X.base) I.ok.mod.kin T.kC (thn (ha.run pos pins s σ H _ I h) fun us s1 ⟨vs, H1, I1, r1, hz, q1⟩ => ⟨I1.kIn, ?_⟩) he hpl) hdb)
  show wpAny _ _ (call (.ref C) us) _ _ _
  obtain ⟨hp, gn, dr, tk, os⟩ := s1
  -- the new exception's place
  obtain ⟨ea, hea⟩ : ∃ ea, ea = hp.objs.size + 1 := ⟨_, rfl⟩
  have hge : hp.objs.size ≤ ea := by omega
  have hq := q1 ea (I1.hok.fresh hge)
  have keep : ∀ b o, hp.get? b = some o → ((hp.push (PySem.W.kdv_tup us)).push (PySem.HandSPX.excO C hp.objs.size)).get? b = some o := fun b o z => Heap.get?_push_of_some _ (Heap.get?_push_of_some _ z)
  have hget : ((hp.push (PySem.W.kdv_tup us)).push (PySem.HandSPX.excO C hp.objs.size)).get? ea = some (PySem.HandSPX.excO C hp.objs.size) := by rw [hea]; heap_get
  have I2 := I1.laid (t' := tk) (a := ea) (o := exo ea C none) (h' := (hp.push (PySem.W.kdv_tup us)).push (PySem.HandSPX.excO C hp.objs.size)) keep hge (exo_ok hget)
  have r2 : Vals (V.ref ea :: (vs ++ [])) (Value.ref ea :: us) := by
    rw [List.append_nil]
    exact .cons rfl r1
  have hlen : (Value.ref ea :: us).length = ps.length := by rw [← F1.len _ _ _ _ hq, r2.length]
  refine wpAny_call (PySem.HandSPX.call_own F.excBase_ValueError (fun Y => PySem.HandSPX.refsVE_contains Y bm hbm) (I1.kIn _ _ hC) (PySem.W.looks_findIn I1.kIn iC) (fun self => PySem.W.bind_fn I1.kIn self tI) (by rw [← Paired.length r1, sizeLine_eq]; omega) ?_)
  rw [← hea]
  refine codeAny_mono (F1.run _ X.stack _ _ ⟨Value.ref ea :: us, []⟩ (Value.ref ea :: us) _ _ (fun _ _ _ => False) (hr.make C us []) (I2.env0.make C us []) ?_ r2 hq) fun r s2 hr2 => ?_
  · have z := hb ⟨(hp.push (PySem.W.kdv_tup us)).push (PySem.HandSPX.excO C hp.objs.size), gn, dr, tk, os⟩ (Value.ref ea :: us) I2.kIn (by simpa using hlen)
    simpa using z
  cases r with
  | error er => exact hx pins σ _ _ er s2 I2 hr2
  | ok fl =>
    cases fl with
    | ret u =>
      obtain ⟨v, H2, os2, bare2, un2, hok2, rv, ev, d, fs, xa, xd, hd1, q2⟩ := hr2
      subst ev
      obtain ⟨h2, g2, d2, t2, osx⟩ := s2
      obtain ⟨t0, G, J, kG, ge, hoe, na⟩ := mk_end0 (d2 := d2) (t2 := t2) I1 hge keep un2 hok2 os2 bare2 xa xd hd1
      exact ⟨rv, ea, _, _, ⟨G, g2, d2, t2, osx⟩, _, .ref C, some d, rfl, J, kG, ge, hoe, ⟨rfl, rfl, fun ws z => by cases z; rfl⟩, rfl, rfl, na, rfl, bare2, raises_own T.exC T.tyC, q2⟩
    | next => exact False.elim hr2
    | brk => exact False.elim hr2
    | cont => exact False.elim hr2
end
section
variable {P : Program} {w : World} {K : PySem.W.Frag} {mg : Str → Option Value} {base : Heap}
/-- a def that may raise, where nothing is handled -/
theorem okN {x qual : Str} {st : Stmt} {f : Addr} {fd : FuncData} {N ps : List Str} {k : Nat} {sp : Sp} (F : Fun K x qual st f fd) (S : FnScope N ps (defScope st)) (len : ∀ vs H Q E, sp vs H Q E → vs.length = ps.length)
    (hbody : ∀ (cdv : Value) (A : Around) (outer : List Env) (s : Shared) (H : Hp) (vs : List V) (Q : VK) (E : XK), Room k (A.deeper (PyProof.Rows.envOfC qual (defScope st) s.heap.objs.size f cdv)) → sp vs H Q E →
      ∃ t, PSs (cxOf (L2N.CX P w) P w K mg base N qual (defScope st) f cdv A outer s H E) (defBody st) t ∧ t { nx := fun _ H' => Q .non H', rt := Q } (start N vs) H) : FnOk P w K mg base (L2N.CX P w) (k + 1) f fd ps sp := by
  obtain ⟨oc, od, kV, doc, pm, an, cdv, ct, osl, rfl, lk, hcd⟩ := F.ex
  exact fn_of lk hcd S len fun A outer s H vs Q E hr hsp => hbody cdv A outer s H vs Q E hr hsp
end
def rIsX (K : PySem.W.Frag) (a : Addr) (cls : Value) (d : Option Addr) : List V → Hp → VK → Prop := fun xs H Q => ∃ (D : Addr) (c : V) (cv : Value) (b : Bool), xs = [.ref a, c] ∧ cls = .ref D ∧ IsC K D ∧ (∀ u, RelV c u → u = cv) ∧ PySem.W.kitOne K (.ref D) cv = some b ∧ (d = none ∨ ∃ dd fs, d = some dd ∧ H dd = some (.xd fs)) ∧ Q (.bl b) H
theorem call_isX {X : Cx} {a : Addr} {oe : Obj} {cls : Value} {d : Option Addr} {pn : List (Addr × Obj)} (hz : L2N.Zn cls d oe) (hf : ∃ vs, oe.data = .fields vs) : CallR (X.suite a ((a, oe) :: pn)) (.builtin "isinstance") (rIsX X.K a cls d) := by
  intro pins s σ H xs us Q I r h
  obtain ⟨D, c, cv, b, rfl, rfl, C, hcv, e, hd, q⟩ := h
  cases r with
  | cons rx rr =>
    cases rr with
    | cons rt rr =>
      cases rr
      cases rx
      have ec := hcv _ rt
      subst ec
      obtain ⟨hget, _⟩ := I.pin (a, oe) (List.mem_append.mpr (.inl List.mem_cons_self))
      obtain ⟨vs, hv⟩ := hf
      obtain ⟨z1, z2, _⟩ := hz
      obtain ⟨od, J⟩ : ∃ od, PySem.W.InstAt s.heap a oe D od := by
        rcases hd with hd | ⟨dd, fs, hd, hdd⟩
        · refine ⟨none, hget, z1, by unfold PySem.W.notCls; rw [hv] <;> rfl, ?_⟩
          rw [z2, hd]
          trivial
        · obtain ⟨mA, hns, _⟩ := I.hok dd _ hdd
          obtain ⟨od, ho, _⟩ := lookIn_ns hns
          refine ⟨some od, hget, z1, by unfold PySem.W.notCls; rw [hv] <;> rfl, ?_⟩
          rw [z2, hd]
          exact ho
      exact PySem.W.kia_one (PySem.W.kitx_exc C.hc C.hg C.hk C.hs C.ha C.hn C.ht C.hm) I.kIn J e (fun z => nomatch z) fun tk => ⟨.bl b, H, I.kept (t' := tk) fun _ _ z => z, rfl, q⟩
/-! __init__ of an own exception: self.at -/
def sp_xinit (K : PySem.W.Frag) : Sp := fun vs H Q _ => ∃ (a C : Addr) (n : Int), vs = [.ref a, .int n] ∧ OexC K C ∧ PySem.W.findIn K (.ref C) "at" = some none ∧ H a = some (exo a C none) ∧ ∀ dx, H dx = none → dx ≠ a → Q .non (upd (upd H dx (exd dx [("at", .int n)])) a (exo a C (some dx)))
theorem xinit_raise {K : PySem.W.Frag} {C : Addr} {H : Hp} {n : Int} {Q : XK} {E : XK} (T : OexC K C) (hat : PySem.W.findIn K (.ref C) "at" = some none) (q : ∀ (d : Addr) (H' : Hp), H d = none → Ex H H' → H' d = some (.xd [("at", .int n)]) → Q (.ref C) (some d) H') (a : Addr) (na : H a = none) :
    sp_xinit K (.ref a :: ([V.int n] ++ [])) (upd H a (exo a C none)) (fun v H2 => v = .non ∧ ∃ (d : Addr) (fs : List (Str × V)), H2 a = some (exo a C (some d)) ∧ H2 d = some (exd d fs) ∧ H d = none ∧ Q (.ref C) (some d) (upd (del H2 a) d (.xd fs))) E := by
  refine ⟨a, C, n, rfl, T, hat, upd_same, fun dx ndx nda => ⟨rfl, dx, [("at", .int n)], upd_same, ?_, ?_, ?_⟩⟩
  · rw [upd_ne nda, upd_same]
  · rwa [upd_ne nda] at ndx
  · refine q dx _ (by rwa [upd_ne nda] at ndx) (fun b o hb => ?_) upd_same
    have n1 : b ≠ a := ne_of_none hb na
    have n2 : b ≠ dx := ne_of_none hb (by rwa [upd_ne nda] at ndx)
    rw [upd_ne n2, del_ne n1, upd_ne n1, upd_ne n2, upd_ne n1]
    exact hb
theorem ok_l_off (T : TX K mg) : FnOk P w K mg base CX0 1 T.f_l_off T.fd_l_off ["_law_d", "_law_most"] sp_l_off := by
  refine T.F_l_off.ok sc_l_off (fun vs H Q E h => ?_) (fun cdv A outer s H vs Q E hr h => ?_)
  · obtain ⟨d, n, rfl, _⟩ := h
    rfl
  · obtain ⟨d, n, rfl, ⟨s0, c, r, hd, s1, s2, c0, r0⟩, n0, n1, q⟩ := h
    refine ⟨_, (pss_cut (ps_if (PW.pt (pw_and (pt_cmpR op_eq (pe_ix ix_list (pv 0) pe_int (fun _ _ => rfl)) pe_int (nomark _)) (pw_and1 (pt_cmpR op_gt (pe_callB call_len_seq (by rfl) T.z_len PySem.boot_len (pa_cons (pv 0) pa_nil)) pe_int (nomark _)))))
 (pss_one (ps_asg (pe_bm PySem.F.plainAttrs_list PySem.F.slot_list_pop PySem.F.type_list_pop mt_popAt (pv 0) (pa_cons pe_int pa_nil)) (pg_sub (pv 0) pe_int set_list)))
 pss_nil)
 (pss_cons (ps_if (pt_cmpR op_gt (pe_ix ix_list (pv 0) pe_int (fun _ _ => rfl)) pe_int (nomark _))
 (pss_cons (ps_set (i := 2) sc_l_off.nd rfl (by first | exact Or.inl rfl | exact Or.inr rfl) (pe_op op_mod (pe_ix ix_list (pv 0) pe_int (fun _ _ => rfl)) (pv 1)))
 (pss_cons (ps_asg (pe_op op_fdiv (pe_ix ix_list (pv 0) pe_int (fun _ _ => rfl)) (pv 1)) (pg_sub (pv 0) pe_int set_list))
 (pss_one (ps_ret (pv 2)))))
 pss_nil)
 (pss_cons (ps_asg (pe_op op_mod (pe_op op_add (pe_op op_mul (pe_ix ix_list (pv 0) pe_int (fun _ _ => rfl)) pe_int) pe_int) pe_int) (pg_sub (pv 0) pe_int set_list))
 (pss_one (ps_ret (pe_op op_mod (pe_op op_fdiv (pe_ix ix_list (pv 0) pe_int (fun _ _ => rfl)) pe_int) (pv 1))))))), ?_⟩
    refine ⟨fun σ H1 => σ = [some (.ref d), some (.int n), none] ∧ Exd d H H1 ∧ ∃ c r, H1 d = some (.lst ((s0 :: c :: r).map V.int)) ∧ 0 ≤ c ∧ ∀ x ∈ r, 0 ≤ x, ?_, ?_⟩
    · refine ⟨_, rfl, d, _, 1, .int c, rfl, rfl, SqL.of hd, atI_nat (j := 1) rfl, rfl, _, rfl, ite2 (fun e => ?_) (fun e => ?_)⟩
      · refine ⟨_, rfl, d, _, rfl, .inl (SqL.of hd), _, _, rfl, rfl, _, rfl, ite2 (fun e2 => ?_) (fun e2 => ⟨rfl, Exd.refl _ _, c, r, hd, c0, r0⟩)⟩
        cases r with
        | nil => exact absurd e2 (by simp)
        | cons z r =>
          refine ⟨_, rfl, .inl ⟨rfl, _, SqL.of hd⟩, d, _, 2, 2, .int z, rfl, rfl, hd, by decide, by decide, ?_, rfl, _, rfl, d, _, 1, 1, rfl, rfl, upd_same, ?_, rfl, ?_, z, r, ?_, r0 _ (List.mem_cons_self), fun x hx => r0 x (List.mem_cons_of_mem _ hx)⟩
          · simp [seqIndex?]; omega
          · simp [ixN]; omega
          · exact ((Exd.refl _ _).upd).upd
          · rw [upd_same]; rfl
      · exact ⟨rfl, Exd.refl _ _, c, r, hd, c0, r0⟩
    · rintro σ H1 ⟨rfl, e1, c, r, hd, c0, r0⟩
      refine ⟨_, rfl, d, _, 1, .int c, rfl, rfl, SqL.of hd, atI_nat (j := 1) rfl, _, _, rfl, rfl, _, rfl, ite2 (fun e => ?_) (fun e => ?_)⟩
      · refine ⟨_, rfl, d, _, 1, .int c, rfl, rfl, SqL.of hd, atI_nat (j := 1) rfl, _, rfl, _, _, rfl, rfl, n0, ?_⟩
        refine ⟨_, rfl, d, _, 1, .int c, rfl, rfl, SqL.of hd, atI_nat (j := 1) rfl, _, rfl, _, _, rfl, rfl, ⟨n0, n1⟩, _, rfl, d, _, 1, 1, rfl, rfl, hd, ?_, ?_⟩
        · simp [ixN]; omega
        · refine ⟨_, rfl, q _ _ (Int.emod_nonneg _ (by omega)) (Int.emod_lt_of_pos _ n0) e1.upd ⟨s0, c / n, r, ?_, s1, s2, Int.ediv_nonneg c0 (by omega), r0⟩⟩
          rw [upd_same]; rfl
      · refine ⟨_, rfl, d, _, 0, .int s0, rfl, rfl, SqL.of hd, atI_nat (j := 0) rfl, _, _, rfl, rfl, .inl ⟨by omega, by omega⟩, _, _, rfl, rfl, _, _, rfl, rfl, (by decide : (0 : Int) < 2147483647), _, rfl, d, _, 0, 0, rfl, rfl, hd, ?_, ?_⟩
        · simp [ixN]; omega
        · refine ⟨_, rfl, d, _, 0, .int ((s0 * 48271 + 11) % 2147483647), rfl, rfl, SqL.of upd_same, atI_nat (j := 0) rfl, _, _, rfl, rfl, ⟨by decide, by decide⟩, _, rfl, _, _, rfl, rfl, n0, ?_⟩
          refine q _ _ (Int.emod_nonneg _ (by omega)) (Int.emod_lt_of_pos _ n0) e1.upd ⟨(s0 * 48271 + 11) % 2147483647, c, r, ?_, Int.emod_nonneg _ (by decide), Int.emod_lt_of_pos _ (by decide), c0, r0⟩
          rw [upd_same]; rfl
theorem ok_l_dice (T : TX K mg) : FnOk P w K mg base CX0 1 T.f_l_dice T.fd_l_dice ["_law_script", "_law_k"] (sp_l_dice K) := by
  refine T.F_l_dice.ok sc_l_dice (fun vs H Q E h => ?_) (fun cdv A outer s H vs Q E hr h => ?_)
  · obtain ⟨a, ns, rfl, _⟩ := h
    rfl
  · obtain ⟨a, ns, rfl, hS, hl, q⟩ := h
    refine ⟨_, (pss_cons (ps_set (i := 2) sc_l_dice.nd rfl (by first | exact Or.inl rfl | exact Or.inr rfl) (pv 1))
 (pss_cons (ps_for PassesOwn.never rfl (pi_list (pv 0)) (pg_name (i := 3) sc_l_dice.nd rfl (by first | exact Or.inl rfl | exact Or.inr rfl))
 (pss_one (ps_set (i := 2) sc_l_dice.nd rfl (by first | exact Or.inl rfl | exact Or.inr rfl) (pe_op op_mod (pe_op op_add (pe_op op_mul (pv 2) pe_int) (pe_callB call_abs (by rfl) T.z_abs (by decide +kernel) (pa_cons (pv 3) pa_nil))) pe_int))))
 (pss_one (ps_ret (pe_op op_cat (pe_lst (pa_cons (pv 2) (pa_cons pe_int pa_nil))) (pe_lc (own := [("_law_cell", 3)]) (g := gName 3) (by rfl) sc_l_dice.nd (pi_list (pv 0)) (blkOk_by (own := [("_law_cell", 3)]) (N := ["_law_script", "_law_k", "_law_found", "_law_cell"]) (sc := defScope s_l_dice) (by decide +kernel)) (fun _ _ _ _ _ => pg_name (i := 3) sc_l_dice.nd rfl (Or.inl rfl)) (fun _ _ _ _ _ => (pts_one (pt_cmpR op_ge (pv 3) (pe_op op_pow pe_int pe_int) (nomark _)))) (fun _ _ _ _ _ => (pv 3)))))))), ?_⟩
    refine ⟨_, rfl, .ref a, rfl, a, rfl, ⟨_, hS⟩, for_list (xs := ns.map V.int) (fun i σ H' => H' = H ∧ ∃ f y, σ = [some (.ref a), some (.int 0), some (.int f), y] ∧ 0 ≤ f ∧ f < 2147483647) ⟨rfl, 0, none, rfl, by decide, by decide⟩ (fun i σ H' _ h => by rw [h.1]; exact hS) ?_ ?_⟩
    · rintro i x σ H' hi ⟨rfl, f, y, rfl, f0, f1⟩
      obtain ⟨z, hz, rfl⟩ : ∃ z, ns[i]? = some z ∧ V.int z = x := by
        rw [List.getElem?_map] at hi
        cases e : ns[i]? with
        | none => rw [e] at hi; cases hi
        | some y => rw [e] at hi; exact ⟨y, rfl, Option.some.inj hi⟩
      refine ⟨_, rfl, _, _, rfl, rfl, .inl ⟨by omega, by omega⟩, _, rfl, z, rfl, _, _, rfl, rfl, _, _, rfl, rfl, (by decide : (0 : Int) < 2147483647), rfl, _, _, rfl, Int.emod_nonneg _ (by decide), Int.emod_lt_of_pos _ (by decide)⟩
    · rintro σ H' ⟨rfl, f, y, rfl, f0, f1⟩
      refine ⟨_, rfl, small9 (by simp), fun p np => ?_⟩
      have e1 : Ex H' (upd H' p (.lst [.int f, .int 0])) := Ex.new np
      refine ⟨.ref a, rfl, a, rfl, ⟨_, ex_l e1 hS⟩, fun D hD => lcFM ns V.int (fun z => decide ((1000000000000000000 : Int) ≤ z)) V.int (ex_l e1 hS) (by omega) hD (fun _ => rfl) (fun z hz H2 e2 Y N hq => ?_) (fun H2 e2 h2 => ?_)⟩
      · refine ⟨_, rfl, _, _, rfl, rfl, ⟨by decide, by decide, by decide⟩, _, _, rfl, rfl, _, rfl, ?_⟩
        have hq := hq H2 (Ex.refl _)
        by_cases hc : (1000000000000000000 : Int) ≤ z
        · rw [if_pos (decide_eq_true hc)] at hq
          exact ifP (decide_eq_true (show (10 : Int) ^ (18 : Int).toNat ≤ z by simpa using hc)) ⟨_, rfl, hq⟩
        · rw [if_neg (by simpa using hc)] at hq
          exact ifN (show ¬ decide ((10 : Int) ^ (18 : Int).toNat ≤ z) = true by simpa using hc) hq
      · refine ⟨p, D, _, _, rfl, rfl, e2 _ _ upd_same, h2, ?_, fun o no => ?_⟩
        · have := List.length_filter_le (fun z => decide ((1000000000000000000 : Int) ≤ z)) ns
          simp only [List.length_map, List.length_cons, List.length_nil]
          exact small9 (by omega)
        · have e3 : Ex H' (upd H2 o (.lst ([.int f, .int 0] ++ (ns.filter (fun z => decide ((1000000000000000000 : Int) ≤ z))).map V.int))) := (e1.trans e2).trans (Ex.new no)
          refine q o _ (fresh_back (e1.trans e2) no) e3 ⟨f, 0, ns.filter (fun z => decide ((1000000000000000000 : Int) ≤ z)), ?_, f0, f1, by decide, fun x hx => ?_⟩
          · rw [upd_same]
            rfl
          · have := (List.mem_filter.mp hx).2
            simp at this
            omega
theorem Exd.fresh {d : Addr} {H H' : Hp} {p : Addr} (e : Exd d H H') (h : H' p = none) (n : p ≠ d) : H p = none := by
  cases h1 : H p with
  | none => rfl
  | some o =>
    rw [e p o h1 n] at h
    cases h
theorem Exd.mut {d : Addr} {H H' : Hp} {p : Addr} {o : HO} (e : Exd d H H') (h : H p = none) : Exd d H (L2.upd H' p o) := fun a u ha n => by
  rw [upd_ne (ne_of_none ha h)]
  exact e a u ha n
theorem Exd.l {K : PySem.W.Frag} {d a : Addr} {H H' : Hp} {xs : List V} (e : Exd d H H') (h : SqL K H a xs) (n : a ≠ d) : SqL K H' a xs := by
  rcases h with (h | ⟨o, h⟩) | h
  · exact .inl (.inl (e _ _ h n))
  · exact .inl (.inr ⟨o, e _ _ h n⟩)
  · exact .inr h
theorem Dice.neN {H : Hp} {d p : Addr} (h : Dice H d) (n : H p = none) : p ≠ d := (h.ne n).symm
/-- leaves: ints and good texts -/
def LeafV : V → Prop
  | .int _ => True
  | .str x => PyData.strOk x = true
  | _ => False
def datOf : V → PyData
  | .int i => .int i
  | .str x => .str x
  | _ => .none
theorem dp_leaves {K : PySem.W.Frag} {H : Hp} : ∀ {xs : List V}, (∀ x ∈ xs, LeafV x) → DpAll K H xs (xs.map datOf)
  | [], _ => .nil
  | x :: xs, h => by
    refine .cons ?_ (dp_leaves fun y hy => h y (List.mem_cons_of_mem _ hy))
    have hx := h x List.mem_cons_self
    cases x with
    | int i => exact .int i
    | str z => exact .str z
    | non => exact hx.elim
    | bl b => exact hx.elim
    | byt b => exact hx.elim
    | flt b => exact hx.elim
    | ref b => exact hx.elim
    | ty b => exact hx.elim
theorem sd_leaves {n : Nat} {xs : List V} (h : ∀ x ∈ xs, LeafV x) : Sd (n + 1) (.list (xs.map datOf)) := fun d hd => by
  obtain ⟨x, hx, rfl⟩ := List.mem_map.mp hd
  have hx := h x hx
  cases x with
  | int i => cases n <;> trivial
  | str z => cases n <;> exact hx
  | non => exact hx.elim
  | bl b => exact hx.elim
  | byt b => exact hx.elim
  | flt b => exact hx.elim
  | ref b => exact hx.elim
  | ty b => exact hx.elim
theorem eqv_nil (ds : List PyData) : PyData.eqv (.list ds) (.list []) = ds.isEmpty := by
  rw [PyData.eqv]
  cases ds <;> rfl
def sp_l_mixed (K : PySem.W.Frag) : Sp := fun vs H Q _ => ∃ (d r : Addr) (xs : List V), vs = [.ref d, .ref r] ∧ Dice H d ∧ r ≠ d ∧ SqL K H r xs ∧ (∀ x ∈ xs, LeafV x) ∧ xs.length ≤ 100 ∧
  ∀ (p : Addr) (ys : List V) (H' : Hp), H p = none → Exd d H H' → Dice H' d → ys.Perm xs → H' p = some (.lst ys) → Q (.ref p) H'
theorem ok_l_mixed (T : TX K mg) : FnOk P w K mg base CX0 2 T.f_l_mixed T.fd_l_mixed ["_law_d", "_law_row"] (sp_l_mixed K) := by
  refine T.F_l_mixed.ok sc_l_mixed (fun vs H Q E h => ?_) (fun cdv A outer s H vs Q E hr h => ?_)
  · obtain ⟨_, _, _, rfl, _⟩ := h
    rfl
  · obtain ⟨d, r, xs, rfl, hd, nrd, hx, hlf, hle, q⟩ := h
    refine ⟨_, (pss_cons (ps_set (i := 2) sc_l_mixed.nd rfl (by first | exact Or.inl rfl | exact Or.inr rfl) (pe_callTy call_list_of (by rfl) T.z_list (by decide +kernel) (pa_cons (pv 1) pa_nil)))
 (pss_cons (ps_set (i := 3) sc_l_mixed.nd rfl (by first | exact Or.inl rfl | exact Or.inr rfl) (pe_lst pa_nil))
 (pss_cons (ps_while PassesOwn.never (pt_cmpR (op_neD hr.units) (pv 2) (pe_lst pa_nil) (nomark _))
 (pss_one (ps_expr (pe_bm PySem.F.plainAttrs_list PySem.F.slot_list_append PySem.F.type_list_append mt_append (pv 3) (pa_cons (pe_bm PySem.F.plainAttrs_list PySem.F.slot_list_pop PySem.F.type_list_pop mt_popAt (pv 2) (pa_cons (pe_call (ok_l_off T) (hr.mono (by decide)) (by rfl) T.g_l_off T.F_l_off.kp T.b_l_off .nil pass0 (pa_cons (pv 0) (pa_cons (pe_callB call_len_seq (by rfl) T.z_len PySem.boot_len (pa_cons (pv 2) pa_nil)) pa_nil))) pa_nil)) pa_nil)))))
 (pss_one (ps_ret (pv 3)))))), ?_⟩
    refine ⟨_, rfl, r, xs, rfl, .inl hx, fun l nl => ⟨small9 (by simp), fun f nf => ?_⟩⟩
    have e1 := Ex.new (o := HO.lst xs) nl
    have e2 := Ex.new (o := HO.lst []) nf
    have nlf : l ≠ f := ne_of_none upd_same nf
    have nfH := fresh_back e1 nf
    have nld := hd.neN nl
    have nfd := (hd.mono e1).neN nf
    refine ⟨fun m σ H' => ∃ ls fs : List V, σ = [some (.ref d), some (.ref r), some (.ref l), some (.ref f)] ∧ m = ls.length ∧ H' l = some (.lst ls) ∧ H' f = some (.lst fs) ∧ (fs ++ ls).Perm xs ∧ Exd d H H' ∧ Dice H' d,
      ⟨xs.length, xs, [], rfl, rfl, e2 _ _ upd_same, upd_same, List.Perm.refl _, Exd.of (e1.trans e2), hd.mono (e1.trans e2)⟩, ?_⟩
    rintro m σ H1 ⟨ls, fs, rfl, rfl, hl, hf, pm, ex, hd1⟩
    have lf1 : ∀ x ∈ ls, LeafV x := fun x hx => hlf x (pm.mem_iff.mp (List.mem_append_right _ hx))
    have lenp : fs.length + ls.length = xs.length := by rw [← List.length_append, pm.length_eq]
    refine ⟨_, rfl, small9 (by simp), fun o no => ?_⟩
    have eo := Ex.new (o := HO.lst []) no
    refine ⟨.list (ls.map datOf), .list [], .lst (SqL.of (eo _ _ hl)) (dp_leaves lf1), .lst (SqL.of upd_same) .nil, (sd_leaves (n := 0) lf1).shaped (by decide), (sd_leaves (n := 0) (xs := []) (by simp)).shaped (by decide), _, rfl, ?_⟩
    rw [eqv_nil]
    have hl := eo _ _ hl
    have hf := eo _ _ hf
    have ex := ex.trans (Exd.of eo)
    have hd1 := hd1.mono eo
    generalize upd H1 o (.lst []) = H2 at hl hf ex hd1 ⊢
    cases ls with
    | nil =>
      refine ifN (by simp) ⟨_, rfl, q f fs H2 nfH ex hd1 (by simpa using pm) hf⟩
    | cons z ls =>
      refine ifP (by simp) ⟨fun σ' H' => ∃ ls' fs : List V, σ' = [some (.ref d), some (.ref r), some (.ref l), some (.ref f)] ∧ ls'.length < (z :: ls).length ∧ H' l = some (.lst ls') ∧ H' f = some (.lst fs) ∧ (fs ++ ls').Perm xs ∧ Exd d H H' ∧ Dice H' d, fun σ' H' hN => ?_, ?_⟩
      · obtain ⟨ls', fs', h1, h2, h3⟩ := hN
        exact ⟨ls'.length, h2, ls', fs', h1, rfl, h3⟩
      · refine ⟨_, rfl, .inl ⟨rfl, _, SqL.of hf⟩, _, rfl, .inl ⟨rfl, _, SqL.of hl⟩, _, rfl, _, rfl, l, _, rfl, .inl (SqL.of hl), ?_⟩
        refine ⟨d, ((z :: ls).length : Int), rfl, hd1, by simp, by simp at lenp ⊢; omega, fun x H3 x0 x1 e3 hd3 => ?_⟩
        have hl3 := e3 _ _ hl nld
        have hf3 := e3 _ _ hf nfd
        obtain ⟨k, rfl⟩ : ∃ k : Nat, x = (k : Int) := ⟨x.toNat, by omega⟩
        have hk : k < (z :: ls).length := by omega
        obtain ⟨y, hy⟩ : ∃ y, (z :: ls)[k]? = some y := ⟨_, List.getElem?_eq_getElem hk⟩
        refine ⟨l, _, _, k, y, rfl, rfl, hl3, by omega, by simp at lenp hk; omega, ?_, hy, ?_⟩
        · unfold seqIndex?
          have h1 : ¬ ((k : Int) < 0) := by omega
          have h2 : (k : Int) < ((z :: ls).length : Int) := by omega
          simp only [h1, if_false]
          rw [if_pos (by simp only [Bool.and_eq_true, decide_eq_true_eq]; exact ⟨by omega, h2⟩)]
          simp
        refine ⟨f, _, _, rfl, rfl, by rw [upd_ne nlf.symm]; exact hf3, small1000 (by omega), (z :: ls).eraseIdx k, fs ++ [y], rfl, ?_, ?_, upd_same, ?_, ?_, ?_⟩
        · rw [List.length_eraseIdx_of_lt hk]
          omega
        · rw [upd_ne nlf, upd_same]
        · refine List.Perm.trans ?_ pm
          rw [List.append_assoc]
          refine List.Perm.append_left fs ?_
          exact erase_perm (z :: ls) k y hy
        · exact ((ex.trans e3).mut nl).mut nfH
        · exact (hd3.upd nld.symm).upd nfd.symm
def isW (z : Str) : Bool := (decide (1 ≤ z.length) && decide (z.length ≤ 4)) && z.cps.toList.all fun c => c == 48 || c == 49
theorem isW_wd {b : List Bool} (h1 : 1 ≤ b.length) (h2 : b.length ≤ 4) : isW (wd b) = true := by
  unfold isW
  rw [wd_len, wd_toList, decide_eq_true h1, decide_eq_true h2]
  simp only [Bool.true_and, List.all_eq_true]
  intro x hx
  obtain ⟨c, _, rfl⟩ := List.mem_map.mp hx
  cases c <;> decide
theorem inMarks (c : Nat) : inV (.str ⟨#[c]⟩) [.str "0", .str "1"] = (c == 48 || c == 49) := by
  have h0 : ("0" : Str) = ⟨#[48]⟩ := by decide +kernel
  have h1 : ("1" : Str) = ⟨#[49]⟩ := by decide +kernel
  unfold inV
  rw [h0, h1]
  simp only [List.any_cons, List.any_nil, Bool.or_false]
  have e : ∀ k : Nat, eqV (.str ⟨#[k]⟩) (.str ⟨#[c]⟩) = (c == k) := fun k => by
    by_cases h : c = k
    · subst h
      simp [eqV]
    · have h2 : ((⟨#[k]⟩ : Str) == ⟨#[c]⟩) = false := beq_eq_false_iff_ne.mpr fun e => h (by
        injection e with e
        simpa using e.symm)
      rw [beq_eq_false_iff_ne.mpr h]
      exact h2
  rw [e, e]
def sp_is_word : Sp := fun vs H Q _ => ∃ z : Str, vs = [.str z] ∧ z.length ≤ 1000 ∧ PyData.strOk z = true ∧ RetV (.bl (isW z)) H Q
theorem ok_is_word (T : TX K mg) : FnOk P w K mg base CX0 1 T.f_is_word T.fd_is_word ["word"] sp_is_word := by
  refine T.F_is_word.ok sc_is_word (fun vs H Q E h => ?_) (fun cdv A outer s H vs Q E hr h => ?_)
  · obtain ⟨_, rfl, _⟩ := h
    rfl
  · obtain ⟨z, rfl, hz, hok, q⟩ := h
    refine ⟨_, (pss_one (ps_ret (pe_and (pe_chain op_le op_le pe_int (pe_callB call_len_str (by rfl) T.z_len PySem.boot_len (pa_cons (pv 0) pa_nil)) (pe_glob (v := .int 4) (by rfl) T.c_MOST_WIDE ⟨_, rfl⟩)) (pe_one (pe_cmpR (op_eqD hr.units) (pe_lc (own := [("mark", 1)]) (g := gName 1) (by rfl) sc_is_word.nd (pi_str (pv 0)) (blkOk_by (own := [("mark", 1)]) (N := ["word", "mark"]) (sc := defScope s_is_word) (by decide +kernel)) (fun _ _ _ _ _ => pg_name (i := 1) sc_is_word.nd rfl (Or.inl rfl)) (fun _ _ _ _ _ => (pts_one (pt_cmpR (r := rIn K true) op_notIn_seq (pv 1) (pe_glob (v := .ref T.a_MARKS) (by rfl) T.c_MARKS rfl) (by rfl)))) (fun _ _ _ _ _ => (pv 1))) (pe_lst pa_nil) (nomark _)))))), ?_⟩
    refine ⟨_, rfl, z, rfl, small9 hz, _, _, rfl, rfl, _, rfl, ?_⟩
    by_cases h1 : 1 ≤ z.length
    · refine ifP (decide_eq_true (by omega)) ⟨_, _, rfl, rfl, _, rfl, ?_⟩
      by_cases h4 : z.length ≤ 4
      · refine ifP (decide_eq_true (by omega)) ?_
        refine ⟨_, rfl, z, rfl, fun D nD => lcW z.cps.toList (fun c => V.str ⟨#[c]⟩) (fun c => !(c == 48 || c == 49)) (fun c => V.str ⟨#[c]⟩) (walk_sgn z) (fun _ _ => trivial) (by rw [Array.length_toList]; exact hz) nD (fun _ => rfl) (fun c hc H2 e2 Y N hY => ?_) (fun H2 e2 h2 => ?_)⟩
        · refine ⟨_, rfl, T.a_MARKS, _, rfl, .inr (T.m_MARKS _), rfl, rfl, _, rfl, ?_⟩
          have hY := hY H2 (Ex.refl _)
          rw [← inMarks c] at hY
          cases hm : inV (.str ⟨#[c]⟩) [.str "0", .str "1"] with
          | true =>
            rw [hm] at hY
            exact hY
          | false =>
            rw [hm] at hY
            exact ⟨_, rfl, hY⟩
        · refine ⟨small9 (by simp), fun o no => ?_⟩
          have e3 := e2.trans (Ex.new (o := HO.lst []) no)
          have h3 : SqL K (upd H2 o (.lst [])) D (((z.cps.toList.filter fun c => !(c == 48 || c == 49)).map fun c => (⟨#[c]⟩ : Str)).map V.str) := SqL.of (by rw [(Ex.new no) _ _ h2, List.map_map]; rfl)
          have ok1 : ∀ x ∈ (z.cps.toList.filter fun c => !(c == 48 || c == 49)).map (fun c => (⟨#[c]⟩ : Str)), PyData.strOk x = true := fun x hx => by
            obtain ⟨c, hc, rfl⟩ := List.mem_map.mp hx
            have h5 : z.cps.toList.all (· < 0x110000) = true := by rw [Array.all_toList]; exact hok
            have h6 := List.all_eq_true.mp h5 c (List.mem_filter.mp hc).1
            simpa [PyData.strOk] using h6
          refine ⟨_, .list (([] : List Str).map PyData.str), dpL h3, dpL (SqL.of upd_same), (sdStrs (n := 0) ok1).shaped (by decide), (sdStrs (n := 0) (by simp)).shaped (by decide), ?_⟩
          rw [eqvStrs]
          have e : isW z = decide ((z.cps.toList.filter fun c => !(c == 48 || c == 49)).map (fun c => (⟨#[c]⟩ : Str)) = []) := by
            unfold isW
            rw [decide_eq_true h1, decide_eq_true h4, Bool.true_and, Bool.true_and]
            rw [Bool.eq_iff_iff, decide_eq_true_eq, List.map_eq_nil_iff, List.filter_eq_nil_iff, List.all_eq_true]
            simp only [Bool.not_eq_true', Bool.not_eq_false]
          rw [← e]
          exact q _ e3
      · refine ifN (by simp; omega) ?_
        have e : isW z = false := by simp [isW, h4]
        rw [← e]
        exact q _ (Ex.refl _)
    · refine ifN (by simp; omega) ⟨_, rfl, ifN (by simp) ?_⟩
      have e : isW z = false := by simp [isW, h1]
      rw [← e]
      exact q _ (Ex.refl _)
theorem kb_ib : kitB "int" "bool" = some false := by decide +kernel
theorem kb_ii : kitB "int" "int" = some true := by decide +kernel
theorem kb_sb : kitB "str" "bool" = some false := by decide +kernel
theorem kb_si : kitB "str" "int" = some false := by decide +kernel
theorem kb_ss : kitB "str" "str" = some true := by decide +kernel
theorem kb_lb : kitB "list" "bool" = some false := by decide +kernel
theorem kb_li : kitB "list" "int" = some false := by decide +kernel
theorem kb_ls : kitB "list" "str" = some false := by decide +kernel
theorem kb_lt : kitB "list" "tuple" = some false := by decide +kernel
theorem kb_ll : kitB "list" "list" = some true := by decide +kernel
theorem kb_tb : kitB "tuple" "bool" = some false := by decide +kernel
theorem kb_ti : kitB "tuple" "int" = some false := by decide +kernel
theorem kb_ts : kitB "tuple" "str" = some false := by decide +kernel
theorem kb_tt : kitB "tuple" "tuple" = some true := by decide +kernel
theorem kb_tl : kitB "tuple" "list" = some false := by decide +kernel
theorem isiR {K : PySem.W.Frag} {H : Hp} {Q : VK} {x : V} {t n : String} {b : Bool} (hx : TyX K H x (.type t)) (hk : kitB t n = some b) (q : Q (.bl b) H) : rIsi K [x, .ty n] H Q := ⟨x, .ty n, .type t, .type n, b, rfl, .ty n, hx, kit_ty hk, q⟩
theorem Da.both {H : Hp} {n : Nat} {x y : V} {d : PyData} (hx : Da H n x d) (hy : Da H n y d) : (Leaf x d ∧ Leaf y d) ∨
    (∃ m a xs b ys ds, n = m + 1 ∧ x = .ref a ∧ y = .ref b ∧ d = .list ds ∧ H a = some (.lst xs) ∧ H b = some (.lst ys) ∧ ys.length ≤ 1000 ∧ Paired (Da H m) xs ds ∧ Paired (Da H m) ys ds) ∨
    (∃ m a xs b ys ds, n = m + 1 ∧ x = .ref a ∧ y = .ref b ∧ d = .tuple ds ∧ H a = some (.tup xs) ∧ H b = some (.tup ys) ∧ ys.length ≤ 1000 ∧ Paired (Da H m) xs ds ∧ Paired (Da H m) ys ds) := by
  cases n with
  | zero => exact .inl ⟨hx, hy⟩
  | succ n =>
    rcases hy with ly | ⟨b, ys, ds, rfl, rfl, hb, lb, pb⟩ | ⟨b, ys, ds, rfl, rfl, hb, lb, pb⟩
    · rcases hx with lx | ⟨a, xs, ds, _, rfl, _⟩ | ⟨a, xs, ds, _, rfl, _⟩
      · exact .inl ⟨lx, ly⟩
      · rcases ly with ⟨_, h⟩ | ⟨_, _, h⟩ | ⟨_, _, h⟩ <;> cases h
      · rcases ly with ⟨_, h⟩ | ⟨_, _, h⟩ | ⟨_, _, h⟩ <;> cases h
    · rcases hx with lx | ⟨a, xs, ds', e, h, h1, h2, h3⟩ | ⟨a, xs, ds', _, h, _⟩
      · rcases lx with ⟨_, h⟩ | ⟨_, _, h⟩ | ⟨_, _, h⟩ <;> cases h
      · cases h; exact .inr (.inl ⟨n, a, xs, b, ys, _, rfl, e, rfl, rfl, h1, hb, lb, h3, pb⟩)
      · cases h
    · rcases hx with lx | ⟨a, xs, ds', _, h, _⟩ | ⟨a, xs, ds', e, h, h1, h2, h3⟩
      · rcases lx with ⟨_, h⟩ | ⟨_, _, h⟩ | ⟨_, _, h⟩ <;> cases h
      · cases h
      · cases h; exact .inr (.inr ⟨n, a, xs, b, ys, _, rfl, e, rfl, rfl, h1, hb, lb, h3, pb⟩)
def sp_l_alike : Nat → Sp
  | 0 => fun _ _ _ _ => False
  | n + 1 => fun vs H Q _ => ∃ x y d, vs = [x, y] ∧ Da H n x d ∧ Da H n y d ∧ RetV (.bl true) H Q
theorem ok_alikeN (T : TX K mg) : ∀ n : Nat, FnOk P w K mg base CX0 n T.f_l_alike T.fd_l_alike ["_law_found", "_law_due"] (sp_l_alike n)
  | 0 => ⟨fun _ _ _ _ h => h.elim, fun _ _ _ _ _ _ _ _ _ _ _ _ _ h => h.elim⟩
  | n + 1 => by
    have ih := ok_alikeN T n
    refine T.F_l_alike.ok sc_l_alike (fun vs H Q E h => ?_) (fun cdv A outer s H vs Q E hr h => ?_)
    · obtain ⟨x, y, d, rfl, _⟩ := h
      rfl
    · obtain ⟨x, y, d, rfl, hx, hy, q⟩ := h
      refine ⟨_, (pss_cons (ps_if (pt_cmpR op_isN (pv 1) pe_non (nomark _))
 (pss_one (ps_ret (pe_cmpR op_isN (pv 0) pe_non (nomark _))))
 pss_nil)
 (pss_cons (ps_if (pt_val (pe_callB call_isi (by rfl) T.z_isinstance (by decide +kernel) (pa_cons (pv 1) (pa_cons (pe_bltn (v := .ty "bool") (u := .type "bool") (by rfl) T.z_bool (by decide +kernel) rfl) pa_nil))))
 (pss_one (ps_ret (pe_and (pe_callB call_isi (by rfl) T.z_isinstance (by decide +kernel) (pa_cons (pv 0) (pa_cons (pe_bltn (v := .ty "bool") (u := .type "bool") (by rfl) T.z_bool (by decide +kernel) rfl) pa_nil))) (pe_one (pe_cmpR op_eq (pv 0) (pv 1) (nomark _))))))
 pss_nil)
 (pss_cons (ps_if (pt_val (pe_callB call_isi (by rfl) T.z_isinstance (by decide +kernel) (pa_cons (pv 1) (pa_cons (pe_bltn (v := .ty "int") (u := .type "int") (by rfl) T.z_int (by decide +kernel) rfl) pa_nil))))
 (pss_one (ps_ret (pe_and (pe_callB call_isi (by rfl) T.z_isinstance (by decide +kernel) (pa_cons (pv 0) (pa_cons (pe_bltn (v := .ty "int") (u := .type "int") (by rfl) T.z_int (by decide +kernel) rfl) pa_nil))) (pe_and (pe_not (pe_callB call_isi (by rfl) T.z_isinstance (by decide +kernel) (pa_cons (pv 0) (pa_cons (pe_bltn (v := .ty "bool") (u := .type "bool") (by rfl) T.z_bool (by decide +kernel) rfl) pa_nil)))) (pe_one (pe_cmpR op_eq (pv 0) (pv 1) (nomark _)))))))
 pss_nil)
 (pss_cons (ps_if (pt_val (pe_callB call_isi (by rfl) T.z_isinstance (by decide +kernel) (pa_cons (pv 1) (pa_cons (pe_bltn (v := .ty "str") (u := .type "str") (by rfl) T.z_str (by decide +kernel) rfl) pa_nil))))
 (pss_one (ps_ret (pe_and (pe_callB call_isi (by rfl) T.z_isinstance (by decide +kernel) (pa_cons (pv 0) (pa_cons (pe_bltn (v := .ty "str") (u := .type "str") (by rfl) T.z_str (by decide +kernel) rfl) pa_nil))) (pe_one (pe_cmpR op_eq (pv 0) (pv 1) (nomark _))))))
 pss_nil)
 (pss_cons (ps_if (PW.pt (pw_or (pt_cmpR op_ne (pe_callB call_isi (by rfl) T.z_isinstance (by decide +kernel) (pa_cons (pv 1) (pa_cons (pe_bltn (v := .ty "tuple") (u := .type "tuple") (by rfl) T.z_tuple (by decide +kernel) rfl) pa_nil))) (pe_callB call_isi (by rfl) T.z_isinstance (by decide +kernel) (pa_cons (pv 0) (pa_cons (pe_bltn (v := .ty "tuple") (u := .type "tuple") (by rfl) T.z_tuple (by decide +kernel) rfl) pa_nil))) (nomark _)) (pw_or1 (pt_cmpR op_ne (pe_callB call_isi (by rfl) T.z_isinstance (by decide +kernel) (pa_cons (pv 1) (pa_cons (pe_bltn (v := .ty "list") (u := .type "list") (by rfl) T.z_list (by decide +kernel) rfl) pa_nil))) (pe_callB call_isi (by rfl) T.z_isinstance (by decide +kernel) (pa_cons (pv 0) (pa_cons (pe_bltn (v := .ty "list") (u := .type "list") (by rfl) T.z_list (by decide +kernel) rfl) pa_nil))) (nomark _)))))
 (pss_one (ps_ret pe_bl))
 pss_nil)
 (pss_cons (ps_if (pt_cmpR op_ne (pe_callB call_len (by rfl) T.z_len PySem.boot_len (pa_cons (pv 0) pa_nil)) (pe_callB call_len (by rfl) T.z_len PySem.boot_len (pa_cons (pv 1) pa_nil)) (nomark _))
 (pss_one (ps_ret pe_bl))
 pss_nil)
 (pss_one (ps_ret (pe_callB (cr_all rfl) (by rfl) T.z_all (by decide +kernel) (pa_cons (pe_lc (own := [("_law_k", 2)]) (g := gName 2) (by rfl) sc_l_alike.nd (pi_range1 (by rfl) T.z_range (pa_cons (pe_callB call_len (by rfl) T.z_len PySem.boot_len (pa_cons (pv 1) pa_nil)) pa_nil)) (blkOk_by (own := [("_law_k", 2)]) (N := ["_law_found", "_law_due", "_law_k"]) (sc := defScope s_l_alike) (by decide +kernel)) (fun _ _ _ _ _ => pg_name (i := 2) sc_l_alike.nd rfl (Or.inl rfl)) (fun _ _ _ _ _ => pts_nil) (fun _ _ _ _ _ => (pe_call ih hr (by rfl) T.g_l_alike T.F_l_alike.kp T.b_l_alike .nil pass0 (pa_cons (pe_ix (r := rIx K) ix_seq (pv 0) (pv 2) (fun _ _ => rfl)) (pa_cons (pe_ix (r := rIx K) ix_seq (pv 1) (pv 2) (fun _ _ => rfl)) pa_nil))))) pa_nil)))))))))), ?_⟩
      rcases hx.both hy with ⟨lx, ly⟩ | ⟨n, a, xs, b, ys, ds, rfl, rfl, rfl, rfl, ha, hb, lb, pa, pb⟩ | ⟨n, a, xs, b, ys, ds, rfl, rfl, rfl, rfl, ha, hb, lb, pa, pb⟩
      · rcases ly with ⟨rfl, rfl⟩ | ⟨i, rfl, rfl⟩ | ⟨z, rfl, rfl⟩
        · obtain rfl : x = .non := by
            rcases lx with ⟨h, _⟩ | ⟨_, _, h⟩ | ⟨_, _, h⟩
            · exact h
            · cases h
            · cases h
          exact ⟨_, rfl, rfl, _, rfl, ifP rfl ⟨_, rfl, rfl, q _ (Ex.refl _)⟩⟩
        · obtain rfl : x = .int i := by
            rcases lx with ⟨_, h⟩ | ⟨_, e, h⟩ | ⟨_, _, h⟩
            · cases h
            · cases h; exact e
            · cases h
          refine ⟨_, rfl, rfl, _, rfl, ifN (by simp) ⟨_, rfl, _, _, _, _, _, rfl, .ty _, (.base (.int i)), kit_ty kb_ib, ⟨_, rfl, ifN (by simp) ⟨_, rfl, _, _, _, _, _, rfl, .ty _, (.base (.int i)), kit_ty kb_ii, ⟨_, rfl, ifP rfl ?_⟩⟩⟩⟩⟩
          refine ⟨_, rfl, _, _, _, _, _, rfl, .ty _, (.base (.int i)), kit_ty kb_ii, ⟨_, rfl, ifP rfl ⟨_, rfl, _, _, _, _, _, rfl, .ty _, (.base (.int i)), kit_ty kb_ib, ⟨_, rfl, _, rfl, ifP rfl ⟨_, rfl, _, rfl, rfl, ?_⟩⟩⟩⟩⟩
          rw [decide_eq_true rfl]
          exact q _ (Ex.refl _)
        · obtain rfl : x = .str z := by
            rcases lx with ⟨_, h⟩ | ⟨_, _, h⟩ | ⟨_, e, h⟩
            · cases h
            · cases h
            · cases h; exact e
          refine ⟨_, rfl, rfl, _, rfl, ifN (by simp) ⟨_, rfl, _, _, _, _, _, rfl, .ty _, (.base (.str z)), kit_ty kb_sb, ⟨_, rfl, ifN (by simp) ⟨_, rfl, _, _, _, _, _, rfl, .ty _, (.base (.str z)), kit_ty kb_si, ⟨_, rfl, ifN (by simp) ⟨_, rfl, _, _, _, _, _, rfl, .ty _, (.base (.str z)), kit_ty kb_ss, ⟨_, rfl, ifP rfl ?_⟩⟩⟩⟩⟩⟩⟩
          refine ⟨_, rfl, _, _, _, _, _, rfl, .ty _, (.base (.str z)), kit_ty kb_ss, ⟨_, rfl, ifP rfl ⟨_, rfl, _, rfl, rfl, ?_⟩⟩⟩
          rw [decide_eq_true rfl]
          exact q _ (Ex.refl _)
      · have tx : TyX K H (.ref a) (.type "list") := .base (.lst ha)
        have ty : TyX K H (.ref b) (.type "list") := .base (.lst hb)
        refine ⟨_, rfl, rfl, _, rfl, ifN (by simp) ⟨_, rfl, _, _, _, _, _, rfl, .ty _, ty, kit_ty kb_lb, ⟨_, rfl, ifN (by simp) ⟨_, rfl, _, _, _, _, _, rfl, .ty _, ty, kit_ty kb_li, ⟨_, rfl, ifN (by simp) ⟨_, rfl, _, _, _, _, _, rfl, .ty _, ty, kit_ty kb_ls, ⟨_, rfl, ifN (by simp) ?_⟩⟩⟩⟩⟩⟩⟩
        refine ⟨_, rfl, _, _, _, _, _, rfl, .ty _, ty, kit_ty kb_lt, ⟨_, rfl, _, _, _, _, _, rfl, .ty _, tx, kit_ty kb_lt, ⟨rfl, _, rfl, ifN (by simp) ⟨_, rfl, _, _, _, _, _, rfl, .ty _, ty, kit_ty kb_ll, ⟨_, rfl, _, _, _, _, _, rfl, .ty _, tx, kit_ty kb_ll, ⟨rfl, _, rfl, ifN (by simp) ?_⟩⟩⟩⟩⟩⟩
        refine ⟨_, rfl, _, _, rfl, .inl ⟨_, SqL.of ha, rfl⟩, _, rfl, _, _, rfl, .inl ⟨_, SqL.of hb, rfl⟩, rfl, _, rfl, ifN ?_ ?_⟩
        · rw [decide_eq_true (by rw [paired_len pa, paired_len pb])]
          decide
        refine ⟨_, rfl, _, _, rfl, .inl ⟨_, SqL.of hb, rfl⟩, _, rfl, lo62 _, hi62 lb, fun D nD => lcR ys.length (fun _ => .bl true) rfl lb nD (fun _ => rfl) (fun i hi H3 e3 Y hY => ?_) (fun H3 e3 h3 => ?_)⟩
        · obtain ⟨y, z, hy, hz, ry⟩ := paired_at pb (i := i) (by rw [← paired_len pb]; exact hi)
          obtain ⟨x, z', hx, hz', rx⟩ := paired_at pa (i := i) (by rw [← paired_len pb]; exact hi)
          obtain rfl : z = z' := Option.some.inj (hz.symm.trans hz')
          exact ⟨_, rfl, _, rfl, .inl ⟨a, xs, _, x, rfl, rfl, SqL.of (e3 _ _ ha), atI_nat hx, _, rfl, _, rfl, .inl ⟨b, ys, _, y, rfl, rfl, SqL.of (e3 _ _ hb), atI_nat hy, x, y, z, rfl, rx.mono e3, ry.mono e3, hY⟩⟩⟩
        · refine ⟨D, (List.range ys.length).map (fun _ => true), rfl, SqL.of (by rw [h3, List.map_map]; rfl), ?_⟩
          rw [show ((List.range ys.length).map (fun _ => true)).all id = true by simp]
          exact q _ e3
      · have tx : TyX K H (.ref a) (.type "tuple") := .base (.tup ha)
        have ty : TyX K H (.ref b) (.type "tuple") := .base (.tup hb)
        refine ⟨_, rfl, rfl, _, rfl, ifN (by simp) ⟨_, rfl, _, _, _, _, _, rfl, .ty _, ty, kit_ty kb_tb, ⟨_, rfl, ifN (by simp) ⟨_, rfl, _, _, _, _, _, rfl, .ty _, ty, kit_ty kb_ti, ⟨_, rfl, ifN (by simp) ⟨_, rfl, _, _, _, _, _, rfl, .ty _, ty, kit_ty kb_ts, ⟨_, rfl, ifN (by simp) ?_⟩⟩⟩⟩⟩⟩⟩
        refine ⟨_, rfl, _, _, _, _, _, rfl, .ty _, ty, kit_ty kb_tt, ⟨_, rfl, _, _, _, _, _, rfl, .ty _, tx, kit_ty kb_tt, ⟨rfl, _, rfl, ifN (by simp) ⟨_, rfl, _, _, _, _, _, rfl, .ty _, ty, kit_ty kb_tl, ⟨_, rfl, _, _, _, _, _, rfl, .ty _, tx, kit_ty kb_tl, ⟨rfl, _, rfl, ifN (by simp) ?_⟩⟩⟩⟩⟩⟩
        refine ⟨_, rfl, _, _, rfl, .inr ⟨_, SqT.of ha, rfl⟩, _, rfl, _, _, rfl, .inr ⟨_, SqT.of hb, rfl⟩, rfl, _, rfl, ifN ?_ ?_⟩
        · rw [decide_eq_true (by rw [paired_len pa, paired_len pb])]
          decide
        refine ⟨_, rfl, _, _, rfl, .inr ⟨_, SqT.of hb, rfl⟩, _, rfl, lo62 _, hi62 lb, fun D nD => lcR ys.length (fun _ => .bl true) rfl lb nD (fun _ => rfl) (fun i hi H3 e3 Y hY => ?_) (fun H3 e3 h3 => ?_)⟩
        · obtain ⟨y, z, hy, hz, ry⟩ := paired_at pb (i := i) (by rw [← paired_len pb]; exact hi)
          obtain ⟨x, z', hx, hz', rx⟩ := paired_at pa (i := i) (by rw [← paired_len pb]; exact hi)
          obtain rfl : z = z' := Option.some.inj (hz.symm.trans hz')
          exact ⟨_, rfl, _, rfl, .inr (.inl ⟨a, xs, _, x, rfl, rfl, SqT.of (e3 _ _ ha), atI_nat hx, _, rfl, _, rfl, .inr (.inl ⟨b, ys, _, y, rfl, rfl, SqT.of (e3 _ _ hb), atI_nat hy, x, y, z, rfl, rx.mono e3, ry.mono e3, hY⟩)⟩)⟩
        · refine ⟨D, (List.range ys.length).map (fun _ => true), rfl, SqL.of (by rw [h3, List.map_map]; rfl), ?_⟩
          rw [show ((List.range ys.length).map (fun _ => true)).all id = true by simp]
          exact q _ e3
theorem ok_l_alike (T : TX K mg) : FnOk P w K mg base CX0 6 T.f_l_alike T.fd_l_alike ["_law_found", "_law_due"] (sp_l_alike 6) := ok_alikeN T 6
/-! ### the law's `refused` -/
theorem okHot {x qual : Str} {st : Stmt} {f : Addr} {fd : FuncData} {N ps : List Str} {k : Nat} {sp : Sp} (F : Fun K x qual st f fd) (S : FnScope N ps (defScope st)) (len : ∀ vs H Q E, sp vs H Q E → vs.length = ps.length)
    (hbody : ∀ (cdv : Value) (A : Around) (outer : List Env) (s : Shared) (H : Hp) (vs : List V) (Q : VK) (E : XK) (p : Addr × Obj), L2H.RoomH k (A.deeper (PyProof.Rows.envOfC qual (defScope st) s.heap.objs.size f cdv)) → sp vs H Q E →
      ∃ t, PSs (L2H.cxH CX0 P w K mg base N qual (defScope st) f cdv A outer s H E p) (defBody st) t ∧ t { nx := fun _ H' => Q .non H', rt := Q } (start N vs) H) : L2H.FnH P w K mg base CX0 (k + 1) f fd ps sp := by
  obtain ⟨oc, od, kV, doc, pm, an, cdv, ct, osl, rfl, lk, hcd⟩ := F.ex
  exact L2H.fn_ofH lk hcd S len fun A outer s H vs Q E p _ hr hsp => hbody cdv A outer s H vs Q E p hr hsp
def sp_alikeI : Sp := fun vs H Q _ => ∃ i : Int, vs = [.int i, .int i] ∧ Q (.bl true) H
theorem ok_alikeI (T : TX K mg) : L2H.FnH P w K mg base CX0 1 T.f_l_alike T.fd_l_alike ["_law_found", "_law_due"] sp_alikeI := by
  refine okHot (k := 0) T.F_l_alike sc_l_alike (fun vs H Q E h => ?_) (fun cdv A outer s H vs Q E p hr h => ?_)
  · obtain ⟨_, rfl, _⟩ := h
    rfl
  · obtain ⟨i, rfl, q⟩ := h
    refine ⟨_, (pss_cons (ps_if (pt_cmpR op_isN (pv 1) pe_non (nomark _)) pss_never pss_nil)
      (pss_cons (ps_if (pt_val (pe_callB call_isi (by rfl) T.z_isinstance (by decide +kernel) (pa_cons (pv 1) (pa_cons (pe_bltn (v := .ty "bool") (u := .type "bool") (by rfl) T.z_bool (by decide +kernel) rfl) pa_nil)))) pss_never pss_nil)
      (pss_cons (ps_if (pt_val (pe_callB call_isi (by rfl) T.z_isinstance (by decide +kernel) (pa_cons (pv 1) (pa_cons (pe_bltn (v := .ty "int") (u := .type "int") (by rfl) T.z_int (by decide +kernel) rfl) pa_nil))))
        (pss_one (ps_ret (pe_and (pe_callB call_isi (by rfl) T.z_isinstance (by decide +kernel) (pa_cons (pv 0) (pa_cons (pe_bltn (v := .ty "int") (u := .type "int") (by rfl) T.z_int (by decide +kernel) rfl) pa_nil))) (pe_and (pe_not (pe_callB call_isi (by rfl) T.z_isinstance (by decide +kernel) (pa_cons (pv 0) (pa_cons (pe_bltn (v := .ty "bool") (u := .type "bool") (by rfl) T.z_bool (by decide +kernel) rfl) pa_nil)))) (pe_one (pe_cmpR op_eq (pv 0) (pv 1) (nomark _)))))))
        pss_nil) pss_never))), ?_⟩
    refine ⟨_, rfl, rfl, _, rfl, ifN (by simp) ⟨_, rfl, _, _, _, _, _, rfl, .ty _, (.base (.int i)), kit_ty kb_ib, ⟨_, rfl, ifN (by simp) ⟨_, rfl, _, _, _, _, _, rfl, .ty _, (.base (.int i)), kit_ty kb_ii, ⟨_, rfl, ifP rfl ?_⟩⟩⟩⟩⟩
    refine ⟨_, rfl, _, _, _, _, _, rfl, .ty _, (.base (.int i)), kit_ty kb_ii, ⟨_, rfl, ifP rfl ⟨_, rfl, _, _, _, _, _, rfl, .ty _, (.base (.int i)), kit_ty kb_ib, ⟨_, rfl, _, rfl, ifP rfl ⟨_, rfl, _, rfl, rfl, ?_⟩⟩⟩⟩⟩
    rw [decide_eq_true rfl]
    exact q
theorem walk_ls {K : PySem.W.Frag} {α : Type} {a : Addr} (l : List α) (ev : α → V) : Walk (Itl K a) l.length (fun H => SqL K H a (l.map ev)) (fun i H x H' => H' = H ∧ ∃ y, l[i]? = some y ∧ x = ev y) := by
  have h := walk_list (K := K) (a := a) (xs := l.map ev)
  rw [List.length_map] at h
  refine h.mono (fun _ h => h) (fun i H x H' _ _ ⟨h1, h2⟩ => ⟨h1, ?_⟩)
  rw [List.getElem?_map] at h2
  cases e : l[i]? with
  | none => rw [e] at h2; cases h2
  | some y =>
    rw [e] at h2
    exact ⟨y, rfl, (Option.some.inj h2).symm⟩
theorem takesN0 {X : Cx} : L2N.Takes X (fun _ _ _ _ => False) := fun _ _ ⟨_, _, _, _, _, _, _, _, _, _, _, _, _, _, _, _, h⟩ => h.elim
theorem hot_suite {X : Cx} {a : Addr} {oe : Obj} {cls : Value} {d : Option Addr} {pn : List (Addr × Obj)} (hz : L2N.Zn cls d oe) (hf : ∃ vs, oe.data = .fields vs) : L2H.HotC (X.suite a ((a, oe) :: pn)) := by
  obtain ⟨vs, hv⟩ := hf
  exact ⟨(a, oe), ⟨rfl, vs, hv, hz.2.2 vs hv⟩, List.mem_cons_self⟩
/-- what is raised -/
def KindX {K : PySem.W.Frag} {mg : Str → Option Value} (T : TX K mg) (word : Str) (n : Int) (H' : Hp) (cls : Value) (d : Option Addr) : Prop :=
  (word = "number" ∧ cls = .ref T.C_BadNumber ∧ d = none) ∨ (word = "lane" ∧ cls = .ref T.C_BadLane ∧ d = none) ∨ (word = "words" ∧ cls = .ref T.C_BadWords ∧ ∃ a, d = some a ∧ H' a = some (.xd [("at", .int n)]))
/-- it has a dict of its own or none -/
def DictX (d : Option Addr) (H : Hp) : Prop := d = none ∨ ∃ dd fs, d = some dd ∧ H dd = some (.xd fs)
theorem DictX.mono {d : Option Addr} {H H' : Hp} (e : Ex H H') (h : DictX d H) : DictX d H' := by
  rcases h with h | ⟨dd, fs, h1, h2⟩
  · exact .inl h
  · exact .inr ⟨dd, fs, h1, e _ _ h2⟩
abbrev isS (word : Str) (z : Str) : Bool := decide (V.str word = V.str z)
theorem kind_all {K : PySem.W.Frag} {mg : Str → Option Value} (T : TX K mg) {word : Str} {n : Int} {H' : Hp} {cls : Value} {d : Option Addr} (h : KindX T word n H' cls d) : ∃ C, cls = .ref C ∧ IsC K C ∧ PySem.W.kitOne K (.ref C) (.ref T.C_BadNumber) = some (isS word "number") ∧ PySem.W.kitOne K (.ref C) (.ref T.C_BadLane) = some (isS word "lane") ∧
    PySem.W.kitOne K (.ref C) (.ref T.C_BadWords) = some (isS word "words") ∧ PySem.W.kitOne K (.ref C) (.ref T.C_BadEvent) = some (isS word "event") ∧ PySem.W.kitOne K (.ref C) (.type "ValueError") = some true ∧ PySem.W.exmOne K (.ref C) (.ref T.C_CrossError) = some true ∧ DictX d H' := by
  rcases h with ⟨rfl, rfl, rfl⟩ | ⟨rfl, rfl, rfl⟩ | ⟨rfl, rfl, a, rfl, h⟩
  · refine ⟨_, rfl, T.is_BadNumber, ?_, ?_, ?_, ?_, T.kv_BadNumber, T.ex_BadNumber, .inl rfl⟩
    · rw [show isS "number" "number" = true by decide +kernel]; exact T.ki_BadNumber_BadNumber
    · rw [show isS "number" "lane" = false by decide +kernel]; exact T.ki_BadNumber_BadLane
    · rw [show isS "number" "words" = false by decide +kernel]; exact T.ki_BadNumber_BadWords
    · rw [show isS "number" "event" = false by decide +kernel]; exact T.ki_BadNumber_BadEvent
  · refine ⟨_, rfl, T.is_BadLane, ?_, ?_, ?_, ?_, T.kv_BadLane, T.ex_BadLane, .inl rfl⟩
    · rw [show isS "lane" "number" = false by decide +kernel]; exact T.ki_BadLane_BadNumber
    · rw [show isS "lane" "lane" = true by decide +kernel]; exact T.ki_BadLane_BadLane
    · rw [show isS "lane" "words" = false by decide +kernel]; exact T.ki_BadLane_BadWords
    · rw [show isS "lane" "event" = false by decide +kernel]; exact T.ki_BadLane_BadEvent
  · refine ⟨_, rfl, T.is_BadWords, ?_, ?_, ?_, ?_, T.kv_BadWords, T.ex_BadWords, .inr ⟨a, _, rfl, h⟩⟩
    · rw [show isS "words" "number" = false by decide +kernel]; exact T.ki_BadWords_BadNumber
    · rw [show isS "words" "lane" = false by decide +kernel]; exact T.ki_BadWords_BadLane
    · rw [show isS "words" "words" = true by decide +kernel]; exact T.ki_BadWords_BadWords
    · rw [show isS "words" "event" = false by decide +kernel]; exact T.ki_BadWords_BadEvent
section
variable {X : Cx} {σ : L2.St} {params : Arguments} {body : Expr} {scope : Scope} {dV : Value} {c' f : Addr} {bs : List Str} {tb : XK → TE}
theorem run_refused (T : TX X.K X.mg) (LS : LScope X.env.scope scope) (hloc : ∀ y ∈ scope.names, y.2 = .local → y.1 ∉ X.N) (hb : BindsL params body scope bs) (hbs : ∀ y ∈ bs, scope.names.lookup y = some .local)
    (hbody : ∀ (dV : Value) (c' : Addr) (A : Around) (outer : List Env) (s : Shared) (H : Hp) (E : XK) (f : Addr), Room 6 (A.deeper (thkEnv (lamOf X params body scope dV c') s.heap.objs.size f)) → PE (thkCx X (lamOf X params body scope dV c') A outer s H E f) body (tb E))
    {A : Around} {outer : List Env} {s : Shared} {H : Hp} {Q : VK} {E : XK} {word : Str} {n : Int} {us : List Value} {args : Args} (hr : Room 8 A) (e0 : Env0 X.prog X.w X.K X.mg X.base A outer s H) (hbt : BindsTo s T.fd_l_refused args ((["_law_work", "_law_word", "_law_value"] : List Str).zip us)) (r : Vals [.ref f, .str word, .int n] us)
    (C : CellsOk X σ H s.heap) (hT : ThkH H f (lamOf X params body scope dV c')) (ht : ∀ (E : XK) (Qn : VK), (∀ (cls : Value) (d : Option Addr) (H' : Hp), Ex H H' → KindX T word n H' cls d → E cls d H') → tb E σ H Qn) (q : ∀ H', Ex H H' → Q (.bl true) H') :
    codeAny (model X.prog X.w) A (.call (.ref T.f_l_refused) args) (CR CX0 outer X.prog X.w H s Q E) s := by
  have F := T.F_l_refused
  generalize T.fd_l_refused = fd at F hbt
  obtain ⟨oc, od, kV, doc, pm, an, cdv, ct, osl, rfl, lk, hcd⟩ := F.ex
  refine LamX.run_ofS (k := 7) lk hcd sc_l_refused hr e0 hbt r rfl fun hr => ?_
  refine ⟨_, pss_cons (L2N.ps_try_as (i := 3) (c := .ref T.C_CrossError) rfl rfl sc_l_refused.nd rfl rfl ⟨by rfl, by decide, .inl T.g_CrossError⟩ takesN0 (fun W pn xe tk _ => pss_one (ps_expr (pe_thk (k := 6) (i := 0) (f := f) (dV := dV) (c' := c') LS hloc hb hbs hbody C hr tk rfl (Or.inl rfl))))
    (fun a oe cls d pn hz hf => pss_cons (ps_set (i := 4) sc_l_refused.nd rfl (Or.inl rfl) (pe_lst
        (pa_cons (pe_callB (call_isX hz hf) (by rfl) T.z_isinstance (by decide +kernel) (pa_cons (pv 3) (pa_cons (pe_glob (v := .ref T.C_BadNumber) (by rfl) T.g_BadNumber rfl) pa_nil)))
        (pa_cons (pe_callB (call_isX hz hf) (by rfl) T.z_isinstance (by decide +kernel) (pa_cons (pv 3) (pa_cons (pe_glob (v := .ref T.C_BadLane) (by rfl) T.g_BadLane rfl) pa_nil)))
        (pa_cons (pe_callB (call_isX hz hf) (by rfl) T.z_isinstance (by decide +kernel) (pa_cons (pv 3) (pa_cons (pe_glob (v := .ref T.C_BadWords) (by rfl) T.g_BadWords rfl) pa_nil)))
        (pa_cons (pe_callB (call_isX hz hf) (by rfl) T.z_isinstance (by decide +kernel) (pa_cons (pv 3) (pa_cons (pe_glob (v := .ref T.C_BadEvent) (by rfl) T.g_BadEvent rfl) pa_nil))) pa_nil))))))
      (pss_cons (ps_set (i := 5) sc_l_refused.nd rfl (Or.inl rfl) (pe_lst (pa_cons pe_str (pa_cons pe_str (pa_cons pe_str (pa_cons pe_str pa_nil))))))
      (pss_cons (ps_if (PW.pt (pw_or (pt_not (pt_val (pe_callB (call_isX hz hf) (by rfl) T.z_isinstance (by decide +kernel) (pa_cons (pv 3) (pa_cons (pe_bltn (v := .ty "ValueError") (u := .type "ValueError") (by rfl) T.z_ValueError (by decide +kernel) rfl) pa_nil)))))
          (pw_or1 (pt_cmpR (r := rNeD X.K) (op_neD hr.units) (pv 4) (pe_lcK (K := X.K) (.inr (hot_suite hz hf)) sc_l_refused.nd (pv 5) (blkOk_by (own := [("_law_one", 6)]) (N := ["_law_work", "_law_word", "_law_value", "_law_e", "_law_kinds", "_law_words_here", "_law_one"]) (sc := defScope s_l_refused) (by decide +kernel)) (fun _ _ _ _ _ => pg_name (i := 6) sc_l_refused.nd rfl (Or.inl rfl)) (fun _ _ _ _ _ _ _ _ _ => pts_nil) (fun _ _ _ _ _ _ _ _ _ => pe_cmpR op_eq (pv 1) (pv 6) (nomark _))) (nomark _)))))
        (pss_one (ps_ret pe_bl)) pss_nil)
      (pss_one (ps_ret (pe_or (pe_cmpR (r := rIn X.K false) op_in_seq (pv 1) (pe_tup (pa_cons pe_str (pa_cons pe_str pa_nil))) (by rfl))
        (pe_one (L2H.pe_callH (E := fun _ _ _ _ => False) (ok_alikeI T) (L2H.roomH_mark (hr.mono (by decide)) _) (hot_suite hz hf) (by rfl) T.g_l_alike T.F_l_alike.kp T.b_l_alike (fun _ _ _ _ _ _ _ h => h.elim) (pa_cons (pe_xf T.xf_BadWords T.at_BadWords hz.zc hf (pv 3)) (pa_cons (pv 2) pa_nil)))))))))))
    (pss_one (ps_ret pe_bl)), ?_⟩
  refine ⟨rfl, hT, ht _ _ fun cls d H' e' hk => ?_⟩
  obtain ⟨C, rfl, hIs, k1, k2, k3, k4, kv, kx, hd'⟩ := kind_all T hk
  refine ⟨true, kx, fun _ a na => ?_, fun z => nomatch z⟩
  refine ⟨_, rfl, C, .ref T.C_BadNumber, .ref T.C_BadNumber, _, rfl, rfl, hIs, fun _ h => h, k1, hd', _, rfl, C, .ref T.C_BadLane, .ref T.C_BadLane, _, rfl, rfl, hIs, fun _ h => h, k2, hd', _, rfl, C, .ref T.C_BadWords, .ref T.C_BadWords, _, rfl, rfl, hIs, fun _ h => h, k3, hd', _, rfl, C, .ref T.C_BadEvent, .ref T.C_BadEvent, _, rfl, rfl, hIs, fun _ h => h, k4, hd', small9 (by simp), fun pk npk => ⟨small9 (by simp), fun pw npw => ?_⟩⟩
  have x1 := Ex.new (o := .lst [.bl (isS word "number"), .bl (isS word "lane"), .bl (isS word "words"), .bl (isS word "event")]) npk
  have e1 := e'.trans x1
  have hk1 : (upd H' pk (.lst [.bl (isS word "number"), .bl (isS word "lane"), .bl (isS word "words"), .bl (isS word "event")])) pk = some (.lst [.bl (isS word "number"), .bl (isS word "lane"), .bl (isS word "words"), .bl (isS word "event")]) := upd_same
  generalize upd H' pk (.lst [.bl (isS word "number"), .bl (isS word "lane"), .bl (isS word "words"), .bl (isS word "event")]) = H1 at *
  have x2 := Ex.new (o := .lst [.str "number", .str "lane", .str "words", .str "event"]) npw
  have hw2 : (upd H1 pw (.lst [.str "number", .str "lane", .str "words", .str "event"])) pw = some (.lst [.str "number", .str "lane", .str "words", .str "event"]) := upd_same
  have hk2 := x2 _ _ hk1
  have x12 := x1.trans x2
  have e02 := e1.trans x2
  generalize upd H1 pw (.lst [.str "number", .str "lane", .str "words", .str "event"]) = H2 at *
  refine ⟨_, rfl, C, .ty "ValueError", .type "ValueError", true, rfl, rfl, hIs, fun _ h => h, kv, hd'.mono x12, _, rfl, ifN (by simp) ?_⟩
  refine ⟨_, rfl, _, rfl, pw, rfl, ⟨_, SqL.of hw2⟩, fun D nD => lcW [("number" : Str), "lane", "words", "event"] V.str (fun _ => true) (fun z => .bl (isS word z)) (walk_ls _ _) (fun H e => SqL.of (e _ _ hw2)) (by decide) nD (fun _ => rfl) (fun z _ H3 e3 Y N hY => ?_) (fun H3 e3 h3 => ?_)⟩
  · refine iteT (B := N H3) ⟨_, rfl, _, rfl, rfl, ?_⟩
    have hy := hY H3 (Ex.refl _)
    rw [if_pos rfl] at hy
    exact hy
  · have h4 : H3 D = some (.lst [.bl (isS word "number"), .bl (isS word "lane"), .bl (isS word "words"), .bl (isS word "event")]) := h3
    refine ⟨.list [.bool (isS word "number"), .bool (isS word "lane"), .bool (isS word "words"), .bool (isS word "event")], .list [.bool (isS word "number"), .bool (isS word "lane"), .bool (isS word "words"), .bool (isS word "event")], .lst (SqL.of (e3 _ _ hk2)) (.cons (.bl _) (.cons (.bl _) (.cons (.bl _) (.cons (.bl _) .nil)))), .lst (SqL.of h4) (.cons (.bl _) (.cons (.bl _) (.cons (.bl _) (.cons (.bl _) .nil)))), rfl, rfl, _, rfl, ifN ?_ ?_⟩
    · generalize isS word "number" = b1
      generalize isS word "lane" = b2
      generalize isS word "words" = b3
      generalize isS word "event" = b4
      revert b1 b2 b3 b4
      decide
    refine ⟨_, rfl, small9 (by simp), fun p np => ⟨p, _, rfl, .inr (SqT.of upd_same), rfl, rfl, _, rfl, ?_⟩⟩
    have e5 := Ex.new (o := .tup [.str "number", .str "lane"]) np
    rcases hk with ⟨rfl, _, _⟩ | ⟨rfl, _, _⟩ | ⟨rfl, hC, ad, rfl, had⟩
    · exact ifP (by decide +kernel) (q _ ((e02.trans e3).trans e5))
    · exact ifP (by decide +kernel) (q _ ((e02.trans e3).trans e5))
    · have hC := Value.ref.inj hC
      subst hC
      exact ifN (by decide +kernel) ⟨_, rfl, rfl, rfl, ad, _, _, rfl, e5 _ _ (e3 _ _ (x12 _ _ had)), rfl, _, rfl, n, rfl, q _ ((e02.trans e3).trans e5)⟩
end
/-! ### `_law_refused(f, 'event', n)`, called in the law, or in a comprehension of it -/
structure LamK (X : Cx) (params : Arguments) (body : Expr) (scope : Scope) (bs : List Str) (tb : XK → TE) : Prop where
  LS : LScope X.env.scope scope
  hloc : ∀ y ∈ scope.names, y.2 = .local → y.1 ∉ X.N
  hb : BindsL params body scope bs
  hbs : ∀ y ∈ bs, scope.names.lookup y = some .local
  hbody : ∀ (dV : Value) (c' : Addr) (A : Around) (outer : List Env) (s : Shared) (H : Hp) (E : XK) (f : Addr), Room 6 (A.deeper (thkEnv (lamOf X params body scope dV c') s.heap.objs.size f)) → PE (thkCx X (lamOf X params body scope dV c') A outer s H E f) body (tb E)
/-- f is a lambda of X that raises what word and n say -/
def RefOk (X : Cx) (T : TX X.K X.mg) (word : Str) (σ : L2.St) (H : Hp) (f : Addr) (n : Int) : Prop := ∃ params body scope bs tb dV c', LamK X params body scope bs tb ∧ ThkH H f (lamOf X params body scope dV c') ∧
  ∀ (E : XK) (Qn : VK), (∀ (cls : Value) (d : Option Addr) (H' : Hp), Ex H H' → KindX T word n H' cls d → E cls d H') → tb E σ H Qn
theorem refOk_mk {X : Cx} {T : TX X.K X.mg} {word : Str} {σ : L2.St} {H : Hp} {f : Addr} {n : Int} {params : Arguments} {body : Expr} {scope : Scope} {bs : List Str} {tb : XK → TE} {dV : Value} {c' : Addr} (th : ThkH H f (lamOf X params body scope dV c')) (L : LamK X params body scope bs tb)
    (rs : ∀ (E : XK) (Qn : VK), (∀ (cls : Value) (d : Option Addr) (H' : Hp), Ex H H' → KindX T word n H' cls d → E cls d H') → tb E σ H Qn) : RefOk X T word σ H f n := ⟨params, body, scope, bs, tb, dV, c', L, th, rs⟩
def tRef (X : Cx) (T : TX X.K X.mg) (σ₀ : L2.St) (t : TA) : TE := fun σ H Q => t σ H fun vs H1 => ∃ (f : Addr) (word : Str) (n : Int), vs = [.ref f, .str word, .int n] ∧ RefOk X T word σ₀ H1 f n ∧ ∀ H', Ex H1 H' → Q (.bl true) H'
section
variable {X : Cx} {e : Expr} {es : List Expr} {ta : TA} {p pos : Pos}
theorem ref_run {Z : Cx} (T : TX X.K X.mg) {σ₀ : L2.St} {pins : List (Addr × Obj)} {σ : L2.St} {H : Hp} {s : Shared} {Q : VK} {us : List Value} {f : Addr} {word : Str} {n : Int} (hp : Z.prog = X.prog) (hw : Z.w = X.w) (hK : Z.K = X.K) (hm : Z.mg = X.mg) (hB : Z.base = X.base) (hr : Room 8 Z.A) (I : Inv Z pins σ H s) (C : CellsOk X σ₀ H s.heap)
    (r : Vals [.ref f, .str word, .int n] us) (h : RefOk X T word σ₀ H f n) (q : ∀ H', Ex H H' → Q (.bl true) H') : wpAny (model Z.prog Z.w) Z.A (call (.ref T.f_l_refused) us) (EP Z pins σ Q) Z.xe s := by
  obtain ⟨params, body, scope, bs, tb, dV, c', L, hT, ht⟩ := h
  have hl : us.length = 3 := r.length.symm
  have kin : X.K.In s.heap := by rw [← hK]; exact I.kIn
  have b := T.b_l_refused s us kin (by rw [List.append_nil]; exact hl)
  rw [List.append_nil] at b
  have e0 : Env0 X.prog X.w X.K X.mg X.base Z.A Z.stack s H := by rw [← hp, ← hw, ← hK, ← hm, ← hB]; exact I.env0
  have rc := run_refused (E := fun _ _ _ => False) T L.LS L.hloc L.hb L.hbs L.hbody hr e0 b r C hT ht q
  rw [← hp, ← hw] at rc
  refine wpAny_call (codeAny_mono rc fun r s' hq => ?_)
  cases r with
  | error e => exact False.elim hq
  | ok fl =>
    cases fl with
    | ret u => exact I.after hq
    | next => exact False.elim hq
    | brk => exact False.elim hq
    | cont => exact False.elim hq
theorem pe_refX (T : TX X.K X.mg) (hr : Room 8 X.A) (hg : Gl X "_law_refused") (ha : PA X (e :: es) ta) (he : starEach (e :: es) X.env = (false, eval e X.env) :: starEach es X.env := by rfl) (hpl : (backTo pos (starEach es X.env)).any (·.1) = false := by rfl) :
    PE X (.Call (.Name "_law_refused" p) (e :: es) [] pos) (fun σ H Q => tRef X T σ ta σ H Q) := by
  refine ⟨fun pins s σ H Q I h => ?_⟩
  refine wpAny_Call_Name_kw (ld_glob I hg T.g_l_refused ?_ (by decide))
  refine PySem.W.callWith_K (h₀ := X.base) I.ok.mod.kin T.F_l_refused.kp (thn (ha.run pos pins s σ H _ I h) fun us s1 ⟨vs, H1, I1, r, f, word, n, ev, hR, q⟩ => ⟨I1.kIn, ?_⟩) he hpl
  subst ev
  exact ref_run (Z := X) T rfl rfl rfl rfl rfl hr I1 (cellsOk_of I1) r hR q
theorem pe_refB (T : TX X.K X.mg) (hr : Room 8 X.A) {pins0 : List (Addr × Obj)} {σ₀ : L2.St} {s0 : Shared} {H0 : Hp} {scope : Scope} {ce : Env} {fp : List Addr} (I0 : Inv X pins0 σ₀ H0 s0) (hfp : ∀ y c, X.env.cells.lookup y = some c → c ∉ fp)
    (hg : Gl (X.blk s0 H0 scope ce fp) "_law_refused") (ha : PA (X.blk s0 H0 scope ce fp) (e :: es) ta) (he : starEach (e :: es) ce = (false, eval e ce) :: starEach es ce := by rfl) (hpl : (backTo pos (starEach es ce)).any (·.1) = false := by rfl) :
    PE (X.blk s0 H0 scope ce fp) (.Call (.Name "_law_refused" p) (e :: es) [] pos) (tRef X T σ₀ ta) := by
  refine ⟨fun pins s σ H Q I h => ?_⟩
  refine wpAny_Call_Name_kw (ld_glob I hg T.g_l_refused ?_ (by decide))
  refine PySem.W.callWith_K (h₀ := X.base) I.ok.mod.kin T.F_l_refused.kp (thn (ha.run pos pins s σ H _ I h) fun us s1 ⟨vs, H1, I1, r, f, word, n, ev, hR, q⟩ => ⟨I1.kIn, ?_⟩) he hpl
  subst ev
  have C : CellsOk X σ₀ H1 s1.heap := (cellsOk_of I0).un I1.base fun y c e z => hfp y c e z
  exact ref_run (Z := X.blk s0 H0 scope ce fp) T rfl rfl rfl rfl rfl hr I1 C r hR q
end
theorem okLaw {x qual : Str} {st : Stmt} {f c : Addr} {fd : FuncData} {N ps : List Str} {k : Nat} {sp : Sp} (F : Fun K x qual st f fd) (hc : fd.code = .ref c) (S : FnScope N ps (defScope st)) (len : ∀ vs H Q E, sp vs H Q E → vs.length = ps.length)
    (hbody : ∀ (A : Around) (outer : List Env) (s : Shared) (H : Hp) (vs : List V) (Q : VK) (E : XK), Room k (A.deeper (PyProof.Rows.envOfC qual (defScope st) s.heap.objs.size f (.ref c))) → sp vs H Q E →
      ∃ t, PSs (cxOf CX0 P w K mg base N qual (defScope st) f (.ref c) A outer s H E).nox (defBody st) t ∧ t { nx := fun _ H' => Q .non H', rt := Q } (start N vs) H) : FnOk P w K mg base CX0 (k + 1) f fd ps sp := by
  obtain ⟨oc, od, kV, doc, pm, an, cdv, ct, osl, rfl, lk, hcd⟩ := F.ex
  have hc : cdv = .ref c := hc
  subst hc
  refine fn_of lk hcd S len fun A outer s H vs Q E hr hsp => ?_
  obtain ⟨t, hb, hq⟩ := hbody A outer s H vs Q E hr hsp
  exact ⟨t, hb.nox, hq⟩
def sp_lawT (K : PySem.W.Frag) (Pt : Addr) : Sp := fun vs H Q _ => ∃ (a : Addr) (ns : List Int), vs = [.ref a] ∧ SqL K H a (ns.map V.int) ∧ ns.length ≤ 63 ∧ H Pt = some (.tbl #[]) ∧ ∀ H', Q (.bl true) H'
def sp_wide (C : Addr) : Sp := fun vs H Q E => ∃ i : Int, vs = [.int i] ∧ (i < 1 ∨ 4 < i) ∧ E (.ref C) none H
theorem ok_need_wide (T : TX K mg) : FnOk P w K mg base (L2N.CX P w) 1 T.f_need_wide T.fd_need_wide ["wide"] (sp_wide T.C_BadNumber) := by
  refine okN T.F_need_wide sc_need_wide (fun vs H Q E h => ?_) (fun cdv A outer s H vs Q E hr h => ?_)
  · obtain ⟨_, rfl, _⟩ := h
    rfl
  · obtain ⟨i, rfl, hi, hE⟩ := h
    refine ⟨_, (pss_one (ps_if (pt_not (pt_chain op_le op_le pe_int (pv 0) (pe_glob (v := .int 4) (by rfl) T.c_MOST_WIDE ⟨_, rfl⟩)))
 (pss_one (L2N.ps_raise rfl (L2N.takes_of rfl rfl rfl rfl) (L2N.pmk_own PySem.F.excBase_ValueError T.xI_BadNumber T.g_BadNumber T.kC_BadNumber (raises_own T.bC_BadNumber T.tC_BadNumber) (by rfl))))
 pss_nil)), ?_⟩
    refine ⟨_, rfl, _, _, rfl, rfl, _, rfl, ?_⟩
    by_cases h1 : 1 ≤ i
    · exact ifP (decide_eq_true h1) ⟨_, _, rfl, rfl, _, rfl, ifP (by simp; omega) hE⟩
    · exact ifN (by simpa using h1) ⟨_, rfl, ifP rfl hE⟩
theorem ok_plain (T : TX K mg) : FnOk P w K mg base (L2N.CX P w) 2 T.f_plain T.fd_plain ["wide"] (sp_wide T.C_BadNumber) := by
  refine okN T.F_plain sc_plain (fun vs H Q E h => ?_) (fun cdv A outer s H vs Q E hr h => ?_)
  · obtain ⟨_, rfl, _⟩ := h
    rfl
  · obtain ⟨i, rfl, hi, hE⟩ := h
    refine ⟨_, pss_cons (ps_expr (pe_call (ok_need_wide T) (hr.mono (by decide)) (by rfl) T.g_need_wide T.F_need_wide.kp T.b_need_wide .nil (L2N.passes_call (L2N.takes_of rfl rfl rfl rfl) (fun _ _ _ _ h => h)) (pa_cons (pv 0) pa_nil))) pss_never, ?_⟩
    exact ⟨_, rfl, i, rfl, hi, hE⟩
theorem ok_gray (T : TX K mg) : FnOk P w K mg base (L2N.CX P w) 2 T.f_gray T.fd_gray ["wide"] (sp_wide T.C_BadNumber) := by
  refine okN T.F_gray sc_gray (fun vs H Q E h => ?_) (fun cdv A outer s H vs Q E hr h => ?_)
  · obtain ⟨_, rfl, _⟩ := h
    rfl
  · obtain ⟨i, rfl, hi, hE⟩ := h
    refine ⟨_, pss_cons (ps_expr (pe_call (ok_need_wide T) (hr.mono (by decide)) (by rfl) T.g_need_wide T.F_need_wide.kp T.b_need_wide .nil (L2N.passes_call (L2N.takes_of rfl rfl rfl rfl) (fun _ _ _ _ h => h)) (pa_cons (pv 0) pa_nil))) pss_never, ?_⟩
    exact ⟨_, rfl, i, rfl, hi, hE⟩
def sp_cut (C : Addr) : Sp := fun vs H Q E => ∃ i : Int, vs = [.int i] ∧ (i < 2 ∨ 16 < i ∨ i % 2 = 1) ∧ E (.ref C) none H
theorem ok_cut (T : TX K mg) : FnOk P w K mg base (L2N.CX P w) 2 T.f_cut T.fd_cut ["many"] (sp_cut T.C_BadNumber) := by
  refine okN T.F_cut sc_cut (fun vs H Q E h => ?_) (fun cdv A outer s H vs Q E hr h => ?_)
  · obtain ⟨_, rfl, _⟩ := h
    rfl
  · obtain ⟨i, rfl, hi, hE⟩ := h
    refine ⟨_, pss_cons (ps_if (PW.pt (pw_or (pt_not (pt_chain op_le op_le pe_int (pv 0) (pe_glob (v := .int 16) (by rfl) T.c_MOST_WORDS ⟨_, rfl⟩))) (pw_or1 (pt_cmpR op_eq (pe_op op_mod (pv 0) pe_int) pe_int (nomark _)))))
 (pss_one (L2N.ps_raise rfl (L2N.takes_of rfl rfl rfl rfl) (L2N.pmk_own PySem.F.excBase_ValueError T.xI_BadNumber T.g_BadNumber T.kC_BadNumber (raises_own T.bC_BadNumber T.tC_BadNumber) (by rfl))))
 pss_nil) pss_never, ?_⟩
    refine ⟨_, rfl, _, _, rfl, rfl, _, rfl, ?_⟩
    by_cases h1 : 2 ≤ i
    · refine ifP (decide_eq_true h1) ⟨_, _, rfl, rfl, _, rfl, ?_⟩
      by_cases h2 : i ≤ 16
      · refine ifN (by simpa using h2) ⟨_, rfl, _, _, rfl, rfl, (show (0 : Int) < 2 by decide), rfl, _, rfl, ifP (by simp; omega) hE⟩
      · exact ifP (by simp; omega) hE
    · exact ifN (by simpa using h1) ⟨_, rfl, ifP rfl hE⟩
def Late (a b : Int) : Prop := 0 ≤ a ∧ a ≤ 6 ∧ 0 ≤ b ∧ b ≤ 6
def sp_need_late (C : Addr) : Sp := fun vs H Q E => ∃ a b : Int, vs = [.int a, .int b] ∧ (Late a b → Q .non H) ∧ (¬ Late a b → E (.ref C) none H)
theorem ok_need_late (T : TX K mg) : FnOk P w K mg base (L2N.CX P w) 1 T.f_need_late T.fd_need_late ["one", "other"] (sp_need_late T.C_BadNumber) := by
  refine okN T.F_need_late sc_need_late (fun vs H Q E h => ?_) (fun cdv A outer s H vs Q E hr h => ?_)
  · obtain ⟨_, _, rfl, _⟩ := h
    rfl
  · obtain ⟨a, b, rfl, hQ, hE⟩ := h
    refine ⟨_, (pss_one (ps_if (PW.pt (pw_or (pt_not (pt_chain op_le op_le pe_int (pv 0) (pe_glob (v := .int 6) (by rfl) T.c_MOST_LATE ⟨_, rfl⟩))) (pw_or1 (pt_not (pt_chain op_le op_le pe_int (pv 1) (pe_glob (v := .int 6) (by rfl) T.c_MOST_LATE ⟨_, rfl⟩))))))
 (pss_one (L2N.ps_raise rfl (L2N.takes_of rfl rfl rfl rfl) (L2N.pmk_own PySem.F.excBase_ValueError T.xI_BadNumber T.g_BadNumber T.kC_BadNumber (raises_own T.bC_BadNumber T.tC_BadNumber) (by rfl))))
 pss_nil)), ?_⟩
    refine ⟨_, rfl, _, _, rfl, rfl, _, rfl, ?_⟩
    by_cases h1 : 0 ≤ a
    · refine ifP (decide_eq_true h1) ⟨_, _, rfl, rfl, _, rfl, ?_⟩
      by_cases h2 : a ≤ 6
      · refine ifN (by simpa using h2) ⟨_, rfl, _, _, rfl, rfl, _, rfl, ?_⟩
        by_cases h3 : 0 ≤ b
        · refine ifP (decide_eq_true h3) ⟨_, _, rfl, rfl, _, rfl, ?_⟩
          by_cases h4 : b ≤ 6
          · exact ifN (by simpa using h4) (hQ ⟨h1, h2, h3, h4⟩)
          · exact ifP (by simp; omega) (hE fun h => h4 h.2.2.2)
        · exact ifN (by simpa using h3) ⟨_, rfl, ifP rfl (hE fun h => h3 h.2.2.1)⟩
      · exact ifP (by simp; omega) (hE fun h => h2 h.2.1)
    · exact ifN (by simpa using h1) ⟨_, rfl, ifP rfl (hE fun h => h1 h.1)⟩
def sp_least_room (C : Addr) : Sp := fun vs H Q E => ∃ a b : Int, vs = [.int a, .int b] ∧ ¬ Late a b ∧ E (.ref C) none H
theorem ok_least_room (T : TX K mg) : FnOk P w K mg base (L2N.CX P w) 2 T.f_least_room T.fd_least_room ["one", "other"] (sp_least_room T.C_BadNumber) := by
  refine okN T.F_least_room sc_least_room (fun vs H Q E h => ?_) (fun cdv A outer s H vs Q E hr h => ?_)
  · obtain ⟨_, _, rfl, _⟩ := h
    rfl
  · obtain ⟨a, b, rfl, hn, hE⟩ := h
    refine ⟨_, pss_cons (ps_expr (pe_call (ok_need_late T) (hr.mono (by decide)) (by rfl) T.g_need_late T.F_need_late.kp T.b_need_late .nil (L2N.passes_call (L2N.takes_of rfl rfl rfl rfl) (fun _ _ _ _ h => h)) (pa_cons (pv 0) (pa_cons (pv 1) pa_nil)))) pss_never, ?_⟩
    exact ⟨_, rfl, _, rfl, a, b, rfl, fun h => absurd h hn, fun _ => hE⟩
theorem ok_BadWords___init__ (T : TX K mg) : FnOk P w K mg base CX0 1 T.f_BadWords___init__ T.fd_BadWords___init__ ["self", "at"] (sp_xinit K) := by
  refine T.F_BadWords___init__.ok sc_BadWords___init__ (fun vs H Q E h => ?_) (fun cdv A outer s H vs Q E hr h => ?_)
  · obtain ⟨_, _, _, rfl, _⟩ := h
    rfl
  · obtain ⟨a, C, n, rfl, hC, hat, ha, q⟩ := h
    refine ⟨_, pss_cons (ps_expr (pe_ownInit (x := "CrossError") (by rfl) T.g_CrossError T.ga_CE T.rd_CE T.fi_CE (pa_cons (pv 0) (pa_cons (pv 1) pa_nil)))) (pss_one (ps_ost (pv 0) (pv 1))), ?_⟩
    exact ⟨_, rfl, _, rfl, a, C, [.int n], rfl, (show 1 ≤ 1000 by decide), hC, ha, _, rfl, _, rfl, a, C, rfl, hC, hat, .inl ⟨ha, fun dx h1 h2 => q dx h1 h2⟩⟩
def FT (H : Hp) (j q : Nat) (v : V) : Prop := ∃ τ, v = .ref τ ∧ H τ = some (.tup [nv j, nv q])
theorem ok_gone_through (T : TX K mg) : FnOk P w K mg base CX0 1 T.f_gone_through T.fd_gone_through ["room", "one", "other"] sp_gone_through := by
  refine T.F_gone_through.ok sc_gone_through (fun vs H Q E h => ?_) (fun cdv A outer s H vs Q E hr h => ?_)
  · obtain ⟨_, _, _, _, _, _, rfl, _⟩ := h
    rfl
  · obtain ⟨r, a, b, s0, p0, q0, rfl, hr1, ha, hb, hres, q⟩ := h
    obtain ⟨m, hm⟩ : ∃ m, m = max a b + 1 := ⟨_, rfl⟩
    have hm0 : 0 < m := by omega
    have hm1 : m ≤ 101 := by omega
    refine ⟨_, (pss_cons (ps_set (i := 3) sc_gone_through.nd rfl (by first | exact Or.inl rfl | exact Or.inr rfl) (pe_op op_add (pe_callB (call_max2 rfl) (by rfl) T.z_max (by decide +kernel) (pa_cons (pv 1) (pa_cons (pv 2) pa_nil))) pe_int))
 (pss_cons (ps_set (i := 4) sc_gone_through.nd rfl (by first | exact Or.inl rfl | exact Or.inr rfl) (pe_op op_rep (pe_lst (pa_cons pe_int pa_nil)) (pv 3)))
 (pss_cons (ps_set (i := 5) sc_gone_through.nd rfl (by first | exact Or.inl rfl | exact Or.inr rfl) (pe_op op_rep (pe_lst (pa_cons pe_int pa_nil)) (pv 3)))
 (pss_cons (ps_set (i := 6) sc_gone_through.nd rfl (by first | exact Or.inl rfl | exact Or.inr rfl) pe_dnewT)
 (pss_cons (ps_set (i := 7) sc_gone_through.nd rfl (by first | exact Or.inl rfl | exact Or.inr rfl) pe_int)
 (pss_one (ps_while PassesOwn.never (pt_val pe_bl)
 (pss_cons (ps_set (i := 8) sc_gone_through.nd rfl (by first | exact Or.inl rfl | exact Or.inr rfl) (pe_ix ix_list (pv 5) pe_int (fun _ _ => rfl)))
 (pss_cons (ps_set (i := 9) sc_gone_through.nd rfl (by first | exact Or.inl rfl | exact Or.inr rfl) (pe_callTy call_tuple_of (by rfl) T.z_tuple (by decide +kernel) (pa_cons (pe_lc (own := [("number", 10)]) (g := gName 10) (by rfl) sc_gone_through.nd (pi_list (pe_op op_cat (pv 4) (pv 5))) (blkOk_by (own := [("number", 10)]) (N := ["room", "one", "other", "many", "puts", "gets", "met", "moment", "base", "key", "number", "begin", "put", "goes_in", "goes_out"]) (sc := defScope s_gone_through) (by decide +kernel)) (fun _ _ _ _ _ => pg_name (i := 10) sc_gone_through.nd rfl (Or.inl rfl)) (fun _ _ _ _ _ => pts_nil) (fun _ _ _ _ _ => (pe_op op_sub (pv 10) (pv 8)))) pa_nil)))
 (pss_cons (ps_if (pt_cmp (pc_din (hu_of hr) (pv 9) (pv 6)))
 (pss_cons (ps_asg (pe_dget (hu_of hr) (pv 6) (pv 9) (fun _ _ => rfl)) (pg_tup (by rfl) (pgs_cons (pg_name (i := 11) sc_gone_through.nd rfl (by first | exact Or.inl rfl | exact Or.inr rfl)) (pgs_cons (pg_name (i := 12) sc_gone_through.nd rfl (by first | exact Or.inl rfl | exact Or.inr rfl)) pgs_nil))))
 (pss_one (ps_ret (pe_tup (pa_cons (pv 11) (pa_cons (pe_op op_sub (pv 7) (pv 11)) (pa_cons (pe_op op_sub (pe_ix ix_list (pv 4) (pe_un un_neg pe_int) (fun _ _ => rfl)) (pv 12)) pa_nil)))))))
 pss_nil)
 (pss_cons (ps_dput (hu_of hr) (pv 6) (pv 9) (pe_tup (pa_cons (pv 7) (pa_cons (pe_ix ix_list (pv 4) (pe_un un_neg pe_int) (fun _ _ => rfl)) pa_nil))) rfl)
 (pss_cons (ps_set (i := 13) sc_gone_through.nd rfl (by first | exact Or.inl rfl | exact Or.inr rfl) (pe_cmpR op_lt (pe_op op_sub (pe_ix ix_list (pv 4) (pe_un un_neg pe_int) (fun _ _ => rfl)) (pe_ix ix_list (pv 5) (pe_op op_sub (pe_op op_sub (pv 3) pe_int) (pv 1)) (fun _ _ => rfl))) (pv 0) (nomark _)))
 (pss_cons (ps_set (i := 14) sc_gone_through.nd rfl (by first | exact Or.inl rfl | exact Or.inr rfl) (pe_cmpR op_gt (pe_ix ix_list (pv 4) (pe_op op_sub (pe_op op_sub (pv 3) pe_int) (pv 2)) (fun _ _ => rfl)) (pe_ix ix_list (pv 5) (pe_un un_neg pe_int) (fun _ _ => rfl)) (nomark _)))
 (pss_cons (ps_set (i := 4) sc_gone_through.nd rfl (by first | exact Or.inl rfl | exact Or.inr rfl) (pe_op op_cat (pe_slice sl_list (pv 4) (po_some pe_int) po_none) (pe_lst (pa_cons (pe_op op_add (pe_ix ix_list (pv 4) (pe_un un_neg pe_int) (fun _ _ => rfl)) (pe_callTy call_int1 (by rfl) T.z_int (by decide +kernel) (pa_cons (pv 13) pa_nil))) pa_nil))))
 (pss_cons (ps_set (i := 5) sc_gone_through.nd rfl (by first | exact Or.inl rfl | exact Or.inr rfl) (pe_op op_cat (pe_slice sl_list (pv 5) (po_some pe_int) po_none) (pe_lst (pa_cons (pe_op op_add (pe_ix ix_list (pv 5) (pe_un un_neg pe_int) (fun _ _ => rfl)) (pe_callTy call_int1 (by rfl) T.z_int (by decide +kernel) (pa_cons (pv 14) pa_nil))) pa_nil))))
 (pss_one (ps_set (i := 7) sc_gone_through.nd rfl (by first | exact Or.inl rfl | exact Or.inr rfl) (pe_op op_add (pv 7) pe_int)))))))))))))))))), ?_⟩
    refine ⟨_, rfl, _, rfl, _, _, rfl, _, _, rfl, rfl, ?_⟩
    have em : ((if (b : Int) > (a : Int) then (b : Int) else (a : Int)) + 1) = (m : Int) := by rw [int_max]; omega
    refine ⟨small9 (by simp), fun l1 n1 => ⟨_, rfl, l1, (m : Int), _, rfl, by rw [← em], upd_same, by omega, by omega, small9 (by simp; omega), fun pp np => ?_⟩⟩
    refine ⟨small9 (by simp), fun l2 n2 => ⟨_, rfl, l2, (m : Int), _, rfl, by rw [← em], upd_same, by omega, by omega, small9 (by simp; omega), fun pg ng => ?_⟩⟩
    intro d nd
    have e1 := Ex.new (o := HO.lst [.int 0]) n1
    have e2 := Ex.new (o := HO.lst (List.replicate (m : Int).toNat [V.int 0]).flatten) np
    have e3 := Ex.new (o := HO.lst [.int 0]) n2
    have e4 := Ex.new (o := HO.lst (List.replicate (m : Int).toNat [V.int 0]).flatten) ng
    have e5 := Ex.new (o := HO.dT []) nd
    have eall := (((e1.trans e2).trans e3).trans e4).trans e5
    have z0 : (List.replicate (m : Int).toNat [V.int 0]).flatten = (nwin m [0]).map nv := by
      rw [rep_flat, nwin_zero, List.map_replicate]
      rfl
    refine ⟨fun f σ H' => ∃ (t : Nat) (ps gs : List Nat) (ks : List (List Nat)) (kvs : List (List Key × V)) (pp pg d : Addr) (y8 y9 y10 y11 y12 y13 y14 : Option V),
      σ = [some (nv r), some (nv a), some (nv b), some (nv m), some (.ref pp), some (.ref pg), some (.ref d), some (nv t), y8, y9, y10, y11, y12, y13, y14] ∧ Ex H H' ∧ H d = none ∧
      H' pp = some (.lst ((nwin m ps).map nv)) ∧ H' pg = some (.lst ((nwin m gs).map nv)) ∧ H' d = some (.dT kvs) ∧ Met FT H' ks ps.tail kvs ∧ t = ks.length ∧ t + f = 40 ∧ sgo r a b m f t ps gs ks = some (s0, p0, q0) ∧ SInv ps gs,
      ⟨40, 0, [0], [0], [], [], pp, pg, d, none, none, none, none, none, none, none, ?_, eall, fresh_back (((e1.trans e2).trans e3).trans e4) nd, ?_, ?_, upd_same, rfl, rfl, rfl, by rw [hm]; exact hres, SInv.start⟩, ?_⟩
    · exact congrArg (fun z => [some (nv r), some (nv a), some (nv b), some (V.int z), some (.ref pp), some (.ref pg), some (.ref d), some (nv 0), none, none, none, none, none, none, none]) em
    · rw [((e3.trans e4).trans e5) _ _ upd_same, z0]
    · rw [e5 _ _ upd_same, z0]
    rintro f σ H' ⟨t, ps, gs, ks, kvs, pp, pg, d, y8, y9, y10, y11, y12, y13, y14, rfl, e0, nd, hpp, hpg, hd, hM, ht, htf, hgo, hI⟩
    obtain ⟨f, rfl⟩ := sgo_pos hgo
    refine ⟨true, rfl, iteT ⟨fun σ' H' => ∃ (t : Nat) (ps gs : List Nat) (ks : List (List Nat)) (kvs : List (List Key × V)) (pp pg d : Addr) (y8 y9 y10 y11 y12 y13 y14 : Option V),
      σ' = [some (nv r), some (nv a), some (nv b), some (nv m), some (.ref pp), some (.ref pg), some (.ref d), some (nv t), y8, y9, y10, y11, y12, y13, y14] ∧ Ex H H' ∧ H d = none ∧
      H' pp = some (.lst ((nwin m ps).map nv)) ∧ H' pg = some (.lst ((nwin m gs).map nv)) ∧ H' d = some (.dT kvs) ∧ Met FT H' ks ps.tail kvs ∧ t = ks.length ∧ t + f = 40 ∧ sgo r a b m f t ps gs ks = some (s0, p0, q0) ∧ SInv ps gs, fun σ' H' h => ⟨f, Nat.lt_succ_self f, h⟩, ?_⟩⟩
    have lp : ((nwin m ps).map nv).length = m := by rw [List.length_map, nwin_len]
    have lg : ((nwin m gs).map nv).length = m := by rw [List.length_map, nwin_len]
    -- base = gets[0]
    refine ⟨_, rfl, pg, _, 0, _, rfl, rfl, SqL.of hpg, atI_nat (j := 0) (nwin_at gs hm0), ?_⟩
    -- key
    refine ⟨_, rfl, _, rfl, pp, pg, _, _, rfl, rfl, hpp, hpg, small9 (by rw [lp, lg]; omega), fun o no => ?_⟩
    have eo := Ex.new (o := HO.lst ((nwin m ps).map nv ++ (nwin m gs).map nv)) no
    have so : SqL K (upd H' o (.lst ((nwin m ps).map nv ++ (nwin m gs).map nv))) o ((nwin m ps ++ nwin m gs).map nv) := SqL.of (by rw [upd_same, List.map_append])
    refine ⟨o, rfl, ⟨_, so⟩, fun D nD => lcM (nwin m ps ++ nwin m gs) nv (fun x => nv (x - gs.getD (m - 1) 0)) so (by rw [List.length_append, nwin_len, nwin_len]; omega) nD (fun _ => rfl) (fun x hx H2 e2 Y hY => ?_) (fun H2 e2 h2 => ?_)⟩
    · refine ⟨_, rfl, _, rfl, _, _, rfl, rfl, ?_⟩
      have := hI.base m x hx
      have e : (x : Int) - (gs.getD (m - 1) 0 : Int) = ((x - gs.getD (m - 1) 0 : Nat) : Int) := by omega
      show Y (V.int ((x : Int) - (gs.getD (m - 1 - 0) 0 : Int))) H2
      rw [Nat.sub_zero, e]
      exact hY _ (Ex.refl _)
    refine ⟨D, _, rfl, .inl ⟨SqL.of h2, fun kk nk => ?_⟩⟩
    have h2k : (upd H2 kk (.tup ((nwin m ps ++ nwin m gs).map fun x => nv (x - gs.getD (m - 1) 0)))) kk = some (.tup ((skk (skey m ps gs)).map kV)) := by
      rw [upd_same, skk_kV, skey, List.map_map]
      rfl
    have e3 := (eo.trans e2).trans (Ex.new (o := HO.tup ((nwin m ps ++ nwin m gs).map fun x => nv (x - gs.getD (m - 1) 0))) nk)
    have e03 := e0.trans e3
    have hpp := e3 _ _ hpp
    have hpg := e3 _ _ hpg
    have hd := e3 _ _ hd
    have hM := hM.imp (H' := upd H2 kk (.tup ((nwin m ps ++ nwin m gs).map fun x => nv (x - gs.getD (m - 1) 0)))) (fun j q v ⟨τ, h1, h2⟩ => ⟨τ, h1, e3 _ _ h2⟩)
    generalize upd H2 kk (.tup ((nwin m ps ++ nwin m gs).map fun x => nv (x - gs.getD (m - 1) 0))) = H3 at *
    -- key in met
    refine ⟨_, rfl, _, rfl, d, _, rfl, DGet.t hd h2k, _, rfl, ?_⟩
    cases hi : ixOf (skey m ps gs) ks with
    | some i =>
      obtain ⟨v, hv, τ, rfl, hτ⟩ := hM.some hi
      have hx := sgo_hit hgo hi
      have hlt := (ixOf_some hi).1
      rw [hv]
      refine iteT ?_
      refine ⟨_, rfl, _, rfl, d, .ref τ, rfl, ?_, τ, _, rfl, SqT.of hτ, rfl, _, _, rfl, _, _, rfl, rfl, ?_⟩
      · rw [← hv]
        exact DGet.t hd h2k
      refine ⟨_, rfl, _, rfl, _, rfl, _, _, rfl, rfl, _, rfl, 1, rfl, pp, _, -1, _, rfl, rfl, SqL.of hpp, nwin_last ps hm0, _, rfl, _, _, rfl, rfl, small9 (by simp), fun o' no' => ?_⟩
      refine q o' _ (fresh_back e03 no') (e03.trans (Ex.new no')) ?_
      rw [upd_same]
      have hx1 : s0 = t - 1 - i := congrArg (·.1) hx
      have hx2 : p0 = i + 1 := congrArg (·.2.1) hx
      have hx3 : q0 = ps.getD 0 0 - ps.getD (i + 1) 0 := congrArg (·.2.2) hx
      have hle := mono_getD hI.p 0 (i + 1)
      rw [Nat.zero_add] at hle
      have eq1 : ps.tail.getD i 0 = ps.getD (i + 1) 0 := by cases ps <;> simp
      show some (HO.tup [V.int ((ks.length - 1 - i : Nat) : Int), V.int ((t : Int) - ((ks.length - 1 - i : Nat) : Int)), V.int ((ps.getD 0 0 : Int) - (ps.tail.getD i 0 : Int))]) = some (HO.tup [V.int (s0 : Int), V.int (p0 : Int), V.int (q0 : Int)])
      rw [eq1, hx1, hx2, hx3, show ks.length - 1 - i = t - 1 - i by omega, show (t : Int) - ((t - 1 - i : Nat) : Int) = ((i + 1 : Nat) : Int) by omega, show (ps.getD 0 0 : Int) - (ps.getD (i + 1) 0 : Int) = ((ps.getD 0 0 - ps.getD (i + 1) 0 : Nat) : Int) by omega]
    | none =>
      have hn := ixOf_none hi
      have hgo := sgo_miss hgo hi
      rw [hM.none hn]
      refine iteF ?_
      -- met[key] = (moment, puts[-1])
      refine ⟨_, rfl, _, rfl, 1, rfl, pp, _, -1, _, rfl, rfl, SqL.of hpp, nwin_last ps hm0, small9 (by simp), fun τ nτ => ?_⟩
      have eτ := Ex.new (o := HO.tup [nv t, nv (ps.getD 0 0)]) nτ
      refine ⟨_, rfl, _, rfl, d, _, rfl, DPut.t (eτ _ _ hd) (eτ _ _ h2k) (small1000 (by rw [hM.len]; omega)), ?_⟩
      have ndp : pp ≠ d := ne_of hpp hd (by intro z; cases z)
      have ndg : pg ≠ d := ne_of hpg hd (by intro z; cases z)
      have ndτ : τ ≠ d := (ne_of_none hd nτ).symm
      have hpp5 : (upd (upd H3 τ (.tup [nv t, nv (ps.getD 0 0)])) d (.dT (putK kvs (skk (skey m ps gs)) (.ref τ)))) pp = some (.lst ((nwin m ps).map nv)) := by
        rw [upd_ne ndp]
        exact eτ _ _ hpp
      have hpg5 : (upd (upd H3 τ (.tup [nv t, nv (ps.getD 0 0)])) d (.dT (putK kvs (skk (skey m ps gs)) (.ref τ)))) pg = some (.lst ((nwin m gs).map nv)) := by
        rw [upd_ne ndg]
        exact eτ _ _ hpg
      have hM5 : Met FT (upd (upd H3 τ (.tup [nv t, nv (ps.getD 0 0)])) d (.dT (putK kvs (skk (skey m ps gs)) (.ref τ)))) (skey m ps gs :: ks) ps (putK kvs (skk (skey m ps gs)) (.ref τ)) := by
        have hMi : Met FT (upd (upd H3 τ (.tup [nv t, nv (ps.getD 0 0)])) d (.dT (putK kvs (skk (skey m ps gs)) (.ref τ)))) ks ps.tail kvs := hM.imp fun j q v hv => by
          obtain ⟨τ', h1, h9⟩ := hv
          exact ⟨τ', h1, by rw [upd_ne (ne_of h9 hd (by intro z; cases z))]; exact eτ _ _ h9⟩
        exact hMi.add hn ⟨τ, rfl, by rw [upd_ne ndτ, upd_same, ht]⟩
      have hd5 : (upd (upd H3 τ (.tup [nv t, nv (ps.getD 0 0)])) d (.dT (putK kvs (skk (skey m ps gs)) (.ref τ)))) d = some (.dT (putK kvs (skk (skey m ps gs)) (.ref τ))) := upd_same
      have e05 : Ex H (upd (upd H3 τ (.tup [nv t, nv (ps.getD 0 0)])) d (.dT (putK kvs (skk (skey m ps gs)) (.ref τ)))) := (e03.trans eτ).mut nd
      generalize upd (upd H3 τ (.tup [nv t, nv (ps.getD 0 0)])) d (.dT (putK kvs (skk (skey m ps gs)) (.ref τ))) = H5 at *
      have ea : (m : Int) - 1 - (a : Int) = ((m - 1 - a : Nat) : Int) := by omega
      have eb : (m : Int) - 1 - (b : Int) = ((m - 1 - b : Nat) : Int) := by omega
      have ia : m - 1 - (m - 1 - a) = a := by omega
      have ib : m - 1 - (m - 1 - b) = b := by omega
      -- goes_in, goes_out
      refine ⟨_, rfl, 1, rfl, pp, _, -1, _, rfl, rfl, SqL.of hpp5, nwin_last ps hm0, _, rfl, _, rfl, _, _, rfl, rfl, _, rfl, _, _, rfl, rfl, pg, _, _, _, rfl, rfl, SqL.of hpg5, ats ea (nwin_at gs (by omega)), _, _, rfl, rfl, _, rfl, _, _, rfl, rfl, ?_⟩
      refine ⟨_, rfl, _, rfl, _, _, rfl, rfl, _, rfl, _, _, rfl, rfl, pp, _, _, _, rfl, rfl, SqL.of hpp5, ats eb (nwin_at ps (by omega)), _, rfl, 1, rfl, pg, _, -1, _, rfl, rfl, SqL.of hpg5, nwin_last gs hm0, _, _, rfl, rfl, ?_⟩
      rw [ia, ib]
      -- puts
      refine ⟨_, rfl, 1, rfl, pp, _, rfl, SqL.of hpp5, fun s1 ns1 => ?_⟩
      have es1 := Ex.new (o := HO.lst (cutV ((nwin m ps).map nv) (some 1) none)) ns1
      have en1 : V.int ((ps.getD 0 0 : Int) + (if decide ((ps.getD 0 0 : Int) - (gs.getD a 0 : Int) < (r : Int)) = true then (1 : Int) else 0)) = nv (newP r a ps gs) := by
        rw [b2n]
        unfold newP
        congr 3
        exact propext ⟨fun h => by have := of_decide_eq_true h; omega, fun h => decide_eq_true (by omega)⟩
      refine ⟨_, rfl, 1, rfl, pp, _, -1, _, rfl, rfl, SqL.of (es1 _ _ hpp5), nwin_last ps hm0, _, rfl, .inr ⟨_, rfl, _, _, rfl, rfl, ?_⟩⟩
      dsimp only
      rw [en1]
      refine ⟨small9 (by simp), fun s2 ns2 => ?_⟩
      have es2 := es1.trans (Ex.new (o := HO.lst [nv (newP r a ps gs)]) ns2)
      refine ⟨s1, s2, _, _, rfl, rfl, (Ex.new ns2) _ _ upd_same, upd_same, small9 (by rw [cut1]; simp [nwin_len]; omega), fun pp' npp' => ?_⟩
      have es3 := es2.trans (Ex.new (o := HO.lst (cutV ((nwin m ps).map nv) (some 1) none ++ [nv (newP r a ps gs)])) npp')
      have hpp6 := upd_same (H := (upd (upd H5 s1 (.lst (cutV ((nwin m ps).map nv) (some 1) none))) s2 (.lst [nv (newP r a ps gs)]))) (a := pp') (o := HO.lst (cutV ((nwin m ps).map nv) (some 1) none ++ [nv (newP r a ps gs)]))
      have hpg6 := es3 _ _ hpg5
      have hd6 := es3 _ _ hd5
      have hM6 : Met FT (upd (upd (upd H5 s1 (.lst (cutV ((nwin m ps).map nv) (some 1) none))) s2 (.lst [nv (newP r a ps gs)])) pp' (.lst (cutV ((nwin m ps).map nv) (some 1) none ++ [nv (newP r a ps gs)]))) (skey m ps gs :: ks) ps (putK kvs (skk (skey m ps gs)) (.ref τ)) := hM5.imp fun j q v hv => by
        obtain ⟨τ', h1, h9⟩ := hv
        exact ⟨τ', h1, es3 _ _ h9⟩
      have e06 := e05.trans es3
      generalize upd (upd (upd H5 s1 (.lst (cutV ((nwin m ps).map nv) (some 1) none))) s2 (.lst [nv (newP r a ps gs)])) pp' (.lst (cutV ((nwin m ps).map nv) (some 1) none ++ [nv (newP r a ps gs)])) = H6 at hpp6 hpg6 hd6 hM6 e06 ⊢
      rw [cut1, ← List.map_drop, show [nv (newP r a ps gs)] = [newP r a ps gs].map nv from rfl, ← List.map_append, nwin_new ps _ hm0] at hpp6
      clear es1 es2 es3 hpp5 hpg5 hd5 hM5 e05
      -- gets
      refine ⟨_, rfl, 1, rfl, pg, _, rfl, SqL.of hpg6, fun s3 ns3 => ?_⟩
      have es1 := Ex.new (o := HO.lst (cutV ((nwin m gs).map nv) (some 1) none)) ns3
      have en2 : V.int ((gs.getD 0 0 : Int) + (if decide ((gs.getD 0 0 : Int) < (ps.getD b 0 : Int)) = true then (1 : Int) else 0)) = nv (newG b ps gs) := by
        rw [b2n]
        unfold newG
        congr 3
        exact propext ⟨fun h => by have := of_decide_eq_true h; omega, fun h => decide_eq_true (by omega)⟩
      refine ⟨_, rfl, 1, rfl, pg, _, -1, _, rfl, rfl, SqL.of (es1 _ _ hpg6), nwin_last gs hm0, _, rfl, .inr ⟨_, rfl, _, _, rfl, rfl, ?_⟩⟩
      dsimp only
      rw [en2]
      refine ⟨small9 (by simp), fun s4 ns4 => ?_⟩
      have es2 := es1.trans (Ex.new (o := HO.lst [nv (newG b ps gs)]) ns4)
      refine ⟨s3, s4, _, _, rfl, rfl, (Ex.new ns4) _ _ upd_same, upd_same, small9 (by rw [cut1]; simp [nwin_len]; omega), fun pg' npg' => ?_⟩
      have es3 := es2.trans (Ex.new (o := HO.lst (cutV ((nwin m gs).map nv) (some 1) none ++ [nv (newG b ps gs)])) npg')
      refine ⟨_, rfl, _, _, rfl, rfl, ?_⟩
      refine ⟨t + 1, newP r a ps gs :: ps, newG b ps gs :: gs, skey m ps gs :: ks, _, pp', pg', d, _, _, _, _, _, _, _, rfl, e06.trans es3, nd, es3 _ _ hpp6, ?_, es3 _ _ hd6, ?_, by rw [ht]; rfl, by omega, hgo, hI.step r a b⟩
      · rw [upd_same, cut1, ← List.map_drop, show [nv (newG b ps gs)] = [newG b ps gs].map nv from rfl, ← List.map_append, nwin_new gs _ hm0]
      · exact hM6.imp fun j q v hv => by
          obtain ⟨τ', h1, h9⟩ := hv
          exact ⟨τ', h1, es3 _ _ h9⟩
def sp_steady (C : Addr) : Sp := fun vs H Q E => ∃ r a b : Int, vs = [.int r, .int a, .int b] ∧ (¬ (1 ≤ r ∧ r ≤ 20) ∨ ¬ Late a b → E (.ref C) none H) ∧ ((1 ≤ r ∧ r ≤ 20) ∧ Late a b → r = 20 ∧ a = 6 ∧ b = 6 ∧ ∀ t xs H', Ex H H' → H' t = some (.tup xs) → Q (.ref t) H')
theorem ok_steady (T : TX K mg) : FnOk P w K mg base (L2N.CX P w) 2 T.f_steady T.fd_steady ["room", "one", "other"] (sp_steady T.C_BadNumber) := by
  refine okN T.F_steady sc_steady (fun vs H Q E h => ?_) (fun cdv A outer s H vs Q E hr h => ?_)
  · obtain ⟨_, _, _, rfl, _⟩ := h
    rfl
  · obtain ⟨r, a, b, rfl, hE, hQ⟩ := h
    refine ⟨_, (pss_cons (ps_if (pt_not (pt_chain op_le op_le pe_int (pv 0) (pe_glob (v := .int 20) (by rfl) T.c_MOST_STEADY ⟨_, rfl⟩)))
 (pss_one (L2N.ps_raise rfl (L2N.takes_of rfl rfl rfl rfl) (L2N.pmk_own PySem.F.excBase_ValueError T.xI_BadNumber T.g_BadNumber T.kC_BadNumber (raises_own T.bC_BadNumber T.tC_BadNumber) (by rfl))))
 pss_nil)
 (pss_cons (ps_expr (pe_call (ok_need_late T) (hr.mono (by decide)) (by rfl) T.g_need_late T.F_need_late.kp T.b_need_late .nil (L2N.passes_call (L2N.takes_of rfl rfl rfl rfl) (fun _ _ _ _ h => h)) (pa_cons (pv 1) (pa_cons (pv 2) pa_nil))))
 (pss_one (ps_ret (pe_call (ok_gone_through T) (hr.mono (by decide)) (by rfl) T.g_gone_through T.F_gone_through.kp T.b_gone_through .nil pass0 (pa_cons (pv 0) (pa_cons (pv 1) (pa_cons (pv 2) pa_nil)))))))), ?_⟩
    refine ⟨_, rfl, _, _, rfl, rfl, _, rfl, ?_⟩
    by_cases h1 : 1 ≤ r
    · refine ifP (decide_eq_true h1) ⟨_, _, rfl, rfl, _, rfl, ?_⟩
      by_cases h2 : r ≤ 20
      · refine ifN (by simpa using h2) ⟨_, rfl, _, rfl, a, b, rfl, fun hL => ?_, fun hL => hE (.inr hL)⟩
        obtain ⟨rfl, rfl, rfl, q⟩ := hQ ⟨⟨h1, h2⟩, hL⟩
        obtain ⟨s0, p0, q0, hres⟩ : ∃ s p q, sRes 20 6 6 = some (s, p, q) := by
          cases h : sRes 20 6 6 with
          | none => exact absurd h (by decide +kernel)
          | some x => exact ⟨x.1, x.2.1, x.2.2, rfl⟩
        exact ⟨_, rfl, _, rfl, _, rfl, 20, 6, 6, s0, p0, q0, rfl, by omega, by omega, by omega, hres, fun t H' nt e h => q t _ H' e h⟩
      · exact ifP (by simp; omega) (hE (.inl fun h => h2 h.2))
    · exact ifN (by simpa using h1) ⟨_, rfl, ifP rfl (hE (.inl fun h => h1 h.1))⟩
/-! ### words that are refused -/
theorem inV_strs (z : Str) (l : List Str) : inV (.str z) (l.map V.str) = decide (z ∈ l) := by
  unfold inV
  rw [List.any_map]
  by_cases h : z ∈ l
  · rw [decide_eq_true h, List.any_eq_true]
    exact ⟨z, h, by simp [eqV]⟩
  · rw [decide_eq_false h, List.any_eq_false]
    intro x hx he
    have he : eqV (.str x) (.str z) = true := he
    refine h ?_
    have : x = z := by simpa [eqV] using he
    rw [← this]
    exact hx
theorem flatS (l : List Str) : (l.map V.str).all flatV = true := by
  rw [List.all_eq_true]
  intro x hx
  obtain ⟨w, _, rfl⟩ := List.mem_map.mp hx
  rfl
/-- the word at i is well -/
def GoodAt (zs : List Str) (i : Nat) : Prop := ∀ z z0, zs[i]? = some z → zs[0]? = some z0 → isW z = true ∧ z.length = z0.length ∧ z ∉ zs.take i
/-- the first that is not -/
def BadAt (zs : List Str) (k : Nat) : Prop := (zs = [] ∧ k = 0) ∨ (k < zs.length ∧ ¬ GoodAt zs k ∧ ∀ i, i < k → GoodAt zs i)
def StrsOk (zs : List Str) : Prop := ∀ z ∈ zs, z.length ≤ 1000 ∧ PyData.strOk z = true
/-- BadWords with k -/
def RaisesW (C : Addr) (H : Hp) (E : XK) (k : Nat) : Prop := ∀ (d : Addr) (H' : Hp), H d = none → Ex H H' → H' d = some (.xd [("at", .int (k : Int))]) → E (.ref C) (some d) H'
theorem RaisesW.up {C : Addr} {H H1 : Hp} {E : XK} {k : Nat} (e : Ex H H1) (h : RaisesW C H E k) : RaisesW C H1 E k := fun d H' nd e' hd => h d H' (fresh_back e nd) (e.trans e') hd
def sp_need_words (K : PySem.W.Frag) (C : Addr) : Sp := fun vs H Q E => ∃ (p : Addr) (zs : List Str), vs = [.ref p] ∧ SqL K H p (zs.map V.str) ∧ StrsOk zs ∧ (zs ≠ [] → (∀ i, i < zs.length → GoodAt zs i) → RetV .non H Q) ∧ ∀ k, BadAt zs k → RaisesW C H E k
theorem ok_need_words (T : TX K mg) : FnOk P w K mg base (L2N.CX P w) 3 T.f_need_words T.fd_need_words ["words"] (sp_need_words K T.C_BadWords) := by
  refine okN T.F_need_words sc_need_words (fun vs H Q E h => ?_) (fun cdv A outer s H vs Q E hr h => ?_)
  · obtain ⟨_, _, rfl, _⟩ := h
    rfl
  · obtain ⟨p, zs, rfl, hp, hzs, hQ, hE⟩ := h
    refine ⟨_, (pss_cons (ps_if (pt_cmpR op_eq (pe_callB call_len_seq (by rfl) T.z_len PySem.boot_len (pa_cons (pv 0) pa_nil)) pe_int (nomark _))
 (pss_one (L2N.ps_raise rfl (L2N.takes_of rfl rfl rfl rfl) (pmk_oexN T.ox_BadWords T.iC_BadWords T.tI_BadWords (ok_BadWords___init__ T) (hr.mono (by decide)) T.b_BadWords___init__ pass0 (by rfl) T.g_BadWords (pa_cons pe_int pa_nil))))
 pss_nil)
 (pss_one (ps_for (passes_of rfl) rfl (pi_enum (by rfl) T.z_enumerate (pa_cons (pv 0) pa_nil)) (pg_tup (by rfl) (pgs_cons (pg_name (i := 1) sc_need_words.nd rfl (by first | exact Or.inl rfl | exact Or.inr rfl)) (pgs_cons (pg_name (i := 2) sc_need_words.nd rfl (by first | exact Or.inl rfl | exact Or.inr rfl)) pgs_nil)))
 (pss_one (ps_if (PW.pt (pw_or (pt_not (pt_val (pe_call (ok_is_word T) (hr.mono (by decide)) (by rfl) T.g_is_word T.F_is_word.kp T.b_is_word .nil pass0 (pa_cons (pv 2) pa_nil)))) (pw_or (pt_cmpR op_ne (pe_callB call_len_str (by rfl) T.z_len PySem.boot_len (pa_cons (pv 2) pa_nil)) (pe_callB call_len_str (by rfl) T.z_len PySem.boot_len (pa_cons (pe_ix ix_list (pv 0) pe_int (fun _ _ => rfl)) pa_nil)) (nomark _)) (pw_or1 (pt_cmpR op_in_seq (pv 2) (pe_slice sl_list (pv 0) po_none (po_some (pv 1))) (by rfl))))))
 (pss_one (L2N.ps_raise rfl (L2N.takes_of rfl rfl rfl rfl) (pmk_oexN T.ox_BadWords T.iC_BadWords T.tI_BadWords (ok_BadWords___init__ T) (hr.mono (by decide)) T.b_BadWords___init__ pass0 (by rfl) T.g_BadWords (pa_cons (pv 1) pa_nil))))
 pss_nil))))), ?_⟩
    refine ⟨_, rfl, p, _, rfl, .inl hp, rfl, _, rfl, ?_⟩
    by_cases hne : zs = []
    · subst hne
      exact ifP rfl ⟨(show 1 ≤ 1000 by decide), xinit_raise T.ox_BadWords T.at_BadWords (hE 0 (.inl ⟨rfl, rfl⟩))⟩
    refine ifN (by simp; exact hne) ?_
    refine ⟨_, rfl, p, _, rfl, hp, ?_⟩
    have hpos : 0 < zs.length := List.length_pos_iff.mpr hne
    obtain ⟨z0, hz0⟩ : ∃ z0, zs[0]? = some z0 := ⟨zs[0], List.getElem?_eq_getElem hpos⟩
    have hl0 := (hzs z0 (List.mem_of_getElem? hz0)).1
    refine for_it (walk_enum (K := K) (a := p) (xs := zs.map V.str)) (fun i σ H' => ∃ y z, σ = [some (.ref p), y, z] ∧ Ex H H' ∧ ∀ j, j < i → GoodAt zs j) ⟨_, _, rfl, Ex.refl _, fun j hj => absurd hj (Nat.not_lt_zero _)⟩ (fun i σ H' _ ⟨_, _, _, e, _⟩ => ex_l e hp) ?_ ?_
    · rintro i x σ H1 H2 hi ⟨y, z, rfl, e1, hgood⟩ ⟨t, u, v, rfl, nt, rfl, hu, hv⟩
      obtain rfl := Option.some.inj hu
      have hv : (zs.map V.str)[i]? = some v := hv
      obtain ⟨z, hz, rfl⟩ : ∃ z, zs[i]? = some z ∧ V.str z = v := by
        rw [List.getElem?_map] at hv
        cases e : zs[i]? with
        | none => rw [e] at hv; cases hv
        | some y => rw [e] at hv; exact ⟨y, rfl, Option.some.inj hv⟩
      have hil : i < zs.length := (List.getElem?_eq_some_iff.mp hz).1
      obtain ⟨hzl, hzo⟩ := hzs z (List.mem_of_getElem? hz)
      have e2 := e1.trans (Ex.new (o := HO.tup [.int (i : Nat), .str z]) nt)
      have bad : ¬ GoodAt zs i → BadAt zs i := fun h => .inr ⟨hil, h, hgood⟩
      refine ⟨t, _, rfl, SqT.of upd_same, rfl, _, _, rfl, _, _, rfl, rfl, ?_⟩
      refine ⟨_, rfl, z, rfl, hzl, hzo, fun H3 e3 => ?_⟩
      have e13 := e2.trans e3
      cases hw : isW z with
      | false => exact ⟨false, rfl, ifP rfl ⟨_, rfl, (show 1 ≤ 1000 by decide), xinit_raise T.ox_BadWords T.at_BadWords ((hE i (bad fun h => by rw [(h z z0 hz hz0).1] at hw; cases hw)).up e13)⟩⟩
      | true =>
        refine ⟨true, rfl, ifN (by simp) ?_⟩
        refine ⟨_, rfl, z, rfl, small9 hzl, _, rfl, p, _, 0, .str z0, rfl, rfl, ex_l e13 hp, atI_nat (j := 0) (by rw [List.getElem?_map, hz0]; rfl), z0, rfl, small9 hl0, rfl, _, rfl, ?_⟩
        by_cases hl : z.length = z0.length
        · refine ifN (by rw [decide_eq_true (by rw [hl])]; simp) ?_
          refine ⟨_, rfl, _, rfl, _, rfl, i, rfl, p, _, rfl, ex_l e13 hp, fun o no => ⟨o, _, rfl, .inl (SqL.of upd_same), rfl, ?_, _, rfl, ?_⟩⟩
          · rw [cutTake, ← List.map_take]
            exact flatS _
          · rw [cutTake, ← List.map_take]
            have e14 := e13.trans (Ex.new (o := HO.lst ((zs.take i).map V.str)) no)
            by_cases hm : z ∈ zs.take i
            · refine ifP ?_ ⟨_, rfl, (show 1 ≤ 1000 by decide), xinit_raise T.ox_BadWords T.at_BadWords ((hE i (bad fun h => (h z z0 hz hz0).2.2 hm)).up e14)⟩
              show inV (.str z) ((zs.take i).map V.str) = true
              rw [inV_strs, decide_eq_true hm]
            · refine ifN ?_ ⟨_, _, rfl, e14, fun j hj => ?_⟩
              · show ¬ inV (.str z) ((zs.take i).map V.str) = true
                rw [inV_strs, decide_eq_false hm]
                simp
              · rcases Nat.lt_succ_iff_lt_or_eq.mp hj with hj | rfl
                · exact hgood j hj
                · intro z' z0' h1 h2
                  rw [hz] at h1
                  rw [hz0] at h2
                  cases h1
                  cases h2
                  exact ⟨hw, hl, hm⟩
        · refine ifP ?_ ⟨_, rfl, (show 1 ≤ 1000 by decide), xinit_raise T.ox_BadWords T.at_BadWords ((hE i (bad fun h => hl (h z z0 hz hz0).2.1)).up e13)⟩
          rw [decide_eq_false (fun h => hl (by injection h with h; exact Int.ofNat.inj h))]
          rfl
    · rintro σ H' ⟨y, z, rfl, e, hgood⟩
      rw [List.length_map] at hgood
      exact hQ hne hgood _ e
def sp_torn (C : Addr) : Sp := fun vs H Q E => ∃ a b : Str, vs = [.str a, .str b] ∧ StrsOk [a, b] ∧ ((isW a = false ∧ RaisesW C H E 0) ∨ (isW a = true ∧ (isW b = false ∨ a.length ≠ b.length) ∧ RaisesW C H E 1))
theorem ok_torn (T : TX K mg) : FnOk P w K mg base (L2N.CX P w) 3 T.f_torn T.fd_torn ["one", "other"] (sp_torn T.C_BadWords) := by
  refine okN T.F_torn sc_torn (fun vs H Q E h => ?_) (fun cdv A outer s H vs Q E hr h => ?_)
  · obtain ⟨_, _, rfl, _⟩ := h
    rfl
  · obtain ⟨a, b, rfl, hS, h⟩ := h
    obtain ⟨ha1, ha2⟩ := hS a (by simp)
    obtain ⟨hb1, hb2⟩ := hS b (by simp)
    refine ⟨_, pss_cons (ps_if (pt_not (pt_val (pe_call (ok_is_word T) (hr.mono (by decide)) (by rfl) T.g_is_word T.F_is_word.kp T.b_is_word .nil pass0 (pa_cons (pv 0) pa_nil))))
 (pss_one (L2N.ps_raise rfl (L2N.takes_of rfl rfl rfl rfl) (pmk_oexN T.ox_BadWords T.iC_BadWords T.tI_BadWords (ok_BadWords___init__ T) (hr.mono (by decide)) T.b_BadWords___init__ pass0 (by rfl) T.g_BadWords (pa_cons pe_int pa_nil))))
 pss_nil) (pss_cons (ps_if (PW.pt (pw_or (pt_not (pt_val (pe_call (ok_is_word T) (hr.mono (by decide)) (by rfl) T.g_is_word T.F_is_word.kp T.b_is_word .nil pass0 (pa_cons (pv 1) pa_nil)))) (pw_or1 (pt_cmpR op_ne (pe_callB call_len_str (by rfl) T.z_len PySem.boot_len (pa_cons (pv 0) pa_nil)) (pe_callB call_len_str (by rfl) T.z_len PySem.boot_len (pa_cons (pv 1) pa_nil)) (nomark _)))))
 (pss_one (L2N.ps_raise rfl (L2N.takes_of rfl rfl rfl rfl) (pmk_oexN T.ox_BadWords T.iC_BadWords T.tI_BadWords (ok_BadWords___init__ T) (hr.mono (by decide)) T.b_BadWords___init__ pass0 (by rfl) T.g_BadWords (pa_cons pe_int pa_nil))))
 pss_nil) pss_never), ?_⟩
    refine ⟨_, rfl, a, rfl, ha1, ha2, fun H1 e1 => ?_⟩
    rcases h with ⟨h1, hE⟩ | ⟨h1, h2, hE⟩
    · rw [h1]
      exact ⟨false, rfl, ifP rfl ⟨(show 1 ≤ 1000 by decide), xinit_raise T.ox_BadWords T.at_BadWords (hE.up e1)⟩⟩
    · rw [h1]
      refine ⟨true, rfl, ifN (by simp) ⟨_, rfl, b, rfl, hb1, hb2, fun H2 e2 => ?_⟩⟩
      cases hb : isW b with
      | false => exact ⟨false, rfl, ifP rfl ⟨(show 1 ≤ 1000 by decide), xinit_raise T.ox_BadWords T.at_BadWords (hE.up (e1.trans e2))⟩⟩
      | true =>
        have hl : a.length ≠ b.length := by
          rcases h2 with h2 | h2
          · rw [hb] at h2
            cases h2
          · exact h2
        refine ⟨true, rfl, ifN (by simp) ⟨_, rfl, a, rfl, small9 ha1, _, rfl, b, rfl, small9 hb1, rfl, _, rfl, ifP ?_ ⟨(show 1 ≤ 1000 by decide), xinit_raise T.ox_BadWords T.at_BadWords (hE.up (e1.trans e2))⟩⟩⟩
        rw [decide_eq_false (fun h => hl (by injection h with h; exact Int.ofNat.inj h))]
        rfl
def sp_first_torn (K : PySem.W.Frag) (C : Addr) : Sp := fun vs H Q E => ∃ (p : Addr) (zs : List Str), vs = [.ref p] ∧ SqL K H p (zs.map V.str) ∧ StrsOk zs ∧ (zs ≠ [] → ¬ ∀ i, i < zs.length → GoodAt zs i) ∧ ∀ k, BadAt zs k → RaisesW C H E k
theorem ok_first_torn (T : TX K mg) : FnOk P w K mg base (L2N.CX P w) 4 T.f_first_torn T.fd_first_torn ["words"] (sp_first_torn K T.C_BadWords) := by
  refine okN T.F_first_torn sc_first_torn (fun vs H Q E h => ?_) (fun cdv A outer s H vs Q E hr h => ?_)
  · obtain ⟨_, _, rfl, _⟩ := h
    rfl
  · obtain ⟨p, zs, rfl, hp, hzs, hN, hE⟩ := h
    refine ⟨_, pss_cons (ps_expr (pe_call (ok_need_words T) (hr.mono (by decide)) (by rfl) T.g_need_words T.F_need_words.kp T.b_need_words .nil (L2N.passes_call (L2N.takes_of rfl rfl rfl rfl) (fun _ _ _ _ h => h)) (pa_cons (pv 0) pa_nil))) pss_never, ?_⟩
    exact ⟨_, rfl, p, zs, rfl, hp, hzs, fun h1 h2 => absurd h2 (hN h1), hE⟩
/-- a lane that is no lane -/
def NoLane (r : Int) (zs : List Str) : Prop := ¬ (1 ≤ r ∧ r ≤ 6) ∨ (zs ≠ [] ∧ (∀ i, i < zs.length → GoodAt zs i) ∧ (zs.length : Int) ≠ 2 * r)
def IsLane (r : Int) (zs : List Str) : Prop := (1 ≤ r ∧ r ≤ 6) ∧ zs ≠ [] ∧ (∀ i, i < zs.length → GoodAt zs i) ∧ (zs.length : Int) = 2 * r
/-- the lane's parts in a heap, and what is raised if it is none -/
structure LaneX (K : PySem.W.Frag) (CL CW : Addr) (l pw : Addr) (r : Int) (zs : List Str) (H : Hp) (E : XK) : Prop where
  lane : H l = some (.tup [.int r, .ref pw])
  words : SqL K H pw (zs.map V.str)
  ok : StrsOk zs
  len : zs.length ≤ 1000
  noL : NoLane r zs → ∀ H', Ex H H' → E (.ref CL) none H'
  noW : 1 ≤ r → r ≤ 6 → ∀ k, BadAt zs k → RaisesW CW H E k
def sp_need_lane (K : PySem.W.Frag) (CL CW : Addr) : Sp := fun vs H Q E => ∃ (l pw : Addr) (r : Int) (zs : List Str), vs = [.ref l] ∧ LaneX K CL CW l pw r zs H E ∧ (IsLane r zs → RetV .non H Q)
theorem ok_need_lane (T : TX K mg) : FnOk P w K mg base (L2N.CX P w) 4 T.f_need_lane T.fd_need_lane ["lane"] (sp_need_lane K T.C_BadLane T.C_BadWords) := by
  refine okN T.F_need_lane sc_need_lane (fun vs H Q E h => ?_) (fun cdv A outer s H vs Q E hr h => ?_)
  · obtain ⟨_, _, _, _, rfl, _⟩ := h
    rfl
  · obtain ⟨l, pw, r, zs, rfl, X, q⟩ := h
    refine ⟨_, (pss_cons (ps_asg (pv 0) (pg_tup (by rfl) (pgs_cons (pg_name (i := 1) sc_need_lane.nd rfl (by first | exact Or.inl rfl | exact Or.inr rfl)) (pgs_cons (pg_name (i := 2) sc_need_lane.nd rfl (by first | exact Or.inl rfl | exact Or.inr rfl)) pgs_nil))))
 (pss_cons (ps_if (pt_not (pt_chain op_le op_le pe_int (pv 1) (pe_glob (v := .int 6) (by rfl) T.c_MOST_ROOM ⟨_, rfl⟩)))
 (pss_one (L2N.ps_raise rfl (L2N.takes_of rfl rfl rfl rfl) (L2N.pmk_own PySem.F.excBase_ValueError T.xI_BadLane T.g_BadLane T.kC_BadLane (raises_own T.bC_BadLane T.tC_BadLane) (by rfl))))
 pss_nil)
 (pss_cons (ps_expr (pe_call (ok_need_words T) (hr.mono (by decide)) (by rfl) T.g_need_words T.F_need_words.kp T.b_need_words .nil (L2N.passes_call (L2N.takes_of rfl rfl rfl rfl) (fun _ _ _ _ h => h)) (pa_cons (pv 2) pa_nil)))
 (pss_one (ps_if (pt_cmpR op_ne (pe_callB call_len (by rfl) T.z_len PySem.boot_len (pa_cons (pv 2) pa_nil)) (pe_op op_mul pe_int (pv 1)) (nomark _))
 (pss_one (L2N.ps_raise rfl (L2N.takes_of rfl rfl rfl rfl) (L2N.pmk_own PySem.F.excBase_ValueError T.xI_BadLane T.g_BadLane T.kC_BadLane (raises_own T.bC_BadLane T.tC_BadLane) (by rfl))))
 pss_nil))))), ?_⟩
    refine ⟨_, rfl, l, _, rfl, SqT.of X.lane, rfl, _, _, rfl, _, _, rfl, rfl, ?_⟩
    refine ⟨_, rfl, _, _, rfl, rfl, _, rfl, ?_⟩
    by_cases h1 : 1 ≤ r
    · refine ifP (decide_eq_true h1) ⟨_, _, rfl, rfl, _, rfl, ?_⟩
      by_cases h2 : r ≤ 6
      · refine ifN (by simpa using h2) ?_
        refine ⟨_, rfl, pw, zs, rfl, X.words, X.ok, fun hne hg => fun H1 e1 => ?_, X.noW h1 h2⟩
        refine ⟨_, rfl, _, _, rfl, .inl ⟨_, ex_l e1 X.words, rfl⟩, _, rfl, _, _, rfl, rfl, .inl ⟨by decide, by decide⟩, rfl, _, rfl, ?_⟩
        by_cases hl : (zs.length : Int) = 2 * r
        · refine ifN ?_ (q ⟨⟨h1, h2⟩, hne, hg, hl⟩ _ e1)
          rw [List.length_map, hl]
          simp
        · refine ifP ?_ (X.noL (.inr ⟨hne, hg, hl⟩) _ e1)
          rw [List.length_map, decide_eq_false (fun h => hl (by injection h))]
          rfl
      · exact ifP (by simp; omega) (X.noL (.inl fun h => h2 h.2) _ (Ex.refl _))
    · exact ifN (by simpa using h1) ⟨_, rfl, ifP rfl (X.noL (.inl fun h => h1 h.1) _ (Ex.refl _))⟩
def sp_fault (K : PySem.W.Frag) (CL CW : Addr) : Sp := fun vs H Q E => ∃ (l pw : Addr) (r : Int) (zs : List Str), vs = [.ref l] ∧ LaneX K CL CW l pw r zs H E ∧ ¬ IsLane r zs
theorem ok_fault (T : TX K mg) : FnOk P w K mg base (L2N.CX P w) 5 T.f_fault T.fd_fault ["lane"] (sp_fault K T.C_BadLane T.C_BadWords) := by
  refine okN T.F_fault sc_fault (fun vs H Q E h => ?_) (fun cdv A outer s H vs Q E hr h => ?_)
  · obtain ⟨_, _, _, _, rfl, _⟩ := h
    rfl
  · obtain ⟨l, pw, r, zs, rfl, X, hN⟩ := h
    refine ⟨_, pss_cons (ps_expr (pe_call (ok_need_lane T) (hr.mono (by decide)) (by rfl) T.g_need_lane T.F_need_lane.kp T.b_need_lane .nil (L2N.passes_call (L2N.takes_of rfl rfl rfl rfl) (fun _ _ _ _ h => h)) (pa_cons (pv 0) pa_nil))) pss_never, ?_⟩
    exact ⟨_, rfl, l, pw, r, zs, rfl, X, fun h => absurd h hN⟩
def sp_Lane___init__ (C : Addr) : Sp := fun vs H Q _ => ∃ (x dx : Addr) (r : Nat) (pw : Addr), vs = [.ref x, .int (r : Int), .ref pw] ∧ H x = some (.ins C dx []) ∧ r ≤ 6 ∧ ∀ H' pb, H pb = none → Exd x H H' → H' x = some (.ins C dx (FS r pw pb ⟨0, 0, 0, 0⟩ 0 .non)) → H' pb = some (.lst (List.replicate r .non)) → Q .non H'
theorem ok_Lane___init__ (T : TX K mg) : FnOk P w K mg base CX0 1 T.f_Lane___init__ T.fd_Lane___init__ ["self", "room", "words"] (sp_Lane___init__ T.C_Lane) := by
  refine T.F_Lane___init__.ok sc_Lane___init__ (fun vs H Q E h => ?_) (fun cdv A outer s H vs Q E hr h => ?_)
  · obtain ⟨_, _, _, _, rfl, _⟩ := h
    rfl
  · obtain ⟨x, dx, r, pw, rfl, hx, r6, q⟩ := h
    refine ⟨_, (pss_cons (ps_fld (pv 0) (pv 1) rfl)
 (pss_cons (ps_fld (pv 0) (pv 2) rfl)
 (pss_cons (ps_fld (pv 0) pe_int rfl)
 (pss_cons (ps_fld (pv 0) pe_int rfl)
 (pss_cons (ps_fld (pv 0) pe_int rfl)
 (pss_cons (ps_fld (pv 0) pe_int rfl)
 (pss_cons (ps_fld (pv 0) (pe_lc (own := [("box", 3)]) (g := gName 3) (by rfl) sc_Lane___init__.nd (pi_range1 (by rfl) T.z_range (pa_cons (pv 1) pa_nil)) (blkOk_by (own := [("box", 3)]) (N := ["self", "room", "words", "box"]) (sc := defScope s_Lane___init__) (by decide +kernel)) (fun _ _ _ _ _ => pg_name (i := 3) sc_Lane___init__.nd rfl (Or.inl rfl)) (fun _ _ _ _ _ => pts_nil) (fun _ _ _ _ _ => pe_non)) rfl)
 (pss_cons (ps_fld (pv 0) pe_int rfl)
 (pss_one (ps_fld (pv 0) pe_non rfl)))))))))), ?_⟩
    refine ⟨_, rfl, _, rfl, x, _, dx, _, rfl, hx, T.cl_Lane, T.na_room, by decide, _, rfl, _, rfl, x, _, dx, _, rfl, upd_same, T.cl_Lane, T.na_words, by show 1 < 1000; decide, _, rfl, x, _, dx, _, rfl, upd_same, T.cl_Lane, T.na_put, by show 2 < 1000; decide, _, rfl, x, _, dx, _, rfl, upd_same, T.cl_Lane, T.na_got, by show 3 < 1000; decide, _, rfl, x, _, dx, _, rfl, upd_same, T.cl_Lane, T.na_seen_got, by show 4 < 1000; decide, _, rfl, x, _, dx, _, rfl, upd_same, T.cl_Lane, T.na_seen_put, by show 5 < 1000; decide, ?_⟩
    have e1 := (((((((Exd.refl x H).upd (o := .ins T.C_Lane dx (putF "room" (.int (r : Int)) []))).upd (o := .ins T.C_Lane dx (putF "words" (.ref pw) (putF "room" (.int (r : Int)) [])))).upd (o := .ins T.C_Lane dx (putF "put" (.int 0) (putF "words" (.ref pw) (putF "room" (.int (r : Int)) []))))).upd (o := .ins T.C_Lane dx (putF "got" (.int 0) (putF "put" (.int 0) (putF "words" (.ref pw) (putF "room" (.int (r : Int)) [])))))).upd (o := .ins T.C_Lane dx (putF "seen_got" (.int 0) (putF "got" (.int 0) (putF "put" (.int 0) (putF "words" (.ref pw) (putF "room" (.int (r : Int)) []))))))).upd (o := .ins T.C_Lane dx (putF "seen_put" (.int 0) (putF "seen_got" (.int 0) (putF "got" (.int 0) (putF "put" (.int 0) (putF "words" (.ref pw) (putF "room" (.int (r : Int)) []))))))))
    refine ⟨_, rfl, _, rfl, lo62 _, hi62 (by omega), fun D nD => lcR r (fun _ => .non) rfl (by omega) nD (fun _ => rfl) (fun i hi H3 e3 Y hY => hY _ (Ex.refl _)) (fun H3 e3 h3 => ?_)⟩
    have hx3 := e3 _ _ upd_same
    have nD0 : H D = none := e1.fresh nD ((ne_of_none upd_same nD).symm)
    have e13 := e1.trans (Exd.of e3)
    have nDx : D ≠ x := (ne_of_none upd_same nD).symm
    refine ⟨_, rfl, x, _, dx, _, rfl, hx3, T.cl_Lane, T.na_boxes, by show 6 < 1000; decide, _, rfl, x, _, dx, _, rfl, upd_same, T.cl_Lane, T.na_many, by show 7 < 1000; decide, _, rfl, x, _, dx, _, rfl, upd_same, T.cl_Lane, T.na_fault, by show 8 < 1000; decide, ?_⟩
    refine q _ D nD0 e13.upd.upd.upd ?_ ?_
    · rw [upd_same]
      rfl
    · rw [upd_ne nDx, upd_ne nDx, upd_ne nDx, h3]
      congr 2
      rw [List.map_const', List.length_range]
def sp_played (K : PySem.W.Frag) (CL CW : Addr) : Sp := fun vs H Q E => ∃ (l pw pe : Addr) (r : Int) (zs : List Str) (es : List V), vs = [.ref l, .ref pe] ∧ LaneX K CL CW l pw r zs H E ∧ H pe = some (.lst es) ∧ (IsLane r zs → es = [] ∧ RetL [] H Q)
theorem ok_played (T : TX K mg) : FnOk P w K mg base (L2N.CX P w) 5 T.f_played T.fd_played ["lane", "events"] (sp_played K T.C_BadLane T.C_BadWords) := by
  refine okN T.F_played sc_played (fun vs H Q E h => ?_) (fun cdv A outer s H vs Q E hr h => ?_)
  · obtain ⟨_, _, _, _, _, _, rfl, _⟩ := h
    rfl
  · obtain ⟨l, pw, pe, r, zs, es, rfl, X, he, hN⟩ := h
    refine ⟨_, pss_cons (ps_expr (pe_call (ok_need_lane T) (hr.mono (by decide)) (by rfl) T.g_need_lane T.F_need_lane.kp T.b_need_lane .nil (L2N.passes_call (L2N.takes_of rfl rfl rfl rfl) (fun _ _ _ _ h => h)) (pa_cons (pv 0) pa_nil))) (pss_cons (ps_set (i := 2) sc_played.nd rfl (by first | exact Or.inl rfl | exact Or.inr rfl) (pe_make T.mk_Lane (ok_Lane___init__ T) (hr.mono (by decide)) (by rfl) T.g_Lane T.b_Lane___init__ .nil pass0 (pa_cons (pe_ix ix_tup (pv 0) pe_int (fun _ _ => rfl)) (pa_cons (pe_ix ix_tup (pv 0) pe_int (fun _ _ => rfl)) pa_nil)))) (pss_cons (ps_set (i := 3) sc_played.nd rfl (by first | exact Or.inl rfl | exact Or.inr rfl) (pe_lst pa_nil)) (pss_cons (ps_for (passes_of rfl) rfl (pi_enum (by rfl) T.z_enumerate (pa_cons (pv 1) pa_nil)) (pg_tup (by rfl) (pgs_cons (pg_name (i := 4) sc_played.nd rfl (by first | exact Or.inl rfl | exact Or.inr rfl)) (pgs_cons (pg_name (i := 5) sc_played.nd rfl (by first | exact Or.inl rfl | exact Or.inr rfl)) pgs_nil))) pss_never) (pss_one (ps_ret (pv 3)))))), ?_⟩
    refine ⟨_, rfl, l, pw, r, zs, rfl, X, fun hL => fun H1 e1 => ?_⟩
    obtain ⟨rfl, q⟩ := hN hL
    obtain ⟨⟨r1, r6⟩, _⟩ := hL
    obtain ⟨r, rfl⟩ : ∃ n : Nat, r = (n : Int) := ⟨r.toNat, by omega⟩
    refine ⟨_, rfl, l, _, _, _, rfl, rfl, SqT.of (e1 _ _ X.lane), rfl, _, rfl, l, _, _, _, rfl, rfl, SqT.of (e1 _ _ X.lane), rfl, fun x dx nx ndx ne => ?_⟩
    have e2 : Ex H1 (upd (upd H1 dx (.own x)) x (.ins T.C_Lane dx [])) := (Ex.new ndx).trans (Ex.new (by rw [upd_ne ne.symm]; exact nx))
    refine ⟨x, dx, r, pw, rfl, upd_same, by omega, fun H3 pb npb e3 hx3 hb3 => ⟨rfl, ?_⟩⟩
    have e13 : Ex H1 H3 := fun a o h => e3 a o (e2 a o h) (ne_of_none h nx)
    have eH3 := e1.trans e13
    refine ⟨small9 (by simp), fun pf npf => ?_⟩
    have e4 := eH3.trans (Ex.new (o := HO.lst []) npf)
    refine ⟨_, rfl, pe, _, rfl, SqL.of (e4 _ _ he), ?_⟩
    refine for_it (walk_enum (K := K) (a := pe) (xs := [])) (fun i σ H' => σ = [some (.ref l), some (.ref pe), some (.ref x), some (.ref pf), none, none] ∧ Ex H H' ∧ H' pf = some (.lst [])) ⟨rfl, e4, upd_same⟩ (fun i σ H' _ h => SqL.of (h.2.1 _ _ he)) ?_ ?_
    · rintro i v σ H4 H5 hi _ _
      exact absurd hi (Nat.not_lt_zero _)
    · rintro σ H4 ⟨rfl, e5, h5⟩
      exact ⟨_, rfl, q pf _ (fresh_back eH3 npf) e5 h5⟩
theorem ok_got (T : TX K mg) : FnOk P w K mg base (L2N.CX P w) 6 T.f_got T.fd_got ["lane", "events"] (sp_played K T.C_BadLane T.C_BadWords) := by
  refine okN T.F_got sc_got (fun vs H Q E h => ?_) (fun cdv A outer s H vs Q E hr h => ?_)
  · obtain ⟨_, _, _, _, _, _, rfl, _⟩ := h
    rfl
  · obtain ⟨l, pw, pe, r, zs, es, rfl, X, he, hN⟩ := h
    refine ⟨_, (pss_cons (ps_set (i := 2) sc_got.nd rfl (by first | exact Or.inl rfl | exact Or.inr rfl) (pe_call (ok_played T) (hr.mono (by decide)) (by rfl) T.g_played T.F_played.kp T.b_played .nil (L2N.passes_call (L2N.takes_of rfl rfl rfl rfl) (fun _ _ _ _ h => h)) (pa_cons (pv 0) (pa_cons (pv 1) pa_nil))))
 (pss_one (ps_ret (pe_lc (own := [("at", 3)]) (g := gName 3) (by rfl) sc_got.nd (pi_range1 (by rfl) T.z_range (pa_cons (pe_callB call_len_seq (by rfl) T.z_len PySem.boot_len (pa_cons (pv 2) pa_nil)) pa_nil)) (blkOk_by (own := [("at", 3)]) (N := ["lane", "events", "told", "at"]) (sc := defScope s_got) (by decide +kernel)) (fun _ _ _ _ _ => pg_name (i := 3) sc_got.nd rfl (Or.inl rfl)) (fun _ _ _ _ _ => (pts_one (PW.pt (pw_and (pt_cmpR op_eq (pe_ix (r := rIx K) ix_seq (pe_ix (r := rIxL K) ix_list (pv 1) (pv 3) (fun _ _ => rfl)) pe_int (fun _ _ => rfl)) pe_str (nomark _)) (pw_and1 (pt_cmpR (r := rIn K true) op_notIn_seq (pe_ix (r := rIxL K) ix_list (pv 2) (pv 3) (fun _ _ => rfl)) (pe_tup (pa_cons pe_non (pa_cons (pe_glob (v := .str "under") (by rfl) T.c_UNDER ⟨_, rfl⟩) pa_nil))) (by rfl))))))) (fun _ _ _ _ _ => (pe_ix (r := rIxL K) ix_list (pv 2) (pv 3) (fun _ _ => rfl))))))), ?_⟩
    refine ⟨_, rfl, _, rfl, l, pw, pe, r, zs, es, rfl, X, he, fun hL => ⟨(hN hL).1, fun pt H1 npt e1 hpt => ?_⟩⟩
    have q := (hN hL).2
    refine ⟨_, rfl, pt, _, rfl, .inl (SqL.of hpt), _, rfl, lo62 _, hi62 (by simp), fun D nD => lcRF 0 (fun _ => true) (fun _ => .non) rfl (by omega) nD (fun _ => rfl) (fun i hi => absurd hi (Nat.not_lt_zero _)) (fun H3 e3 h3 => q D _ (fresh_back e1 nD) (e1.trans e3) h3)⟩
/-! ### a word put in that is refused -/
theorem badAt_ins {ws : List (List Bool)} {n : Nat} (hw : ∀ w ∈ ws, w.length = n) (n1 : 1 ≤ n) (n4 : n ≤ 4) (nd : ws.Nodup) {k : Nat} (hk : k ≤ ws.length) {y : Str} {tl : List Str} (h : isW y = false ∨ (1 ≤ k ∧ (y.length ≠ n ∨ y ∈ (ws.take k).map wd))) :
    BadAt ((ws.take k).map wd ++ y :: tl) k := by
  have hlk : ((ws.take k).map wd).length = k := by rw [List.length_map, List.length_take]; omega
  have hat : ((ws.take k).map wd ++ y :: tl)[k]? = some y := by
    rw [List.getElem?_append_right (by omega), hlk, Nat.sub_self]
    rfl
  have hpre : ∀ i, i < k → ∃ u, ws[i]? = some u ∧ ((ws.take k).map wd ++ y :: tl)[i]? = some (wd u) := fun i hi => by
    have hil : i < ws.length := by omega
    refine ⟨ws[i], List.getElem?_eq_getElem hil, ?_⟩
    rw [List.getElem?_append_left (by omega), List.getElem?_map, List.getElem?_take_of_lt hi, List.getElem?_eq_getElem hil]
    rfl
  have htk : ∀ i, i ≤ k → ((ws.take k).map wd ++ y :: tl).take i = (ws.take i).map wd := fun i hi => by
    rw [List.take_append_of_le_length (by omega), ← List.map_take, List.take_take, Nat.min_eq_left hi]
  refine .inr ⟨(List.getElem?_eq_some_iff.mp hat).1, fun hg => ?_, fun i hi z z0 hz hz0 => ?_⟩
  · obtain ⟨z0, hz0⟩ : ∃ z0, ((ws.take k).map wd ++ y :: tl)[0]? = some z0 := by
      cases k with
      | zero => exact ⟨y, hat⟩
      | succ k =>
        obtain ⟨u, _, h2⟩ := hpre 0 (by omega)
        exact ⟨_, h2⟩
    obtain ⟨g1, g2, g3⟩ := hg y z0 hat hz0
    rcases h with h | ⟨hk1, h | h⟩
    · rw [h] at g1
      cases g1
    · obtain ⟨u, h1, h2⟩ := hpre 0 (by omega)
      rw [h2] at hz0
      cases hz0
      rw [wd_len, hw u (List.mem_of_getElem? h1)] at g2
      exact h g2
    · rw [htk k (Nat.le_refl _)] at g3
      exact g3 h
  · obtain ⟨u, h1, h2⟩ := hpre i hi
    obtain ⟨u0, h3, h4⟩ := hpre 0 (by omega)
    rw [h2] at hz
    rw [h4] at hz0
    cases hz
    cases hz0
    have hu := hw u (List.mem_of_getElem? h1)
    have hu0 := hw u0 (List.mem_of_getElem? h3)
    refine ⟨isW_wd (by omega) (by omega), by rw [wd_len, wd_len, hu, hu0], ?_⟩
    rw [htk i (Nat.le_of_lt hi)]
    intro hm
    obtain ⟨v, hv, e⟩ := List.mem_map.mp hm
    have e := wd_inj e
    subst e
    obtain ⟨j, hj, e⟩ := List.mem_iff_getElem.mp hv
    rw [List.length_take] at hj
    rw [List.getElem_take] at e
    obtain ⟨hi', e'⟩ := List.getElem?_eq_some_iff.mp h1
    have := (List.getElem_inj nd (h₀ := by omega) (h₁ := hi')).mp (e.trans e'.symm)
    omega
/-- words of a lane are well -/
theorem goodAll {ws : List (List Bool)} {n : Nat} (hw : ∀ w ∈ ws, w.length = n) (n1 : 1 ≤ n) (n4 : n ≤ 4) (nd : ws.Nodup) : ∀ i, i < (ws.map wd).length → GoodAt (ws.map wd) i := by
  intro i hi z z0 hz hz0
  rw [List.getElem?_map] at hz hz0
  cases h1 : ws[i]? with
  | none => rw [h1] at hz; cases hz
  | some u =>
    cases h0 : ws[0]? with
    | none => rw [h0] at hz0; cases hz0
    | some u0 =>
      rw [h1] at hz
      rw [h0] at hz0
      cases hz
      cases hz0
      have hu := hw u (List.mem_of_getElem? h1)
      have hu0 := hw u0 (List.mem_of_getElem? h0)
      refine ⟨isW_wd (by omega) (by omega), by rw [wd_len, wd_len, hu, hu0], ?_⟩
      rw [← List.map_take]
      intro hm
      obtain ⟨v, hv, e⟩ := List.mem_map.mp hm
      have e := wd_inj e
      subst e
      obtain ⟨j, hj, e⟩ := List.mem_iff_getElem.mp hv
      rw [List.length_take] at hj
      rw [List.getElem_take] at e
      obtain ⟨hi', e'⟩ := List.getElem?_eq_some_iff.mp h1
      have := (List.getElem_inj nd (h₀ := by omega) (h₁ := hi')).mp (e.trans e'.symm)
      omega
theorem badAt_not {zs : List Str} {k : Nat} (h : BadAt zs k) : zs ≠ [] → ¬ ∀ i, i < zs.length → GoodAt zs i := fun hne hg => by
  rcases h with ⟨h, _⟩ | ⟨h1, h2, _⟩
  · exact hne h
  · exact h2 (hg k h1)
theorem badAt_one {zs : List Str} {k j : Nat} (h : BadAt zs k) (h' : BadAt zs j) : j = k := by
  rcases h with ⟨h, rfl⟩ | ⟨h1, h2, h3⟩
  · rcases h' with ⟨_, rfl⟩ | ⟨g1, _⟩
    · rfl
    · rw [h] at g1
      cases g1
  · rcases h' with ⟨g, _⟩ | ⟨g1, g2, g3⟩
    · rw [g] at h1
      cases h1
    · rcases Nat.lt_trichotomy j k with hl | hl | hl
      · exact absurd (h3 j hl) g2
      · exact hl
      · exact absurd (g3 k hl) h2
/-! ### texts by their signs -/
def tx (l : List Nat) : Str := ⟨l.toArray⟩
theorem tx_wd (b : List Bool) : wd b = tx (b.map bit) := rfl
theorem tx_app (a b : List Nat) : tx a ++ tx b = tx (a ++ b) := by
  show Str.append (tx a) (tx b) = tx (a ++ b)
  simp [Str.append, tx]
theorem tx_len (a : List Nat) : (tx a).length = a.length := by
  show a.toArray.size = a.length
  simp
theorem isW_tx (a : List Nat) (h : 4 < a.length ∨ a.length = 0 ∨ ∃ c ∈ a, c ≠ 48 ∧ c ≠ 49) : isW (tx a) = false := by
  unfold isW
  rw [tx_len, show (tx a).cps.toList = a from by show a.toArray.toList = a; simp]
  rcases h with h | h | ⟨c, hc, h1, h2⟩
  · rw [show decide (a.length ≤ 4) = false from decide_eq_false (by omega)]
    simp
  · rw [show decide (1 ≤ a.length) = false from decide_eq_false (by omega)]
    simp
  · rw [show (a.all fun c => c == 48 || c == 49) = false from by
      rw [List.all_eq_false]
      exact ⟨c, hc, by simp [h1, h2]⟩]
    simp
theorem cutS1 (w : List Bool) (h : 1 ≤ w.length) : cutS (wd w) (some 1) none = wd (w.drop 1) := by
  unfold cutS
  have e1 : HT.sIx (wd w).length 0 (some (1 : Int)) = 1 := by
    rw [show (1 : Int) = ((1 : Nat) : Int) from rfl, HT.sIx_nat, wd_len]
    omega
  rw [e1, HT.sIx_none, wd_toList, wd_len, List.take_of_length_le (by rw [List.length_drop, List.length_map]; omega), ← List.map_drop]
  rfl
theorem strOk_tx (a : List Nat) (h : ∀ c ∈ a, c < 128) : PyData.strOk (tx a) = true := by
  unfold PyData.strOk
  rw [← Array.all_toList, show (tx a).cps.toList = a from by show a.toArray.toList = a; simp, List.all_eq_true]
  intro c hc
  have := h c hc
  exact decide_eq_true (by omega)
/-- the six texts that are no words of a lane -/
def six (m n : Nat) (w0 : List Bool) : List Str := [tx [], tx (List.replicate (5 + m) 48), tx (List.replicate n 120), tx (50 :: (w0.drop 1).map bit), tx (w0.map bit ++ [48]), tx ((w0.drop 1).map bit ++ [33])]
theorem bit_lt (b : Bool) : bit b < 128 := by cases b <;> decide
theorem six_ok (m n : Nat) (w0 : List Bool) (hm : m ≤ 9) (n1 : 1 ≤ n) (n4 : n ≤ 4) (hw : w0.length = n) : (∀ z ∈ six m n w0, z.length ≤ 1000 ∧ PyData.strOk z = true) ∧ (∀ z ∈ six m n w0, isW z = false ∨ z.length ≠ n) ∧ ∀ z ∈ (six m n w0).take 4, isW z = false := by
  have hb : ∀ (l : List Bool), ∀ c ∈ l.map bit, c < 128 := fun l c hc => by
    obtain ⟨b, _, rfl⟩ := List.mem_map.mp hc
    exact bit_lt b
  have h1 : isW (tx []) = false := isW_tx _ (.inr (.inl rfl))
  have h2 : isW (tx (List.replicate (5 + m) 48)) = false := isW_tx _ (.inl (by rw [List.length_replicate]; omega))
  have h3 : isW (tx (List.replicate n 120)) = false := isW_tx _ (.inr (.inr ⟨120, List.mem_replicate.mpr ⟨by omega, rfl⟩, by decide, by decide⟩))
  have h4 : isW (tx (50 :: (w0.drop 1).map bit)) = false := isW_tx _ (.inr (.inr ⟨50, List.mem_cons_self, by decide, by decide⟩))
  have h6 : isW (tx ((w0.drop 1).map bit ++ [33])) = false := isW_tx _ (.inr (.inr ⟨33, by simp, by decide, by decide⟩))
  refine ⟨?_, ?_, ?_⟩
  · simp only [six, List.mem_cons, List.not_mem_nil, or_false]
    rintro z (rfl | rfl | rfl | rfl | rfl | rfl)
    · exact ⟨by rw [tx_len]; simp, strOk_tx _ (by simp)⟩
    · exact ⟨by rw [tx_len, List.length_replicate]; omega, strOk_tx _ fun c hc => by rw [List.eq_of_mem_replicate hc]; decide⟩
    · exact ⟨by rw [tx_len, List.length_replicate]; omega, strOk_tx _ fun c hc => by rw [List.eq_of_mem_replicate hc]; decide⟩
    · refine ⟨by rw [tx_len, List.length_cons, List.length_map, List.length_drop]; omega, strOk_tx _ fun c hc => ?_⟩
      rcases List.mem_cons.mp hc with rfl | hc
      · decide
      · exact hb _ c hc
    · refine ⟨by rw [tx_len, List.length_append, List.length_map, List.length_singleton]; omega, strOk_tx _ fun c hc => ?_⟩
      rcases List.mem_append.mp hc with hc | hc
      · exact hb _ c hc
      · rw [List.mem_singleton.mp hc]; decide
    · refine ⟨by rw [tx_len, List.length_append, List.length_map, List.length_singleton, List.length_drop]; omega, strOk_tx _ fun c hc => ?_⟩
      rcases List.mem_append.mp hc with hc | hc
      · exact hb _ c hc
      · rw [List.mem_singleton.mp hc]; decide
  · simp only [six, List.mem_cons, List.not_mem_nil, or_false]
    rintro z (rfl | rfl | rfl | rfl | rfl | rfl)
    · exact .inl h1
    · exact .inl h2
    · exact .inl h3
    · exact .inl h4
    · exact .inr (by rw [tx_len, List.length_append, List.length_map, List.length_singleton]; omega)
    · exact .inl h6
  · simp only [six, List.take_succ_cons, List.take_zero, List.mem_cons, List.not_mem_nil, or_false]
    rintro z (rfl | rfl | rfl | rfl)
    · exact h1
    · exact h2
    · exact h3
    · exact h4
def bitsN (k : Nat) : Nat → List Bool
  | 0 => []
  | m + 1 => (k / 2 ^ m % 2 == 1) :: bitsN k m
theorem bitsN_len (k : Nat) : ∀ m, (bitsN k m).length = m
  | 0 => rfl
  | m + 1 => by simp [bitsN, bitsN_len k m]
theorem bits_plain {n : Nat} (h : n ≤ 4) : (List.range (2 ^ n)).map (fun k => bitsN k n) = plainW n := by
  have : n = 0 ∨ n = 1 ∨ n = 2 ∨ n = 3 ∨ n = 4 := by omega
  rcases this with rfl | rfl | rfl | rfl | rfl <;> decide
theorem tab5 {n : Nat} (h : n ≤ 4) : atI ([.int 1, .int 2, .int 4, .int 8, .int 16] : List V) (n : Int) = some (.int ((2 ^ n : Nat) : Int)) := by
  have : n = 0 ∨ n = 1 ∨ n = 2 ∨ n = 3 ∨ n = 4 := by omega
  rcases this with rfl | rfl | rfl | rfl | rfl <;> rfl
theorem tab4 {n : Nat} (h : n < 4) : atI ([.int 1, .int 2, .int 4, .int 8] : List V) (n : Int) = some (.int ((2 ^ n : Nat) : Int)) := by
  have : n = 0 ∨ n = 1 ∨ n = 2 ∨ n = 3 := by omega
  rcases this with rfl | rfl | rfl | rfl <;> rfl
theorem at01 (b : Bool) : atI (("01" : Str)).cps.toList (if b then 1 else 0) = some (bit b) := by
  cases b <;> decide +kernel
theorem modBit (k m : Nat) : (k : Int) / ((2 ^ m : Nat) : Int) % 2 = if (k / 2 ^ m % 2 == 1) then 1 else 0 := by
  have h : (k : Int) / ((2 ^ m : Nat) : Int) % 2 = ((k / 2 ^ m % 2 : Nat) : Int) := by simp
  rw [h]
  have h2 : k / 2 ^ m % 2 < 2 := Nat.mod_lt _ (by decide)
  have : k / 2 ^ m % 2 = 0 ∨ k / 2 ^ m % 2 = 1 := by omega
  rcases this with e | e <;> rw [e] <;> rfl
def sp_l_plain : Sp := fun vs H Q _ => ∃ n : Nat, vs = [.int (n : Int)] ∧ n ≤ 4 ∧ RetL ((plainW n).map wv) H Q
theorem ok_l_plain (T : TX K mg) : FnOk P w K mg base CX0 1 T.f_l_plain T.fd_l_plain ["_law_wide"] sp_l_plain := by
  refine T.F_l_plain.ok sc_l_plain (fun vs H Q E h => ?_) (fun cdv A outer s H vs Q E hr h => ?_)
  · obtain ⟨n, rfl, _⟩ := h
    rfl
  · obtain ⟨n, rfl, hn, q⟩ := h
    have h16 := pow16 hn
    refine ⟨_, (pss_cons (ps_set (i := 1) sc_l_plain.nd rfl (by first | exact Or.inl rfl | exact Or.inr rfl) (pe_lst pa_nil))
 (pss_cons (ps_for PassesOwn.never rfl (pi_range1 (by rfl) T.z_range (pa_cons (pe_ix ix_list (pe_lst (pa_cons pe_int (pa_cons pe_int (pa_cons pe_int (pa_cons pe_int (pa_cons pe_int pa_nil)))))) (pv 0) (fun _ _ => rfl)) pa_nil)) (pg_name (i := 2) sc_l_plain.nd rfl (by first | exact Or.inl rfl | exact Or.inr rfl))
 (pss_cons (ps_set (i := 3) sc_l_plain.nd rfl (by first | exact Or.inl rfl | exact Or.inr rfl) pe_str)
 (pss_cons (ps_for PassesOwn.never rfl (pi_range1 (by rfl) T.z_range (pa_cons (pv 0) pa_nil)) (pg_name (i := 4) sc_l_plain.nd rfl (by first | exact Or.inl rfl | exact Or.inr rfl))
 (pss_one (ps_set (i := 3) sc_l_plain.nd rfl (by first | exact Or.inl rfl | exact Or.inr rfl) (pe_op op_add_str (pe_ix ix_str pe_str (pe_op op_mod (pe_op op_fdiv (pv 2) (pe_ix ix_list (pe_lst (pa_cons pe_int (pa_cons pe_int (pa_cons pe_int (pa_cons pe_int pa_nil))))) (pv 4) (fun _ _ => rfl))) pe_int) (fun _ _ => rfl)) (pv 3)))))
 (pss_one (ps_expr (pe_bm PySem.F.plainAttrs_list PySem.F.slot_list_append PySem.F.type_list_append mt_append (pv 1) (pa_cons (pv 3) pa_nil)))))))
 (pss_one (ps_ret (pv 1))))), ?_⟩
    refine ⟨small9 (by simp), fun p np => ⟨small9 (by simp), fun l nl => ⟨_, rfl, l, _, (n : Int), _, rfl, rfl, SqL.of upd_same, tab5 hn, _, rfl, lo62 _, hi62 (by omega), ?_⟩⟩⟩
    have e0 := (Ex.new (o := HO.lst []) np).trans (Ex.new (o := HO.lst [.int 1, .int 2, .int 4, .int 8, .int 16]) nl)
    refine for_range (fun i σ H' => i ≤ 2 ^ n ∧ ∃ y z u, σ = [some (.int (n : Int)), some (.ref p), y, z, u] ∧ Ex H H' ∧ H' p = some (.lst ((List.range i).map fun k => wv (bitsN k n))))
      ⟨Nat.zero_le _, none, none, none, rfl, e0, (Ex.new nl) _ _ upd_same⟩ ?_ ?_
    · rintro i σ H' hi ⟨_, y, z, u, rfl, e1, hp⟩
      refine ⟨_, rfl, n, rfl, by omega, by omega, for_range (lo := 0) (fun m σ H2 => m ≤ n ∧ ∃ u, σ = [some (.int (n : Int)), some (.ref p), some (.int (0 + (i : Int))), some (wv (bitsN i m)), u] ∧ Ex H' H2) ⟨Nat.zero_le _, u, by rw [strE]; rfl, Ex.refl _⟩ ?_ ?_⟩
      · rintro m σ H2 hm ⟨_, u, rfl, e2⟩
        refine ⟨_, rfl, small9 (by simp), fun l nl => ⟨_, rfl, l, _, (m : Int), _, rfl, by rw [Int.zero_add], SqL.of upd_same, tab4 (by omega), _, _, rfl, rfl, ?_, _, _, rfl, rfl, (by decide : (0 : Int) < 2), ?_⟩⟩
        · have : 2 ^ m ≤ 16 := pow16 (by omega)
          have : 0 < 2 ^ m := Nat.two_pow_pos m
          exact ⟨by omega, by omega⟩
        · refine ⟨"01", _, bit (i / 2 ^ m % 2 == 1), rfl, rfl, by decide +kernel, ?_, _, rfl, _, _, rfl, rfl, ?_, ?_⟩
          · rw [Int.zero_add, modBit]
            exact at01 _
          · rw [sgn, wd_len, wd_len, bitsN_len]
            exact small9 (by simp; omega)
          · refine ⟨by omega, some (.int (0 + (m : Int))), ?_, e2.trans (Ex.new nl)⟩
            rw [sgn, wd_app]
            rfl
      · rintro σ H2 ⟨_, u, rfl, e2⟩
        refine ⟨_, rfl, .inl ⟨rfl, _, SqL.of (e2 _ _ hp)⟩, _, rfl, p, _, _, rfl, rfl, e2 _ _ hp, ?_, by omega, some (.int (0 + (i : Int))), some (wv (bitsN i n)), u, rfl, (e1.trans e2).mut np, ?_⟩
        · rw [List.length_map, List.length_range]
          exact small1000 (by omega)
        · rw [upd_same, List.range_succ, List.map_append]
          rfl
    · rintro σ H' ⟨_, y, z, u, rfl, e1, hp⟩
      refine ⟨_, rfl, q p H' np e1 ?_⟩
      rw [hp, ← bits_plain hn, List.map_map]
      rfl
def grayOf (w : List Bool) : List Bool := (List.range w.length).map fun i => ((false :: w).getD i false != w.getD i false)
theorem gray_of {n : Nat} (h : n ≤ 4) : (plainW n).map grayOf = grayW n := by
  have : n = 0 ∨ n = 1 ∨ n = 2 ∨ n = 3 ∨ n = 4 := by omega
  rcases this with rfl | rfl | rfl | rfl | rfl <;> decide
theorem joinB : ∀ bs : List Bool, Txt.join (wd []) (bs.map fun b => wd [b]) = wd bs := by
  intro bs
  refine TL.ext_tl ?_
  rw [TL.join_eq, TL.tl_join, List.map_map]
  show TL.joinL [] (bs.map fun b => [bit b]) = bs.map bit
  induction bs with
  | nil => rfl
  | cons a r ih =>
    cases r with
    | nil => rfl
    | cons b r =>
      show [bit a] ++ ([] ++ TL.joinL [] ((b :: r).map fun b => [bit b])) = bit a :: (b :: r).map bit
      rw [ih]
      rfl
theorem sz_words {l : List (List Bool)} {n : Nat} (h : ∀ w ∈ l, w.length ≤ n) : (l.map fun w => (wd w).length).sum ≤ l.length * n := by
  induction l with
  | nil => simp
  | cons a r ih =>
    have h1 := h a (List.mem_cons_self)
    have h2 := ih fun w hw => h w (List.mem_cons_of_mem _ hw)
    simp only [List.map_cons, List.sum_cons, List.length_cons, wd_len, Nat.add_mul] at *
    omega
def sp_l_gray : Sp := fun vs H Q _ => ∃ n : Nat, vs = [.int (n : Int)] ∧ n ≤ 4 ∧ RetL ((grayW n).map wv) H Q
theorem ok_l_gray (T : TX K mg) : FnOk P w K mg base CX0 2 T.f_l_gray T.fd_l_gray ["_law_wide"] sp_l_gray := by
  refine T.F_l_gray.ok sc_l_gray (fun vs H Q E h => ?_) (fun cdv A outer s H vs Q E hr h => ?_)
  · obtain ⟨n, rfl, _⟩ := h
    rfl
  · obtain ⟨n, rfl, hn, q⟩ := h
    have h16 := pow16 hn
    refine ⟨_, (pss_cons (ps_set (i := 1) sc_l_gray.nd rfl (by first | exact Or.inl rfl | exact Or.inr rfl) (pe_lst pa_nil))
 (pss_cons (ps_for PassesOwn.never rfl (pi_list (pe_call (ok_l_plain T) (hr.mono (by decide)) (by rfl) T.g_l_plain T.F_l_plain.kp T.b_l_plain .nil pass0 (pa_cons (pv 0) pa_nil))) (pg_name (i := 2) sc_l_gray.nd rfl (by first | exact Or.inl rfl | exact Or.inr rfl))
 (pss_cons (ps_set (i := 3) sc_l_gray.nd rfl (by first | exact Or.inl rfl | exact Or.inr rfl) (pe_op op_add_str pe_str (pv 2)))
 (pss_one (ps_expr (pe_bm PySem.F.plainAttrs_list PySem.F.slot_list_append PySem.F.type_list_append mt_append (pv 1) (pa_cons (pe_join pe_str (pe_lc (own := [("_law_at", 4)]) (g := gName 4) (by rfl) sc_l_gray.nd (pi_range1 (by rfl) T.z_range (pa_cons (pv 0) pa_nil)) (blkOk_by (own := [("_law_at", 4)]) (N := ["_law_wide", "_law_found", "_law_word", "_law_marks", "_law_at"]) (sc := defScope s_l_gray) (by decide +kernel)) (fun _ _ _ _ _ => pg_name (i := 4) sc_l_gray.nd rfl (Or.inl rfl)) (fun _ _ _ _ _ => pts_nil) (fun _ _ _ _ _ => (pe_ix ix_str pe_str (pe_callTy call_int1 (by rfl) T.z_int (by decide +kernel) (pa_cons (pe_cmpR op_ne (pe_ix ix_str (pv 3) (pv 4) (fun _ _ => rfl)) (pe_ix ix_str (pv 3) (pe_op op_add (pv 4) pe_int) (fun _ _ => rfl)) (nomark _)) pa_nil)) (fun _ _ => rfl))))) pa_nil))))))
 (pss_one (ps_ret (pv 1))))), ?_⟩
    refine ⟨small9 (by simp), fun p np => ⟨_, rfl, n, rfl, hn, fun l H1 nl e1 hl => ⟨l, rfl, ⟨_, SqL.of hl⟩, ?_⟩⟩⟩
    have e0 := (Ex.new (o := HO.lst []) np).trans e1
    refine for_list (K := K) (a := l) (xs := (plainW n).map wv) (fun i σ H' => ∃ y z u, σ = [some (.int (n : Int)), some (.ref p), y, z, u] ∧ H' l = some (.lst ((plainW n).map wv)) ∧ Ex H H' ∧ H' p = some (.lst (((plainW n).take i).map fun w => wv (grayOf w))))
      ⟨none, none, none, rfl, hl, e0, e1 _ _ upd_same⟩ (fun i σ H' _ ⟨_, _, _, _, e, _⟩ => SqL.of e) ?_ ?_
    · rintro i x σ H' hi ⟨y, z, u, rfl, eL, e2, hp⟩
      obtain ⟨w, hw, rfl⟩ : ∃ w, (plainW n)[i]? = some w ∧ wv w = x := by
        rw [List.getElem?_map] at hi
        cases e : (plainW n)[i]? with
        | none => rw [e] at hi; cases hi
        | some y => rw [e] at hi; exact ⟨y, rfl, Option.some.inj hi⟩
      have hwl : w.length = n := plainW_wide n w (List.mem_of_getElem? hw)
      refine ⟨_, rfl, "0", wd w, rfl, rfl, ?_, ?_⟩
      · rw [str0, wd_len, wd_len]
        exact small9 (by simp; omega)
      rw [str0, wd_app]
      refine ⟨_, rfl, .inl ⟨rfl, _, SqL.of hp⟩, ⟨_, rfl⟩, _, rfl, n, rfl, by omega, by omega, fun D nD => lcR n (fun i => wv [((false :: w).getD i false != w.getD i false)]) rfl (by omega) nD (fun _ => rfl) (fun k hk H3 e3 Y hY => ?_) (fun H3 e3 h3 => ?_)⟩
      · refine ⟨_, rfl, _, rfl, _, _, bit ((false :: w).getD k false), rfl, rfl, ?_, atW (w := false :: w) rfl (by simp; omega), _, rfl, _, rfl, _, _, rfl, rfl, _, _, bit (w.getD k false), rfl, rfl, ?_, ?_, rfl, .inr ⟨_, rfl, "01", _, _, rfl, rfl, by decide +kernel, ?_, hY _ (Ex.refl _)⟩⟩
        · show (wd (false :: w)).length ≤ sizeLine
          rw [wd_len]
          exact small9 (by simp; omega)
        · show (wd (false :: w)).length ≤ sizeLine
          rw [wd_len]
          exact small9 (by simp; omega)
        · exact atW (w := false :: w) (i := k + 1) rfl (by simp; omega)
        · rw [dec_sgn]
          exact at01 _
      · refine ⟨"", D, (grayOf w).map (fun b => wd [b]), rfl, rfl, .inl (SqL.of ?_), ?_, ?_⟩
        · rw [h3, grayOf, List.map_map, List.map_map, hwl]
          rfl
        · have h1 := sz_words (l := (grayOf w).map fun b => [b]) (n := 1) (fun w hw => by obtain ⟨b, _, rfl⟩ := List.mem_map.mp hw; exact Nat.le_refl _)
          simp only [List.map_map, List.length_map, Function.comp_def] at *
          have : (grayOf w).length = n := by simp [grayOf, hwl]
          rw [strE, wd_len]
          simp at *
          omega
        · rw [strE, joinB]
          refine ⟨p, _, _, rfl, rfl, e3 _ _ hp, ?_, some (wv w), some (wv ([false] ++ w)), u, rfl, ?_, (e2.trans e3).mut np, ?_⟩
          · rw [List.length_map, List.length_take]
            have := plainW_len n
            exact small1000 (by omega)
          · rw [upd_ne (ne_of_none upd_same nl).symm]
            exact e3 _ _ eL
          · rw [upd_same, List.take_add_one, hw, List.map_append]
            rfl
    · rintro σ H' ⟨y, z, u, rfl, eL, e1, hp⟩
      refine ⟨_, rfl, q p H' np e1 ?_⟩
      rw [hp, ← gray_of hn, List.length_map, List.take_length, List.map_map]
      rfl
theorem nodup_gray {n : Nat} (h : n ≤ 4) : (grayW n).Nodup ∧ (plainW n).Nodup := by
  have : n = 0 ∨ n = 1 ∨ n = 2 ∨ n = 3 ∨ n = 4 := by omega
  rcases this with rfl | rfl | rfl | rfl | rfl <;> decide
theorem perm_map_inv {α : Type} {f : α → V} {ys zs : List V} (h : ys.Perm zs) : ∀ {l : List α}, zs = l.map f → ∃ l' : List α, ys = l'.map f ∧ l'.Perm l := by
  induction h with
  | nil =>
    intro l e
    exact ⟨[], rfl, by rw [List.map_eq_nil_iff.mp e.symm]⟩
  | cons x _ ih =>
    intro l e
    cases l with
    | nil => cases e
    | cons a l =>
      have e : _ :: _ = f a :: l.map f := e
      injection e with e1 e2
      obtain ⟨l', h1, h2⟩ := ih e2
      exact ⟨a :: l', by rw [h1, e1]; rfl, List.Perm.cons a h2⟩
  | swap x y r =>
    intro l e
    match l, e with
    | a :: b :: l, e =>
      have e : _ :: _ :: _ = f a :: f b :: l.map f := e
      injection e with e1 e2
      injection e2 with e2 e3
      exact ⟨b :: a :: l, by rw [e1, e2, e3]; rfl, List.Perm.swap a b l⟩
  | trans _ _ ih1 ih2 =>
    intro l e
    obtain ⟨l2, h1, h2⟩ := ih2 e
    obtain ⟨l1, h3, h4⟩ := ih1 h1
    exact ⟨l1, h3, h4.trans h2⟩
/-- words of a lane -/
structure WOk (ws : List (List Bool)) (n r : Nat) : Prop where
  nd : ws.Nodup
  len : ws.length = 2 * r
  wide : ∀ w ∈ ws, w.length = n
theorem wok_take {l : List (List Bool)} {n r : Nat} (nd : l.Nodup) (hl : 2 * r ≤ l.length) (hw : ∀ w ∈ l, w.length = n) : WOk (l.take (2 * r)) n r :=
  ⟨(List.take_sublist _ _).nodup nd, by rw [List.length_take]; omega, fun w h => hw w (List.mem_of_mem_take h)⟩
theorem wok_ends {l : List (List Bool)} {n r : Nat} (nd : l.Nodup) (hl : 2 * r ≤ l.length) (hw : ∀ w ∈ l, w.length = n) : WOk (l.take r ++ l.drop (l.length - r)) n r := by
  refine ⟨?_, ?_, fun w h => ?_⟩
  · have h1 : (l.take r ++ l.drop (l.length - r)).Sublist l := by
      have h2 : (l.drop (l.length - r)).Sublist (l.drop r) := by
        rw [show l.length - r = r + (l.length - 2 * r) by omega, ← List.drop_drop]
        exact List.drop_sublist _ _
      have h3 := List.Sublist.append (List.Sublist.refl (l.take r)) h2
      rw [List.take_append_drop] at h3
      exact h3
    exact h1.nodup nd
  · rw [List.length_append, List.length_take, List.length_drop]
    omega
  · rcases List.mem_append.mp h with h | h
    · exact hw w (List.mem_of_mem_take h)
    · exact hw w (List.mem_of_mem_drop h)
def swapN (a b k : Nat) : Nat := if k = a then b else if k = b then a else k
theorem swapN_lt {a b k m : Nat} (ha : a < m) (hb : b < m) (hk : k < m) : swapN a b k < m := by
  unfold swapN
  split
  · exact hb
  · split
    · exact ha
    · exact hk
theorem swapN_inj {a b i j : Nat} (h : swapN a b i = swapN a b j) : i = j := by
  unfold swapN at h
  split at h <;> split at h <;> (try split at h) <;> (try split at h) <;> omega
theorem getD_inj {ws : List (List Bool)} (nd : ws.Nodup) {i j : Nat} (hi : i < ws.length) (hj : j < ws.length) (h : ws.getD i [] = ws.getD j []) : i = j := by
  rw [List.getD_eq_getElem?_getD, List.getD_eq_getElem?_getD, List.getElem?_eq_getElem hi, List.getElem?_eq_getElem hj] at h
  exact (List.getElem_inj nd).mp h
theorem nodup_map_range {m : Nat} {f : Nat → List Bool} (h : ∀ i j, i < m → j < m → f i = f j → i = j) : ((List.range m).map f).Nodup := by
  refine List.pairwise_map.mpr (List.Pairwise.imp_of_mem (fun {a b} ha hb hab e => ?_) (List.pairwise_lt_range (n := m)))
  have := h a b (List.mem_range.mp ha) (List.mem_range.mp hb) e
  omega
theorem wok_swap {ws : List (List Bool)} {n r a b : Nat} (h : WOk ws n r) (ha : a < 2 * r) (hb : b < 2 * r) : WOk ((List.range (2 * r)).map fun k => ws.getD (swapN a b k) []) n r := by
  refine ⟨nodup_map_range fun i j hi hj e => swapN_inj (getD_inj h.nd (by rw [h.len]; exact swapN_lt ha hb hi) (by rw [h.len]; exact swapN_lt ha hb hj) e), by simp, fun w hw => ?_⟩
  obtain ⟨k, hk, rfl⟩ := List.mem_map.mp hw
  exact h.wide _ (getD_mem (by rw [h.len]; exact swapN_lt ha hb (List.mem_range.mp hk)))
/-- marks exchanged and turned -/
def newW (n t : Nat) (os : List Nat) (w : List Bool) : List Bool := (List.range n).map fun k => (w.getD (os.getD k 0) false != (t / 2 ^ k % 2 == 1))
theorem newW_inj {n t : Nat} {os : List Nat} (ho : os.Perm (List.range n)) {w u : List Bool} (hw : w.length = n) (hu : u.length = n) (h : newW n t os w = newW n t os u) : w = u := by
  have hol : os.length = n := by rw [ho.length_eq, List.length_range]
  refine List.ext_getElem (by omega) fun i h1 h2 => ?_
  obtain ⟨k, hk, e⟩ := List.mem_iff_getElem.mp (ho.mem_iff.mpr (List.mem_range.mpr (show i < n by omega)))
  have q := congrArg (fun l => l.getD k false) h
  simp only [newW] at q
  rw [List.getD_eq_getElem?_getD, List.getD_eq_getElem?_getD, List.getElem?_map, List.getElem?_map, List.getElem?_range (by omega)] at q
  have e2 : os.getD k 0 = i := by rw [List.getD_eq_getElem?_getD, List.getElem?_eq_getElem hk]; exact e
  simp only [Option.map_some, Option.getD_some, e2] at q
  have e3 : w.getD i false = w[i] := by rw [List.getD_eq_getElem?_getD, List.getElem?_eq_getElem h1]; rfl
  have e4 : u.getD i false = u[i] := by rw [List.getD_eq_getElem?_getD, List.getElem?_eq_getElem h2]; rfl
  rw [e3, e4] at q
  revert q
  cases w[i] <;> cases u[i] <;> cases (t / 2 ^ k % 2 == 1) <;> decide
theorem wok_new {ws : List (List Bool)} {n r t : Nat} {os : List Nat} (h : WOk ws n r) (ho : os.Perm (List.range n)) : WOk (ws.map (newW n t os)) n r := by
  refine ⟨List.pairwise_map.mpr (List.Pairwise.imp_of_mem (fun {a b} ha hb hab e => hab (newW_inj ho (h.wide a ha) (h.wide b hb) e)) h.nd), by rw [List.length_map]; exact h.len, fun w hw => ?_⟩
  obtain ⟨u, _, rfl⟩ := List.mem_map.mp hw
  simp [newW]
theorem int_sgn (b : Bool) : PySem.intText? (wd [b]) = some (if b then 1 else 0) := by cases b <;> decide +kernel
theorem str_sgn (m : Int) : (toString (m % 2) : Str) = wd [m % 2 == 1] := by
  have : m % 2 = 0 ∨ m % 2 = 1 := by omega
  rcases this with e | e <;> rw [e] <;> decide +kernel
theorem mark_bit0 (b : Bool) (q : Nat) : (((if b then 1 else 0 : Int) + (q : Int)) % 2 == 1) = (b != (q % 2 == 1)) := by
  have : q % 2 = 0 ∨ q % 2 = 1 := by omega
  cases b with
  | false =>
    rcases this with e | e <;> rw [e]
    · rw [show ((if false = true then 1 else 0 : Int) + (q : Int)) % 2 = 0 by simp only [Bool.false_eq_true, if_false]; omega]
      rfl
    · rw [show ((if false = true then 1 else 0 : Int) + (q : Int)) % 2 = 1 by simp only [Bool.false_eq_true, if_false]; omega]
      rfl
  | true =>
    rcases this with e | e <;> rw [e]
    · rw [show ((if true = true then 1 else 0 : Int) + (q : Int)) % 2 = 1 by simp only [if_true]; omega]
      rfl
    · rw [show ((if true = true then 1 else 0 : Int) + (q : Int)) % 2 = 0 by simp only [if_true]; omega]
      rfl
theorem mark_bit (b : Bool) (t k : Nat) : (((if b then 1 else 0 : Int) + (t : Int) / ((2 ^ k : Nat) : Int)) % 2 == 1) = (b != (t / 2 ^ k % 2 == 1)) := by
  rw [show (t : Int) / ((2 ^ k : Nat) : Int) = ((t / 2 ^ k : Nat) : Int) by simp]
  exact mark_bit0 b _
theorem emod_two {x m : Int} (h0 : 0 ≤ x) (h : x < 2 * m) : x % m = if x < m then x else x - m := by
  by_cases hx : x < m
  · rw [if_pos hx, Int.emod_eq_of_lt h0 hx]
  · rw [if_neg hx, ← Int.sub_emod_right, Int.emod_eq_of_lt (by omega) (by omega)]
theorem swap_val {a b : Nat} (hab : a ≠ b) (k : Nat) : (valV (mergeK [] [((Sum.inl (a : Int) : Key), V.int (b : Int)), (Sum.inl (b : Int), V.int (a : Int))]) (Sum.inl (k : Int))).getD (.int (k : Int)) = .int ((swapN a b k : Nat) : Int) := by
  show (valV (putK (putK [] (Sum.inl (a : Int)) (V.int (b : Int))) (Sum.inl (b : Int)) (V.int (a : Int))) (Sum.inl (k : Int))).getD _ = _
  rw [valV_put, valV_put]
  unfold swapN
  by_cases h1 : k = a
  · subst h1
    have h2 : ¬ (Sum.inl (k : Int) : Key) = Sum.inl (b : Int) := fun e => hab (by have := Sum.inl.inj e; omega)
    rw [if_neg h2, if_pos rfl, if_pos rfl]
    rfl
  · have h2 : ¬ (Sum.inl (k : Int) : Key) = Sum.inl (a : Int) := fun e => h1 (by have := Sum.inl.inj e; omega)
    rw [if_neg h1]
    by_cases h3 : k = b
    · subst h3
      rw [if_pos rfl, if_pos rfl]
      rfl
    · have h4 : ¬ (Sum.inl (k : Int) : Key) = Sum.inl (b : Int) := fun e => h3 (by have := Sum.inl.inj e; omega)
      rw [if_neg h4, if_neg h2, if_neg h3]
      rfl
def sp_l_words : Sp := fun vs H Q _ => ∃ (d : Addr) (r : Nat), vs = [.ref d, .int (r : Int)] ∧ Dice H d ∧ 1 ≤ r ∧ r ≤ 6 ∧
  ∀ (p : Addr) (ws : List (List Bool)) (n : Nat) (H' : Hp), H p = none → p ≠ d → Exd d H H' → Dice H' d → WOk ws n r → 1 ≤ n → n ≤ 4 → H' p = some (.lst (ws.map wv)) → Q (.ref p) H'
theorem ok_l_words (T : TX K mg) : FnOk P w K mg base CX0 3 T.f_l_words T.fd_l_words ["_law_d", "_law_room"] sp_l_words := by
  refine T.F_l_words.ok sc_l_words (fun vs H Q E h => ?_) (fun cdv A outer s H vs Q E hr h => ?_)
  · obtain ⟨_, _, rfl, _⟩ := h
    rfl
  · obtain ⟨d, r, rfl, hd, hr1, hr6, q⟩ := h
    refine ⟨_, (pss_cons (ps_set (i := 2) sc_l_words.nd rfl (by first | exact Or.inl rfl | exact Or.inr rfl) pe_int)
 (pss_cons (ps_while PassesOwn.never (pt_cmpR op_lt (pe_ix ix_list (pe_lst (pa_cons pe_int (pa_cons pe_int (pa_cons pe_int (pa_cons pe_int (pa_cons pe_int pa_nil)))))) (pv 2) (fun _ _ => rfl)) (pe_op op_mul pe_int (pv 1)) (nomark _))
 (pss_one (ps_set (i := 2) sc_l_words.nd rfl (by first | exact Or.inl rfl | exact Or.inr rfl) (pe_op op_add (pv 2) pe_int))))
 (pss_cons (ps_set (i := 2) sc_l_words.nd rfl (by first | exact Or.inl rfl | exact Or.inr rfl) (pe_callB (call_min2 rfl) (by rfl) T.z_min (by decide +kernel) (pa_cons pe_int (pa_cons (pe_op op_add (pv 2) (pe_callTy call_int1 (by rfl) T.z_int (by decide +kernel) (pa_cons (pe_cmpR op_eq (pe_call (ok_l_off T) (hr.mono (by decide)) (by rfl) T.g_l_off T.F_l_off.kp T.b_l_off .nil pass0 (pa_cons (pv 0) (pa_cons pe_int pa_nil))) pe_int (nomark _)) pa_nil))) pa_nil))))
 (pss_cons (ps_set (i := 3) sc_l_words.nd rfl (by first | exact Or.inl rfl | exact Or.inr rfl) (pe_call (ok_l_gray T) (hr.mono (by decide)) (by rfl) T.g_l_gray T.F_l_gray.kp T.b_l_gray .nil pass0 (pa_cons (pv 2) pa_nil)))
 (pss_cons (ps_set (i := 4) sc_l_words.nd rfl (by first | exact Or.inl rfl | exact Or.inr rfl) (pe_op op_cat (pe_slice sl_list (pv 3) po_none (po_some (pv 1))) (pe_slice sl_list (pv 3) (po_some (pe_op op_sub (pe_callB call_len_seq (by rfl) T.z_len PySem.boot_len (pa_cons (pv 3) pa_nil)) (pv 1))) po_none)))
 (pss_cons (ps_set (i := 5) sc_l_words.nd rfl (by first | exact Or.inl rfl | exact Or.inr rfl) (pe_call (ok_l_off T) (hr.mono (by decide)) (by rfl) T.g_l_off T.F_l_off.kp T.b_l_off .nil pass0 (pa_cons (pv 0) (pa_cons pe_int pa_nil))))
 (pss_cut (ps_if (pt_cmpR op_eq (pv 5) pe_int (nomark _))
 (pss_one (ps_set (i := 4) sc_l_words.nd rfl (by first | exact Or.inl rfl | exact Or.inr rfl) (pe_slice sl_list (pe_call (ok_l_plain T) (hr.mono (by decide)) (by rfl) T.g_l_plain T.F_l_plain.kp T.b_l_plain .nil pass0 (pa_cons (pv 2) pa_nil)) po_none (po_some (pe_op op_mul pe_int (pv 1))))))
 pss_nil)
 (pss_cut (ps_if (pt_cmpR op_eq (pv 5) pe_int (nomark _))
 (pss_one (ps_set (i := 4) sc_l_words.nd rfl (by first | exact Or.inl rfl | exact Or.inr rfl) (pe_slice sl_list (pe_call (ok_l_mixed T) (hr.mono (by decide)) (by rfl) T.g_l_mixed T.F_l_mixed.kp T.b_l_mixed .nil pass0 (pa_cons (pv 0) (pa_cons (pv 3) pa_nil))) po_none (po_some (pe_op op_mul pe_int (pv 1))))))
 pss_nil)
 (pss_cut (ps_if (pt_cmpR op_eq (pv 5) pe_int (nomark _))
 (pss_cons (ps_set (i := 6) sc_l_words.nd rfl (by first | exact Or.inl rfl | exact Or.inr rfl) (pe_call (ok_l_off T) (hr.mono (by decide)) (by rfl) T.g_l_off T.F_l_off.kp T.b_l_off .nil pass0 (pa_cons (pv 0) (pa_cons (pe_op op_mul pe_int (pv 1)) pa_nil))))
 (pss_cons (ps_set (i := 7) sc_l_words.nd rfl (by first | exact Or.inl rfl | exact Or.inr rfl) (pe_op op_mod (pe_op op_add (pe_op op_add (pv 6) pe_int) (pe_call (ok_l_off T) (hr.mono (by decide)) (by rfl) T.g_l_off T.F_l_off.kp T.b_l_off .nil pass0 (pa_cons (pv 0) (pa_cons (pe_op op_sub (pe_op op_mul pe_int (pv 1)) pe_int) pa_nil)))) (pe_op op_mul pe_int (pv 1))))
 (pss_one (ps_set (i := 4) sc_l_words.nd rfl (by first | exact Or.inl rfl | exact Or.inr rfl) (pe_lc (own := [("_law_k", 8)]) (g := gName 8) (by rfl) sc_l_words.nd (pi_range1 (by rfl) T.z_range (pa_cons (pe_op op_mul pe_int (pv 1)) pa_nil)) (blkOk_by (own := [("_law_k", 8)]) (N := ["_law_d", "_law_room", "_law_wide", "_law_every", "_law_words_here", "_law_kind", "_law_at", "_law_by", "_law_k", "_law_order", "_law_turn", "_law_found", "_law_word", "_law_marks", "_law_mark"]) (sc := defScope s_l_words) (by decide +kernel)) (fun _ _ _ _ _ => pg_name (i := 8) sc_l_words.nd rfl (Or.inl rfl)) (fun _ _ _ _ _ => pts_nil) (fun _ _ _ _ _ => (pe_ix (r := rIxL K) ix_list (pv 4) (pe_dget2 (hu_of hr) (pe_disp (pps_cons (pv 6) (pv 7) (pps_cons (pv 7) (pv 6) pps_nil)) (by rfl) (by rfl) (fun z => by cases z) (by decide)) (pv 8) (pv 8) ⟨rfl, rfl, rfl, rfl⟩) (fun _ _ => rfl))))))))
 pss_nil)
 (pss_cons (ps_set (i := 9) sc_l_words.nd rfl (by first | exact Or.inl rfl | exact Or.inr rfl) (pe_call (ok_l_mixed T) (hr.mono (by decide)) (by rfl) T.g_l_mixed T.F_l_mixed.kp T.b_l_mixed .nil pass0 (pa_cons (pv 0) (pa_cons (pe_listRg rfl (by rfl) T.z_list (prg_1 (by rfl) T.z_range (pv 2))) pa_nil))))
 (pss_cons (ps_set (i := 10) sc_l_words.nd rfl (by first | exact Or.inl rfl | exact Or.inr rfl) (pe_call (ok_l_off T) (hr.mono (by decide)) (by rfl) T.g_l_off T.F_l_off.kp T.b_l_off .nil pass0 (pa_cons (pv 0) (pa_cons pe_int pa_nil))))
 (pss_cons (ps_set (i := 11) sc_l_words.nd rfl (by first | exact Or.inl rfl | exact Or.inr rfl) (pe_lst pa_nil))
 (pss_cons (ps_for PassesOwn.never rfl (pi_list (pv 4)) (pg_name (i := 12) sc_l_words.nd rfl (by first | exact Or.inl rfl | exact Or.inr rfl))
 (pss_cons (ps_setLc (i := 13) (own := [("_law_k", 8)]) (g := gName 8) (by rfl) sc_l_words.nd rfl rfl (sw_true rfl rfl rfl (by decide +kernel)) (pi_range1 (by rfl) T.z_range (pa_cons (pv 2) pa_nil)) (blkOk_by (own := [("_law_k", 8)]) (N := ["_law_d", "_law_room", "_law_wide", "_law_every", "_law_words_here", "_law_kind", "_law_at", "_law_by", "_law_k", "_law_order", "_law_turn", "_law_found", "_law_word", "_law_marks", "_law_mark"]) (sc := defScope s_l_words) (by decide +kernel)) (fun _ _ _ _ _ => pg_name (i := 8) sc_l_words.nd rfl (Or.inl rfl)) (fun _ _ _ _ _ => pts_nil) (fun _ _ _ _ _ => (pe_op op_add (pe_callTy call_int_str (by rfl) T.z_int (by decide +kernel) (pa_cons (pe_ix ix_str (pv 12) (pe_ix (r := rIxL K) ix_list (pv 9) (pv 8) (fun _ _ => rfl)) (fun _ _ => rfl)) pa_nil)) (pe_op op_fdiv (pv 10) (pe_ix (r := rIxL K) ix_list (pe_lst (pa_cons pe_int (pa_cons pe_int (pa_cons pe_int (pa_cons pe_int pa_nil))))) (pv 8) (fun _ _ => rfl))))))
 (pss_one (ps_expr (pe_bm PySem.F.plainAttrs_list PySem.F.slot_list_append PySem.F.type_list_append mt_append (pv 11) (pa_cons (pe_join pe_str (pe_lc (own := [("_law_mark", 14)]) (g := gName 14) (by rfl) sc_l_words.nd (pi_list (pv 13)) (blkOk_by (own := [("_law_mark", 14)]) (N := ["_law_d", "_law_room", "_law_wide", "_law_every", "_law_words_here", "_law_kind", "_law_at", "_law_by", "_law_k", "_law_order", "_law_turn", "_law_found", "_law_word", "_law_marks", "_law_mark"]) (sc := defScope s_l_words) (by decide +kernel)) (fun _ _ _ _ _ => pg_name (i := 14) sc_l_words.nd rfl (Or.inl rfl)) (fun _ _ _ _ _ => pts_nil) (fun _ _ _ _ _ => (pe_callTy call_str_int (by rfl) T.z_str (by decide +kernel) (pa_cons (pe_op op_mod (pv 14) pe_int) pa_nil))))) pa_nil))))))
 (pss_one (ps_ret (pv 11)))))))))))))))), ?_⟩
    refine ⟨fun f σ H' => ∃ n : Nat, σ = [some (.ref d), some (.int (r : Int)), some (.int (n : Int)), none, none, none, none, none, none, none, none, none, none, none, none] ∧ Ex H H' ∧ 1 ≤ n ∧ n + f = 4, ⟨3, 1, rfl, Ex.refl _, by omega, by omega⟩, ?_⟩
    rintro f σ H1 ⟨n, rfl, e1, n1, hnf⟩
    refine ⟨small9 (by simp), fun l nl => ?_⟩
    have el := Ex.new (o := HO.lst [.int 1, .int 2, .int 4, .int 8, .int 16]) nl
    refine ⟨_, rfl, l, _, _, _, rfl, rfl, SqL.of upd_same, tab5 (by omega), _, rfl, _, _, rfl, rfl, .inl ⟨by decide, by decide⟩, _, _, rfl, rfl, _, rfl, ?_⟩
    have e1 := e1.trans el
    generalize upd H1 l (.lst [.int 1, .int 2, .int 4, .int 8, .int 16]) = H1 at e1 ⊢
    by_cases hlt : 2 ^ n < 2 * r
    · have hn4 : n < 4 := by
        rcases Nat.lt_or_ge n 4 with h | h
        · exact h
        · have : n = 4 := by omega
          subst this
          omega
      refine ifP (decide_eq_true (by exact_mod_cast hlt)) ⟨fun σ' H' => ∃ n : Nat, σ' = [some (.ref d), some (.int (r : Int)), some (.int (n : Int)), none, none, none, none, none, none, none, none, none, none, none, none] ∧ Ex H H' ∧ 1 ≤ n ∧ n + f = 5 ∧ 0 < f, fun σ' H' ⟨n', a1, a2, a3, a4, a5⟩ => ⟨f - 1, by omega, n', a1, a2, a3, by omega⟩, ?_⟩
      exact ⟨_, rfl, _, _, rfl, rfl, n + 1, rfl, e1, by omega, by omega, by omega⟩
    refine ifN (by simp; exact_mod_cast Nat.le_of_not_lt hlt) ?_
    have hd := hd.mono e1
    have e1 := Exd.of (d := d) e1
    -- wide
    refine ⟨_, rfl, _, rfl, d, 4, rfl, hd, by decide, by decide, fun x H2 x0 x1 e2 hd2 => ⟨rfl, .inr ⟨_, rfl, _, _, rfl, rfl, _, _, rfl, ?_⟩⟩⟩
    obtain ⟨m, hm, hm1, hm4⟩ : ∃ m : Nat, (if (n : Int) + (if decide (V.int x = V.int 0) = true then (1 : Int) else 0) < 4 then (n : Int) + (if decide (V.int x = V.int 0) = true then (1 : Int) else 0) else 4) = (m : Int) ∧ n ≤ m ∧ m ≤ 4 := by
      cases decide (V.int x = V.int 0) with
      | true =>
        by_cases h : (n : Int) + 1 < 4
        · exact ⟨n + 1, by simp [h], by omega, by omega⟩
        · exact ⟨4, by simp [h], by omega, by omega⟩
      | false =>
        by_cases h : (n : Int) < 4
        · exact ⟨n, by simp [h], by omega, by omega⟩
        · exact ⟨4, by simp [h], by omega, by omega⟩
    have hpow : 2 * r ≤ 2 ^ m := Nat.le_trans (Nat.le_of_not_lt hlt) (Nat.pow_le_pow_right (by decide) hm1)
    have h16 := pow16 hm4
    have ev : V.int (if (n : Int) + (if decide (V.int x = V.int 0) = true then (1 : Int) else 0) < 4 then (n : Int) + (if decide (V.int x = V.int 0) = true then (1 : Int) else 0) else 4) = .int (m : Int) := congrArg V.int hm
    dsimp only
    rw [ev]
    obtain ⟨ndg, ndp⟩ := nodup_gray hm4
    have lg : (grayW m).length = 2 ^ m := grayW_len m
    -- every
    refine ⟨_, rfl, m, rfl, hm4, fun ey H3 ney e3 hey => ?_⟩
    have hd := hd2.mono e3
    have neyH : H ey = none := e1.fresh (e2.fresh ney (hd2.neN ney)) (hd2.neN ney)
    have neyd := hd2.neN ney
    have e13 := (e1.trans e2).trans (Exd.of e3)
    -- words_here
    refine ⟨_, rfl, _, rfl, _, rfl, ey, _, rfl, SqL.of hey, fun s1 ns1 => ?_⟩
    have es1 := Ex.new (o := HO.lst (cutV ((grayW m).map wv) none (some (r : Int)))) ns1
    have ex : (((grayW m).map wv).length : Int) - (r : Int) = ((2 ^ m - r : Nat) : Int) := by
      rw [List.length_map, lg]
      omega
    refine ⟨_, rfl, _, rfl, ey, _, rfl, .inl (SqL.of (es1 _ _ hey)), _, rfl, _, _, rfl, rfl, _, rfl, ey, _, rfl, SqL.of (es1 _ _ hey), fun s2 ns2 => ?_⟩
    have es2 := es1.trans (Ex.new (o := HO.lst (cutV ((grayW m).map wv) (some ((((grayW m).map wv).length : Int) - (r : Int))) none)) ns2)
    refine ⟨s1, s2, _, _, rfl, rfl, (Ex.new ns2) _ _ upd_same, upd_same, ?_, fun p np => ?_⟩
    · rw [ex, cutTake, cutDrop, List.length_take, List.length_drop, List.length_map, lg]
      exact small9 (by omega)
    have es3 := es2.trans (Ex.new (o := HO.lst (cutV ((grayW m).map wv) none (some (r : Int)) ++ cutV ((grayW m).map wv) (some ((((grayW m).map wv).length : Int) - (r : Int))) none)) np)
    have w0 : WOk ((grayW m).take r ++ (grayW m).drop ((grayW m).length - r)) m r := wok_ends ndg (by omega) (grayW_wide m)
    have hp := upd_same (H := upd (upd H3 s1 (.lst (cutV ((grayW m).map wv) none (some (r : Int))))) s2 (.lst (cutV ((grayW m).map wv) (some ((((grayW m).map wv).length : Int) - (r : Int))) none))) (a := p) (o := HO.lst (cutV ((grayW m).map wv) none (some (r : Int)) ++ cutV ((grayW m).map wv) (some ((((grayW m).map wv).length : Int) - (r : Int))) none))
    have hey4 := es3 _ _ hey
    have hd4 := hd.mono es3
    have npd : p ≠ d := (hd.mono es2).neN np
    have npH : H p = none := e13.fresh (fresh_back es2 np) npd
    have e14 := e13.trans (Exd.of es3)
    generalize upd (upd (upd H3 s1 (.lst (cutV ((grayW m).map wv) none (some (r : Int))))) s2 (.lst (cutV ((grayW m).map wv) (some ((((grayW m).map wv).length : Int) - (r : Int))) none))) p (.lst (cutV ((grayW m).map wv) none (some (r : Int)) ++ cutV ((grayW m).map wv) (some ((((grayW m).map wv).length : Int) - (r : Int))) none)) = H4 at hp hey4 hd4 e14 ⊢
    rw [ex, cutTake, cutDrop, ← List.map_take, ← List.map_drop, ← List.map_append, ← lg] at hp
    generalize (grayW m).take r ++ (grayW m).drop ((grayW m).length - r) = ws at hp w0
    clear es1 es2 es3 e13 e3 hey hd hd2 e1 e2
    -- kind
    refine ⟨_, rfl, d, 4, rfl, hd4, by decide, by decide, fun kd H5 k0 k1 e5 hd5 => ?_⟩
    have hp := e5 _ _ hp npd
    have hey := e5 _ _ hey4 neyd
    have e15 := e14.trans e5
    clear e14 e5 hey4 hd4
    -- kind 1
    refine ⟨fun σ H' => ∃ p ws, σ = [some (.ref d), some (.int (r : Int)), some (.int (m : Int)), some (.ref ey), some (.ref p), some (.int kd), none, none, none, none, none, none, none, none, none] ∧ Exd d H H' ∧ Dice H' d ∧ H' ey = some (.lst ((grayW m).map wv)) ∧ p ≠ d ∧ H p = none ∧ H' p = some (.lst (ws.map wv)) ∧ WOk ws m r, ?_, ?_⟩
    · refine ⟨_, rfl, rfl, _, rfl, ite2 (fun _ => ?_) (fun _ => ⟨p, ws, rfl, e15, hd5, hey, npd, npH, hp, w0⟩)⟩
      refine ⟨_, rfl, m, rfl, hm4, fun l H6 nl e6 hl => ?_⟩
      refine ⟨_, rfl, _, _, rfl, rfl, .inl ⟨by decide, by decide⟩, _, rfl, l, _, rfl, SqL.of hl, fun p2 np2 => ?_⟩
      have n2 := (hd5.mono e6).neN np2
      have e7 := e6.trans (Ex.new (o := HO.lst (cutV ((plainW m).map wv) none (some (2 * (r : Int))))) np2)
      refine ⟨p2, (plainW m).take (2 * r), rfl, e15.trans (Exd.of e7), hd5.mono e7, e7 _ _ hey, n2, e15.fresh (fresh_back e6 np2) n2, ?_, wok_take ndp (by rw [plainW_len]; exact hpow) (plainW_wide m)⟩
      rw [upd_same, show 2 * (r : Int) = ((2 * r : Nat) : Int) by omega, cutTake, List.map_take]
    rintro σ H6 ⟨p, ws, rfl, e6, hd6, hey, npd, npH, hp, w0⟩
    -- kind 2
    refine ⟨fun σ H' => ∃ p ws, σ = [some (.ref d), some (.int (r : Int)), some (.int (m : Int)), some (.ref ey), some (.ref p), some (.int kd), none, none, none, none, none, none, none, none, none] ∧ Exd d H H' ∧ Dice H' d ∧ p ≠ d ∧ H p = none ∧ H' p = some (.lst (ws.map wv)) ∧ WOk ws m r, ?_, ?_⟩
    · refine ⟨_, rfl, rfl, _, rfl, ite2 (fun _ => ?_) (fun _ => ⟨p, ws, rfl, e6, hd6, npd, npH, hp, w0⟩)⟩
      refine ⟨_, rfl, _, rfl, d, ey, _, rfl, hd6, neyd, SqL.of hey, fun x hx => ?_, by rw [List.length_map, lg]; omega, fun l ys H7 nl e7 hd7 pm hl => ?_⟩
      · obtain ⟨u, _, rfl⟩ := List.mem_map.mp hx
        exact strOk_wd u
      obtain ⟨us, rfl, pu⟩ := perm_map_inv pm rfl
      refine ⟨_, rfl, _, _, rfl, rfl, .inl ⟨by decide, by decide⟩, _, rfl, l, _, rfl, SqL.of hl, fun p2 np2 => ?_⟩
      have n2 := hd7.neN np2
      have e8 := Ex.new (o := HO.lst (cutV (us.map wv) none (some (2 * (r : Int))))) np2
      refine ⟨p2, us.take (2 * r), rfl, (e6.trans e7).trans (Exd.of e8), hd7.mono e8, n2, (e6.trans e7).fresh np2 n2, ?_, wok_take (pu.nodup_iff.mpr ndg) (by rw [pu.length_eq, lg]; exact hpow) (fun w hw => grayW_wide m w (pu.mem_iff.mp hw))⟩
      rw [upd_same, show 2 * (r : Int) = ((2 * r : Nat) : Int) by omega, cutTake, List.map_take]
    rintro σ H7 ⟨p, ws, rfl, e7, hd7, npd, npH, hp, w0⟩
    -- kind 3
    refine ⟨fun σ H' => ∃ p ws y6 y7 y8, σ = [some (.ref d), some (.int (r : Int)), some (.int (m : Int)), some (.ref ey), some (.ref p), some (.int kd), y6, y7, y8, none, none, none, none, none, none] ∧ Exd d H H' ∧ Dice H' d ∧ p ≠ d ∧ H p = none ∧ H' p = some (.lst (ws.map wv)) ∧ WOk ws m r, ?_, ?_⟩
    · refine ⟨_, rfl, rfl, _, rfl, ite2 (fun _ => ?_) (fun _ => ⟨p, ws, _, _, _, rfl, e7, hd7, npd, npH, hp, w0⟩)⟩
      refine ⟨_, rfl, _, rfl, _, _, rfl, rfl, .inl ⟨by decide, by decide⟩, d, _, rfl, hd7, by omega, by omega, fun x1 H8 x10 x11 e8 hd8 => ?_⟩
      refine ⟨_, rfl, _, _, rfl, rfl, _, rfl, _, rfl, _, _, rfl, rfl, .inl ⟨by decide, by decide⟩, _, _, rfl, rfl, d, _, rfl, hd8, by omega, by omega, fun x2 H9 x20 x21 e9 hd9 => ?_⟩
      refine ⟨_, _, rfl, rfl, _, rfl, _, _, rfl, rfl, .inl ⟨by decide, by decide⟩, _, _, rfl, rfl, by show (0 : Int) < 2 * (r : Int); omega, ?_⟩
      obtain ⟨a, rfl⟩ : ∃ a : Nat, x1 = (a : Int) := ⟨x1.toNat, by omega⟩
      obtain ⟨b, hb, hb2⟩ : ∃ b : Nat, ((a : Int) + 1 + x2) % (2 * (r : Int)) = (b : Int) ∧ b < 2 * r := by
        have h1 := Int.emod_nonneg ((a : Int) + 1 + x2) (show (2 * (r : Int)) ≠ 0 by omega)
        have h2 := Int.emod_lt_of_pos ((a : Int) + 1 + x2) (show (0 : Int) < 2 * (r : Int) by omega)
        exact ⟨(((a : Int) + 1 + x2) % (2 * (r : Int))).toNat, by omega, by omega⟩
      have ha2 : a < 2 * r := by omega
      have hab : a ≠ b := by
        intro e
        rw [emod_two (by omega) (by omega)] at hb
        split at hb <;> omega
      dsimp only
      rw [hb]
      have hp9 := e9 _ _ (e8 _ _ hp npd) npd
      have e79 := (e7.trans e8).trans e9
      refine ⟨_, rfl, _, _, rfl, rfl, .inl ⟨by decide, by decide⟩, _, rfl, by omega, by omega, fun D nD => lcR (2 * r) (fun k => wv (ws.getD (swapN a b k) [])) (by omega) (by omega) nD (fun _ => rfl) (fun k hk H10 e10 Y hY => ?_) (fun H10 e10 h10 => ?_)⟩
      · have hsw := swapN_lt ha2 hb2 hk
        refine ⟨_, rfl, fun dp ndp => ⟨_, rfl, _, rfl, _, rfl, _, rfl, upd_same, [((Sum.inl (a : Int) : Key), V.int (b : Int)), (Sum.inl (b : Int), V.int (a : Int))], rfl, by simp, dp, rfl, .inl ⟨_, .inl upd_same⟩, _, rfl, _, rfl, _, DGet.k (k := Sum.inl (k : Int)) upd_same, p, _, ((swapN a b k : Nat) : Int), wv (ws.getD (swapN a b k) []), rfl, swap_val hab k, ?_, atI_nat (getDW (by rw [w0.len]; exact hsw)), ?_⟩⟩
        · have := ((Ex.refl H10).mut (o := HO.dK []) ndp)
          exact SqL.of (((Ex.mut (Ex.new (o := HO.dK []) ndp) ndp) _ _ (e10 _ _ hp9)))
        · exact hY _ (Ex.mut (Ex.new (o := HO.dK []) ndp) ndp)
      · have nDd := hd9.neN nD
        refine ⟨D, (List.range (2 * r)).map fun k => ws.getD (swapN a b k) [], _, _, _, rfl, e79.trans (Exd.of e10), hd9.mono e10, nDd, e79.fresh nD nDd, ?_, wok_swap w0 ha2 hb2⟩
        rw [h10, List.map_map]
        rfl
    rintro σ H8 ⟨p, ws, y6, y7, y8, rfl, e8, hd8, npd, npH, hp, w0⟩
    -- order, turn
    refine ⟨_, rfl, _, rfl, _, rfl, RgOk.of_le (by omega) (by omega) (by omega) (by omega), fun l nl => ?_⟩
    have el := Ex.new (o := HO.lst (rgV 0 (m : Int))) nl
    have nld := hd8.neN nl
    have erg : rgV 0 (m : Int) = (List.range m).map fun i : Nat => V.int (0 + (i : Nat)) := by
      unfold rgV
      rw [show ((m : Int) - 0).toNat = m by omega]
    refine ⟨d, l, _, rfl, hd8.mono el, nld, SqL.of upd_same, fun x hx => ?_, by rw [erg, List.length_map, List.length_range]; omega, fun po ys H9 npo e9 hd9 pm hpo => ?_⟩
    · rw [erg] at hx
      obtain ⟨u, _, rfl⟩ := List.mem_map.mp hx
      trivial
    rw [erg] at pm
    obtain ⟨os, rfl, pos⟩ := perm_map_inv pm rfl
    have hol : os.length = m := by rw [pos.length_eq, List.length_range]
    have npod : po ≠ d := by
      intro e
      subst e
      obtain ⟨_, _, _, h1, _⟩ := hd8
      rw [el _ _ h1] at npo
      cases npo
    have hp9 := e9 _ _ (el _ _ hp) npd
    have e89 := (e8.trans (Exd.of el)).trans e9
    have npoH : H po = none := e8.fresh (fresh_back el npo) npod
    have npop : p ≠ po := ne_of_none (el _ _ hp) npo
    refine ⟨_, rfl, d, 16, rfl, hd9, by decide, by decide, fun t0 H10 t00 t01 e10 hd10 => ?_⟩
    obtain ⟨t, rfl⟩ : ∃ t : Nat, t0 = (t : Int) := ⟨t0.toNat, by omega⟩
    have hp10 := e10 _ _ hp9 npd
    have hpo10 := e10 _ _ hpo npod
    have e810 := e89.trans e10
    refine ⟨small9 (by simp), fun fo nfo => ?_⟩
    have efo := Ex.new (o := HO.lst []) nfo
    have nfod := hd10.neN nfo
    have nfoH : H fo = none := e810.fresh nfo nfod
    have nfop : p ≠ fo := ne_of_none hp10 nfo
    have nfopo : po ≠ fo := ne_of_none hpo10 nfo
    refine ⟨_, rfl, p, rfl, ⟨_, SqL.of (efo _ _ hp10)⟩, ?_⟩
    refine for_list (K := K) (a := p) (xs := ws.map wv) (fun i σ H' => ∃ y8 y12 y13 y14, σ = [some (.ref d), some (.int (r : Int)), some (.int (m : Int)), some (.ref ey), some (.ref p), some (.int kd), y6, y7, y8, some (.ref po), some (.int (t : Int)), some (.ref fo), y12, y13, y14] ∧ Exd d H H' ∧ Dice H' d ∧ H' p = some (.lst (ws.map wv)) ∧ H' po = some (.lst (os.map fun i : Nat => V.int (0 + (i : Nat)))) ∧ H' fo = some (.lst (((ws.take i).map (newW m t os)).map wv)))
      ⟨_, _, _, _, rfl, e810.trans (Exd.of efo), hd10.mono efo, efo _ _ hp10, efo _ _ hpo10, upd_same⟩ (fun i σ H' _ ⟨_, _, _, _, _, _, _, h, _⟩ => SqL.of h) ?_ ?_
    · rintro i x σ H11 hi ⟨y8, y12, y13, y14, rfl, e11, hd11, hp11, hpo11, hfo11⟩
      obtain ⟨u, hu, rfl⟩ : ∃ u, ws[i]? = some u ∧ wv u = x := by
        rw [List.getElem?_map] at hi
        cases e : ws[i]? with
        | none => rw [e] at hi; cases hi
        | some y => rw [e] at hi; exact ⟨y, rfl, Option.some.inj hi⟩
      have hul : u.length = m := w0.wide u (List.mem_of_getElem? hu)
      have hil : i < ws.length := (List.getElem?_eq_some_iff.mp hu).1
      have hwl := w0.len
      -- marks
      refine ⟨_, rfl, _, rfl, lo62 _, hi62 (by omega), fun D nD => lcR m (fun k => V.int ((if u.getD (os.getD k 0) false then 1 else 0 : Int) + (t : Int) / ((2 ^ k : Nat) : Int))) rfl (by omega) nD (fun _ => rfl) (fun k hk H12 e12 Y hY => ?_) (fun H12 e12 h12 => ?_)⟩
      · have hok : os.getD k 0 < m := by
          have h1 : os.getD k 0 ∈ os := by
            rw [List.getD_eq_getElem?_getD, List.getElem?_eq_getElem (by omega)]
            exact List.getElem_mem _
          exact List.mem_range.mp (pos.mem_iff.mp h1)
        have hat : (os.map fun i : Nat => V.int (0 + (i : Nat)))[k]? = some (V.int ((os.getD k 0 : Nat) : Int)) := by
          rw [List.getElem?_map, List.getD_eq_getElem?_getD, List.getElem?_eq_getElem (by omega)]
          show some (V.int (0 + _)) = some (V.int _)
          rw [Int.zero_add]
          rfl
        refine ⟨_, rfl, _, rfl, _, rfl, po, _, _, V.int ((os.getD k 0 : Nat) : Int), rfl, rfl, SqL.of (e12 _ _ hpo11), atI_nat hat, wd u, _, bit (u.getD (os.getD k 0) false), rfl, rfl, small9 (by rw [wd_len]; omega), atW rfl (by omega), ⟨#[bit (u.getD (os.getD k 0) false)]⟩, _, rfl, int_sgn _, by show 1 ≤ 640; decide, _, rfl, small9 (by simp), fun tb ntb => ?_⟩
        have h2k : 2 ^ k ≤ 16 := pow16 (by omega)
        have h2k0 : 0 < 2 ^ k := Nat.two_pow_pos k
        refine ⟨_, rfl, tb, _, _, _, rfl, rfl, SqL.of upd_same, tab4 (by omega), _, _, rfl, rfl, ⟨by omega, by omega⟩, _, _, rfl, rfl, ?_⟩
        exact hY _ (Ex.new ntb)
      -- joined
      have e1112 := e11.trans (Exd.of e12)
      refine ⟨_, rfl, .inl ⟨rfl, _, SqL.of (e12 _ _ hfo11)⟩, ⟨_, rfl⟩, _, rfl, D, rfl, ⟨_, SqL.of h12⟩, fun D2 nD2 => lcM (List.range m) (fun k => V.int ((if u.getD (os.getD k 0) false then 1 else 0 : Int) + (t : Int) / ((2 ^ k : Nat) : Int))) (fun k => wv [(u.getD (os.getD k 0) false != (t / 2 ^ k % 2 == 1))]) (SqL.of h12) (by rw [List.length_range]; omega) nD2 (fun _ => rfl) (fun k hk H13 e13 Y hY => ?_) (fun H13 e13 h13 => ?_)⟩
      · refine ⟨_, rfl, _, _, rfl, rfl, (by decide : (0 : Int) < 2), _, rfl, ?_, ?_⟩
        · have h1 := Int.emod_nonneg ((if u.getD (os.getD k 0) false then 1 else 0 : Int) + (t : Int) / ((2 ^ k : Nat) : Int)) (show (2 : Int) ≠ 0 by decide)
          have h2 := Int.emod_lt_of_pos ((if u.getD (os.getD k 0) false then 1 else 0 : Int) + (t : Int) / ((2 ^ k : Nat) : Int)) (show (0 : Int) < 2 by decide)
          have : (((if u.getD (os.getD k 0) false then 1 else 0 : Int) + (t : Int) / ((2 ^ k : Nat) : Int)) % 2).natAbs < 2 := by omega
          rcases (show _ = 0 ∨ _ = 1 by omega : (((if u.getD (os.getD k 0) false then 1 else 0 : Int) + (t : Int) / ((2 ^ k : Nat) : Int)) % 2).natAbs = 0 ∨ (((if u.getD (os.getD k 0) false then 1 else 0 : Int) + (t : Int) / ((2 ^ k : Nat) : Int)) % 2).natAbs = 1) with e | e <;> rw [e] <;> decide
        · rw [str_sgn, mark_bit]
          exact hY _ (Ex.refl _)
      · refine ⟨"", D2, (newW m t os u).map (fun b => wd [b]), rfl, rfl, .inl (SqL.of ?_), ?_, ?_⟩
        · rw [h13, newW, List.map_map, List.map_map]
          rfl
        · have h1 := sz_words (l := (newW m t os u).map fun b => [b]) (n := 1) (fun w hw => by obtain ⟨b, _, rfl⟩ := List.mem_map.mp hw; exact Nat.le_refl _)
          simp only [List.map_map, List.length_map, Function.comp_def] at *
          have : (newW m t os u).length = m := by simp [newW]
          rw [strE, wd_len]
          simp at *
          omega
        · rw [strE, joinB]
          have e123 := e12.trans e13
          refine ⟨fo, _, _, rfl, rfl, e123 _ _ hfo11, ?_, _, _, _, _, rfl, (e11.trans (Exd.of e123)).mut nfoH, (hd11.mono e123).upd nfod.symm, ?_, ?_, ?_⟩
          · rw [List.length_map, List.length_map, List.length_take]
            exact small1000 (by omega)
          · rw [upd_ne nfop]
            exact e123 _ _ hp11
          · rw [upd_ne nfopo]
            exact e123 _ _ hpo11
          · rw [upd_same, List.take_add_one, hu]
            simp
    · rintro σ H11 ⟨y8, y12, y13, y14, rfl, e11, hd11, hp11, hpo11, hfo11⟩
      rw [List.length_map, List.take_length] at hfo11
      exact ⟨_, rfl, q fo _ m H11 nfoH nfod e11 hd11 (wok_new w0 pos) (by omega) hm4 hfo11⟩
def sp_l_lane : Sp := fun vs H Q _ => ∃ (dd : Addr), vs = [.ref dd] ∧ Dice H dd ∧ ∀ (l pw : Addr) (r n : Nat) (ws : List (List Bool)) (H' : Hp), H pw = none → H l = none → pw ≠ dd → Exd dd H H' → Dice H' dd → H' l = some (.tup [.int (r : Int), .ref pw]) → H' pw = some (.lst (ws.map wv)) → WW ws n r → ws.Nodup → Q (.ref l) H'
theorem ok_l_lane (T : TX K mg) : FnOk P w K mg base CX0 4 T.f_l_lane T.fd_l_lane ["_law_d"] sp_l_lane := by
  refine T.F_l_lane.ok sc_l_lane (fun vs H Q E h => ?_) (fun cdv A outer s H vs Q E hr h => ?_)
  · obtain ⟨_, rfl, _⟩ := h
    rfl
  · obtain ⟨dd, rfl, hdd, q⟩ := h
    refine ⟨_, (pss_cons (ps_set (i := 1) sc_l_lane.nd rfl (by first | exact Or.inl rfl | exact Or.inr rfl) (pe_ix ix_list (pe_lst (pa_cons pe_int (pa_cons pe_int (pa_cons pe_int (pa_cons (pe_op op_add pe_int (pe_call (ok_l_off T) (hr.mono (by decide)) (by rfl) T.g_l_off T.F_l_off.kp T.b_l_off .nil pass0 (pa_cons (pv 0) (pa_cons pe_int pa_nil)))) pa_nil))))) (pe_call (ok_l_off T) (hr.mono (by decide)) (by rfl) T.g_l_off T.F_l_off.kp T.b_l_off .nil pass0 (pa_cons (pv 0) (pa_cons pe_int pa_nil))) (fun _ _ => rfl)))
 (pss_one (ps_ret (pe_tup (pa_cons (pv 1) (pa_cons (pe_call (ok_l_words T) (hr.mono (by decide)) (by rfl) T.g_l_words T.F_l_words.kp T.b_l_words .nil pass0 (pa_cons (pv 0) (pa_cons (pv 1) pa_nil))) pa_nil)))))), ?_⟩
    refine ⟨_, rfl, dd, 6, rfl, hdd, by decide, by decide, fun x1 H1 x10 x11 e1 hdd1 => ⟨_, _, rfl, rfl, small9 (by simp), fun p np => ?_⟩⟩
    have x := Ex.new (o := HO.lst [.int 2, .int 3, .int 1, .int (1 + x1)]) np
    refine ⟨_, rfl, dd, 4, rfl, hdd1.mono x, by decide, by decide, fun x2 H2 x20 x21 e2 hdd2 => ?_⟩
    have hp := e2 _ _ (upd_same (H := H1) (a := p) (o := HO.lst [.int 2, .int 3, .int 1, .int (1 + x1)])) (hdd1.neN np)
    obtain ⟨r, hr1, hr6, hat⟩ : ∃ r : Nat, 1 ≤ r ∧ r ≤ 6 ∧ atI [V.int 2, V.int 3, V.int 1, V.int (1 + x1)] x2 = some (.int (r : Int)) := by
      have : x2 = 0 ∨ x2 = 1 ∨ x2 = 2 ∨ x2 = 3 := by omega
      rcases this with rfl | rfl | rfl | rfl
      · exact ⟨2, by decide, by decide, rfl⟩
      · exact ⟨3, by decide, by decide, rfl⟩
      · exact ⟨1, by decide, by decide, rfl⟩
      · refine ⟨(1 + x1).toNat, by omega, by omega, ?_⟩
        rw [show (((1 + x1).toNat : Nat) : Int) = 1 + x1 by omega]
        rfl
    refine ⟨p, _, _, .int (r : Int), rfl, rfl, SqL.of hp, hat, ?_⟩
    have e02 := (e1.trans (Exd.of x)).trans e2
    refine ⟨_, rfl, _, rfl, _, rfl, dd, r, rfl, hdd2, hr1, hr6, fun pw ws n H3 npw npd e3 hdd3 hW n1 n4 hpw => ⟨small9 (by simp), fun l nl => ?_⟩⟩
    have y := Ex.new (o := HO.tup [.int (r : Int), .ref pw]) nl
    have nld : l ≠ dd := hdd3.neN nl
    exact q l pw r n ws _ (e02.fresh npw npd) ((e02.trans e3).fresh nl nld) npd ((e02.trans e3).trans (Exd.of y)) (hdd3.mono y) upd_same (y _ _ hpw) ⟨hr1, hr6, n1, n4, hW.len, hW.wide⟩ hW.nd
/-! ### a text of one sign, times a number -/
theorem fold_one (c : Nat) : ∀ (k : Nat) (acc : Array Nat), (List.replicate k #[c]).foldl (· ++ ·) acc = acc ++ (List.replicate k c).toArray
  | 0, acc => by simp
  | k + 1, acc => by
    rw [List.replicate_succ, List.foldl_cons, fold_one c k, List.replicate_succ]
    apply Array.ext'
    simp [List.replicate_succ]
theorem op_mulS {X : Cx} : OpR X (binaryOp .Mult) (fun x y H Q => ∃ c k : Nat, x = .str ⟨#[c]⟩ ∧ y = .int (k : Int) ∧ 1 ≤ k ∧ k ≤ 1000 ∧ Q (.str ⟨(List.replicate k c).toArray⟩) H) := by
  intro pins s σ H x y v u Q I rx ry h
  obtain ⟨c, k, rfl, rfl, h1, h2, q⟩ := h
  obtain ⟨t, rfl⟩ := rx
  obtain ⟨t', rfl⟩ := ry
  have hx : (⟨#[c]⟩ : Str).length = 1 := rfl
  refine PySem.P.mul_str ?_ ?_ ?_ ?_
  · rw [decide_eq_false (by omega), decide_eq_false (by omega)]
    rfl
  · intro _ _
    rw [hx]
    have : (1 : Int) ≤ (2 ^ 63 - 1) / (k : Int) := by
      rw [Int.le_ediv_iff_mul_le (by omega)]
      omega
    omega
  · intro _ _
    rw [hx, Nat.one_mul, Int.toNat_natCast]
    exact decide_eq_false (Nat.not_lt.mpr (small9 h2))
  · rw [if_neg (by omega)]
    by_cases hk : k = 1
    · subst hk
      rw [if_pos (by rfl)]
      exact ⟨.str _, H, I, ⟨_, rfl⟩, q⟩
    · rw [if_neg (by rw [hx]; simp; omega), Int.toNat_natCast, fold_one]
      rw [Array.empty_append]
      exact ⟨by show (List.replicate k c).toArray.size ≤ sizeLine; rw [List.size_toArray, List.length_replicate]; exact small9 h2, ⟨.str _, H, I.tok _, ⟨_, rfl⟩, q⟩⟩
def sp_l_bad : Sp := fun vs H Q _ => ∃ (dd pw : Addr) (n r : Nat) (ws : List (List Bool)), vs = [.ref dd, .ref pw] ∧ Dice H dd ∧ H pw = some (.lst (ws.map wv)) ∧ pw ≠ dd ∧ WW ws n r ∧ ws.Nodup ∧
  ∀ (t p : Addr) (zs : List Str) (k : Nat) (H' : Hp), Exd dd H H' → Dice H' dd → H' t = some (.tup [.ref p, .int (k : Int)]) → H' p = some (.lst (zs.map V.str)) → p ≠ dd → StrsOk zs → zs.length ≤ 100 → k ≤ 100 → (zs = [] ∨ BadAt zs k) → Q (.ref t) H'
theorem ok_l_bad (T : TX K mg) : FnOk P w K mg base CX0 2 T.f_l_bad T.fd_l_bad ["_law_d", "_law_words_here"] sp_l_bad := by
  refine T.F_l_bad.ok sc_l_bad (fun vs H Q E h => ?_) (fun cdv A outer s H vs Q E hr h => ?_)
  · obtain ⟨_, _, _, _, _, rfl, _⟩ := h
    rfl
  · obtain ⟨dd, pw, n, r, ws, rfl, hd, hw, npd, hW, hnd, q⟩ := h
    refine ⟨_, (pss_cons (ps_set (i := 2) sc_l_bad.nd rfl (by first | exact Or.inl rfl | exact Or.inr rfl) (pe_call (ok_l_off T) (hr.mono (by decide)) (by rfl) T.g_l_off T.F_l_off.kp T.b_l_off .nil pass0 (pa_cons (pv 0) (pa_cons (pe_op op_add (pe_callB call_len_seq (by rfl) T.z_len PySem.boot_len (pa_cons (pv 1) pa_nil)) pe_int) pa_nil))))
 (pss_cons (ps_set (i := 3) sc_l_bad.nd rfl (by first | exact Or.inl rfl | exact Or.inr rfl) (pe_callB call_len_str (by rfl) T.z_len PySem.boot_len (pa_cons (pe_ix ix_list (pv 1) pe_int (fun _ _ => rfl)) pa_nil)))
 (pss_cons (ps_set (i := 4) sc_l_bad.nd rfl (by first | exact Or.inl rfl | exact Or.inr rfl) (pe_lst (pa_cons pe_str (pa_cons (pe_op op_mulS pe_str (pe_op op_add pe_int (pe_call (ok_l_off T) (hr.mono (by decide)) (by rfl) T.g_l_off T.F_l_off.kp T.b_l_off .nil pass0 (pa_cons (pv 0) (pa_cons pe_int pa_nil))))) (pa_cons (pe_op op_mulS pe_str (pv 3)) (pa_cons (pe_op op_add_str pe_str (pe_slice sl_str (pe_ix ix_list (pv 1) pe_int (fun _ _ => rfl)) (po_some pe_int) po_none)) (pa_cons (pe_op op_add_str (pe_ix ix_list (pv 1) pe_int (fun _ _ => rfl)) pe_str) (pa_cons (pe_op op_add_str (pe_slice sl_str (pe_ix ix_list (pv 1) pe_int (fun _ _ => rfl)) (po_some pe_int) po_none) pe_str) pa_nil))))))))
 (pss_cons (ps_set (i := 4) sc_l_bad.nd rfl (by first | exact Or.inl rfl | exact Or.inr rfl) (pe_op op_cat (pe_op op_cat (pv 4) (pe_slice sl_list (pv 1) po_none (po_some (pv 2)))) (pe_op op_rep (pe_slice sl_list (pv 1) po_none (po_some (pe_callB (call_min2 rfl) (by rfl) T.z_min (by decide +kernel) (pa_cons (pv 2) (pa_cons pe_int pa_nil))))) pe_int)))
 (pss_cut (ps_if (pt_cmpR op_eq (pv 2) pe_int (nomark _))
 (pss_one (ps_set (i := 4) sc_l_bad.nd rfl (by first | exact Or.inl rfl | exact Or.inr rfl) (pe_op op_cat (pe_slice sl_list (pv 4) po_none (po_some pe_int)) (pe_lst (pa_cons pe_str (pa_cons pe_str pa_nil))))))
 pss_nil)
 (pss_cons (ps_set (i := 5) sc_l_bad.nd rfl (by first | exact Or.inl rfl | exact Or.inr rfl) (pe_op op_cat (pe_op op_cat (pe_op op_cat (pe_slice sl_list (pv 1) po_none (po_some (pv 2))) (pe_lst (pa_cons (pe_ix ix_list (pv 4) (pe_call (ok_l_off T) (hr.mono (by decide)) (by rfl) T.g_l_off T.F_l_off.kp T.b_l_off .nil pass0 (pa_cons (pv 0) (pa_cons (pe_callB call_len_seq (by rfl) T.z_len PySem.boot_len (pa_cons (pv 4) pa_nil)) pa_nil))) (fun _ _ => rfl)) pa_nil))) (pe_slice sl_list (pv 1) (po_some (pv 2)) po_none)) (pe_op op_rep (pe_lst (pa_cons pe_str pa_nil)) (pe_call (ok_l_off T) (hr.mono (by decide)) (by rfl) T.g_l_off T.F_l_off.kp T.b_l_off .nil pass0 (pa_cons (pv 0) (pa_cons pe_int pa_nil))))))
 (pss_one (ps_ret (pe_tup (pa_cons (pe_ix ix_list (pe_lst (pa_cons (pe_lst pa_nil) (pa_cons (pv 5) pa_nil))) (pe_callTy call_int1 (by rfl) T.z_int (by decide +kernel) (pa_cons (pe_cmpR op_gt (pe_call (ok_l_off T) (hr.mono (by decide)) (by rfl) T.g_l_off T.F_l_off.kp T.b_l_off .nil pass0 (pa_cons (pv 0) (pa_cons pe_int pa_nil))) pe_int (nomark _)) pa_nil)) (fun _ _ => rfl)) (pa_cons (pv 2) pa_nil))))))))))), ?_⟩
    have r1 := hW.r1
    have r6 := hW.r6
    have n1 := hW.n1
    have n4 := hW.n4
    have hwl := hW.len
    refine ⟨_, rfl, _, rfl, pw, _, rfl, .inl (SqL.of hw), _, _, rfl, rfl, dd, _, rfl, hd, by rw [List.length_map]; omega, by rw [List.length_map]; omega, fun k H1 k0 k1 e1 hd1 => ?_⟩
    obtain ⟨k, rfl⟩ : ∃ j : Nat, k = (j : Int) := ⟨k.toNat, by omega⟩
    have hk : k ≤ ws.length := by rw [List.length_map] at k1; omega
    have hw1 := e1 _ _ hw npd
    have hw0 := hW.at (i := 0) (by omega)
    have hw0n := hW.wat (i := 0) (by omega)
    generalize ws.getD 0 [] = w0 at hw0 hw0n
    have hz0 : (wd w0).length ≤ 1000 := by rw [wd_len]; omega
    refine ⟨_, rfl, pw, _, _, _, rfl, rfl, SqL.of hw1, atI_nat hw0, wd w0, rfl, small9 hz0, ?_⟩
    refine ⟨_, rfl, dd, 9, rfl, hd1, by decide, by decide, fun m H2 m0 m1 e2 hd2 => ?_⟩
    obtain ⟨m, rfl⟩ : ∃ j : Nat, m = (j : Int) := ⟨m.toNat, by omega⟩
    have hw2 := e2 _ _ hw1 npd
    refine ⟨_, _, rfl, rfl, 48, 5 + m, rfl, by simp, by omega, by omega, ?_⟩
    refine ⟨_, rfl, 120, (wd w0).length, rfl, rfl, by rw [wd_len]; omega, hz0, ?_⟩
    refine ⟨_, rfl, pw, _, _, _, rfl, rfl, SqL.of hw2, atI_nat hw0, _, rfl, wd w0, rfl, small9 hz0, ?_⟩
    have hc1 := cutS1 w0 (by omega)
    have hcl : (cutS (wd w0) (some 1) none).length ≤ 4 := by rw [hc1, wd_len, List.length_drop]; omega
    have hl2 : ("2" : Str).length = 1 := by decide +kernel
    have hl0 : ("0" : Str).length = 1 := by decide +kernel
    have hlb : ("!" : Str).length = 1 := by decide +kernel
    have hwl0 : (wd w0).length ≤ 4 := by rw [wd_len]; omega
    refine ⟨_, _, rfl, rfl, small9 (by rw [hl2]; omega), ?_⟩
    refine ⟨_, rfl, pw, _, _, _, rfl, rfl, SqL.of hw2, atI_nat hw0, _, _, rfl, rfl, small9 (by rw [hl0]; omega), ?_⟩
    refine ⟨_, rfl, pw, _, _, _, rfl, rfl, SqL.of hw2, atI_nat hw0, _, rfl, wd w0, rfl, small9 hz0, _, _, rfl, rfl, small9 (by rw [hlb]; omega), small9 (by simp), fun o6 no6 => ?_⟩
    have hsix : [V.str "", .str ⟨(List.replicate (5 + m) 48).toArray⟩, .str ⟨(List.replicate (wd w0).length 120).toArray⟩, .str ("2" ++ cutS (wd w0) (some 1) none), .str (wd w0 ++ "0"), .str (cutS (wd w0) (some 1) none ++ "!")] = (six m n w0).map V.str := by
      rw [hc1, wd_len, hw0n, show ("2" : Str) = tx [50] by decide +kernel, show ("0" : Str) = tx [48] by decide +kernel, show ("!" : Str) = tx [33] by decide +kernel, show ("" : Str) = tx [] by decide +kernel, tx_wd, tx_wd, tx_app, tx_app, tx_app]
      rfl
    rw [hsix]
    obtain ⟨s1, s2, s3⟩ := six_ok m n w0 (by omega) n1 n4 hw0n
    have hsl : (six m n w0).length = 6 := rfl
    generalize six m n w0 = sx at s1 s2 s3 hsl ⊢
    have x6 := Ex.new (o := HO.lst (sx.map V.str)) no6
    have hd3 := hd2.mono x6
    have hw3 := x6 _ _ hw2
    have e03 : Exd dd H (upd H2 o6 (.lst (sx.map V.str))) := (e1.trans e2).trans (Exd.of x6)
    have ho6 : upd H2 o6 (.lst (sx.map V.str)) o6 = some (.lst (sx.map V.str)) := upd_same
    generalize upd H2 o6 (.lst (sx.map V.str)) = H3 at hd3 hw3 e03 ho6 ⊢
    clear x6
    refine ⟨_, rfl, _, rfl, _, rfl, _, rfl, pw, _, rfl, SqL.of hw3, fun o7 no7 => ?_⟩
    have hcut : cutV (ws.map wv) none (some (k : Int)) = ((ws.take k).map wd).map V.str := by rw [cutTake, List.map_map, ← List.map_take]; rfl
    rw [hcut]
    have htl : ((ws.take k).map wd).length ≤ 12 := by rw [List.length_map, List.length_take]; omega
    have x7 := Ex.new (o := HO.lst (((ws.take k).map wd).map V.str)) no7
    refine ⟨o6, o7, _, _, rfl, rfl, x7 _ _ ho6, upd_same, small9 (by rw [List.length_map, List.length_map, hsl]; omega), fun o8 no8 => ?_⟩
    have x8 := Ex.new (o := HO.lst (sx.map V.str ++ ((ws.take k).map wd).map V.str)) no8
    have x78 := x7.trans x8
    have ho8 : upd (upd H3 o7 (.lst (((ws.take k).map wd).map V.str))) o8 (.lst (sx.map V.str ++ ((ws.take k).map wd).map V.str)) o8 = some (.lst (sx.map V.str ++ ((ws.take k).map wd).map V.str)) := upd_same
    generalize upd (upd H3 o7 (.lst (((ws.take k).map wd).map V.str))) o8 (.lst (sx.map V.str ++ ((ws.take k).map wd).map V.str)) = H4 at x78 ho8 ⊢
    have hd4 := hd3.mono x78
    have hw4 := x78 _ _ hw3
    have e04 := e03.trans (Exd.of x78)
    clear x7 x8 x78
    refine ⟨_, rfl, _, rfl, _, _, rfl, _, rfl, pw, _, rfl, SqL.of hw4, fun o9 no9 => ?_⟩
    have hmin : (if (1 : Int) < (k : Int) then (1 : Int) else (k : Int)) = ((min k 1 : Nat) : Int) := by
      by_cases h : 1 < k
      · rw [if_pos (by omega), Nat.min_eq_right (by omega)]
        rfl
      · rw [if_neg (by omega), Nat.min_eq_left (by omega)]
    have hcut2 : cutV (ws.map wv) none (some (if (1 : Int) < (k : Int) then (1 : Int) else (k : Int))) = ((ws.take (min k 1)).map wd).map V.str := by rw [hmin, cutTake, List.map_map, ← List.map_take]; rfl
    rw [hcut2]
    have htl1 : ((ws.take (min k 1)).map wd).length ≤ 1 := by rw [List.length_map, List.length_take]; omega
    have x9 := Ex.new (o := HO.lst (((ws.take (min k 1)).map wd).map V.str)) no9
    refine ⟨o9, 5, _, rfl, rfl, upd_same, by decide, by decide, small9 (by rw [List.length_map, show (5 : Int).toNat = 5 from rfl]; omega), fun o10 no10 => ?_⟩
    have hfl : (List.replicate (5 : Int).toNat (((ws.take (min k 1)).map wd).map V.str)).flatten = ((List.replicate 5 ((ws.take (min k 1)).map wd)).flatten).map V.str := by
      rw [List.map_flatten, List.map_replicate]
      rfl
    rw [hfl]
    have hfl5 : ((List.replicate 5 ((ws.take (min k 1)).map wd)).flatten).length ≤ 5 := by
      rw [List.length_flatten, List.map_replicate, List.sum_replicate_nat]
      omega
    have x10 := Ex.new (o := HO.lst (((List.replicate 5 ((ws.take (min k 1)).map wd)).flatten).map V.str)) no10
    refine ⟨o8, o10, _, _, rfl, rfl, x10 _ _ (x9 _ _ ho8), upd_same, small9 (by
      have a1 := hfl5
      have a2 := htl
      simp only [List.length_append, List.length_map] at a1 a2 ⊢
      omega), fun o11 no11 => ?_⟩
    have hso : sx.map V.str ++ ((ws.take k).map wd).map V.str ++ ((List.replicate 5 ((ws.take (min k 1)).map wd)).flatten).map V.str = (sx ++ (ws.take k).map wd ++ (List.replicate 5 ((ws.take (min k 1)).map wd)).flatten).map V.str := by
      rw [List.map_append, List.map_append]
    rw [hso]
    have hbs : ∀ z ∈ sx ++ (ws.take k).map wd ++ (List.replicate 5 ((ws.take (min k 1)).map wd)).flatten, z ∈ sx ∨ z ∈ (ws.take k).map wd := fun z hz => by
      rcases List.mem_append.mp hz with hz | hz
      · exact List.mem_append.mp hz
      · right
        obtain ⟨l, hl, hz⟩ := List.mem_flatten.mp hz
        rw [List.eq_of_mem_replicate hl] at hz
        obtain ⟨u, hu, rfl⟩ := List.mem_map.mp hz
        exact List.mem_map.mpr ⟨u, List.take_subset_take_left ws (Nat.min_le_left k 1) hu, rfl⟩
    have hsl2 : (sx ++ (ws.take k).map wd ++ (List.replicate 5 ((ws.take (min k 1)).map wd)).flatten).length ≤ 23 ∧ 6 ≤ (sx ++ (ws.take k).map wd ++ (List.replicate 5 ((ws.take (min k 1)).map wd)).flatten).length := by
      simp only [List.length_append]
      omega
    have hs4 : (sx ++ (ws.take k).map wd ++ (List.replicate 5 ((ws.take (min k 1)).map wd)).flatten).take 4 = sx.take 4 := by
      rw [List.append_assoc, List.take_append_of_le_length (by omega)]
    generalize sx ++ (ws.take k).map wd ++ (List.replicate 5 ((ws.take (min k 1)).map wd)).flatten = so at hbs hsl2 hs4 ⊢
    have hok : StrsOk so := fun z hz => by
      rcases hbs z hz with h | h
      · exact s1 z h
      · obtain ⟨u, hu, rfl⟩ := List.mem_map.mp h
        refine ⟨by rw [wd_len, hW.wide u (List.mem_of_mem_take hu)]; omega, strOk_wd u⟩
    have x11 := Ex.new (o := HO.lst (so.map V.str)) no11
    have xx := (x9.trans x10).trans x11
    have no11d : o11 ≠ dd := (hd4.mono (x9.trans x10)).neN no11
    have ho11 := upd_same (H := upd (upd H4 o9 (.lst (((ws.take (min k 1)).map wd).map V.str))) o10 (.lst (((List.replicate 5 ((ws.take (min k 1)).map wd)).flatten).map V.str))) (a := o11) (o := HO.lst (so.map V.str))
    have hd5 := hd4.mono xx
    have hw5 := xx _ _ hw4
    have e05 := e04.trans (Exd.of xx)
    generalize upd (upd (upd H4 o9 (.lst (((ws.take (min k 1)).map wd).map V.str))) o10 (.lst (((List.replicate 5 ((ws.take (min k 1)).map wd)).flatten).map V.str))) o11 (.lst (so.map V.str)) = H5 at ho11 hd5 hw5 e05 ⊢
    clear x9 x10 x11 xx
    refine ⟨fun σ H' => ∃ o zs, σ = [some (.ref dd), some (.ref pw), some (.int (k : Int)), some (.int ((wd w0).length : Int)), some (.ref o), none] ∧ Exd dd H H' ∧ Dice H' dd ∧ H' pw = some (.lst (ws.map wv)) ∧ H' o = some (.lst (zs.map V.str)) ∧ o ≠ dd ∧ 1 ≤ zs.length ∧ zs.length ≤ 30 ∧ StrsOk zs ∧ ∀ z ∈ zs, isW z = false ∨ (1 ≤ k ∧ (z.length ≠ n ∨ z ∈ (ws.take k).map wd)), ?_, ?_⟩
    · refine ⟨_, rfl, rfl, _, rfl, ?_⟩
      by_cases hk0 : k = 0
      · subst hk0
        refine ifP (by decide +kernel) ⟨_, rfl, _, rfl, o11, _, rfl, SqL.of ho11, fun o12 no12 => ?_⟩
        have hc4 : cutV (so.map V.str) none (some 4) = (sx.take 4).map V.str := by
          rw [show (4 : Int) = ((4 : Nat) : Int) from rfl, cutTake, ← List.map_take, hs4]
        rw [hc4]
        have hx4 : (sx.take 4).length = 4 := by rw [List.length_take]; omega
        have y1 := Ex.new (o := HO.lst ((sx.take 4).map V.str)) no12
        refine ⟨small9 (by simp), fun o13 no13 => ?_⟩
        have y2 := Ex.new (o := HO.lst [.str "0 ", .str "10101"]) no13
        refine ⟨o12, o13, _, _, rfl, rfl, y2 _ _ upd_same, upd_same, small9 (by rw [List.length_map, hx4]; simp), fun o14 no14 => ?_⟩
        have hz : (sx.take 4).map V.str ++ [.str "0 ", .str "10101"] = (sx.take 4 ++ [tx [48, 32], tx [49, 48, 49, 48, 49]]).map V.str := by
          rw [List.map_append, show ("0 " : Str) = tx [48, 32] by decide +kernel, show ("10101" : Str) = tx [49, 48, 49, 48, 49] by decide +kernel]
          rfl
        rw [hz]
        have y3 := Ex.new (o := HO.lst ((sx.take 4 ++ [tx [48, 32], tx [49, 48, 49, 48, 49]]).map V.str)) no14
        have yy := (y1.trans y2).trans y3
        refine ⟨o14, _, rfl, e05.trans (Exd.of yy), hd5.mono yy, yy _ _ hw5, upd_same, (hd5.mono (y1.trans y2)).neN no14, by simp, by rw [List.length_append, hx4]; simp, fun z hz => ?_, fun z hz => .inl ?_⟩
        · rcases List.mem_append.mp hz with hz | hz
          · exact s1 z (List.mem_of_mem_take hz)
          · rcases List.mem_cons.mp hz with rfl | hz
            · exact ⟨by rw [tx_len]; simp, strOk_tx _ (by decide)⟩
            · rw [List.mem_singleton.mp hz]
              exact ⟨by rw [tx_len]; simp, strOk_tx _ (by decide)⟩
        · rcases List.mem_append.mp hz with hz | hz
          · exact s3 z hz
          · rcases List.mem_cons.mp hz with rfl | hz
            · exact isW_tx _ (.inr (.inr ⟨32, by simp, by decide, by decide⟩))
            · rw [List.mem_singleton.mp hz]
              exact isW_tx _ (.inl (by decide))
      · refine ifN (by simpa using hk0) ⟨o11, so, rfl, e05, hd5, hw5, ho11, no11d, by omega, by omega, hok, fun z hz => ?_⟩
        rcases hbs z hz with h | h
        · rcases s2 z h with h | h
          · exact .inl h
          · exact .inr ⟨by omega, .inl h⟩
        · exact .inr ⟨by omega, .inr h⟩
    · rintro σ H6 ⟨o, zs, rfl, e06, hd6, hw6, ho, nod, hl1, hl30, hok6, hbad⟩
      refine ⟨_, rfl, _, rfl, _, rfl, pw, _, rfl, SqL.of hw6, fun p1 np1 => ?_⟩
      rw [hcut]
      have y1 := Ex.new (o := HO.lst (((ws.take k).map wd).map V.str)) np1
      have np1d : p1 ≠ dd := hd6.neN np1
      have hd7 := hd6.mono y1
      have hp1 := upd_same (H := H6) (a := p1) (o := HO.lst (((ws.take k).map wd).map V.str))
      have ho7 := y1 _ _ ho
      have hw7 := y1 _ _ hw6
      have e07 := e06.trans (Exd.of y1)
      generalize upd H6 p1 (.lst (((ws.take k).map wd).map V.str)) = H7 at hd7 hp1 ho7 hw7 e07 ⊢
      refine ⟨_, rfl, _, rfl, _, rfl, o, _, rfl, .inl (SqL.of ho7), dd, _, rfl, hd7, by rw [List.length_map]; omega, by rw [List.length_map]; omega, fun j H8 j0 j1 e8 hd8 => ?_⟩
      obtain ⟨j, rfl⟩ : ∃ z : Nat, j = (z : Int) := ⟨j.toNat, by omega⟩
      have hjl : j < zs.length := by rw [List.length_map] at j1; omega
      have hv : (zs.map V.str)[j]? = some (.str zs[j]) := by rw [List.getElem?_map, List.getElem?_eq_getElem hjl]; rfl
      have hym := List.getElem_mem hjl
      generalize zs[j] = y at hv hym
      refine ⟨o, _, _, _, rfl, rfl, SqL.of (e8 _ _ ho7 nod), atI_nat hv, small9 (by simp), fun p2 np2 => ?_⟩
      have hp1b := e8 _ _ hp1 np1d
      have hw8 := e8 _ _ hw7 npd
      have e08 := e07.trans e8
      clear e8 hw7 e07 hp1 ho7 hd7
      have y2 := Ex.new (o := HO.lst [.str y]) np2
      refine ⟨p1, p2, _, _, rfl, rfl, y2 _ _ hp1b, upd_same, small9 (by
        have a2 := htl
        simp only [List.length_append, List.length_map, List.length_singleton] at a2 ⊢
        omega), fun p3 np3 => ?_⟩
      have y3 := Ex.new (o := HO.lst (((ws.take k).map wd).map V.str ++ [.str y])) np3
      have hw9 := y3 _ _ (y2 _ _ hw8)
      have hd9 := (hd8.mono y2).mono y3
      have e09 := e08.trans (Exd.of (y2.trans y3))
      have hp3 := upd_same (H := upd H8 p2 (.lst [.str y])) (a := p3) (o := HO.lst (((ws.take k).map wd).map V.str ++ [.str y]))
      generalize upd (upd H8 p2 (.lst [.str y])) p3 (.lst (((ws.take k).map wd).map V.str ++ [.str y])) = H9 at hw9 hd9 e09 hp3 ⊢
      clear y2 y3
      refine ⟨_, rfl, _, rfl, _, rfl, pw, _, rfl, SqL.of hw9, fun p4 np4 => ?_⟩
      have hcut3 : cutV (ws.map wv) (some (k : Int)) none = ((ws.drop k).map wd).map V.str := by rw [cutDrop, List.map_map, ← List.map_drop]; rfl
      rw [hcut3]
      have hdl : ((ws.drop k).map wd).length ≤ 12 := by rw [List.length_map, List.length_drop]; omega
      have y4 := Ex.new (o := HO.lst (((ws.drop k).map wd).map V.str)) np4
      refine ⟨p3, p4, _, _, rfl, rfl, y4 _ _ hp3, upd_same, small9 (by
        have a2 := htl
        have a3 := hdl
        simp only [List.length_append, List.length_map, List.length_singleton] at a2 a3 ⊢
        omega), fun p5 np5 => ?_⟩
      have y5 := Ex.new (o := HO.lst ((((ws.take k).map wd).map V.str ++ [.str y]) ++ ((ws.drop k).map wd).map V.str)) np5
      have hp5 := upd_same (H := upd H9 p4 (.lst (((ws.drop k).map wd).map V.str))) (a := p5) (o := HO.lst ((((ws.take k).map wd).map V.str ++ [.str y]) ++ ((ws.drop k).map wd).map V.str))
      have hd10 := (hd9.mono y4).mono y5
      have np5d : p5 ≠ dd := (hd9.mono y4).neN np5
      have e010 := e09.trans (Exd.of (y4.trans y5))
      generalize upd (upd H9 p4 (.lst (((ws.drop k).map wd).map V.str))) p5 (.lst ((((ws.take k).map wd).map V.str ++ [.str y]) ++ ((ws.drop k).map wd).map V.str)) = H10 at hp5 hd10 e010 ⊢
      clear y4 y5
      refine ⟨small9 (by simp), fun p6 np6 => ?_⟩
      have y6 := Ex.new (o := HO.lst [.str ""]) np6
      have np6d : p6 ≠ dd := hd10.neN np6
      refine ⟨_, rfl, dd, 2, rfl, hd10.mono y6, by decide, by decide, fun z H11 z0 z1 e11 hd11 => ?_⟩
      have hp6 := e11 _ _ (upd_same (H := H10) (a := p6) (o := HO.lst [.str ""])) np6d
      have hp5 := e11 _ _ (y6 _ _ hp5) np5d
      have e011 := (e010.trans (Exd.of y6)).trans e11
      clear y6 e11 e010
      obtain ⟨z, rfl⟩ : ∃ j : Nat, z = (j : Int) := ⟨z.toNat, by omega⟩
      have hfl2 : (List.replicate (z : Int).toNat [V.str ""]).flatten = ((List.replicate z (tx [])).map V.str) := by
        rw [Int.toNat_natCast, show ("" : Str) = tx [] by decide +kernel, List.map_replicate]
        simp
      refine ⟨p6, _, _, rfl, rfl, hp6, by omega, by omega, small9 (by rw [Int.toNat_natCast]; simp only [List.length_singleton]; omega), fun p7 np7 => ?_⟩
      rw [hfl2]
      have y7 := Ex.new (o := HO.lst ((List.replicate z (tx [])).map V.str)) np7
      refine ⟨p5, p7, _, _, rfl, rfl, y7 _ _ hp5, upd_same, small9 (by
        have a2 := htl
        have a3 := hdl
        simp only [List.length_append, List.length_map, List.length_singleton, List.length_replicate] at a2 a3 ⊢
        omega), fun p8 np8 => ?_⟩
      have hall : (((ws.take k).map wd).map V.str ++ [.str y]) ++ ((ws.drop k).map wd).map V.str ++ (List.replicate z (tx [])).map V.str = ((ws.take k).map wd ++ y :: ((ws.drop k).map wd ++ List.replicate z (tx []))).map V.str := by
        simp only [List.map_append, List.map_cons, List.append_assoc, List.cons_append, List.nil_append]
      rw [hall]
      have hB := badAt_ins (tl := (ws.drop k).map wd ++ List.replicate z (tx [])) hW.wide n1 n4 hnd hk (hbad y hym)
      have hSo : StrsOk ((ws.take k).map wd ++ y :: ((ws.drop k).map wd ++ List.replicate z (tx []))) := fun u hu => by
        have hwd : ∀ l : List (List Bool), (∀ v ∈ l, v ∈ ws) → u ∈ l.map wd → u.length ≤ 1000 ∧ PyData.strOk u = true := fun l hl h => by
          obtain ⟨v, hv, rfl⟩ := List.mem_map.mp h
          exact ⟨by rw [wd_len, hW.wide v (hl v hv)]; omega, strOk_wd v⟩
        rcases List.mem_append.mp hu with h | h
        · exact hwd _ (fun v hv => List.mem_of_mem_take hv) h
        · rcases List.mem_cons.mp h with rfl | h
          · exact hok6 _ hym
          · rcases List.mem_append.mp h with h | h
            · exact hwd _ (fun v hv => List.mem_of_mem_drop hv) h
            · rw [List.eq_of_mem_replicate h]
              exact ⟨by rw [tx_len]; simp, strOk_tx _ (by simp)⟩
      have hal : ((ws.take k).map wd ++ y :: ((ws.drop k).map wd ++ List.replicate z (tx []))).length ≤ 100 := by
        simp only [List.length_append, List.length_cons, List.length_replicate]
        omega
      generalize (ws.take k).map wd ++ y :: ((ws.drop k).map wd ++ List.replicate z (tx [])) = al at hB hSo hal ⊢
      have y8 := Ex.new (o := HO.lst (al.map V.str)) np8
      have hd12 := (hd11.mono y7).mono y8
      have np8d : p8 ≠ dd := (hd11.mono y7).neN np8
      have e012 := e011.trans (Exd.of (y7.trans y8))
      have hp8 := upd_same (H := upd H11 p7 (.lst ((List.replicate z (tx [])).map V.str))) (a := p8) (o := HO.lst (al.map V.str))
      generalize upd (upd H11 p7 (.lst ((List.replicate z (tx [])).map V.str))) p8 (.lst (al.map V.str)) = H12 at hd12 e012 hp8 ⊢
      clear y7 y8
      refine ⟨small9 (by simp), fun q1 nq1 => ?_⟩
      have v1 := Ex.new (o := HO.lst []) nq1
      have nq1d : q1 ≠ dd := hd12.neN nq1
      refine ⟨_, rfl, small9 (by simp), fun q2 nq2 => ?_⟩
      have v2 := Ex.new (o := HO.lst [.ref q1, .ref p8]) nq2
      have nq2d : q2 ≠ dd := (hd12.mono v1).neN nq2
      have hd13 := (hd12.mono v1).mono v2
      refine ⟨_, rfl, dd, 6, rfl, hd13, by decide, by decide, fun x H13 x0 x1 e13 hd14 => ?_⟩
      have e013 := (e012.trans (Exd.of (v1.trans v2))).trans e13
      have hq1 := e13 _ _ (v2 _ _ (upd_same (H := H12) (a := q1) (o := HO.lst []))) nq1d
      have hq2 := e13 _ _ (upd_same (H := upd H12 q1 (.lst [])) (a := q2) (o := HO.lst [.ref q1, .ref p8])) nq2d
      have hp8 := e13 _ _ (v2 _ _ (v1 _ _ hp8)) np8d
      clear v1 v2 e13 hd12 hd13
      refine ⟨_, _, rfl, rfl, .inr ⟨_, rfl, ?_⟩⟩
      by_cases hx : 0 < x
      · rw [decide_eq_true hx]
        refine ⟨q2, _, _, .ref p8, rfl, rfl, SqL.of hq2, rfl, _, rfl, small9 (by simp), fun t nt => ?_⟩
        have v3 := Ex.new (o := HO.tup [.ref p8, .int (k : Int)]) nt
        exact q t p8 al k _ (e013.trans (Exd.of v3)) (hd14.mono v3) upd_same (v3 _ _ hp8) np8d hSo hal (by omega) (.inr hB)
      · rw [decide_eq_false hx]
        refine ⟨q2, _, _, .ref q1, rfl, rfl, SqL.of hq2, rfl, _, rfl, small9 (by simp), fun t nt => ?_⟩
        have v3 := Ex.new (o := HO.tup [.ref q1, .int (k : Int)]) nt
        exact q t q1 [] k _ (e013.trans (Exd.of v3)) (hd14.mono v3) upd_same (v3 _ _ hq1) nq1d (fun z hz => by cases hz) (by simp) (by omega) (.inl rfl)
/-! ### a comprehension over anything that is walked, its parts told of the state where it starts -/
def tLcI (wi : TI) (tt : L2.St → TT) (te : L2.St → TE) (j : Nat) : TE := fun σ H Q => tLc wi (gName j) (tt σ) (te σ) [j] σ H Q
section
variable {X : Cx}
theorem pe_lcI {elt iter : Expr} {x : Str} {px pos : Pos} {ifs : List Expr} {scope : Scope} {j : Nat} {wi : TI} {tt : L2.St → TT} {te : L2.St → TE} (hE : X.calm = true) (hN : X.N.Nodup) (hl : PI X (.Name x px) iter wi) (ok : BlkOk X.N X.env.scope scope [(x, j)])
    (hg : ∀ (s : Shared) (H : Hp) (C : Addr) (cl : List (Str × Addr)) (fp : List Addr), PG (X.blk s H scope (compEnvC scope cl C X.env) fp) (.Name x px) (gName j))
    (ht : ∀ (pins : List (Addr × Obj)) (σ : L2.St) (s : Shared) (H : Hp) (C : Addr) (cl : List (Str × Addr)) (fp : List Addr), Inv X pins σ H s → (∀ y c, X.env.cells.lookup y = some c → c ∉ fp) → PTs (X.blk s H scope (compEnvC scope cl C X.env) fp) ifs (tt σ))
    (he : ∀ (pins : List (Addr × Obj)) (σ : L2.St) (s : Shared) (H : Hp) (C : Addr) (cl : List (Str × Addr)) (fp : List Addr), Inv X pins σ H s → (∀ y c, X.env.cells.lookup y = some c → c ∉ fp) → PE (X.blk s H scope (compEnvC scope cl C X.env) fp) elt (te σ))
    (hs : ∀ v, foldedSetIterable iter X.env v = pure v := by intro _; rfl) : PE X (.ListComp elt [⟨.Name x px, iter, ifs, 0⟩] scope pos) (tLcI wi tt te j) := by
  refine ⟨fun pins s σ H Q I h => ?_⟩
  have hfr : ∀ y ∈ scope.names, y.2 = .free → ∃ c, X.env.cells.lookup y.1 = some c := fun y hy e => I.ok.has _ (ok.free y hy e)
  rw [eval_ListComp]
  refine wpAny_comprehension_free (use := none) rfl hs (closure_ok hfr) ok.kind (fun y hy e => by rw [ok.uniq y hy, e]) (thn (hl.run pins s σ H _ I h) fun v0 s1 hv0 => thn hv0 fun itv s2 ⟨ia, fps, tn, J, H1, eit, I2, TT0, st2, fIt, q⟩ => ?_)
  subst eit
  refine wpAny_newObj_type (newEnv_comp ?_) (by show 0 ≤ sizeLine; decide)
  have nD : H1 s2.heap.objs.size = none := I2.hok.fresh (Nat.le_refl _)
  have szs : ∀ b ∈ fps, b < s2.heap.objs.size := fun b hb => by
    obtain ⟨o, eo, _⟩ := TT0.obj 0 s2.heap st2 b hb
    exact Heap.lt_size eo
  obtain ⟨W, ⟨m0, w0⟩, turn⟩ := q s2.heap.objs.size nD
  have I3 : Inv X pins σ (upd H1 s2.heap.objs.size (.lst [])) { s2 with heap := s2.heap.push { cls := .type "list", data := .seq ([] : List Value).toArray } } := I2.laid (t' := s2.toks) (fun b o e => Heap.get?_push_of_some _ e) (Nat.le_refl _) ⟨Nat.zero_le _, [], 0, .nil, Heap.get?_push_size _ rfl⟩
  generalize hDD : s2.heap.objs.size = D at nD szs w0 turn I3 ⊢
  have st3 : tn 0 (s2.heap.push { cls := .type "list", data := .seq ([] : List Value).toArray }) := TT0.keep 0 s2.heap _ st2 fun b _ o e => Heap.get?_push_of_some _ e
  have lt3 : ∀ b ∈ fps, b < (s2.heap.push { cls := .type "list", data := .seq ([] : List Value).toArray }).objs.size := fun b hb => by
    rw [Heap.size_push, hDD]
    exact Nat.lt_succ_of_lt (szs b hb)
  generalize hs3 : ({ s2 with heap := s2.heap.push { cls := .type "list", data := .seq ([] : List Value).toArray } } : Shared) = s3 at I3 ⊢
  rw [show s2.heap.push { cls := .type "list", data := .seq ([] : List Value).toArray } = s3.heap by rw [← hs3]] at st3 lt3
  have f3 : ∀ b ∈ fps, FpOk X pins (upd H1 D (.lst [])) b := fun b hb => ⟨by rw [upd_ne (Nat.ne_of_lt (szs b hb))]; exact (fIt b hb).1, (fIt b hb).2⟩
  generalize hH3 : upd H1 D (.lst []) = H3 at I3 w0 f3
  have I4 := block_start (fp := fps) I3 ok hN (fun b hb => ⟨f3 b hb, lt3 b hb⟩)
  have ncell : ∀ y c, X.env.cells.lookup y = some c → c ∉ fps := fun y c e z => (f3 c z).2.2.2.2.1 y c e rfl
  have pg := hg s3 H3 s3.heap.objs.size (cellsFrom (s3.heap.objs.size + 1) scope.names (cloFrom X.env.cells scope.names [])) fps
  have pt := ht pins σ s3 H3 s3.heap.objs.size (cellsFrom (s3.heap.objs.size + 1) scope.names (cloFrom X.env.cells scope.names [])) fps I3 ncell
  have pe := he pins σ s3 H3 s3.heap.objs.size (cellsFrom (s3.heap.objs.size + 1) scope.names (cloFrom X.env.cells scope.names [])) fps I3 ncell
  show codeAny _ _ (.compStart (.ListComp elt [⟨.Name x px, iter, ifs, 0⟩] scope pos) 0 (.ref ia) (.ref D) (compEnvC scope (cellsFrom (s3.heap.objs.size + 1) scope.names (cloFrom X.env.cells scope.names [])) s3.heap.objs.size X.env)) (compPost (model X.prog X.w) X.A X.xe none (EP X pins σ Q) (.ref D) s3.heap.objs.size) { s3 with heap := pushCells (s3.heap.push { cls := .type "dict", data := .dict #[] }) scope.names }
  generalize hce : compEnvC scope (cellsFrom (s3.heap.objs.size + 1) scope.names (cloFrom X.env.cells scope.names [])) s3.heap.objs.size X.env = ce at I4 pg pt pe ⊢
  have hcl : ce.locals = s3.heap.objs.size := by rw [← hce]; rfl
  have st4 : tn 0 (pushCells (s3.heap.push { cls := .type "dict", data := .dict #[] }) scope.names) := TT0.keep 0 s3.heap _ st3 fun b _ o e => pushCells_keeps _ _ _ _ (Heap.get?_push_of_some _ e)
  generalize hs4 : ({ s3 with heap := pushCells (s3.heap.push { cls := .type "dict", data := .dict #[] }) scope.names } : Shared) = s4 at I4 ⊢
  rw [show pushCells (s3.heap.push { cls := .type "dict", data := .dict #[] }) scope.names = s4.heap by rw [← hs4]] at st4
  -- the iterator's objects may turn within the block
  have fB : ∀ {σ' : L2.St} {H' : Hp} {s' : Shared}, Inv (X.blk s3 H3 scope ce fps) [] σ' H' s' → (∀ b ∈ fps, H' b = none) → ∀ b ∈ fps, FpOk (X.blk s3 H3 scope ce fps) [] H' b := fun I' hn b hb =>
    ⟨hn b hb, (I'.ok.exf b hb).1, I'.ok.exfs b hb, .inl hb, fun y c e => (I'.ok.exf b hb).2 y c e, fun p hp => absurd (show p ∈ ([] : List (Addr × Obj)) ++ [] from hp) (by simp)⟩
  have loop : codeAny (model X.prog X.w) X.A (.compLoop (.ListComp elt [⟨.Name x px, iter, ifs, 0⟩] scope pos) 0 (.ref ia) (.ref D) ce) (compPost (model X.prog X.w) X.A X.xe none (EP X pins σ Q) (.ref D) s3.heap.objs.size) s4 := by
    refine compLoop_any (fun n s' => ∃ i H', Inv (X.blk s3 H3 scope ce fps) [] (wipe σ [j]) H' s' ∧ tn i s'.heap ∧ (∀ b ∈ fps, H' b = none) ∧ W i n H') ?_ m0 ⟨0, H3, I4, st4, fun b hb => (f3 b hb).1, w0⟩
    rintro n s5 ⟨i, H5, I5, st5, n5, w5⟩
    rcases turn i n H5 w5 with ⟨hstop, qq⟩ | ⟨hgo, Nx, hNx, step⟩
    · refine thnF (TT0.done (X.blk s3 H3 scope ce fps) rfl rfl rfl hE i [] s5 _ H5 (fun _ _ => False) I5 (fB I5 n5) st5 hstop) fun r s6 ⟨hr, I6⟩ => ?_
      subst hr
      have I7 : Inv X pins σ H5 s6 := I3.call' (ch := fps) I6.os I6.base I6.hok I6.bare fun b hb => by
        have g := f3 b hb
        exact ⟨g.2.2.2.1, g.2.1, g.2.2.2.2.1, g.2.2.2.2.2⟩
      have nC : H5 s3.heap.objs.size = none := by
        have z : H5 ce.locals = none := I6.free
        rwa [hcl] at z
      obtain ⟨m, hm, _⟩ := I6.loc
      have hm : s6.heap.Ns ce.locals m := hm
      rw [hcl] at hm
      obtain ⟨e0, e1, e2, e3, e4, e5⟩ := I3.fpOk (H' := H5) (Nat.le_refl _) nC
      exact ⟨m, hm, fun h7 sb => ⟨.ref D, H5, I7.turned (t' := s6.toks) (fun b o hb e => (sb.2 b hb).trans e) e0 e1 e3 e4 e5, rfl, qq⟩⟩
    · refine thnF (TT0.item (X.blk s3 H3 scope ce fps) rfl rfl rfl hE i [] s5 _ H5 (fun _ _ => False) I5 (fB I5 n5) st5 hgo) fun r s6 ⟨u, hr, h6⟩ => ?_
      subst hr
      refine thnF h6 fun _ s7 ⟨yv0, H7, I6, rr, hy7, st6, n7⟩ => ?_
      have I6p := I6.pinned (fB I6 n7) (TT0.obj (i + 1) s7.heap st6)
      refine thnF (pg.run _ s7 _ H7 yv0 u _ I6p rr (step yv0 H7 hy7)) fun _ s8 ⟨σ8, H8, I8, hw8, q8⟩ => ?_
      refine thnF (pt.run _ s8 σ8 H8 _ I8 q8) fun b s9 ⟨H9, I9, q9⟩ => ?_
      have again : ∀ {s' : Shared} {H' : Hp}, Inv (X.blk s3 H3 scope ce fps) ([] ++ pinsAt fps s7.heap) σ8 H' s' → Nx H' → ∃ m, m < n ∧ ∃ i H', Inv (X.blk s3 H3 scope ce fps) [] (wipe σ [j]) H' s' ∧ tn i s'.heap ∧ (∀ b ∈ fps, H' b = none) ∧ W i m H' := fun {s' H'} I' nx => by
        obtain ⟨m', hm, w'⟩ := hNx H' nx
        have pin' : ∀ b, b ∈ fps → ∀ o, s7.heap.get? b = some o → s'.heap.get? b = some o ∧ H' b = none := fun b hb o e => by
          obtain ⟨z1, z2, _⟩ := I'.pin (b, o) (List.mem_append_right _ (List.mem_append_right _ (mem_pinsAt hb e)))
          exact ⟨z1, z2⟩
        refine ⟨m', hm, i + 1, H', (I'.unpinned (pins := [])).weak (by rw [← hw8, wipe_length]) (fun i' v e => ?_), TT0.keep (i + 1) s7.heap _ st6 (fun b hb o e => (pin' b hb o e).1), fun b hb => ?_, w'⟩
        · rw [← hw8] at e
          exact (wipe_some e).1
        · obtain ⟨o, eo, _⟩ := TT0.obj (i + 1) s7.heap st6 b hb
          exact (pin' b hb o eo).2
      cases b with
      | false =>
        rw [if_neg (by decide)] at q9 ⊢
        exact again I9 q9
      | true =>
        rw [if_pos rfl] at q9 ⊢
        refine thnF (pe.run _ s9 σ8 H9 _ I9 q9) fun z s10 ⟨yv, H10, I10, r10, acc, hD10, hz10, nx⟩ => ?_
        exact app_ok (X := X.blk s3 H3 scope ce fps) I10 hD10 hz10 r10 fun s11 I11 => again I11 nx
  exact codeAny_compStart_list loop (TT0.self X.A 0 s4 _ _ st4 loop)
end
abbrev qlam : Str := (("law" : Str) ++ ".<locals>.") ++ "<lambda>"
theorem tabs_exd {T : List (Addr × Str)} {dd : Addr} {H H' : Hp} (h : LamX.Tabs T H) (hd : Dice H dd) (e : Exd dd H H') : LamX.Tabs T H' := fun p hp => by
  obtain ⟨ps, a1, a2, a3⟩ := h p hp
  obtain ⟨s, c, r, hd, _⟩ := hd
  refine ⟨ps, e _ _ a1 (by rintro z; rw [← z, a1] at hd; cases hd), a2, fun pos cv hc => ?_⟩
  obtain ⟨c, e1, e2⟩ := a3 pos cv hc
  refine ⟨c, e1, e _ _ e2 ?_⟩
  rintro rfl
  rw [e2] at hd
  have hd := Option.some.inj hd
  unfold LamX.CodeO at hd
  cases hd
theorem hloc_by {N : List Str} {scope : Scope} (h : (scope.names.all fun y => !decide (y.2 = .local) || !N.contains y.1) = true) : ∀ y ∈ scope.names, y.2 = .local → y.1 ∉ N := fun y hy e hm => by
  have := List.all_eq_true.mp h y hy
  rw [decide_eq_true e, show N.contains y.1 = true from by simpa using hm] at this
  cases this
/-- what stands in the law's heap at first -/
structure SitN (dd Pt : Addr) (H : Hp) : Prop where
  dice : Dice H dd
  tab : LamX.Tabs [(Pt, qlam)] H
/-- then a lane too, and words that are refused -/
structure SitW (dd l pw pb Pt : Addr) (r : Nat) (ws : List (List Bool)) (zs : List Str) (H : Hp) : Prop where
  dice : Dice H dd
  lane : H l = some (.tup [.int (r : Int), .ref pw])
  words : H pw = some (.lst (ws.map wv))
  bad : H pb = some (.lst (zs.map V.str))
  tab : LamX.Tabs [(Pt, qlam)] H
  n1 : l ≠ dd
  n2 : pw ≠ dd
  n3 : pb ≠ dd
section
variable {dd l pw pb Pt : Addr} {r : Nat} {ws : List (List Bool)} {zs : List Str} {H H' : Hp}
theorem dice_extN (h : Dice H dd) (e : LamX.ExtN H H') : Dice H' dd := by
  obtain ⟨s, c, rr, hd, hr⟩ := h
  exact ⟨s, c, rr, e _ _ hd (fun ps z => by cases z), hr⟩
theorem SitN.ex (h : SitN dd Pt H) (e : Ex H H') : SitN dd Pt H' := ⟨h.dice.mono e, h.tab.ext e⟩
theorem SitN.exd (h : SitN dd Pt H) (e : Exd dd H H') (hd : Dice H' dd) : SitN dd Pt H' := ⟨hd, tabs_exd h.tab h.dice e⟩
theorem SitN.extN (h : SitN dd Pt H) (e : LamX.ExtN H H') (ht : LamX.Tabs [(Pt, qlam)] H') : SitN dd Pt H' := ⟨dice_extN h.dice e, ht⟩
theorem SitW.ex (h : SitW dd l pw pb Pt r ws zs H) (e : Ex H H') : SitW dd l pw pb Pt r ws zs H' :=
  ⟨h.dice.mono e, e _ _ h.lane, e _ _ h.words, e _ _ h.bad, h.tab.ext e, h.n1, h.n2, h.n3⟩
theorem SitW.exd (h : SitW dd l pw pb Pt r ws zs H) (e : Exd dd H H') (hd : Dice H' dd) : SitW dd l pw pb Pt r ws zs H' :=
  ⟨hd, e _ _ h.lane h.n1, e _ _ h.words h.n2, e _ _ h.bad h.n3, tabs_exd h.tab h.dice e, h.n1, h.n2, h.n3⟩
theorem SitW.extN (h : SitW dd l pw pb Pt r ws zs H) (e : LamX.ExtN H H') (ht : LamX.Tabs [(Pt, qlam)] H') : SitW dd l pw pb Pt r ws zs H' :=
  ⟨dice_extN h.dice e, e _ _ h.lane (fun ps z => by cases z), e _ _ h.words (fun ps z => by cases z), e _ _ h.bad (fun ps z => by cases z), ht, h.n1, h.n2, h.n3⟩
end
/-- a number that is drawn out of four -/
theorem at4 {a b c d x : Int} (h0 : 0 ≤ x) (h1 : x < 4) (R : Int → Prop) (ha : R a) (hb : R b) (hc : R c) (hd : R d) : ∃ i, atI [V.int a, .int b, .int c, .int d] x = some (.int i) ∧ R i := by
  have : x = 0 ∨ x = 1 ∨ x = 2 ∨ x = 3 := by omega
  rcases this with rfl | rfl | rfl | rfl
  · exact ⟨a, rfl, ha⟩
  · exact ⟨b, rfl, hb⟩
  · exact ⟨c, rfl, hc⟩
  · exact ⟨d, rfl, hd⟩
theorem at8 {a b c d e f g h x : Int} (h0 : 0 ≤ x) (h1 : x < 8) (R : Int → Prop) (ha : R a) (hb : R b) (hc : R c) (hd : R d) (he : R e) (hf : R f) (hg : R g) (hh : R h) : ∃ i, atI [V.int a, .int b, .int c, .int d, .int e, .int f, .int g, .int h] x = some (.int i) ∧ R i := by
  have : x = 0 ∨ x = 1 ∨ x = 2 ∨ x = 3 ∨ x = 4 ∨ x = 5 ∨ x = 6 ∨ x = 7 := by omega
  rcases this with rfl | rfl | rfl | rfl | rfl | rfl | rfl | rfl
  · exact ⟨a, rfl, ha⟩
  · exact ⟨b, rfl, hb⟩
  · exact ⟨c, rfl, hc⟩
  · exact ⟨d, rfl, hd⟩
  · exact ⟨e, rfl, he⟩
  · exact ⟨f, rfl, hf⟩
  · exact ⟨g, rfl, hg⟩
  · exact ⟨h, rfl, hh⟩
/-! ### a list of the law's own grows -/
theorem thk_exd {H H' : Hp} {f wa : Addr} {xs : List V} {L : LamD} (h : ThkH H f L) (hw : H wa = some (.lst xs)) (e : Exd wa H H') : ThkH H' f L := by
  obtain ⟨h1, h2, h3⟩ := h
  have ne : ∀ b o, H b = some o → (∀ ys, o ≠ .lst ys) → b ≠ wa := fun b o hb n z => by
    rw [z, hw] at hb
    exact n xs (Option.some.inj hb).symm
  refine ⟨e _ _ h1 (ne _ _ h1 fun ys z => by unfold LamO at z; cases z), e _ _ h2 (ne _ _ h2 fun ys z => by unfold LamX.CodeO at z; cases z), h3.imp fun t h4 => e _ _ h4 (ne _ _ h4 fun ys z => by cases z)⟩
theorem tabs_exl {T : List (Addr × Str)} {wa : Addr} {xs : List V} {H H' : Hp} (h : LamX.Tabs T H) (hw : H wa = some (.lst xs)) (e : Exd wa H H') : LamX.Tabs T H' := fun p hp => by
  obtain ⟨ps, a1, a2, a3⟩ := h p hp
  refine ⟨ps, e _ _ a1 (by rintro z; rw [z, hw] at a1; cases a1), a2, fun pos cv hc => ?_⟩
  obtain ⟨c, e1, e2⟩ := a3 pos cv hc
  refine ⟨c, e1, e _ _ e2 ?_⟩
  rintro rfl
  rw [e2] at hw
  have hw := Option.some.inj hw
  unfold LamX.CodeO at hw
  cases hw
theorem SitW.exl {dd l pw pb Pt wa : Addr} {r : Nat} {ws : List (List Bool)} {zs : List Str} {H H' : Hp} {xs : List V} (h : SitW dd l pw pb Pt r ws zs H) (hw : H wa = some (.lst xs)) (n1 : wa ≠ dd) (n2 : wa ≠ pw) (n3 : wa ≠ pb) (e : Exd wa H H') : SitW dd l pw pb Pt r ws zs H' := by
  obtain ⟨⟨s, c, rr, hd, hr⟩, h1, h2, h3, h4, m1, m2, m3⟩ := h
  exact ⟨⟨s, c, rr, e _ _ hd n1.symm, hr⟩, e _ _ h1 (by rintro rfl; rw [hw] at h1; cases h1), e _ _ h2 n2.symm, e _ _ h3 n3.symm, tabs_exl h4 hw e, m1, m2, m3⟩
/-! ### lanes that are refused -/
section
variable {CL CW l pw : Addr} {r : Int} {zs : List Str} {H : Hp} {E : XK}
theorem laneX_bad {k : Nat} (r1 : 1 ≤ r) (r6 : r ≤ 6) (hB : BadAt zs k) (hl : H l = some (.tup [.int r, .ref pw])) (hw : H pw = some (.lst (zs.map V.str))) (hs : StrsOk zs) (hz : zs.length ≤ 1000) (hE : ∀ j, BadAt zs j → RaisesW CW H E j) : LaneX K CL CW l pw r zs H E ∧ ¬ IsLane r zs :=
  ⟨⟨hl, SqL.of hw, hs, hz, fun h => by
    rcases h with h | ⟨h1, h2, _⟩
    · exact absurd ⟨r1, r6⟩ h
    · exact absurd h2 (badAt_not hB h1), fun _ _ => hE⟩, fun h => badAt_not hB h.2.1 h.2.2.1⟩
theorem laneX_room (hr : ¬ (1 ≤ r ∧ r ≤ 6)) (hl : H l = some (.tup [.int r, .ref pw])) (hw : H pw = some (.lst (zs.map V.str))) (hs : StrsOk zs) (hz : zs.length ≤ 1000) (hE : ∀ H', Ex H H' → E (.ref CL) none H') : LaneX K CL CW l pw r zs H E ∧ ¬ IsLane r zs :=
  ⟨⟨hl, SqL.of hw, hs, hz, fun _ => hE, fun h1 h2 => absurd ⟨h1, h2⟩ hr⟩, fun h => hr h.1⟩
theorem bad_good {k : Nat} (hg : ∀ i, i < zs.length → GoodAt zs i) (hne : zs ≠ []) : ¬ BadAt zs k := fun h => badAt_not h hne hg
theorem laneX_len (hg : ∀ i, i < zs.length → GoodAt zs i) (hne : zs ≠ []) (hn : (zs.length : Int) ≠ 2 * r) (hl : H l = some (.tup [.int r, .ref pw])) (hw : H pw = some (.lst (zs.map V.str))) (hs : StrsOk zs) (hz : zs.length ≤ 1000) (hE : ∀ H', Ex H H' → E (.ref CL) none H') : LaneX K CL CW l pw r zs H E ∧ ¬ IsLane r zs :=
  ⟨⟨hl, SqL.of hw, hs, hz, fun _ => hE, fun _ _ k hk => absurd hk (bad_good hg hne)⟩, fun h => hn h.2.2.2⟩
theorem laneX_ok (hg : ∀ i, i < zs.length → GoodAt zs i) (hne : zs ≠ []) (r1 : 1 ≤ r) (r6 : r ≤ 6) (hn : (zs.length : Int) = 2 * r) (hl : H l = some (.tup [.int r, .ref pw])) (hw : H pw = some (.lst (zs.map V.str))) (hs : StrsOk zs) (hz : zs.length ≤ 1000) : LaneX K CL CW l pw r zs H E :=
  ⟨hl, SqL.of hw, hs, hz, fun h => by
    rcases h with h | ⟨_, _, h⟩
    · exact absurd ⟨r1, r6⟩ h
    · exact absurd hn h, fun _ _ k hk => absurd hk (bad_good hg hne)⟩
end
/-- BadWords, refused in the lambda -/
theorem wordX {mg : Str → Option Value} {T : TX K mg} {n : Nat} {zs : List Str} {H : Hp} {E : XK} (hB : BadAt zs n) (hE : ∀ (cls : Value) (d : Option Addr) (H' : Hp), Ex H H' → KindX T "words" (n : Int) H' cls d → E cls d H') : ∀ j, BadAt zs j → RaisesW T.C_BadWords H E j := fun j hj d H' _ e h => by
  have := badAt_one hB hj
  subst this
  exact hE _ _ _ e (.inr (.inr ⟨rfl, rfl, d, rfl, h⟩))
theorem laneE {mg : Str → Option Value} {T : TX K mg} {n : Int} {H : Hp} {E : XK} (hE : ∀ (cls : Value) (d : Option Addr) (H' : Hp), Ex H H' → KindX T "lane" n H' cls d → E cls d H') : ∀ H', Ex H H' → E (.ref T.C_BadLane) none H' := fun H' e => hE _ _ _ e (.inr (.inl ⟨rfl, rfl, rfl⟩))
theorem strsOk_ws {ws : List (List Bool)} {n : Nat} (hw : ∀ w ∈ ws, w.length = n) (n4 : n ≤ 4) : StrsOk (ws.map wd) := fun z hz => by
  obtain ⟨u, hu, rfl⟩ := List.mem_map.mp hz
  exact ⟨by rw [wd_len, hw u hu]; omega, strOk_wd u⟩
theorem map_wv (ws : List (List Bool)) : ws.map wv = (ws.map wd).map V.str := by rw [List.map_map]; rfl
theorem wordN {mg : Str → Option Value} {T : TX K mg} {n : Int} {j : Nat} {H : Hp} {E : XK} (hE : ∀ (cls : Value) (d : Option Addr) (H' : Hp), Ex H H' → KindX T "words" n H' cls d → E cls d H') (hj : n = (j : Int)) : RaisesW T.C_BadWords H E j := fun d H' _ e h => by
  rw [← hj] at h
  exact hE _ _ _ e (.inr (.inr ⟨rfl, rfl, d, rfl, h⟩))
/-- a text that is no word -/
def OddS (z : Str) : Prop := isW z = false ∧ z.length ≤ 1000 ∧ PyData.strOk z = true
theorem odd4 {x : Int} (h0 : 0 ≤ x) (h1 : x < 4) : ∃ z : Str, atI [V.str "", .str "00000", .str "x", .str "012"] x = some (.str z) ∧ OddS z := by
  have : x = 0 ∨ x = 1 ∨ x = 2 ∨ x = 3 := by omega
  rcases this with rfl | rfl | rfl | rfl
  · exact ⟨"", rfl, by decide +kernel, by decide +kernel, by decide +kernel⟩
  · exact ⟨"00000", rfl, by decide +kernel, by decide +kernel, by decide +kernel⟩
  · exact ⟨"x", rfl, by decide +kernel, by decide +kernel, by decide +kernel⟩
  · exact ⟨"012", rfl, by decide +kernel, by decide +kernel, by decide +kernel⟩
theorem strs2 {a b : Str} (h1 : a.length ≤ 1000) (h2 : PyData.strOk a = true) (h3 : b.length ≤ 1000) (h4 : PyData.strOk b = true) : StrsOk [a, b] := fun z hz => by
  simp only [List.mem_cons, List.not_mem_nil, or_false] at hz
  rcases hz with rfl | rfl
  · exact ⟨h1, h2⟩
  · exact ⟨h3, h4⟩
theorem ok_law (T : TX K mg) {cL Pt : Addr} (hcode : T.fd_law.code = .ref cL) (TB : LamX.TabB base mg cL Pt) : FnOk P w K mg base CX0 9 T.f_law T.fd_law ["_law_script"] (sp_lawT K Pt) := by
  refine okLaw T.F_law hcode sc_law (fun vs H Q E h => ?_) (fun A outer s H vs Q E hr h => ?_)
  · obtain ⟨a, ns, rfl, _⟩ := h
    rfl
  · obtain ⟨a, ns, rfl, hS, hlen, hPt, q⟩ := h
    refine ⟨_, (pss_cons (ps_set (i := 1) sc_law.nd rfl (by first | exact Or.inl rfl | exact Or.inr rfl) (pe_call (ok_l_dice T) (hr.mono (by decide)) (by rfl) T.g_l_dice T.F_l_dice.kp T.b_l_dice .nil pass0 (pa_cons (pv 0) (pa_cons pe_int pa_nil))))
 (pss_cons (ps_set (i := 2) sc_law.nd rfl (by first | exact Or.inl rfl | exact Or.inr rfl) (pe_callB (call_max2 rfl) (by rfl) T.z_max (by decide +kernel) (pa_cons pe_int (pa_cons (pe_op op_sub (pe_call (ok_l_off T) (hr.mono (by decide)) (by rfl) T.g_l_off T.F_l_off.kp T.b_l_off .nil pass0 (pa_cons (pv 1) (pa_cons (pe_op op_pow pe_int pe_int) pa_nil))) pe_int) pa_nil))))
 (pss_cons (ps_set (i := 3) sc_law.nd rfl (by first | exact Or.inl rfl | exact Or.inr rfl) (pe_ix ix_list (pe_lst (pa_cons pe_int (pa_cons pe_int (pa_cons (pe_op op_sub (pe_un un_neg pe_int) (pv 2)) (pa_cons (pe_op op_add pe_int (pv 2)) pa_nil))))) (pe_call (ok_l_off T) (hr.mono (by decide)) (by rfl) T.g_l_off T.F_l_off.kp T.b_l_off .nil pass0 (pa_cons (pv 1) (pa_cons pe_int pa_nil))) (fun _ _ => rfl)))
 (pss_cons (ps_set (i := 4) sc_law.nd rfl (by first | exact Or.inl rfl | exact Or.inr rfl) (pe_ix ix_list (pe_lst (pa_cons pe_int (pa_cons pe_int (pa_cons pe_int (pa_cons pe_int (pa_cons pe_int (pa_cons pe_int (pa_cons (pe_un un_neg pe_int) (pa_cons (pe_op op_add pe_int (pv 2)) pa_nil))))))))) (pe_call (ok_l_off T) (hr.mono (by decide)) (by rfl) T.g_l_off T.F_l_off.kp T.b_l_off .nil pass0 (pa_cons (pv 1) (pa_cons pe_int pa_nil))) (fun _ _ => rfl)))
 (pss_cons (ps_set (i := 5) sc_law.nd rfl (by first | exact Or.inl rfl | exact Or.inr rfl) (pe_ix ix_list (pe_lst (pa_cons (pe_un un_neg pe_int) (pa_cons pe_int (pa_cons (pe_op op_add pe_int (pv 2)) (pa_cons (pe_op op_sub (pe_un un_neg pe_int) (pv 2)) pa_nil))))) (pe_call (ok_l_off T) (hr.mono (by decide)) (by rfl) T.g_l_off T.F_l_off.kp T.b_l_off .nil pass0 (pa_cons (pv 1) (pa_cons pe_int pa_nil))) (fun _ _ => rfl)))
 (pss_cons (ps_set (i := 6) sc_law.nd rfl (by first | exact Or.inl rfl | exact Or.inr rfl) (pe_ix ix_list (pe_lst (pa_cons pe_int (pa_cons pe_int (pa_cons (pe_op op_add pe_int (pv 2)) (pa_cons (pe_op op_sub (pe_un un_neg pe_int) (pv 2)) pa_nil))))) (pe_call (ok_l_off T) (hr.mono (by decide)) (by rfl) T.g_l_off T.F_l_off.kp T.b_l_off .nil pass0 (pa_cons (pv 1) (pa_cons pe_int pa_nil))) (fun _ _ => rfl)))
 (pss_cons (ps_set (i := 7) sc_law.nd rfl (by first | exact Or.inl rfl | exact Or.inr rfl) (pe_lst (pa_cons (pe_lam0 (T := [(Pt, qlam)]) TB rfl (List.mem_singleton.mpr rfl) (fun p hp _ => by rw [List.mem_singleton.mp hp]; rfl) (lScope_by (sc := defScope s_law) (by decide +kernel)).free) (pa_cons (pe_lam1 (T := [(Pt, qlam)]) TB rfl (List.mem_singleton.mpr rfl) (fun p hp _ => by rw [List.mem_singleton.mp hp]; rfl) (lScope_by (sc := defScope s_law) (by decide +kernel)).free) (pa_cons (pe_lam1 (T := [(Pt, qlam)]) TB rfl (List.mem_singleton.mpr rfl) (fun p hp _ => by rw [List.mem_singleton.mp hp]; rfl) (lScope_by (sc := defScope s_law) (by decide +kernel)).free) (pa_cons (pe_lam1 (T := [(Pt, qlam)]) TB rfl (List.mem_singleton.mpr rfl) (fun p hp _ => by rw [List.mem_singleton.mp hp]; rfl) (lScope_by (sc := defScope s_law) (by decide +kernel)).free) pa_nil))))))
 (pss_cons (ps_set (i := 7) sc_law.nd rfl (by first | exact Or.inl rfl | exact Or.inr rfl) (pe_op op_cat (pv 7) (pe_lst (pa_cons (pe_lam1 (T := [(Pt, qlam)]) TB rfl (List.mem_singleton.mpr rfl) (fun p hp _ => by rw [List.mem_singleton.mp hp]; rfl) (lScope_by (sc := defScope s_law) (by decide +kernel)).free) (pa_cons (pe_lam1 (T := [(Pt, qlam)]) TB rfl (List.mem_singleton.mpr rfl) (fun p hp _ => by rw [List.mem_singleton.mp hp]; rfl) (lScope_by (sc := defScope s_law) (by decide +kernel)).free) (pa_cons (pe_lam1 (T := [(Pt, qlam)]) TB rfl (List.mem_singleton.mpr rfl) (fun p hp _ => by rw [List.mem_singleton.mp hp]; rfl) (lScope_by (sc := defScope s_law) (by decide +kernel)).free) pa_nil))))))
 (pss_cut (ps_if (pt_cmpR (op_neD hr.units) (pe_lcO (.inl rfl) sc_law.nd (pe_op op_cat (pv 7) (pe_lst (pa_cons (pe_lam1 (T := [(Pt, qlam)]) TB rfl (List.mem_singleton.mpr rfl) (fun p hp _ => by rw [List.mem_singleton.mp hp]; rfl) (lScope_by (sc := defScope s_law) (by decide +kernel)).free) pa_nil))) (blkOk_by (own := [("_law_work", 8)]) (N := ["_law_script", "_law_d", "_law_far", "_law_wide", "_law_many", "_law_late", "_law_room", "_law_works", "_law_work", "_law_lane_here", "_law_words_here", "_law_bad_here", "_law_at", "_law_odd", "_law_k", "_law_none"]) (sc := defScope s_law) (by decide +kernel)) (fun _ _ _ _ _ => pg_name (i := 8) sc_law.nd rfl (Or.inl rfl)) (fun _ _ _ _ _ _ _ I0 hfp => pts_one (pt_not (pt_val (pe_refB T (hr.mono (by decide)) I0 hfp (by rfl) (pa_cons (pv 8) (pa_cons pe_str (pa_cons pe_int pa_nil))))))) (fun _ _ _ _ _ _ _ _ _ => pv 8)) (pe_lst pa_nil) (nomark _))
 (pss_one (ps_ret pe_bl))
 pss_nil)
 (pss_cut (ps_set (i := 9) sc_law.nd rfl (by first | exact Or.inl rfl | exact Or.inr rfl) (pe_ifExp (pt_cmpR op_gt (pe_call (ok_l_off T) (hr.mono (by decide)) (by rfl) T.g_l_off T.F_l_off.kp T.b_l_off .nil pass0 (pa_cons (pv 1) (pa_cons pe_int pa_nil))) pe_int (nomark _)) (pe_call (ok_l_lane T) (hr.mono (by decide)) (by rfl) T.g_l_lane T.F_l_lane.kp T.b_l_lane .nil pass0 (pa_cons (pv 1) pa_nil)) (pe_tup (pa_cons pe_int (pa_cons (pe_call (ok_l_words T) (hr.mono (by decide)) (by rfl) T.g_l_words T.F_l_words.kp T.b_l_words .nil pass0 (pa_cons (pv 1) (pa_cons pe_int pa_nil))) pa_nil)))))
 (pss_cons (ps_set (i := 10) sc_law.nd rfl (by first | exact Or.inl rfl | exact Or.inr rfl) (pe_ix ix_tup (pv 9) pe_int (fun _ _ => rfl)))
 (pss_cons (ps_asg (pe_call (ok_l_bad T) (hr.mono (by decide)) (by rfl) T.g_l_bad T.F_l_bad.kp T.b_l_bad .nil pass0 (pa_cons (pv 1) (pa_cons (pv 10) pa_nil))) (pg_tup (by rfl) (pgs_cons (pg_name (i := 11) sc_law.nd rfl (by first | exact Or.inl rfl | exact Or.inr rfl)) (pgs_cons (pg_name (i := 12) sc_law.nd rfl (by first | exact Or.inl rfl | exact Or.inr rfl)) pgs_nil))))
 (pss_cons (ps_set (i := 12) sc_law.nd rfl (by first | exact Or.inl rfl | exact Or.inr rfl) (pe_op op_mul (pv 12) (pe_callTy call_int1 (by rfl) T.z_int (by decide +kernel) (pa_cons (pe_cmpR (op_neD hr.units) (pv 11) (pe_lst pa_nil) (nomark _)) pa_nil))))
 (pss_cons (ps_set (i := 7) sc_law.nd rfl (by first | exact Or.inl rfl | exact Or.inr rfl) (pe_lst (pa_cons (pe_lam0 (T := [(Pt, qlam)]) TB rfl (List.mem_singleton.mpr rfl) (fun p hp _ => by rw [List.mem_singleton.mp hp]; rfl) (lScope_by (sc := defScope s_law) (by decide +kernel)).free) (pa_cons (pe_lam1 (T := [(Pt, qlam)]) TB rfl (List.mem_singleton.mpr rfl) (fun p hp _ => by rw [List.mem_singleton.mp hp]; rfl) (lScope_by (sc := defScope s_law) (by decide +kernel)).free) (pa_cons (pe_lam1 (T := [(Pt, qlam)]) TB rfl (List.mem_singleton.mpr rfl) (fun p hp _ => by rw [List.mem_singleton.mp hp]; rfl) (lScope_by (sc := defScope s_law) (by decide +kernel)).free) pa_nil)))))
 (pss_cut (ps_if (pt_cmpR (op_neD hr.units) (pe_lcO (.inl rfl) sc_law.nd (pe_op op_cat (pv 7) (pe_lst (pa_cons (pe_lam1 (T := [(Pt, qlam)]) TB rfl (List.mem_singleton.mpr rfl) (fun p hp _ => by rw [List.mem_singleton.mp hp]; rfl) (lScope_by (sc := defScope s_law) (by decide +kernel)).free) pa_nil))) (blkOk_by (own := [("_law_work", 8)]) (N := ["_law_script", "_law_d", "_law_far", "_law_wide", "_law_many", "_law_late", "_law_room", "_law_works", "_law_work", "_law_lane_here", "_law_words_here", "_law_bad_here", "_law_at", "_law_odd", "_law_k", "_law_none"]) (sc := defScope s_law) (by decide +kernel)) (fun _ _ _ _ _ => pg_name (i := 8) sc_law.nd rfl (Or.inl rfl)) (fun _ _ _ _ _ _ _ I0 hfp => pts_one (pt_not (pt_val (pe_refB T (hr.mono (by decide)) I0 hfp (by rfl) (pa_cons (pv 8) (pa_cons pe_str (pa_cons (pv 12) pa_nil))))))) (fun _ _ _ _ _ _ _ _ _ => pv 8)) (pe_lst pa_nil) (nomark _))
 (pss_one (ps_ret pe_bl))
 pss_nil)
 (pss_cons (ps_set (i := 13) sc_law.nd rfl (by first | exact Or.inl rfl | exact Or.inr rfl) (pe_ix ix_list (pe_lst (pa_cons pe_str (pa_cons pe_str (pa_cons pe_str (pa_cons pe_str pa_nil))))) (pe_call (ok_l_off T) (hr.mono (by decide)) (by rfl) T.g_l_off T.F_l_off.kp T.b_l_off .nil pass0 (pa_cons (pv 1) (pa_cons pe_int pa_nil))) (fun _ _ => rfl)))
 (pss_cons (ps_set (i := 7) sc_law.nd rfl (by first | exact Or.inl rfl | exact Or.inr rfl) (pe_lst (pa_cons (pe_lam0 (T := [(Pt, qlam)]) TB rfl (List.mem_singleton.mpr rfl) (fun p hp _ => by rw [List.mem_singleton.mp hp]; rfl) (lScope_by (sc := defScope s_law) (by decide +kernel)).free) (pa_cons (pe_lam1 (T := [(Pt, qlam)]) TB rfl (List.mem_singleton.mpr rfl) (fun p hp _ => by rw [List.mem_singleton.mp hp]; rfl) (lScope_by (sc := defScope s_law) (by decide +kernel)).free) (pa_cons (pe_lam1 (T := [(Pt, qlam)]) TB rfl (List.mem_singleton.mpr rfl) (fun p hp _ => by rw [List.mem_singleton.mp hp]; rfl) (lScope_by (sc := defScope s_law) (by decide +kernel)).free) pa_nil)))))
 (pss_cons (ps_expr (pe_bm PySem.F.plainAttrs_list PySem.F.slot_list_append PySem.F.type_list_append mt_append (pv 7) (pa_cons (pe_lam1 (T := [(Pt, qlam)]) TB rfl (List.mem_singleton.mpr rfl) (fun p hp _ => by rw [List.mem_singleton.mp hp]; rfl) (lScope_by (sc := defScope s_law) (by decide +kernel)).free) pa_nil)))
 (pss_cut (ps_if (pt_cmpR (op_neD hr.units) (pe_lcI rfl sc_law.nd (pi_range1 (by rfl) T.z_range (pa_cons pe_int pa_nil)) (blkOk_by (own := [("_law_k", 14)]) (N := ["_law_script", "_law_d", "_law_far", "_law_wide", "_law_many", "_law_late", "_law_room", "_law_works", "_law_work", "_law_lane_here", "_law_words_here", "_law_bad_here", "_law_at", "_law_odd", "_law_k", "_law_none"]) (sc := defScope s_law) (by decide +kernel)) (fun _ _ _ _ _ => pg_name (i := 14) sc_law.nd rfl (Or.inl rfl)) (fun _ _ _ _ _ _ _ _ _ => pts_nil) (fun _ _ _ _ _ _ _ I0 hfp => (pe_refB T (hr.mono (by decide)) I0 hfp (by rfl) (pa_cons (pe_ix (r := rIxL K) ix_list (pv 7) (pv 14) (fun _ _ => rfl)) (pa_cons pe_str (pa_cons (pe_ix (r := rIxL K) ix_list (pe_lst (pa_cons pe_int (pa_cons pe_int (pa_cons pe_int (pa_cons pe_int pa_nil))))) (pv 14) (fun _ _ => rfl)) pa_nil)))))) (pe_op op_rep (pe_lst (pa_cons pe_bl pa_nil)) pe_int) (nomark _))
 (pss_one (ps_ret pe_bl))
 pss_nil)
 (pss_cons (ps_set (i := 15) sc_law.nd rfl (by first | exact Or.inl rfl | exact Or.inr rfl) (pe_ix ix_list (pe_lst (pa_cons pe_int (pa_cons pe_int (pa_cons (pe_un un_neg pe_int) (pa_cons (pe_op op_add pe_int (pv 2)) pa_nil))))) (pe_call (ok_l_off T) (hr.mono (by decide)) (by rfl) T.g_l_off T.F_l_off.kp T.b_l_off .nil pass0 (pa_cons (pv 1) (pa_cons pe_int pa_nil))) (fun _ _ => rfl)))
 (pss_cons (ps_set (i := 7) sc_law.nd rfl (by first | exact Or.inl rfl | exact Or.inr rfl) (pe_lst (pa_cons (pe_lam0 (T := [(Pt, qlam)]) TB rfl (List.mem_singleton.mpr rfl) (fun p hp _ => by rw [List.mem_singleton.mp hp]; rfl) (lScope_by (sc := defScope s_law) (by decide +kernel)).free) (pa_cons (pe_lam1 (T := [(Pt, qlam)]) TB rfl (List.mem_singleton.mpr rfl) (fun p hp _ => by rw [List.mem_singleton.mp hp]; rfl) (lScope_by (sc := defScope s_law) (by decide +kernel)).free) (pa_cons (pe_lam1 (T := [(Pt, qlam)]) TB rfl (List.mem_singleton.mpr rfl) (fun p hp _ => by rw [List.mem_singleton.mp hp]; rfl) (lScope_by (sc := defScope s_law) (by decide +kernel)).free) pa_nil)))))
 (pss_cons (ps_set (i := 7) sc_law.nd rfl (by first | exact Or.inl rfl | exact Or.inr rfl) (pe_op op_cat (pv 7) (pe_lst (pa_cons (pe_lam1 (T := [(Pt, qlam)]) TB rfl (List.mem_singleton.mpr rfl) (fun p hp _ => by rw [List.mem_singleton.mp hp]; rfl) (lScope_by (sc := defScope s_law) (by decide +kernel)).free) (pa_cons (pe_lam1 (T := [(Pt, qlam)]) TB rfl (List.mem_singleton.mpr rfl) (fun p hp _ => by rw [List.mem_singleton.mp hp]; rfl) (lScope_by (sc := defScope s_law) (by decide +kernel)).free) pa_nil)))))
 (pss_cut (ps_if (pt_cmpR op_eq (pe_ix ix_tup (pv 9) pe_int (fun _ _ => rfl)) pe_int (nomark _))
 (pss_one (ps_set (i := 7) sc_law.nd rfl (by first | exact Or.inl rfl | exact Or.inr rfl) (pe_slice sl_list (pv 7) po_none (po_some pe_int))))
 pss_nil)
 (pss_cut (ps_if (pt_cmpR (op_neD hr.units) (pe_lcO (.inl rfl) sc_law.nd (pv 7) (blkOk_by (own := [("_law_work", 8)]) (N := ["_law_script", "_law_d", "_law_far", "_law_wide", "_law_many", "_law_late", "_law_room", "_law_works", "_law_work", "_law_lane_here", "_law_words_here", "_law_bad_here", "_law_at", "_law_odd", "_law_k", "_law_none"]) (sc := defScope s_law) (by decide +kernel)) (fun _ _ _ _ _ => pg_name (i := 8) sc_law.nd rfl (Or.inl rfl)) (fun _ _ _ _ _ _ _ I0 hfp => pts_one (pt_not (pt_val (pe_refB T (hr.mono (by decide)) I0 hfp (by rfl) (pa_cons (pv 8) (pa_cons pe_str (pa_cons pe_int pa_nil))))))) (fun _ _ _ _ _ _ _ _ _ => pv 8)) (pe_lst pa_nil) (nomark _))
 (pss_one (ps_ret pe_bl))
 pss_nil)
 (pss_one (ps_ret (pe_and (pe_cmpR (op_eqD hr.units) (pe_call (ok_played T) (hr.mono (by decide)) (by rfl) T.g_played T.F_played.kp T.b_played .nil (L2N.passes_call (E := fun _ _ _ => False) (W := fun _ _ _ _ => False) takesN0 (fun _ _ _ _ h => h)) (pa_cons (pv 9) (pa_cons (pe_lst pa_nil) pa_nil))) (pe_lst pa_nil) (nomark _)) (pe_and (pe_cmpR (op_eqD hr.units) (pe_call (ok_got T) (hr.mono (by decide)) (by rfl) T.g_got T.F_got.kp T.b_got .nil (L2N.passes_call (E := fun _ _ _ => False) (W := fun _ _ _ _ => False) takesN0 (fun _ _ _ _ h => h)) (pa_cons (pv 9) (pa_cons (pe_lst pa_nil) pa_nil))) (pe_lst pa_nil) (nomark _)) (pe_one (pe_callB call_isi (by rfl) T.z_isinstance (by decide +kernel) (pa_cons (pe_call (ok_steady T) (hr.mono (by decide)) (by rfl) T.g_steady T.F_steady.kp T.b_steady .nil (L2N.passes_call (E := fun _ _ _ => False) (W := fun _ _ _ _ => False) takesN0 (fun _ _ _ _ h => h)) (pa_cons pe_int (pa_cons pe_int (pa_cons pe_int pa_nil)))) (pa_cons (pe_bltn (v := .ty "tuple") (u := .type "tuple") (by rfl) T.z_tuple (by decide +kernel) rfl) pa_nil)))))))))))))))))))))))))))))))), ?_⟩
    refine ⟨.ref a, rfl, a, ns, rfl, hS, hlen, fun dd H1 nd1 e1 hd1 => ?_⟩
    have S1 : SitN dd Pt H1 := ⟨hd1, fun p hp => by rw [List.mem_singleton.mp hp]; exact LamX.TabS.nil (e1 _ _ hPt)⟩
    clear hPt hS hd1 nd1 e1
    refine ⟨_, rfl, _, _, rfl, rfl, ⟨by decide, by decide, by decide⟩, dd, _, rfl, S1.dice, by decide, by decide, fun x1 H2 x10 x11 e2 hd2 => ?_⟩
    have S2 := S1.exd e2 hd2
    clear S1 e2 hd2
    refine ⟨_, _, rfl, rfl, _, _, rfl, ?_⟩
    have x11 : x1 < 1000000 := x11
    obtain ⟨far, hfar, f0, f1⟩ : ∃ far : Int, (if x1 - 500000 > 0 then x1 - 500000 else 0) = far ∧ 0 ≤ far ∧ far < 1000000 := ⟨_, rfl, by split <;> omega, by split <;> omega⟩
    rw [hfar]
    clear hfar x10 x11
    -- the width
    refine ⟨_, rfl, _, rfl, _, _, rfl, rfl, _, rfl, _, _, rfl, rfl, small9 (by simp), fun p1 np1 => ?_⟩
    have u1 := Ex.new (o := HO.lst [.int 0, .int 5, .int (-1 - far), .int (5 + far)]) np1
    have D1 := S2.ex u1
    refine ⟨_, rfl, dd, 4, rfl, D1.dice, by decide, by decide, fun y1 H3 y10 y11 e3 hd3 => ?_⟩
    have hp1 := e3 _ _ (upd_same (H := H2) (a := p1) (o := HO.lst [.int 0, .int 5, .int (-1 - far), .int (5 + far)])) (S2.dice.neN np1)
    have S3 := D1.exd e3 hd3
    clear S2 D1 u1 e3 hd3
    obtain ⟨wide, hv1, hwide⟩ := at4 (a := 0) (b := 5) (c := -1 - far) (d := 5 + far) y10 y11 (fun i => i < 1 ∨ 4 < i) (by omega) (by omega) (by omega) (by omega)
    refine ⟨p1, _, _, _, rfl, rfl, SqL.of hp1, hv1, ?_⟩
    clear hp1 hv1 y10 y11 np1
    -- the count of words
    refine ⟨_, rfl, _, rfl, _, _, rfl, rfl, small9 (by simp), fun p1 np1 => ?_⟩
    have u1 := Ex.new (o := HO.lst [.int 0, .int 1, .int 3, .int 15, .int 17, .int 18, .int (-2), .int (18 + far)]) np1
    have D1 := S3.ex u1
    refine ⟨_, rfl, dd, 8, rfl, D1.dice, by decide, by decide, fun y1 H4 y10 y11 e3 hd3 => ?_⟩
    have hp1 := e3 _ _ (upd_same (H := H3) (a := p1) (o := HO.lst [.int 0, .int 1, .int 3, .int 15, .int 17, .int 18, .int (-2), .int (18 + far)])) (S3.dice.neN np1)
    have S4 := D1.exd e3 hd3
    clear S3 D1 u1 e3 hd3
    obtain ⟨many, hv1, hmany⟩ := at8 (a := 0) (b := 1) (c := 3) (d := 15) (e := 17) (f := 18) (g := -2) (h := 18 + far) y10 y11 (fun i => i < 2 ∨ 16 < i ∨ i % 2 = 1) (by omega) (by omega) (by omega) (by omega) (by omega) (by omega) (by omega) (by omega)
    refine ⟨p1, _, _, _, rfl, rfl, SqL.of hp1, hv1, ?_⟩
    clear hp1 hv1 y10 y11 np1
    -- how late
    refine ⟨_, rfl, _, rfl, _, _, rfl, rfl, _, rfl, _, rfl, _, _, rfl, rfl, small9 (by simp), fun p1 np1 => ?_⟩
    have u1 := Ex.new (o := HO.lst [.int (-1), .int 7, .int (7 + far), .int (-1 - far)]) np1
    have D1 := S4.ex u1
    refine ⟨_, rfl, dd, 4, rfl, D1.dice, by decide, by decide, fun y1 H5 y10 y11 e3 hd3 => ?_⟩
    have hp1 := e3 _ _ (upd_same (H := H4) (a := p1) (o := HO.lst [.int (-1), .int 7, .int (7 + far), .int (-1 - far)])) (S4.dice.neN np1)
    have S5 := D1.exd e3 hd3
    clear S4 D1 u1 e3 hd3
    obtain ⟨late, hv1, hlate⟩ := at4 (a := -1) (b := 7) (c := 7 + far) (d := -1 - far) y10 y11 (fun i => i < 0 ∨ 6 < i) (by omega) (by omega) (by omega) (by omega)
    refine ⟨p1, _, _, _, rfl, rfl, SqL.of hp1, hv1, ?_⟩
    clear hp1 hv1 y10 y11 np1
    -- the room
    refine ⟨_, rfl, _, _, rfl, rfl, _, rfl, _, rfl, _, _, rfl, rfl, small9 (by simp), fun p1 np1 => ?_⟩
    have u1 := Ex.new (o := HO.lst [.int 0, .int 21, .int (21 + far), .int (-1 - far)]) np1
    have D1 := S5.ex u1
    refine ⟨_, rfl, dd, 4, rfl, D1.dice, by decide, by decide, fun y1 H6 y10 y11 e3 hd3 => ?_⟩
    have hp1 := e3 _ _ (upd_same (H := H5) (a := p1) (o := HO.lst [.int 0, .int 21, .int (21 + far), .int (-1 - far)])) (S5.dice.neN np1)
    have S6 := D1.exd e3 hd3
    clear S5 D1 u1 e3 hd3
    obtain ⟨room, hv1, hroom⟩ := at4 (a := 0) (b := 21) (c := 21 + far) (d := -1 - far) y10 y11 (fun i => i < 1 ∨ 20 < i) (by omega) (by omega) (by omega) (by omega)
    refine ⟨p1, _, _, _, rfl, rfl, SqL.of hp1, hv1, ?_⟩
    clear hp1 hv1 y10 y11 np1
    refine ⟨S6.tab, fun fa0 ca0 dVa0 Ja0 ena0 hTa0 nfa0 tha0 => ⟨hTa0, fun fa1 ca1 dVa1 Ja1 ena1 hTa1 nfa1 tha1 => ⟨hTa1, fun fa2 ca2 dVa2 Ja2 ena2 hTa2 nfa2 tha2 => ⟨hTa2, fun fa3 ca3 dVa3 Ja3 ena3 hTa3 nfa3 tha3 => ⟨small9 (by simp), fun WA nWA => ?_⟩⟩⟩⟩⟩
    have Z1 := ((((S6.extN ena0 hTa0).extN ena1 hTa1).extN ena2 hTa2).extN ena3 hTa3)
    clear S6
    replace tha0 := (((tha0.extN ena1).extN ena2).extN ena3)
    replace tha1 := ((tha1.extN ena2).extN ena3)
    replace tha2 := (tha2.extN ena3)
    clear ena0 hTa0 ena1 hTa1 ena2 hTa2 ena3 hTa3
    have y2 := Ex.new (o := HO.lst [.ref fa0, .ref fa1, .ref fa2, .ref fa3]) nWA
    have Z3 := Z1.ex y2
    clear Z1
    replace tha0 := tha0.mono y2
    replace tha1 := tha1.mono y2
    replace tha2 := tha2.mono y2
    replace tha3 := tha3.mono y2
    have hWA : upd Ja3 WA (.lst [.ref fa0, .ref fa1, .ref fa2, .ref fa3]) WA = some (.lst [.ref fa0, .ref fa1, .ref fa2, .ref fa3]) := upd_same
    generalize upd Ja3 WA (.lst [.ref fa0, .ref fa1, .ref fa2, .ref fa3]) = G4 at Z3 tha0 tha1 tha2 tha3 hWA ⊢
    clear y2
    refine ⟨_, rfl, Z3.tab, fun fa4 ca4 dVa4 Ja4 ena4 hTa4 nfa4 tha4 => ⟨hTa4, fun fa5 ca5 dVa5 Ja5 ena5 hTa5 nfa5 tha5 => ⟨hTa5, fun fa6 ca6 dVa6 Ja6 ena6 hTa6 nfa6 tha6 => ⟨small9 (by simp), fun LB nLB => ?_⟩⟩⟩⟩
    have Z5 := (((Z3.extN ena4 hTa4).extN ena5 hTa5).extN ena6 hTa6)
    clear Z3
    replace tha0 := (((tha0.extN ena4).extN ena5).extN ena6)
    replace tha1 := (((tha1.extN ena4).extN ena5).extN ena6)
    replace tha2 := (((tha2.extN ena4).extN ena5).extN ena6)
    replace tha3 := (((tha3.extN ena4).extN ena5).extN ena6)
    replace hWA := ena6 _ _ (ena5 _ _ (ena4 _ _ (hWA) (fun ps z => by cases z)) (fun ps z => by cases z)) (fun ps z => by cases z)
    replace tha4 := ((tha4.extN ena5).extN ena6)
    replace tha5 := (tha5.extN ena6)
    clear ena4 hTa4 ena5 hTa5 ena6 hTa6
    have y6 := Ex.new (o := HO.lst [.ref fa4, .ref fa5, .ref fa6]) nLB
    have Z7 := Z5.ex y6
    clear Z5
    replace tha0 := tha0.mono y6
    replace tha1 := tha1.mono y6
    replace tha2 := tha2.mono y6
    replace tha3 := tha3.mono y6
    replace tha4 := tha4.mono y6
    replace tha5 := tha5.mono y6
    replace tha6 := tha6.mono y6
    replace hWA := y6 _ _ hWA
    have hLB : upd Ja6 LB (.lst [.ref fa4, .ref fa5, .ref fa6]) LB = some (.lst [.ref fa4, .ref fa5, .ref fa6]) := upd_same
    generalize upd Ja6 LB (.lst [.ref fa4, .ref fa5, .ref fa6]) = G8 at Z7 tha0 tha1 tha2 tha3 tha4 tha5 tha6 hWA hLB ⊢
    clear y6
    refine ⟨WA, LB, _, _, rfl, rfl, hWA, hLB, small9 (by simp), fun WB nWB => ?_⟩
    have y9 := Ex.new (o := HO.lst ([.ref fa0, .ref fa1, .ref fa2, .ref fa3] ++ [.ref fa4, .ref fa5, .ref fa6])) nWB
    have Z10 := Z7.ex y9
    clear Z7
    replace tha0 := tha0.mono y9
    replace tha1 := tha1.mono y9
    replace tha2 := tha2.mono y9
    replace tha3 := tha3.mono y9
    replace tha4 := tha4.mono y9
    replace tha5 := tha5.mono y9
    replace tha6 := tha6.mono y9
    replace hWA := y9 _ _ hWA
    replace hLB := y9 _ _ hLB
    have hWB : upd G8 WB (.lst ([.ref fa0, .ref fa1, .ref fa2, .ref fa3] ++ [.ref fa4, .ref fa5, .ref fa6])) WB = some (.lst [.ref fa0, .ref fa1, .ref fa2, .ref fa3, .ref fa4, .ref fa5, .ref fa6]) := upd_same
    generalize upd G8 WB (.lst ([.ref fa0, .ref fa1, .ref fa2, .ref fa3] ++ [.ref fa4, .ref fa5, .ref fa6])) = G11 at Z10 tha0 tha1 tha2 tha3 tha4 tha5 tha6 hWA hLB hWB ⊢
    clear y9
    clear hWA
    clear hLB
    -- all are refused as numbers
    refine ⟨fun σ H' => (∃ v3 v4 v5 v6 v7, σ = [some (.ref a), some (.ref dd), some (.int far), v3, v4, v5, v6, v7, none, none, none, none, none, none, none, none]) ∧ SitN dd Pt H', ?_, ?_⟩
    · -- numbers
      refine ⟨_, rfl, Z10.tab, fun fa7 ca7 dVa7 Ja7 ena7 hTa7 nfa7 tha7 => ⟨small9 (by simp), fun LC nLC => ?_⟩⟩
      have Z12 := (Z10.extN ena7 hTa7)
      clear Z10
      replace tha0 := (tha0.extN ena7)
      replace tha1 := (tha1.extN ena7)
      replace tha2 := (tha2.extN ena7)
      replace tha3 := (tha3.extN ena7)
      replace tha4 := (tha4.extN ena7)
      replace tha5 := (tha5.extN ena7)
      replace tha6 := (tha6.extN ena7)
      replace hWB := ena7 _ _ (hWB) (fun ps z => by cases z)
      clear ena7 hTa7
      have y13 := Ex.new (o := HO.lst [.ref fa7]) nLC
      have Z14 := Z12.ex y13
      clear Z12
      replace tha0 := tha0.mono y13
      replace tha1 := tha1.mono y13
      replace tha2 := tha2.mono y13
      replace tha3 := tha3.mono y13
      replace tha4 := tha4.mono y13
      replace tha5 := tha5.mono y13
      replace tha6 := tha6.mono y13
      replace tha7 := tha7.mono y13
      replace hWB := y13 _ _ hWB
      have hLC : upd Ja7 LC (.lst [.ref fa7]) LC = some (.lst [.ref fa7]) := upd_same
      generalize upd Ja7 LC (.lst [.ref fa7]) = G15 at Z14 tha0 tha1 tha2 tha3 tha4 tha5 tha6 tha7 hWB hLC ⊢
      clear y13
      refine ⟨WB, LC, _, _, rfl, rfl, hWB, hLC, small9 (by simp), fun WC nWC => ?_⟩
      have y16 := Ex.new (o := HO.lst ([.ref fa0, .ref fa1, .ref fa2, .ref fa3, .ref fa4, .ref fa5, .ref fa6] ++ [.ref fa7])) nWC
      have Z17 := Z14.ex y16
      clear Z14
      replace tha0 := tha0.mono y16
      replace tha1 := tha1.mono y16
      replace tha2 := tha2.mono y16
      replace tha3 := tha3.mono y16
      replace tha4 := tha4.mono y16
      replace tha5 := tha5.mono y16
      replace tha6 := tha6.mono y16
      replace tha7 := tha7.mono y16
      replace hWB := y16 _ _ hWB
      replace hLC := y16 _ _ hLC
      have hWC : upd G15 WC (.lst ([.ref fa0, .ref fa1, .ref fa2, .ref fa3, .ref fa4, .ref fa5, .ref fa6] ++ [.ref fa7])) WC = some (.lst [.ref fa0, .ref fa1, .ref fa2, .ref fa3, .ref fa4, .ref fa5, .ref fa6, .ref fa7]) := upd_same
      generalize upd G15 WC (.lst ([.ref fa0, .ref fa1, .ref fa2, .ref fa3, .ref fa4, .ref fa5, .ref fa6] ++ [.ref fa7])) = G18 at Z17 tha0 tha1 tha2 tha3 tha4 tha5 tha6 tha7 hWB hLC hWC ⊢
      clear y16
      clear hWB
      clear hLC
      refine ⟨WC, rfl, ⟨_, SqL.of hWC⟩, fun D nD => lcW [fa0, fa1, fa2, fa3, fa4, fa5, fa6, fa7] V.ref (fun _ => false) V.ref (walk_ls _ _) (fun H e => SqL.of (e _ _ hWC)) (by simp) nD (fun _ => rfl) (fun f hf H' e' Y N hY => ?_) (fun H' e' h' => ?_)⟩
      · refine ⟨_, rfl, f, "number", 0, rfl, ?_, fun H2 e2 => ⟨_, rfl, ifN (by simp) (by have := hY H2 e2; simpa using this)⟩⟩
        clear hY nD
        have num : ∀ (E : XK), (∀ (cls : Value) (d : Option Addr) (H2 : Hp), Ex H' H2 → KindX T "number" 0 H2 cls d → E cls d H2) → E (.ref T.C_BadNumber) none H' := fun E hE => hE _ _ _ (Ex.refl _) (.inl ⟨rfl, rfl, rfl⟩)
        simp only [List.mem_cons, List.not_mem_nil, or_false] at hf
        rcases hf with rfl | rfl | rfl | rfl | rfl | rfl | rfl | rfl
        · refine refOk_mk (bs := []) (tha0.mono e') ⟨lScope_by (sc := defScope s_law) (by decide +kernel), hloc_by (N := ["_law_script", "_law_d", "_law_far", "_law_wide", "_law_many", "_law_late", "_law_room", "_law_works", "_law_work", "_law_lane_here", "_law_words_here", "_law_bad_here", "_law_at", "_law_odd", "_law_k", "_law_none"]) (by decide +kernel), fun s q cl dV doc pm cv ctv h => by cases (show dV = .none from h); exact ⟨[], BindsTo.of_eq rfl⟩, by simp, fun dV c' A outer s H E f hr' => (pe_call (ok_plain T) (hr'.mono (by decide)) (by rfl) T.g_plain T.F_plain.kp T.b_plain .nil (L2N.passes_call (L2N.takes_of rfl rfl rfl rfl) (fun _ _ _ _ h => h)) (pa_cons (pv 3) pa_nil))⟩ ?_
          exact fun E Qn hE => ⟨_, rfl, _, rfl, hwide, num E hE⟩
        · refine refOk_mk (bs := ["_law_a"]) (tha1.mono e') ⟨lScope_by (sc := defScope s_law) (by decide +kernel), hloc_by (N := ["_law_script", "_law_d", "_law_far", "_law_wide", "_law_many", "_law_late", "_law_room", "_law_works", "_law_work", "_law_lane_here", "_law_words_here", "_law_bad_here", "_law_at", "_law_odd", "_law_k", "_law_none"]) (by decide +kernel), fun s q cl dV doc pm cv ctv h => by obtain ⟨t, rfl, u, o, ho, _, n, hs⟩ := h; exact ⟨[u], BindsTo.of_defaults rfl ho hs rfl rfl⟩, fun y hy => by rw [List.mem_singleton.mp hy]; rfl, fun dV c' A outer s H E f hr' => (pe_call (ok_gray T) (hr'.mono (by decide)) (by rfl) T.g_gray T.F_gray.kp T.b_gray .nil (L2N.passes_call (L2N.takes_of rfl rfl rfl rfl) (fun _ _ _ _ h => h)) (pa_cons (pv 3) pa_nil))⟩ ?_
          exact fun E Qn hE => ⟨_, rfl, _, rfl, hwide, num E hE⟩
        · refine refOk_mk (bs := ["_law_b"]) (tha2.mono e') ⟨lScope_by (sc := defScope s_law) (by decide +kernel), hloc_by (N := ["_law_script", "_law_d", "_law_far", "_law_wide", "_law_many", "_law_late", "_law_room", "_law_works", "_law_work", "_law_lane_here", "_law_words_here", "_law_bad_here", "_law_at", "_law_odd", "_law_k", "_law_none"]) (by decide +kernel), fun s q cl dV doc pm cv ctv h => by obtain ⟨t, rfl, u, o, ho, _, n, hs⟩ := h; exact ⟨[u], BindsTo.of_defaults rfl ho hs rfl rfl⟩, fun y hy => by rw [List.mem_singleton.mp hy]; rfl, fun dV c' A outer s H E f hr' => (pe_call (ok_cut T) (hr'.mono (by decide)) (by rfl) T.g_cut T.F_cut.kp T.b_cut .nil (L2N.passes_call (L2N.takes_of rfl rfl rfl rfl) (fun _ _ _ _ h => h)) (pa_cons (pv 4) pa_nil))⟩ ?_
          exact fun E Qn hE => ⟨_, rfl, _, rfl, hmany, num E hE⟩
        · refine refOk_mk (bs := ["_law_c"]) (tha3.mono e') ⟨lScope_by (sc := defScope s_law) (by decide +kernel), hloc_by (N := ["_law_script", "_law_d", "_law_far", "_law_wide", "_law_many", "_law_late", "_law_room", "_law_works", "_law_work", "_law_lane_here", "_law_words_here", "_law_bad_here", "_law_at", "_law_odd", "_law_k", "_law_none"]) (by decide +kernel), fun s q cl dV doc pm cv ctv h => by obtain ⟨t, rfl, u, o, ho, _, n, hs⟩ := h; exact ⟨[u], BindsTo.of_defaults rfl ho hs rfl rfl⟩, fun y hy => by rw [List.mem_singleton.mp hy]; rfl, fun dV c' A outer s H E f hr' => (pe_call (ok_steady T) (hr'.mono (by decide)) (by rfl) T.g_steady T.F_steady.kp T.b_steady .nil (L2N.passes_call (L2N.takes_of rfl rfl rfl rfl) (fun _ _ _ _ h => h)) (pa_cons (pv 6) (pa_cons (pv 5) (pa_cons (pv 5) pa_nil))))⟩ ?_
          exact fun E Qn hE => ⟨_, rfl, _, rfl, _, rfl, _, _, _, rfl, fun _ => num E hE, fun h => absurd h.1 (by omega)⟩
        · refine refOk_mk (bs := ["_law_e"]) (tha4.mono e') ⟨lScope_by (sc := defScope s_law) (by decide +kernel), hloc_by (N := ["_law_script", "_law_d", "_law_far", "_law_wide", "_law_many", "_law_late", "_law_room", "_law_works", "_law_work", "_law_lane_here", "_law_words_here", "_law_bad_here", "_law_at", "_law_odd", "_law_k", "_law_none"]) (by decide +kernel), fun s q cl dV doc pm cv ctv h => by obtain ⟨t, rfl, u, o, ho, _, n, hs⟩ := h; exact ⟨[u], BindsTo.of_defaults rfl ho hs rfl rfl⟩, fun y hy => by rw [List.mem_singleton.mp hy]; rfl, fun dV c' A outer s H E f hr' => (pe_call (ok_steady T) (hr'.mono (by decide)) (by rfl) T.g_steady T.F_steady.kp T.b_steady .nil (L2N.passes_call (L2N.takes_of rfl rfl rfl rfl) (fun _ _ _ _ h => h)) (pa_cons pe_int (pa_cons (pv 5) (pa_cons pe_int pa_nil))))⟩ ?_
          exact fun E Qn hE => ⟨_, rfl, _, _, _, rfl, fun _ => num E hE, fun h => absurd h.2 (by unfold Late; omega)⟩
        · refine refOk_mk (bs := ["_law_f"]) (tha5.mono e') ⟨lScope_by (sc := defScope s_law) (by decide +kernel), hloc_by (N := ["_law_script", "_law_d", "_law_far", "_law_wide", "_law_many", "_law_late", "_law_room", "_law_works", "_law_work", "_law_lane_here", "_law_words_here", "_law_bad_here", "_law_at", "_law_odd", "_law_k", "_law_none"]) (by decide +kernel), fun s q cl dV doc pm cv ctv h => by obtain ⟨t, rfl, u, o, ho, _, n, hs⟩ := h; exact ⟨[u], BindsTo.of_defaults rfl ho hs rfl rfl⟩, fun y hy => by rw [List.mem_singleton.mp hy]; rfl, fun dV c' A outer s H E f hr' => (pe_call (ok_steady T) (hr'.mono (by decide)) (by rfl) T.g_steady T.F_steady.kp T.b_steady .nil (L2N.passes_call (L2N.takes_of rfl rfl rfl rfl) (fun _ _ _ _ h => h)) (pa_cons pe_int (pa_cons pe_int (pa_cons (pv 5) pa_nil))))⟩ ?_
          exact fun E Qn hE => ⟨_, rfl, _, _, _, rfl, fun _ => num E hE, fun h => absurd h.2 (by unfold Late; omega)⟩
        · refine refOk_mk (bs := ["_law_g"]) (tha6.mono e') ⟨lScope_by (sc := defScope s_law) (by decide +kernel), hloc_by (N := ["_law_script", "_law_d", "_law_far", "_law_wide", "_law_many", "_law_late", "_law_room", "_law_works", "_law_work", "_law_lane_here", "_law_words_here", "_law_bad_here", "_law_at", "_law_odd", "_law_k", "_law_none"]) (by decide +kernel), fun s q cl dV doc pm cv ctv h => by obtain ⟨t, rfl, u, o, ho, _, n, hs⟩ := h; exact ⟨[u], BindsTo.of_defaults rfl ho hs rfl rfl⟩, fun y hy => by rw [List.mem_singleton.mp hy]; rfl, fun dV c' A outer s H E f hr' => (pe_call (ok_least_room T) (hr'.mono (by decide)) (by rfl) T.g_least_room T.F_least_room.kp T.b_least_room .nil (L2N.passes_call (L2N.takes_of rfl rfl rfl rfl) (fun _ _ _ _ h => h)) (pa_cons pe_int (pa_cons (pv 5) pa_nil)))⟩ ?_
          exact fun E Qn hE => ⟨_, rfl, _, _, rfl, by unfold Late; omega, num E hE⟩
        · refine refOk_mk (bs := ["_law_h"]) (tha7.mono e') ⟨lScope_by (sc := defScope s_law) (by decide +kernel), hloc_by (N := ["_law_script", "_law_d", "_law_far", "_law_wide", "_law_many", "_law_late", "_law_room", "_law_works", "_law_work", "_law_lane_here", "_law_words_here", "_law_bad_here", "_law_at", "_law_odd", "_law_k", "_law_none"]) (by decide +kernel), fun s q cl dV doc pm cv ctv h => by obtain ⟨t, rfl, u, o, ho, _, n, hs⟩ := h; exact ⟨[u], BindsTo.of_defaults rfl ho hs rfl rfl⟩, fun y hy => by rw [List.mem_singleton.mp hy]; rfl, fun dV c' A outer s H E f hr' => (pe_call (ok_least_room T) (hr'.mono (by decide)) (by rfl) T.g_least_room T.F_least_room.kp T.b_least_room .nil (L2N.passes_call (L2N.takes_of rfl rfl rfl rfl) (fun _ _ _ _ h => h)) (pa_cons (pv 5) (pa_cons pe_int pa_nil)))⟩ ?_
          exact fun E Qn hE => ⟨_, rfl, _, _, rfl, by unfold Late; omega, num E hE⟩
      · have h' : H' D = some (.lst []) := h'
        exact ⟨small9 (by simp), fun E0 nE0 => ⟨.list [], .list [], .lst (SqL.of ((Ex.new nE0) _ _ h')) .nil, .lst (SqL.of upd_same) .nil, rfl, rfl, _, rfl, ifN (by decide) ⟨⟨_, _, _, _, _, rfl⟩, (Z17.ex e').ex (Ex.new nE0)⟩⟩⟩
    · clear hwide hmany hlate hroom tha0 tha1 tha2 tha3 tha4 tha5 tha6 hWB Z10
      rintro σ H0 ⟨⟨v3, v4, v5, v6, v7, rfl⟩, S0⟩
      refine ⟨fun σ H' => ∃ (l pw : Addr) (r n : Nat) (ws : List (List Bool)), σ = [some (.ref a), some (.ref dd), some (.int far), v3, v4, v5, v6, v7, none, some (.ref l), none, none, none, none, none, none] ∧ SitN dd Pt H' ∧ l ≠ dd ∧ pw ≠ dd ∧ H' l = some (.tup [.int (r : Int), .ref pw]) ∧ H' pw = some (.lst (ws.map wv)) ∧ WW ws n r ∧ ws.Nodup, ?_, ?_⟩
      · refine ⟨_, rfl, dd, 3, rfl, S0.dice, by decide, by decide, fun x H1 x0 x1 e1 hd1 => ?_⟩
        have S1 := S0.exd e1 hd1
        refine ⟨_, _, rfl, rfl, _, rfl, ?_⟩
        by_cases hx : 0 < x
        · refine ifP (decide_eq_true hx) ⟨_, rfl, dd, rfl, hd1, fun l pw r n ws H2 npw nl npd e2 hd2 hl2 hw2 hW hnd => ?_⟩
          exact ⟨l, pw, r, n, ws, rfl, S1.exd e2 hd2, hd1.neN nl, npd, hl2, hw2, hW, hnd⟩
        · refine ifN (by simpa using hx) ⟨_, rfl, dd, 6, rfl, hd1, by decide, by decide, fun pw ws n H3 npw npd e3 hdd3 hW n1 n4 hpw => ⟨small9 (by simp), fun l nl => ?_⟩⟩
          have y := Ex.new (o := HO.tup [.int 6, .ref pw]) nl
          exact ⟨l, pw, 6, n, ws, rfl, (S1.exd e3 hdd3).ex y, hdd3.neN nl, npd, upd_same, y _ _ hpw, ⟨by decide, by decide, n1, n4, hW.len, hW.wide⟩, hW.nd⟩
      rintro σ H1 ⟨l, pw, r, n, ws, rfl, S1, nld, npd, hl1, hw1, hW, hnd⟩
      refine ⟨_, rfl, l, _, _, _, rfl, rfl, SqT.of hl1, rfl, ?_⟩
      refine ⟨_, rfl, _, rfl, dd, pw, n, r, ws, rfl, S1.dice, hw1, npd, hW, hnd, fun t pb zs k H2 e2 hd2 ht hpb npb hzs hzl hk hbad => ?_⟩
      have S2 : SitW dd l pw pb Pt r ws zs H2 := ⟨hd2, e2 _ _ hl1 nld, e2 _ _ hw1 npd, hpb, (S1.exd e2 hd2).tab, nld, npd, npb⟩
      refine ⟨t, _, rfl, SqT.of ht, rfl, _, _, rfl, _, _, rfl, rfl, ?_⟩
      clear ht e2 hd2 S1 hl1 hw1
      refine ⟨_, rfl, _, rfl, small9 (by simp), fun p0 np0 => ?_⟩
      have y0 := Ex.new (o := HO.lst []) np0
      refine ⟨_, _, dpL (SqL.of (y0 _ _ S2.bad)), dpL (l := []) (SqL.of upd_same), (sdStrs (n := 0) (fun x hx => (hzs x hx).2)).shaped (by decide), rfl, .inr ⟨_, rfl, _, _, rfl, rfl, .inl ⟨by omega, by omega⟩, ?_⟩⟩
      obtain ⟨m, hm, hB, hm100⟩ : ∃ m : Nat, (k : Int) * (if (!PyData.eqv (.list (zs.map PyData.str)) (.list (([] : List Str).map PyData.str))) = true then 1 else 0) = (m : Int) ∧ BadAt zs m ∧ m ≤ 100 := by
        rw [eqvStrs]
        by_cases hz : zs = []
        · exact ⟨0, by rw [decide_eq_true hz]; simp, .inl ⟨hz, rfl⟩, by omega⟩
        · refine ⟨k, by rw [decide_eq_false hz]; simp, ?_, hk⟩
          rcases hbad with h | h
          · exact absurd h hz
          · exact h
      show gName 12 (V.int ((k : Int) * (if (!PyData.eqv (.list (zs.map PyData.str)) (.list (([] : List Str).map PyData.str))) = true then 1 else 0))) _ _ _
      rw [hm]
      clear hm hbad
      have S3 := S2.ex y0
      generalize upd H2 p0 (.lst []) = H3 at S3 ⊢
      clear y0 S2
      refine ⟨S3.tab, fun fb8 cb8 dVb8 Jb8 enb8 hTb8 nfb8 thb8 => ⟨hTb8, fun fb9 cb9 dVb9 Jb9 enb9 hTb9 nfb9 thb9 => ⟨hTb9, fun fb10 cb10 dVb10 Jb10 enb10 hTb10 nfb10 thb10 => ⟨small9 (by simp), fun WA nWA => ?_⟩⟩⟩⟩
      have Z1 := (((S3.extN enb8 hTb8).extN enb9 hTb9).extN enb10 hTb10)
      clear S3
      replace thb8 := ((thb8.extN enb9).extN enb10)
      replace thb9 := (thb9.extN enb10)
      clear enb8 hTb8 enb9 hTb9 enb10 hTb10
      have y2 := Ex.new (o := HO.lst [.ref fb8, .ref fb9, .ref fb10]) nWA
      have Z3 := Z1.ex y2
      clear Z1
      replace thb8 := thb8.mono y2
      replace thb9 := thb9.mono y2
      replace thb10 := thb10.mono y2
      have hWA : upd Jb10 WA (.lst [.ref fb8, .ref fb9, .ref fb10]) WA = some (.lst [.ref fb8, .ref fb9, .ref fb10]) := upd_same
      generalize upd Jb10 WA (.lst [.ref fb8, .ref fb9, .ref fb10]) = G4 at Z3 thb8 thb9 thb10 hWA ⊢
      clear y2
      -- all are refused as words
      refine ⟨fun σ H' => (∃ v7, σ = [some (.ref a), some (.ref dd), some (.int far), v3, v4, v5, v6, v7, none, some (.ref l), some (.ref pw), some (.ref pb), some (.int (m : Int)), none, none, none]) ∧ SitW dd l pw pb Pt r ws zs H', ?_, ?_⟩
      · -- words
        refine ⟨_, rfl, Z3.tab, fun fb11 cb11 dVb11 Jb11 enb11 hTb11 nfb11 thb11 => ⟨small9 (by simp), fun LC nLC => ?_⟩⟩
        have Z5 := (Z3.extN enb11 hTb11)
        clear Z3
        replace thb8 := (thb8.extN enb11)
        replace thb9 := (thb9.extN enb11)
        replace thb10 := (thb10.extN enb11)
        replace hWA := enb11 _ _ (hWA) (fun ps z => by cases z)
        clear enb11 hTb11
        have y6 := Ex.new (o := HO.lst [.ref fb11]) nLC
        have Z7 := Z5.ex y6
        clear Z5
        replace thb8 := thb8.mono y6
        replace thb9 := thb9.mono y6
        replace thb10 := thb10.mono y6
        replace thb11 := thb11.mono y6
        replace hWA := y6 _ _ hWA
        have hLC : upd Jb11 LC (.lst [.ref fb11]) LC = some (.lst [.ref fb11]) := upd_same
        generalize upd Jb11 LC (.lst [.ref fb11]) = G8 at Z7 thb8 thb9 thb10 thb11 hWA hLC ⊢
        clear y6
        refine ⟨WA, LC, _, _, rfl, rfl, hWA, hLC, small9 (by simp), fun WC nWC => ?_⟩
        have y9 := Ex.new (o := HO.lst ([.ref fb8, .ref fb9, .ref fb10] ++ [.ref fb11])) nWC
        have Z10 := Z7.ex y9
        clear Z7
        replace thb8 := thb8.mono y9
        replace thb9 := thb9.mono y9
        replace thb10 := thb10.mono y9
        replace thb11 := thb11.mono y9
        replace hWA := y9 _ _ hWA
        replace hLC := y9 _ _ hLC
        have hWC : upd G8 WC (.lst ([.ref fb8, .ref fb9, .ref fb10] ++ [.ref fb11])) WC = some (.lst [.ref fb8, .ref fb9, .ref fb10, .ref fb11]) := upd_same
        generalize upd G8 WC (.lst ([.ref fb8, .ref fb9, .ref fb10] ++ [.ref fb11])) = G11 at Z10 thb8 thb9 thb10 thb11 hWA hLC hWC ⊢
        clear y9
        clear hWA
        clear hLC
        refine ⟨WC, rfl, ⟨_, SqL.of hWC⟩, fun D nD => lcW [fb8, fb9, fb10, fb11] V.ref (fun _ => false) V.ref (walk_ls _ _) (fun H e => SqL.of (e _ _ hWC)) (by simp) nD (fun _ => rfl) (fun f hf H' e' Y N hY => ?_) (fun H' e' h' => ?_)⟩
        · refine ⟨_, rfl, _, rfl, f, "words", (m : Int), rfl, ?_, fun H2 e2 => ⟨_, rfl, ifN (by simp) (by have := hY H2 e2; simpa using this)⟩⟩
          clear hY nD
          have hb := e' _ _ Z10.bad
          simp only [List.mem_cons, List.not_mem_nil, or_false] at hf
          rcases hf with rfl | rfl | rfl | rfl
          · refine refOk_mk (bs := []) (thb8.mono e') ⟨lScope_by (sc := defScope s_law) (by decide +kernel), hloc_by (N := ["_law_script", "_law_d", "_law_far", "_law_wide", "_law_many", "_law_late", "_law_room", "_law_works", "_law_work", "_law_lane_here", "_law_words_here", "_law_bad_here", "_law_at", "_law_odd", "_law_k", "_law_none"]) (by decide +kernel), fun s q cl dV doc pm cv ctv h => by cases (show dV = .none from h); exact ⟨[], BindsTo.of_eq rfl⟩, by simp, fun dV c' A outer s H E f hr' => (pe_call (ok_first_torn T) (hr'.mono (by decide)) (by rfl) T.g_first_torn T.F_first_torn.kp T.b_first_torn .nil (L2N.passes_call (L2N.takes_of rfl rfl rfl rfl) (fun _ _ _ _ h => h)) (pa_cons (pv 11) pa_nil))⟩ ?_
            intro E Qn hE
            exact ⟨_, rfl, pb, zs, rfl, SqL.of hb, hzs, badAt_not hB, wordX hB hE⟩
          · refine refOk_mk (bs := ["_law_a"]) (thb9.mono e') ⟨lScope_by (sc := defScope s_law) (by decide +kernel), hloc_by (N := ["_law_script", "_law_d", "_law_far", "_law_wide", "_law_many", "_law_late", "_law_room", "_law_works", "_law_work", "_law_lane_here", "_law_words_here", "_law_bad_here", "_law_at", "_law_odd", "_law_k", "_law_none"]) (by decide +kernel), fun s q cl dV doc pm cv ctv h => by obtain ⟨t, rfl, u, o, ho, _, n, hs⟩ := h; exact ⟨[u], BindsTo.of_defaults rfl ho hs rfl rfl⟩, fun y hy => by rw [List.mem_singleton.mp hy]; rfl, fun dV c' A outer s H E f hr' => (pe_call (ok_fault T) (hr'.mono (by decide)) (by rfl) T.g_fault T.F_fault.kp T.b_fault .nil (L2N.passes_call (L2N.takes_of rfl rfl rfl rfl) (fun _ _ _ _ h => h)) (pa_cons (pe_tup (pa_cons pe_int (pa_cons (pv 11) pa_nil))) pa_nil))⟩ ?_
            intro E Qn hE
            refine ⟨_, rfl, small9 (by simp), fun t nt => ?_⟩
            have v1 := Ex.new (o := HO.tup [.int 1, .ref pb]) nt
            obtain ⟨lx, nl⟩ := laneX_bad (K := K) (CL := T.C_BadLane) (by decide) (by decide) hB (upd_same (H := H') (a := t) (o := HO.tup [.int 1, .ref pb])) (v1 _ _ hb) hzs (by omega) (fun j hj => (wordX hB hE j hj).up v1)
            exact ⟨t, pb, 1, zs, rfl, lx, nl⟩
          · refine refOk_mk (bs := ["_law_b"]) (thb10.mono e') ⟨lScope_by (sc := defScope s_law) (by decide +kernel), hloc_by (N := ["_law_script", "_law_d", "_law_far", "_law_wide", "_law_many", "_law_late", "_law_room", "_law_works", "_law_work", "_law_lane_here", "_law_words_here", "_law_bad_here", "_law_at", "_law_odd", "_law_k", "_law_none"]) (by decide +kernel), fun s q cl dV doc pm cv ctv h => by obtain ⟨t, rfl, u, o, ho, _, n, hs⟩ := h; exact ⟨[u], BindsTo.of_defaults rfl ho hs rfl rfl⟩, fun y hy => by rw [List.mem_singleton.mp hy]; rfl, fun dV c' A outer s H E f hr' => (pe_call (ok_played T) (hr'.mono (by decide)) (by rfl) T.g_played T.F_played.kp T.b_played .nil (L2N.passes_call (L2N.takes_of rfl rfl rfl rfl) (fun _ _ _ _ h => h)) (pa_cons (pe_tup (pa_cons pe_int (pa_cons (pv 11) pa_nil))) (pa_cons (pe_lst (pa_cons (pe_tup pa_nil) pa_nil)) pa_nil)))⟩ ?_
            intro E Qn hE
            refine ⟨_, rfl, small9 (by simp), fun t nt => ⟨small9 (by simp), fun u nu => ⟨small9 (by simp), fun o no => ?_⟩⟩⟩
            have v1 := Ex.new (o := HO.tup [.int 6, .ref pb]) nt
            have v2 := Ex.new (o := HO.tup []) nu
            have v3 := Ex.new (o := HO.lst [.ref u]) no
            have vv := (v1.trans v2).trans v3
            obtain ⟨lx, nl⟩ := laneX_bad (K := K) (CL := T.C_BadLane) (by decide) (by decide) hB (v3 _ _ (v2 _ _ upd_same)) (vv _ _ hb) hzs (by omega) (fun j hj => (wordX hB hE j hj).up vv)
            exact ⟨t, pb, o, 6, zs, [.ref u], rfl, lx, upd_same, fun h => absurd h nl⟩
          · refine refOk_mk (bs := ["_law_c"]) (thb11.mono e') ⟨lScope_by (sc := defScope s_law) (by decide +kernel), hloc_by (N := ["_law_script", "_law_d", "_law_far", "_law_wide", "_law_many", "_law_late", "_law_room", "_law_works", "_law_work", "_law_lane_here", "_law_words_here", "_law_bad_here", "_law_at", "_law_odd", "_law_k", "_law_none"]) (by decide +kernel), fun s q cl dV doc pm cv ctv h => by obtain ⟨t, rfl, u, o, ho, _, n, hs⟩ := h; exact ⟨[u], BindsTo.of_defaults rfl ho hs rfl rfl⟩, fun y hy => by rw [List.mem_singleton.mp hy]; rfl, fun dV c' A outer s H E f hr' => (pe_call (ok_got T) (hr'.mono (by decide)) (by rfl) T.g_got T.F_got.kp T.b_got .nil (L2N.passes_call (L2N.takes_of rfl rfl rfl rfl) (fun _ _ _ _ h => h)) (pa_cons (pe_tup (pa_cons pe_int (pa_cons (pv 11) pa_nil))) (pa_cons (pe_lst (pa_cons (pe_tup pa_nil) pa_nil)) pa_nil)))⟩ ?_
            intro E Qn hE
            refine ⟨_, rfl, small9 (by simp), fun t nt => ⟨small9 (by simp), fun u nu => ⟨small9 (by simp), fun o no => ?_⟩⟩⟩
            have v1 := Ex.new (o := HO.tup [.int 2, .ref pb]) nt
            have v2 := Ex.new (o := HO.tup []) nu
            have v3 := Ex.new (o := HO.lst [.ref u]) no
            have vv := (v1.trans v2).trans v3
            obtain ⟨lx, nl⟩ := laneX_bad (K := K) (CL := T.C_BadLane) (by decide) (by decide) hB (v3 _ _ (v2 _ _ upd_same)) (vv _ _ hb) hzs (by omega) (fun j hj => (wordX hB hE j hj).up vv)
            exact ⟨t, pb, o, 2, zs, [.ref u], rfl, lx, upd_same, fun h => absurd h nl⟩
        · have h' : H' D = some (.lst []) := h'
          exact ⟨small9 (by simp), fun E0 nE0 => ⟨.list [], .list [], .lst (SqL.of ((Ex.new nE0) _ _ h')) .nil, .lst (SqL.of upd_same) .nil, rfl, rfl, _, rfl, ifN (by decide) ⟨⟨_, rfl⟩, (Z10.ex e').ex (Ex.new nE0)⟩⟩⟩
      · clear thb8 thb9 thb10 hWA Z3
        rintro σ H0 ⟨⟨v7', rfl⟩, S0⟩
        have hw0 := hW.at (i := 0) (by have := hW.r1; omega)
        have hw0n := hW.wat (i := 0) (by have := hW.r1; omega)
        generalize ws.getD 0 [] = w0 at hw0 hw0n
        have hn1 := hW.n1
        have hn4 := hW.n4
        refine ⟨small9 (by simp), fun p1 np1 => ?_⟩
        have u1 := Ex.new (o := HO.lst [.str "", .str "00000", .str "x", .str "012"]) np1
        have D1 := S0.ex u1
        refine ⟨_, rfl, dd, 4, rfl, D1.dice, by decide, by decide, fun y1 H4 y10 y11 e3 hd3 => ?_⟩
        have hp1 := e3 _ _ (upd_same (H := H0) (a := p1) (o := HO.lst [.str "", .str "00000", .str "x", .str "012"])) (S0.dice.neN np1)
        have S1 := D1.exd e3 hd3
        clear S0 D1 u1 e3 hd3
        obtain ⟨odd, hv1, hodd⟩ := odd4 y10 y11
        refine ⟨p1, _, _, _, rfl, rfl, SqL.of hp1, hv1, ?_⟩
        clear hp1 hv1 y10 y11 np1
        refine ⟨S1.tab, fun fc12 cc12 dVc12 Jc12 enc12 hTc12 nfc12 thc12 => ⟨hTc12, fun fc13 cc13 dVc13 Jc13 enc13 hTc13 nfc13 thc13 => ⟨hTc13, fun fc14 cc14 dVc14 Jc14 enc14 hTc14 nfc14 thc14 => ⟨small9 (by simp), fun WA nWA => ?_⟩⟩⟩⟩
        have Z1 := (((S1.extN enc12 hTc12).extN enc13 hTc13).extN enc14 hTc14)
        clear S1
        replace thc12 := ((thc12.extN enc13).extN enc14)
        replace thc13 := (thc13.extN enc14)
        clear enc12 hTc12 enc13 hTc13 enc14 hTc14
        have nw1 : WA ≠ dd := Z1.dice.neN nWA
        have nw2 : WA ≠ pw := (ne_of_none Z1.words nWA).symm
        have nw3 : WA ≠ pb := (ne_of_none Z1.bad nWA).symm
        have y2 := Ex.new (o := HO.lst [.ref fc12, .ref fc13, .ref fc14]) nWA
        have Z3 := Z1.ex y2
        clear Z1
        replace thc12 := thc12.mono y2
        replace thc13 := thc13.mono y2
        replace thc14 := thc14.mono y2
        have hWA : upd Jc14 WA (.lst [.ref fc12, .ref fc13, .ref fc14]) WA = some (.lst [.ref fc12, .ref fc13, .ref fc14]) := upd_same
        generalize upd Jc14 WA (.lst [.ref fc12, .ref fc13, .ref fc14]) = G4 at Z3 thc12 thc13 thc14 hWA ⊢
        clear y2
        refine ⟨_, rfl, .inl ⟨rfl, _, SqL.of hWA⟩, Z3.tab, fun fc15 cc15 dVc15 Jc15 enc15 hTc15 nfc15 thc15 => ?_⟩
        have Z5 := (Z3.extN enc15 hTc15)
        clear Z3
        replace thc12 := (thc12.extN enc15)
        replace thc13 := (thc13.extN enc15)
        replace thc14 := (thc14.extN enc15)
        replace hWA := enc15 _ _ (hWA) (fun ps z => by cases z)
        clear enc15 hTc15
        refine ⟨WA, _, _, rfl, rfl, hWA, small1000 (by simp), ?_⟩
        have ew : Exd WA Jc15 (upd Jc15 WA (.lst ([.ref fc12, .ref fc13, .ref fc14] ++ [.ref fc15]))) := (Exd.refl _ _).upd
        have Z6 := Z5.exl hWA nw1 nw2 nw3 ew
        replace thc12 := thk_exd thc12 hWA ew
        replace thc13 := thk_exd thc13 hWA ew
        replace thc14 := thk_exd thc14 hWA ew
        replace thc15 := thk_exd thc15 hWA ew
        replace hWA : upd Jc15 WA (.lst ([.ref fc12, .ref fc13, .ref fc14] ++ [.ref fc15])) WA = some (.lst [.ref fc12, .ref fc13, .ref fc14, .ref fc15]) := upd_same
        clear Z5
        generalize upd Jc15 WA (.lst ([.ref fc12, .ref fc13, .ref fc14] ++ [.ref fc15])) = J at Z6 hWA thc12 thc13 thc14 thc15 ⊢
        clear ew
        -- all are refused as words, with their numbers
        refine ⟨fun σ H' => (∃ v7 v13, σ = [some (.ref a), some (.ref dd), some (.int far), v3, v4, v5, v6, v7, none, some (.ref l), some (.ref pw), some (.ref pb), some (.int (m : Int)), v13, none, none]) ∧ SitW dd l pw pb Pt r ws zs H', ?_, ?_⟩
        · -- torn
          refine ⟨4, rfl, by decide, by decide, fun D nD => lcR 4 (fun _ => .bl true) rfl (by decide) nD (fun _ => rfl) (fun i hi H' e' Y hY => ?_) (fun H' e' h' => ?_)⟩
          · have hw' := e' _ _ Z6.words
            replace hWA := e' _ _ hWA
            replace thc12 := thc12.mono e'
            replace thc13 := thc13.mono e'
            replace thc14 := thc14.mono e'
            replace thc15 := thc15.mono e'
            have hi : i = 0 ∨ i = 1 ∨ i = 2 ∨ i = 3 := by omega
            rcases hi with rfl | rfl | rfl | rfl
            · refine ⟨_, rfl, _, rfl, WA, _, _, .ref fc12, rfl, rfl, SqL.of hWA, rfl, small9 (by simp), fun p np => ?_⟩
              have v1 := Ex.new (o := HO.lst [.int 0, .int 1, .int 1, .int 1]) np
              refine ⟨_, rfl, p, _, _, .int 0, rfl, rfl, SqL.of upd_same, rfl, fc12, "words", 0, rfl, ?_, fun H2 e2 => hY H2 (v1.trans e2)⟩
              refine refOk_mk (bs := []) (thc12.mono v1) ⟨lScope_by (sc := defScope s_law) (by decide +kernel), hloc_by (N := ["_law_script", "_law_d", "_law_far", "_law_wide", "_law_many", "_law_late", "_law_room", "_law_works", "_law_work", "_law_lane_here", "_law_words_here", "_law_bad_here", "_law_at", "_law_odd", "_law_k", "_law_none"]) (by decide +kernel), fun s q cl dV doc pm cv ctv h => by cases (show dV = .none from h); exact ⟨[], BindsTo.of_eq rfl⟩, by simp, fun dV c' A outer s H E f hr' => (pe_call (ok_torn T) (hr'.mono (by decide)) (by rfl) T.g_torn T.F_torn.kp T.b_torn .nil (L2N.passes_call (L2N.takes_of rfl rfl rfl rfl) (fun _ _ _ _ h => h)) (pa_cons (pv 13) (pa_cons pe_str pa_nil)))⟩ ?_
              intro E Qn hE
              exact ⟨_, rfl, odd, "", rfl, strs2 hodd.2.1 hodd.2.2 (by decide +kernel) (by decide +kernel), .inl ⟨hodd.1, wordN hE rfl⟩⟩
            · refine ⟨_, rfl, _, rfl, WA, _, _, .ref fc13, rfl, rfl, SqL.of hWA, rfl, small9 (by simp), fun p np => ?_⟩
              have v1 := Ex.new (o := HO.lst [.int 0, .int 1, .int 1, .int 1]) np
              refine ⟨_, rfl, p, _, _, .int 1, rfl, rfl, SqL.of upd_same, rfl, fc13, "words", 1, rfl, ?_, fun H2 e2 => hY H2 (v1.trans e2)⟩
              refine refOk_mk (bs := ["_law_a"]) (thc13.mono v1) ⟨lScope_by (sc := defScope s_law) (by decide +kernel), hloc_by (N := ["_law_script", "_law_d", "_law_far", "_law_wide", "_law_many", "_law_late", "_law_room", "_law_works", "_law_work", "_law_lane_here", "_law_words_here", "_law_bad_here", "_law_at", "_law_odd", "_law_k", "_law_none"]) (by decide +kernel), fun s q cl dV doc pm cv ctv h => by obtain ⟨t, rfl, u, o, ho, _, n, hs⟩ := h; exact ⟨[u], BindsTo.of_defaults rfl ho hs rfl rfl⟩, fun y hy => by rw [List.mem_singleton.mp hy]; rfl, fun dV c' A outer s H E f hr' => (pe_call (ok_torn T) (hr'.mono (by decide)) (by rfl) T.g_torn T.F_torn.kp T.b_torn .nil (L2N.passes_call (L2N.takes_of rfl rfl rfl rfl) (fun _ _ _ _ h => h)) (pa_cons (pe_ix (r := rIxL K) ix_list (pv 10) pe_int (fun _ _ => rfl)) (pa_cons (pv 13) pa_nil)))⟩ ?_
              intro E Qn hE
              exact ⟨_, rfl, pw, _, _, _, rfl, rfl, SqL.of (v1 _ _ hw'), atI_nat (j := 0) hw0, _, rfl, wd w0, odd, rfl, strs2 (by rw [wd_len]; omega) (strOk_wd w0) hodd.2.1 hodd.2.2, .inr ⟨isW_wd (by omega) (by omega), .inl hodd.1, wordN hE rfl⟩⟩
            · refine ⟨_, rfl, _, rfl, WA, _, _, .ref fc14, rfl, rfl, SqL.of hWA, rfl, small9 (by simp), fun p np => ?_⟩
              have v1 := Ex.new (o := HO.lst [.int 0, .int 1, .int 1, .int 1]) np
              refine ⟨_, rfl, p, _, _, .int 1, rfl, rfl, SqL.of upd_same, rfl, fc14, "words", 1, rfl, ?_, fun H2 e2 => hY H2 (v1.trans e2)⟩
              refine refOk_mk (bs := ["_law_b"]) (thc14.mono v1) ⟨lScope_by (sc := defScope s_law) (by decide +kernel), hloc_by (N := ["_law_script", "_law_d", "_law_far", "_law_wide", "_law_many", "_law_late", "_law_room", "_law_works", "_law_work", "_law_lane_here", "_law_words_here", "_law_bad_here", "_law_at", "_law_odd", "_law_k", "_law_none"]) (by decide +kernel), fun s q cl dV doc pm cv ctv h => by obtain ⟨t, rfl, u, o, ho, _, n, hs⟩ := h; exact ⟨[u], BindsTo.of_defaults rfl ho hs rfl rfl⟩, fun y hy => by rw [List.mem_singleton.mp hy]; rfl, fun dV c' A outer s H E f hr' => (pe_call (ok_torn T) (hr'.mono (by decide)) (by rfl) T.g_torn T.F_torn.kp T.b_torn .nil (L2N.passes_call (L2N.takes_of rfl rfl rfl rfl) (fun _ _ _ _ h => h)) (pa_cons pe_str (pa_cons pe_str pa_nil)))⟩ ?_
              intro E Qn hE
              exact ⟨"01", "011", rfl, strs2 (by decide +kernel) (by decide +kernel) (by decide +kernel) (by decide +kernel), .inr ⟨by decide +kernel, .inr (by decide +kernel), wordN hE rfl⟩⟩
            · refine ⟨_, rfl, _, rfl, WA, _, _, .ref fc15, rfl, rfl, SqL.of hWA, rfl, small9 (by simp), fun p np => ?_⟩
              have v1 := Ex.new (o := HO.lst [.int 0, .int 1, .int 1, .int 1]) np
              refine ⟨_, rfl, p, _, _, .int 1, rfl, rfl, SqL.of upd_same, rfl, fc15, "words", 1, rfl, ?_, fun H2 e2 => hY H2 (v1.trans e2)⟩
              refine refOk_mk (bs := ["_law_c"]) (thc15.mono v1) ⟨lScope_by (sc := defScope s_law) (by decide +kernel), hloc_by (N := ["_law_script", "_law_d", "_law_far", "_law_wide", "_law_many", "_law_late", "_law_room", "_law_works", "_law_work", "_law_lane_here", "_law_words_here", "_law_bad_here", "_law_at", "_law_odd", "_law_k", "_law_none"]) (by decide +kernel), fun s q cl dV doc pm cv ctv h => by obtain ⟨t, rfl, u, o, ho, _, n, hs⟩ := h; exact ⟨[u], BindsTo.of_defaults rfl ho hs rfl rfl⟩, fun y hy => by rw [List.mem_singleton.mp hy]; rfl, fun dV c' A outer s H E f hr' => (pe_call (ok_torn T) (hr'.mono (by decide)) (by rfl) T.g_torn T.F_torn.kp T.b_torn .nil (L2N.passes_call (L2N.takes_of rfl rfl rfl rfl) (fun _ _ _ _ h => h)) (pa_cons pe_str (pa_cons pe_str pa_nil)))⟩ ?_
              intro E Qn hE
              exact ⟨"011", "01", rfl, strs2 (by decide +kernel) (by decide +kernel) (by decide +kernel) (by decide +kernel), .inr ⟨by decide +kernel, .inr (by decide +kernel), wordN hE rfl⟩⟩
          · have h' : H' D = some (.lst [.bl true, .bl true, .bl true, .bl true]) := h'
            refine ⟨small9 (by simp), fun p np => ⟨p, 4, _, rfl, rfl, upd_same, by decide, by decide, small9 (by decide), fun o no => ?_⟩⟩
            have v1 := Ex.new (o := HO.lst [.bl true]) np
            have v2 := Ex.new (o := HO.lst (List.replicate (4 : Int).toNat [V.bl true]).flatten) no
            have ho : upd (upd H' p (.lst [.bl true])) o (.lst (List.replicate (4 : Int).toNat [V.bl true]).flatten) o = some (.lst [.bl true, .bl true, .bl true, .bl true]) := upd_same
            exact ⟨.list [.bool true, .bool true, .bool true, .bool true], .list [.bool true, .bool true, .bool true, .bool true], .lst (SqL.of (v2 _ _ (v1 _ _ h'))) (.cons (.bl _) (.cons (.bl _) (.cons (.bl _) (.cons (.bl _) .nil)))), .lst (SqL.of ho) (.cons (.bl _) (.cons (.bl _) (.cons (.bl _) (.cons (.bl _) .nil)))), rfl, rfl, _, rfl, ifN (by decide) ⟨⟨_, _, rfl⟩, ((Z6.ex e').ex v1).ex v2⟩⟩
        · clear thc12 thc13 thc14 thc15 hWA Z6
          rintro σ H0 ⟨⟨w7, w13, rfl⟩, S0⟩
          have r1 := hW.r1
          have r6 := hW.r6
          have hwl := hW.len
          have hne : ws.map wd ≠ [] := by
            intro h
            have h := congrArg List.length h
            rw [List.length_map, hwl] at h
            simp at h
            omega
          refine ⟨_, rfl, _, rfl, _, _, rfl, rfl, small9 (by simp), fun p1 np1 => ?_⟩
          have u1 := Ex.new (o := HO.lst [.int 0, .int 7, .int (-1), .int (7 + far)]) np1
          have D1 := S0.ex u1
          refine ⟨_, rfl, dd, 4, rfl, D1.dice, by decide, by decide, fun y1 H4 y10 y11 e3 hd3 => ?_⟩
          have hp1 := e3 _ _ (upd_same (H := H0) (a := p1) (o := HO.lst [.int 0, .int 7, .int (-1), .int (7 + far)])) (S0.dice.neN np1)
          have S1 := D1.exd e3 hd3
          clear S0 D1 u1 e3 hd3
          obtain ⟨nn, hv1, hnone⟩ := at4 (a := 0) (b := 7) (c := -1) (d := 7 + far) y10 y11 (fun i => ¬ (1 ≤ i ∧ i ≤ 6)) (by omega) (by omega) (by omega) (by omega)
          refine ⟨p1, _, _, _, rfl, rfl, SqL.of hp1, hv1, ?_⟩
          clear hp1 hv1 y10 y11 np1
          refine ⟨S1.tab, fun fe16 ce16 dVe16 Je16 ene16 hTe16 nfe16 the16 => ⟨hTe16, fun fe17 ce17 dVe17 Je17 ene17 hTe17 nfe17 the17 => ⟨hTe17, fun fe18 ce18 dVe18 Je18 ene18 hTe18 nfe18 the18 => ⟨small9 (by simp), fun WA nWA => ?_⟩⟩⟩⟩
          have Z1 := (((S1.extN ene16 hTe16).extN ene17 hTe17).extN ene18 hTe18)
          clear S1
          replace the16 := ((the16.extN ene17).extN ene18)
          replace the17 := (the17.extN ene18)
          clear ene16 hTe16 ene17 hTe17 ene18 hTe18
          have y2 := Ex.new (o := HO.lst [.ref fe16, .ref fe17, .ref fe18]) nWA
          have Z3 := Z1.ex y2
          clear Z1
          replace the16 := the16.mono y2
          replace the17 := the17.mono y2
          replace the18 := the18.mono y2
          have hWA : upd Je18 WA (.lst [.ref fe16, .ref fe17, .ref fe18]) WA = some (.lst [.ref fe16, .ref fe17, .ref fe18]) := upd_same
          generalize upd Je18 WA (.lst [.ref fe16, .ref fe17, .ref fe18]) = G4 at Z3 the16 the17 the18 hWA ⊢
          clear y2
          refine ⟨_, rfl, Z3.tab, fun fe19 ce19 dVe19 Je19 ene19 hTe19 nfe19 the19 => ⟨hTe19, fun fe20 ce20 dVe20 Je20 ene20 hTe20 nfe20 the20 => ⟨small9 (by simp), fun LB nLB => ?_⟩⟩⟩
          have Z5 := ((Z3.extN ene19 hTe19).extN ene20 hTe20)
          clear Z3
          replace the16 := ((the16.extN ene19).extN ene20)
          replace the17 := ((the17.extN ene19).extN ene20)
          replace the18 := ((the18.extN ene19).extN ene20)
          replace hWA := ene20 _ _ (ene19 _ _ (hWA) (fun ps z => by cases z)) (fun ps z => by cases z)
          replace the19 := (the19.extN ene20)
          clear ene19 hTe19 ene20 hTe20
          have y6 := Ex.new (o := HO.lst [.ref fe19, .ref fe20]) nLB
          have Z7 := Z5.ex y6
          clear Z5
          replace the16 := the16.mono y6
          replace the17 := the17.mono y6
          replace the18 := the18.mono y6
          replace the19 := the19.mono y6
          replace the20 := the20.mono y6
          replace hWA := y6 _ _ hWA
          have hLB : upd Je20 LB (.lst [.ref fe19, .ref fe20]) LB = some (.lst [.ref fe19, .ref fe20]) := upd_same
          generalize upd Je20 LB (.lst [.ref fe19, .ref fe20]) = G8 at Z7 the16 the17 the18 the19 the20 hWA hLB ⊢
          clear y6
          refine ⟨WA, LB, _, _, rfl, rfl, hWA, hLB, small9 (by simp), fun WB nWB => ?_⟩
          have y9 := Ex.new (o := HO.lst ([.ref fe16, .ref fe17, .ref fe18] ++ [.ref fe19, .ref fe20])) nWB
          have Z10 := Z7.ex y9
          clear Z7
          replace the16 := the16.mono y9
          replace the17 := the17.mono y9
          replace the18 := the18.mono y9
          replace the19 := the19.mono y9
          replace the20 := the20.mono y9
          replace hWA := y9 _ _ hWA
          replace hLB := y9 _ _ hLB
          have hWB : upd G8 WB (.lst ([.ref fe16, .ref fe17, .ref fe18] ++ [.ref fe19, .ref fe20])) WB = some (.lst [.ref fe16, .ref fe17, .ref fe18, .ref fe19, .ref fe20]) := upd_same
          generalize upd G8 WB (.lst ([.ref fe16, .ref fe17, .ref fe18] ++ [.ref fe19, .ref fe20])) = G11 at Z10 the16 the17 the18 the19 the20 hWA hLB hWB ⊢
          clear y9
          clear hWA
          clear hLB
          -- four or five of them
          refine ⟨fun σ H' => ∃ (W : Addr) (gs : List Addr), σ = [some (.ref a), some (.ref dd), some (.int far), v3, v4, v5, v6, some (.ref W), none, some (.ref l), some (.ref pw), some (.ref pb), some (.int (m : Int)), w13, none, some (.int nn)] ∧ Ex G11 H' ∧ H' W = some (.lst (gs.map V.ref)) ∧ gs.length ≤ 5 ∧ ∀ f ∈ gs, f = fe16 ∨ f = fe17 ∨ f = fe18 ∨ f = fe19 ∨ f = fe20, ?_, ?_⟩
          · refine ⟨_, rfl, l, _, _, _, rfl, rfl, SqT.of Z10.lane, rfl, rfl, _, rfl, ?_⟩
            by_cases hr1 : (r : Int) = 1
            · refine ifP (by simp [hr1]) ⟨_, rfl, _, rfl, WB, _, rfl, SqL.of hWB, fun o no => ?_⟩
              exact ⟨o, [fe16, fe17, fe18, fe19], rfl, Ex.new no, upd_same, by simp, fun f hf => by
                simp only [List.mem_cons, List.not_mem_nil, or_false] at hf
                rcases hf with h | h | h | h <;> simp [h]⟩
            · refine ifN (by simpa using hr1) ?_
              exact ⟨WB, [fe16, fe17, fe18, fe19, fe20], rfl, Ex.refl _, hWB, by simp, fun f hf => by
                simpa only [List.mem_cons, List.not_mem_nil, or_false] using hf⟩
          rintro σ G0 ⟨W, gs, rfl, eG, hWl, hgl, hgs⟩
          have Z12 := Z10.ex eG
          clear Z10 hWB
          replace the16 := the16.mono eG
          replace the17 := the17.mono eG
          replace the18 := the18.mono eG
          replace the19 := the19.mono eG
          replace the20 := the20.mono eG
          clear eG
          -- all are refused as lanes
          refine ⟨fun σ H' => (∃ v7, σ = [some (.ref a), some (.ref dd), some (.int far), v3, v4, v5, v6, v7, none, some (.ref l), some (.ref pw), some (.ref pb), some (.int (m : Int)), w13, none, some (.int nn)]) ∧ SitW dd l pw pb Pt r ws zs H', ?_, ?_⟩
          · -- lanes
            refine ⟨_, rfl, W, rfl, ⟨_, SqL.of hWl⟩, fun D nD => lcW gs V.ref (fun _ => false) V.ref (walk_ls _ _) (fun H e => SqL.of (e _ _ hWl)) (by omega) nD (fun _ => rfl) (fun f hf H' e' Y N hY => ?_) (fun H' e' h' => ?_)⟩
            · refine ⟨_, rfl, f, "lane", 0, rfl, ?_, fun H2 e2 => ⟨_, rfl, ifN (by simp) (by have := hY H2 e2; simpa using this)⟩⟩
              clear hY nD
              have hb := e' _ _ Z12.bad
              have hl' := e' _ _ Z12.lane
              have hw' := e' _ _ Z12.words
              replace hf := hgs f hf
              rcases hf with rfl | rfl | rfl | rfl | rfl
              · refine refOk_mk (bs := []) (the16.mono e') ⟨lScope_by (sc := defScope s_law) (by decide +kernel), hloc_by (N := ["_law_script", "_law_d", "_law_far", "_law_wide", "_law_many", "_law_late", "_law_room", "_law_works", "_law_work", "_law_lane_here", "_law_words_here", "_law_bad_here", "_law_at", "_law_odd", "_law_k", "_law_none"]) (by decide +kernel), fun s q cl dV doc pm cv ctv h => by cases (show dV = .none from h); exact ⟨[], BindsTo.of_eq rfl⟩, by simp, fun dV c' A outer s H E f hr' => (pe_call (ok_fault T) (hr'.mono (by decide)) (by rfl) T.g_fault T.F_fault.kp T.b_fault .nil (L2N.passes_call (L2N.takes_of rfl rfl rfl rfl) (fun _ _ _ _ h => h)) (pa_cons (pe_tup (pa_cons (pv 15) (pa_cons (pv 11) pa_nil))) pa_nil))⟩ ?_
                intro E Qn hE
                refine ⟨_, rfl, _, rfl, small9 (by simp), fun t nt => ?_⟩
                have v1 := Ex.new (o := HO.tup [.int nn, .ref pb]) nt
                obtain ⟨lx, nl⟩ := laneX_room (K := K) (CW := T.C_BadWords) hnone (upd_same (H := H') (a := t) (o := HO.tup [.int nn, .ref pb])) (v1 _ _ hb) hzs (by omega) (fun H2 e2 => laneE hE H2 (v1.trans e2))
                exact ⟨t, pb, nn, zs, rfl, lx, nl⟩
              · refine refOk_mk (bs := ["_law_a"]) (the17.mono e') ⟨lScope_by (sc := defScope s_law) (by decide +kernel), hloc_by (N := ["_law_script", "_law_d", "_law_far", "_law_wide", "_law_many", "_law_late", "_law_room", "_law_works", "_law_work", "_law_lane_here", "_law_words_here", "_law_bad_here", "_law_at", "_law_odd", "_law_k", "_law_none"]) (by decide +kernel), fun s q cl dV doc pm cv ctv h => by obtain ⟨t, rfl, u, o, ho, _, n, hs⟩ := h; exact ⟨[u], BindsTo.of_defaults rfl ho hs rfl rfl⟩, fun y hy => by rw [List.mem_singleton.mp hy]; rfl, fun dV c' A outer s H E f hr' => (pe_call (ok_played T) (hr'.mono (by decide)) (by rfl) T.g_played T.F_played.kp T.b_played .nil (L2N.passes_call (L2N.takes_of rfl rfl rfl rfl) (fun _ _ _ _ h => h)) (pa_cons (pe_tup (pa_cons (pv 15) (pa_cons (pv 11) pa_nil))) (pa_cons (pe_lst (pa_cons (pe_tup pa_nil) pa_nil)) pa_nil)))⟩ ?_
                intro E Qn hE
                refine ⟨_, rfl, _, rfl, small9 (by simp), fun t nt => ⟨small9 (by simp), fun u nu => ⟨small9 (by simp), fun o no => ?_⟩⟩⟩
                have v1 := Ex.new (o := HO.tup [.int nn, .ref pb]) nt
                have v2 := Ex.new (o := HO.tup []) nu
                have v3 := Ex.new (o := HO.lst [.ref u]) no
                have vv := (v1.trans v2).trans v3
                obtain ⟨lx, nl⟩ := laneX_room (K := K) (CW := T.C_BadWords) hnone (v3 _ _ (v2 _ _ upd_same)) (vv _ _ hb) hzs (by omega) (fun H2 e2 => laneE hE H2 (vv.trans e2))
                exact ⟨t, pb, o, nn, zs, [.ref u], rfl, lx, upd_same, fun h => absurd h nl⟩
              · refine refOk_mk (bs := ["_law_b"]) (the18.mono e') ⟨lScope_by (sc := defScope s_law) (by decide +kernel), hloc_by (N := ["_law_script", "_law_d", "_law_far", "_law_wide", "_law_many", "_law_late", "_law_room", "_law_works", "_law_work", "_law_lane_here", "_law_words_here", "_law_bad_here", "_law_at", "_law_odd", "_law_k", "_law_none"]) (by decide +kernel), fun s q cl dV doc pm cv ctv h => by obtain ⟨t, rfl, u, o, ho, _, n, hs⟩ := h; exact ⟨[u], BindsTo.of_defaults rfl ho hs rfl rfl⟩, fun y hy => by rw [List.mem_singleton.mp hy]; rfl, fun dV c' A outer s H E f hr' => (pe_call (ok_got T) (hr'.mono (by decide)) (by rfl) T.g_got T.F_got.kp T.b_got .nil (L2N.passes_call (L2N.takes_of rfl rfl rfl rfl) (fun _ _ _ _ h => h)) (pa_cons (pe_tup (pa_cons (pv 15) (pa_cons (pv 11) pa_nil))) (pa_cons (pe_lst pa_nil) pa_nil)))⟩ ?_
                intro E Qn hE
                refine ⟨_, rfl, _, rfl, small9 (by simp), fun t nt => ⟨small9 (by simp), fun o no => ?_⟩⟩
                have v1 := Ex.new (o := HO.tup [.int nn, .ref pb]) nt
                have v3 := Ex.new (o := HO.lst []) no
                have vv := v1.trans v3
                obtain ⟨lx, nl⟩ := laneX_room (K := K) (CW := T.C_BadWords) hnone (v3 _ _ upd_same) (vv _ _ hb) hzs (by omega) (fun H2 e2 => laneE hE H2 (vv.trans e2))
                exact ⟨t, pb, o, nn, zs, [], rfl, lx, upd_same, fun h => absurd h nl⟩
              · refine refOk_mk (bs := ["_law_c"]) (the19.mono e') ⟨lScope_by (sc := defScope s_law) (by decide +kernel), hloc_by (N := ["_law_script", "_law_d", "_law_far", "_law_wide", "_law_many", "_law_late", "_law_room", "_law_works", "_law_work", "_law_lane_here", "_law_words_here", "_law_bad_here", "_law_at", "_law_odd", "_law_k", "_law_none"]) (by decide +kernel), fun s q cl dV doc pm cv ctv h => by obtain ⟨t, rfl, u, o, ho, _, n, hs⟩ := h; exact ⟨[u], BindsTo.of_defaults rfl ho hs rfl rfl⟩, fun y hy => by rw [List.mem_singleton.mp hy]; rfl, fun dV c' A outer s H E f hr' => (pe_call (ok_fault T) (hr'.mono (by decide)) (by rfl) T.g_fault T.F_fault.kp T.b_fault .nil (L2N.passes_call (L2N.takes_of rfl rfl rfl rfl) (fun _ _ _ _ h => h)) (pa_cons (pe_tup (pa_cons (pe_op op_add (pe_op op_mod (pe_ix (r := rIxT K) ix_tup (pv 9) pe_int (fun _ _ => rfl)) pe_int) pe_int) (pa_cons (pv 10) pa_nil))) pa_nil))⟩ ?_
                intro E Qn hE
                refine ⟨_, rfl, l, _, _, _, rfl, rfl, SqT.of hl', rfl, _, _, rfl, rfl, (show (0 : Int) < 6 by decide), _, _, rfl, rfl, _, rfl, small9 (by simp), fun t nt => ?_⟩
                have v1 := Ex.new (o := HO.tup [.int ((r : Int) % 6 + 1), .ref pw]) nt
                have hw2 := v1 _ _ hw'
                rw [map_wv] at hw2
                obtain ⟨lx, nl⟩ := laneX_len (K := K) (CW := T.C_BadWords) (r := (r : Int) % 6 + 1) (goodAll hW.wide hn1 hn4 hnd) hne (by rw [List.length_map]; omega) (upd_same (H := H') (a := t) (o := HO.tup [.int ((r : Int) % 6 + 1), .ref pw])) hw2 (strsOk_ws hW.wide hn4) (by rw [List.length_map]; omega) (fun H2 e2 => laneE hE H2 (v1.trans e2))
                exact ⟨t, pw, _, _, rfl, lx, nl⟩
              · refine refOk_mk (bs := ["_law_e"]) (the20.mono e') ⟨lScope_by (sc := defScope s_law) (by decide +kernel), hloc_by (N := ["_law_script", "_law_d", "_law_far", "_law_wide", "_law_many", "_law_late", "_law_room", "_law_works", "_law_work", "_law_lane_here", "_law_words_here", "_law_bad_here", "_law_at", "_law_odd", "_law_k", "_law_none"]) (by decide +kernel), fun s q cl dV doc pm cv ctv h => by obtain ⟨t, rfl, u, o, ho, _, n, hs⟩ := h; exact ⟨[u], BindsTo.of_defaults rfl ho hs rfl rfl⟩, fun y hy => by rw [List.mem_singleton.mp hy]; rfl, fun dV c' A outer s H E f hr' => (pe_call (ok_played T) (hr'.mono (by decide)) (by rfl) T.g_played T.F_played.kp T.b_played .nil (L2N.passes_call (L2N.takes_of rfl rfl rfl rfl) (fun _ _ _ _ h => h)) (pa_cons (pe_tup (pa_cons (pe_ix (r := rIxT K) ix_tup (pv 9) pe_int (fun _ _ => rfl)) (pa_cons (pe_slice (r := rSlL K) sl_list (pv 10) (po_some pe_int) po_none) pa_nil))) (pa_cons (pe_lst (pa_cons (pe_tup pa_nil) pa_nil)) pa_nil)))⟩ ?_
                intro E Qn hE
                refine ⟨_, rfl, l, _, _, _, rfl, rfl, SqT.of hl', rfl, _, rfl, _, rfl, pw, _, rfl, SqL.of hw', fun q1 nq1 => ?_⟩
                have hcd : cutV (ws.map wv) (some 1) none = ((ws.drop 1).map wd).map V.str := by rw [show (1 : Int) = ((1 : Nat) : Int) from rfl, cutDrop, List.map_map, ← List.map_drop]; rfl
                rw [hcd]
                have v0 := Ex.new (o := HO.lst (((ws.drop 1).map wd).map V.str)) nq1
                refine ⟨small9 (by simp), fun t nt => ⟨small9 (by simp), fun u nu => ⟨small9 (by simp), fun o no => ?_⟩⟩⟩
                have v1 := Ex.new (o := HO.tup [.int (r : Int), .ref q1]) nt
                have v2 := Ex.new (o := HO.tup []) nu
                have v3 := Ex.new (o := HO.lst [.ref u]) no
                have vv := (v1.trans v2).trans v3
                have hdw : ∀ w ∈ ws.drop 1, w.length = n := fun w hw => hW.wide w (List.mem_of_mem_drop hw)
                have hdl : ((ws.drop 1).map wd).length = 2 * r - 1 := by rw [List.length_map, List.length_drop, hwl]
                obtain ⟨lx, nl⟩ := laneX_len (K := K) (CW := T.C_BadWords) (r := (r : Int)) (goodAll hdw hn1 hn4 (hnd.sublist (List.drop_sublist 1 ws))) (by intro h; rw [h] at hdl; simp at hdl; omega) (by rw [hdl]; omega) (v3 _ _ (v2 _ _ upd_same)) (vv _ _ upd_same) (strsOk_ws hdw hn4) (by rw [hdl]; omega) (fun H2 e2 => laneE hE H2 ((v0.trans vv).trans e2))
                exact ⟨t, q1, o, _, _, [.ref u], rfl, lx, upd_same, fun h => absurd h nl⟩
            · have h' : H' D = some (.lst []) := by have z := h'; rwa [List.filter_eq_nil_iff.mpr (by simp)] at z
              exact ⟨small9 (by simp), fun E0 nE0 => ⟨.list [], .list [], .lst (SqL.of ((Ex.new nE0) _ _ h')) .nil, .lst (SqL.of upd_same) .nil, rfl, rfl, _, rfl, ifN (by decide) ⟨⟨_, rfl⟩, (Z12.ex e').ex (Ex.new nE0)⟩⟩⟩
          · clear the16 the17 the18 the19 the20 hWl Z12
            rintro σ H0 ⟨⟨w7', rfl⟩, S0⟩
            have hok : ∀ {H' : Hp} {E : XK}, Ex H0 H' → LaneX K T.C_BadLane T.C_BadWords l pw (r : Int) (ws.map wd) H' E := fun {H' E} e' => by
              have hw2 := e' _ _ S0.words
              rw [map_wv] at hw2
              exact laneX_ok (goodAll hW.wide hn1 hn4 hnd) hne (by omega) (by omega) (by rw [List.length_map]; omega) (e' _ _ S0.lane) hw2 (strsOk_ws hW.wide hn4) (by rw [List.length_map]; omega)
            refine ⟨_, rfl, small9 (by simp), fun o1 no1 => ?_⟩
            have e1 := Ex.new (o := HO.lst []) no1
            refine ⟨l, pw, o1, (r : Int), ws.map wd, [], rfl, hok e1, upd_same, fun _ => ⟨rfl, fun q1 H1 nq1 x1 hq1 => ?_⟩⟩
            refine ⟨small9 (by simp), fun o2 no2 => ?_⟩
            have e2 := (e1.trans x1).trans (Ex.new (o := HO.lst []) no2)
            refine ⟨.list [], .list [], .lst (SqL.of ((Ex.new no2) _ _ hq1)) .nil, .lst (SqL.of upd_same) .nil, rfl, rfl, _, rfl, ifP (by decide) ?_⟩
            generalize upd H1 o2 (.lst []) = H2 at e2 ⊢
            refine ⟨_, rfl, small9 (by simp), fun o3 no3 => ?_⟩
            have e3 := e2.trans (Ex.new (o := HO.lst []) no3)
            refine ⟨l, pw, o3, (r : Int), ws.map wd, [], rfl, hok e3, upd_same, fun _ => ⟨rfl, fun q3 H3 nq3 x3 hq3 => ?_⟩⟩
            refine ⟨small9 (by simp), fun o4 no4 => ?_⟩
            refine ⟨.list [], .list [], .lst (SqL.of ((Ex.new no4) _ _ hq3)) .nil, .lst (SqL.of upd_same) .nil, rfl, rfl, _, rfl, ifP (by decide) ?_⟩
            refine ⟨20, 6, 6, rfl, fun h => ?_, fun _ => ⟨rfl, rfl, rfl, fun t xs H5 e5 ht => ?_⟩⟩
            · exfalso
              revert h
              unfold Late
              decide
            · exact ⟨_, _, _, _, _, rfl, .ty _, .base (.tup ht), kit_ty kb_tt, q _⟩
end
theorem all_mk {l : PySem.W.OpenLaw} {w : World} {K : PySem.W.Frag} {h : Heap} {mg : Str → Option Value} {fa : Addr} (X : K.In h) (G : h.Ns mainGlobals mg) (hfa : mg "law" = some (.ref fa)) (own : LamX.OwnTab K fa h)
    {f_l_off : Addr} {od_l_off an_l_off : Option Addr} {sl_l_off : Array (Option Value)} {oc_l_off kV_l_off dc_l_off pm_l_off cd_l_off ct_l_off : Value}
    {f_l_bad : Addr} {od_l_bad an_l_bad : Option Addr} {sl_l_bad : Array (Option Value)} {oc_l_bad kV_l_bad dc_l_bad pm_l_bad cd_l_bad ct_l_bad : Value}
    {f_l_dice : Addr} {od_l_dice an_l_dice : Option Addr} {sl_l_dice : Array (Option Value)} {oc_l_dice kV_l_dice dc_l_dice pm_l_dice cd_l_dice ct_l_dice : Value}
    {f_l_plain : Addr} {od_l_plain an_l_plain : Option Addr} {sl_l_plain : Array (Option Value)} {oc_l_plain kV_l_plain dc_l_plain pm_l_plain cd_l_plain ct_l_plain : Value}
    {f_l_gray : Addr} {od_l_gray an_l_gray : Option Addr} {sl_l_gray : Array (Option Value)} {oc_l_gray kV_l_gray dc_l_gray pm_l_gray cd_l_gray ct_l_gray : Value}
    {f_l_mixed : Addr} {od_l_mixed an_l_mixed : Option Addr} {sl_l_mixed : Array (Option Value)} {oc_l_mixed kV_l_mixed dc_l_mixed pm_l_mixed cd_l_mixed ct_l_mixed : Value}
    {f_l_words : Addr} {od_l_words an_l_words : Option Addr} {sl_l_words : Array (Option Value)} {oc_l_words kV_l_words dc_l_words pm_l_words cd_l_words ct_l_words : Value}
    {f_l_lane : Addr} {od_l_lane an_l_lane : Option Addr} {sl_l_lane : Array (Option Value)} {oc_l_lane kV_l_lane dc_l_lane pm_l_lane cd_l_lane ct_l_lane : Value}
    {f_l_alike : Addr} {od_l_alike an_l_alike : Option Addr} {sl_l_alike : Array (Option Value)} {oc_l_alike kV_l_alike dc_l_alike pm_l_alike cd_l_alike ct_l_alike : Value}
    {f_l_refused : Addr} {od_l_refused an_l_refused : Option Addr} {sl_l_refused : Array (Option Value)} {oc_l_refused kV_l_refused dc_l_refused pm_l_refused cd_l_refused ct_l_refused : Value}
    {f_mirrored : Addr} {od_mirrored an_mirrored : Option Addr} {sl_mirrored : Array (Option Value)} {oc_mirrored kV_mirrored dc_mirrored pm_mirrored cd_mirrored ct_mirrored : Value}
    {f_cut : Addr} {od_cut an_cut : Option Addr} {sl_cut : Array (Option Value)} {oc_cut kV_cut dc_cut pm_cut cd_cut ct_cut : Value}
    {f_Lane___init__ : Addr} {od_Lane___init__ an_Lane___init__ : Option Addr} {sl_Lane___init__ : Array (Option Value)} {oc_Lane___init__ kV_Lane___init__ dc_Lane___init__ pm_Lane___init__ cd_Lane___init__ ct_Lane___init__ : Value}
    {f_Lane_behind : Addr} {od_Lane_behind an_Lane_behind : Option Addr} {sl_Lane_behind : Array (Option Value)} {oc_Lane_behind kV_Lane_behind dc_Lane_behind pm_Lane_behind cd_Lane_behind ct_Lane_behind : Value}
    {f_Lane_can_get : Addr} {od_Lane_can_get an_Lane_can_get : Option Addr} {sl_Lane_can_get : Array (Option Value)} {oc_Lane_can_get kV_Lane_can_get dc_Lane_can_get pm_Lane_can_get cd_Lane_can_get ct_Lane_can_get : Value}
    {f_Lane_inside : Addr} {od_Lane_inside an_Lane_inside : Option Addr} {sl_Lane_inside : Array (Option Value)} {oc_Lane_inside kV_Lane_inside dc_Lane_inside pm_Lane_inside cd_Lane_inside ct_Lane_inside : Value}
    {f_Lane_place_of : Addr} {od_Lane_place_of an_Lane_place_of : Option Addr} {sl_Lane_place_of : Array (Option Value)} {oc_Lane_place_of kV_Lane_place_of dc_Lane_place_of pm_Lane_place_of cd_Lane_place_of ct_Lane_place_of : Value}
    {f_Lane_do_get : Addr} {od_Lane_do_get an_Lane_do_get : Option Addr} {sl_Lane_do_get : Array (Option Value)} {oc_Lane_do_get kV_Lane_do_get dc_Lane_do_get pm_Lane_do_get cd_Lane_do_get ct_Lane_do_get : Value}
    {f_Lane_can_put : Addr} {od_Lane_can_put an_Lane_can_put : Option Addr} {sl_Lane_can_put : Array (Option Value)} {oc_Lane_can_put kV_Lane_can_put dc_Lane_can_put pm_Lane_can_put cd_Lane_can_put ct_Lane_can_put : Value}
    {f_Lane_do_put : Addr} {od_Lane_do_put an_Lane_do_put : Option Addr} {sl_Lane_do_put : Array (Option Value)} {oc_Lane_do_put kV_Lane_do_put dc_Lane_do_put pm_Lane_do_put cd_Lane_do_put ct_Lane_do_put : Value}
    {f_Lane_do : Addr} {od_Lane_do an_Lane_do : Option Addr} {sl_Lane_do : Array (Option Value)} {oc_Lane_do kV_Lane_do dc_Lane_do pm_Lane_do cd_Lane_do ct_Lane_do : Value}
    {f_Lane_turns : Addr} {od_Lane_turns an_Lane_turns : Option Addr} {sl_Lane_turns : Array (Option Value)} {oc_Lane_turns kV_Lane_turns dc_Lane_turns pm_Lane_turns cd_Lane_turns ct_Lane_turns : Value}
    {f_seen_of : Addr} {od_seen_of an_seen_of : Option Addr} {sl_seen_of : Array (Option Value)} {oc_seen_of kV_seen_of dc_seen_of pm_seen_of cd_seen_of ct_seen_of : Value}
    {f_Lane_events : Addr} {od_Lane_events an_Lane_events : Option Addr} {sl_Lane_events : Array (Option Value)} {oc_Lane_events kV_Lane_events dc_Lane_events pm_Lane_events cd_Lane_events ct_Lane_events : Value}
    {f_Lane_stand : Addr} {od_Lane_stand an_Lane_stand : Option Addr} {sl_Lane_stand : Array (Option Value)} {oc_Lane_stand kV_Lane_stand dc_Lane_stand pm_Lane_stand cd_Lane_stand ct_Lane_stand : Value}
    {f_Lane_state : Addr} {od_Lane_state an_Lane_state : Option Addr} {sl_Lane_state : Array (Option Value)} {oc_Lane_state kV_Lane_state dc_Lane_state pm_Lane_state cd_Lane_state ct_Lane_state : Value}
    {f_BadWords___init__ : Addr} {od_BadWords___init__ an_BadWords___init__ : Option Addr} {sl_BadWords___init__ : Array (Option Value)} {oc_BadWords___init__ kV_BadWords___init__ dc_BadWords___init__ pm_BadWords___init__ cd_BadWords___init__ ct_BadWords___init__ : Value}
    {f_is_word : Addr} {od_is_word an_is_word : Option Addr} {sl_is_word : Array (Option Value)} {oc_is_word kV_is_word dc_is_word pm_is_word cd_is_word ct_is_word : Value}
    {f_need_words : Addr} {od_need_words an_need_words : Option Addr} {sl_need_words : Array (Option Value)} {oc_need_words kV_need_words dc_need_words pm_need_words cd_need_words ct_need_words : Value}
    {f_need_lane : Addr} {od_need_lane an_need_lane : Option Addr} {sl_need_lane : Array (Option Value)} {oc_need_lane kV_need_lane dc_need_lane pm_need_lane cd_need_lane ct_need_lane : Value}
    {f_fault : Addr} {od_fault an_fault : Option Addr} {sl_fault : Array (Option Value)} {oc_fault kV_fault dc_fault pm_fault cd_fault ct_fault : Value}
    {f_first_torn : Addr} {od_first_torn an_first_torn : Option Addr} {sl_first_torn : Array (Option Value)} {oc_first_torn kV_first_torn dc_first_torn pm_first_torn cd_first_torn ct_first_torn : Value}
    {f_Lane_may : Addr} {od_Lane_may an_Lane_may : Option Addr} {sl_Lane_may : Array (Option Value)} {oc_Lane_may kV_Lane_may dc_Lane_may pm_Lane_may cd_Lane_may ct_Lane_may : Value}
    {f_played : Addr} {od_played an_played : Option Addr} {sl_played : Array (Option Value)} {oc_played kV_played dc_played pm_played cd_played ct_played : Value}
    {f_got : Addr} {od_got an_got : Option Addr} {sl_got : Array (Option Value)} {oc_got kV_got dc_got pm_got cd_got ct_got : Value}
    {f_need_wide : Addr} {od_need_wide an_need_wide : Option Addr} {sl_need_wide : Array (Option Value)} {oc_need_wide kV_need_wide dc_need_wide pm_need_wide cd_need_wide ct_need_wide : Value}
    {f_gray : Addr} {od_gray an_gray : Option Addr} {sl_gray : Array (Option Value)} {oc_gray kV_gray dc_gray pm_gray cd_gray ct_gray : Value}
    {f_gone_through : Addr} {od_gone_through an_gone_through : Option Addr} {sl_gone_through : Array (Option Value)} {oc_gone_through kV_gone_through dc_gone_through pm_gone_through cd_gone_through ct_gone_through : Value}
    {f_need_late : Addr} {od_need_late an_need_late : Option Addr} {sl_need_late : Array (Option Value)} {oc_need_late kV_need_late dc_need_late pm_need_late cd_need_late ct_need_late : Value}
    {f_least_room : Addr} {od_least_room an_least_room : Option Addr} {sl_least_room : Array (Option Value)} {oc_least_room kV_least_room dc_least_room pm_least_room cd_least_room ct_least_room : Value}
    {f_all_words : Addr} {od_all_words an_all_words : Option Addr} {sl_all_words : Array (Option Value)} {oc_all_words kV_all_words dc_all_words pm_all_words cd_all_words ct_all_words : Value}
    {f_plain : Addr} {od_plain an_plain : Option Addr} {sl_plain : Array (Option Value)} {oc_plain kV_plain dc_plain pm_plain cd_plain ct_plain : Value}
    {f_steady : Addr} {od_steady an_steady : Option Addr} {sl_steady : Array (Option Value)} {oc_steady kV_steady dc_steady pm_steady cd_steady ct_steady : Value}
    {f_torn : Addr} {od_torn an_torn : Option Addr} {sl_torn : Array (Option Value)} {oc_torn kV_torn dc_torn pm_torn cd_torn ct_torn : Value}
    {f_law : Addr} {od_law an_law : Option Addr} {sl_law : Array (Option Value)} {oc_law kV_law dc_law pm_law ct_law : Value} {cL PL : Addr} {ocL : Value} {odL : Option Addr} {vsL : Array Value} {slL : Array (Option Value)}
    {C_Lane : Addr}
    {C_CrossError : Addr}
    {C_BadNumber : Addr}
    {C_BadLane : Addr}
    {C_BadWords : Addr}
    {C_BadEvent : Addr}
    {nm_BadWords qn_BadWords : Str} {N_BadWords : Addr} {bs_BadWords : List Value} {sn_BadWords : List Str} {sub_BadWords : List Value} {ab_BadWords : Bool} {col_BadWords : Option Bool} {dd_BadWords : Option Addr} {m0_BadWords m1_BadWords m2_BadWords m3_BadWords m5_BadWords : Option Value}
    {a_MARKS : Addr} {dd_MARKS : Option Addr} {nn_MARKS : Nat} {sl_MARKS : Array (Option Value)} {t0_MARKS t1_MARKS : Tok}
    {t_MOST_EVENTS : Tok}
    {t_MOST_LATE : Tok}
    {t_MOST_ROOM : Tok}
    {t_MOST_STEADY : Tok}
    {t_MOST_WIDE : Tok}
    {t_MOST_WORDS : Tok}
    {t_OVER : Tok}
    {t_UNDER : Tok}
    (aC_BadEvent : PySem.W.nsIn K mainGlobals "BadEvent" = some (some (.ref C_BadEvent)))
    (aC_BadWords : PySem.W.nsIn K mainGlobals "BadWords" = some (some (.ref C_BadWords)))
    (aC_BadLane : PySem.W.nsIn K mainGlobals "BadLane" = some (some (.ref C_BadLane)))
    (aC_BadNumber : PySem.W.nsIn K mainGlobals "BadNumber" = some (some (.ref C_BadNumber)))
    (aC_CrossError : PySem.W.nsIn K mainGlobals "CrossError" = some (some (.ref C_CrossError)))
    (aC_Lane : PySem.W.nsIn K mainGlobals "Lane" = some (some (.ref C_Lane)))
    (a_l_off : PySem.W.nsIn K mainGlobals "_law_off" = some (some (.ref f_l_off)))
    (l_l_off : K.lookup f_l_off = some ⟨oc_l_off, od_l_off, .func (PySem.W.fnOf "_law_off" "_law_off" (defArgs s_l_off) (defBody s_l_off) (defScope s_l_off) .none kV_l_off dc_l_off pm_l_off an_l_off cd_l_off ct_l_off), sl_l_off⟩) (c_l_off : PySem.W.codeIn K cd_l_off "_law_off" = true) (k_l_off : PySem.W.keepIn K (.ref f_l_off) = true)
    (a_l_bad : PySem.W.nsIn K mainGlobals "_law_bad" = some (some (.ref f_l_bad)))
    (l_l_bad : K.lookup f_l_bad = some ⟨oc_l_bad, od_l_bad, .func (PySem.W.fnOf "_law_bad" "_law_bad" (defArgs s_l_bad) (defBody s_l_bad) (defScope s_l_bad) .none kV_l_bad dc_l_bad pm_l_bad an_l_bad cd_l_bad ct_l_bad), sl_l_bad⟩) (c_l_bad : PySem.W.codeIn K cd_l_bad "_law_bad" = true) (k_l_bad : PySem.W.keepIn K (.ref f_l_bad) = true)
    (a_l_dice : PySem.W.nsIn K mainGlobals "_law_dice" = some (some (.ref f_l_dice)))
    (l_l_dice : K.lookup f_l_dice = some ⟨oc_l_dice, od_l_dice, .func (PySem.W.fnOf "_law_dice" "_law_dice" (defArgs s_l_dice) (defBody s_l_dice) (defScope s_l_dice) .none kV_l_dice dc_l_dice pm_l_dice an_l_dice cd_l_dice ct_l_dice), sl_l_dice⟩) (c_l_dice : PySem.W.codeIn K cd_l_dice "_law_dice" = true) (k_l_dice : PySem.W.keepIn K (.ref f_l_dice) = true)
    (a_l_plain : PySem.W.nsIn K mainGlobals "_law_plain" = some (some (.ref f_l_plain)))
    (l_l_plain : K.lookup f_l_plain = some ⟨oc_l_plain, od_l_plain, .func (PySem.W.fnOf "_law_plain" "_law_plain" (defArgs s_l_plain) (defBody s_l_plain) (defScope s_l_plain) .none kV_l_plain dc_l_plain pm_l_plain an_l_plain cd_l_plain ct_l_plain), sl_l_plain⟩) (c_l_plain : PySem.W.codeIn K cd_l_plain "_law_plain" = true) (k_l_plain : PySem.W.keepIn K (.ref f_l_plain) = true)
    (a_l_gray : PySem.W.nsIn K mainGlobals "_law_gray" = some (some (.ref f_l_gray)))
    (l_l_gray : K.lookup f_l_gray = some ⟨oc_l_gray, od_l_gray, .func (PySem.W.fnOf "_law_gray" "_law_gray" (defArgs s_l_gray) (defBody s_l_gray) (defScope s_l_gray) .none kV_l_gray dc_l_gray pm_l_gray an_l_gray cd_l_gray ct_l_gray), sl_l_gray⟩) (c_l_gray : PySem.W.codeIn K cd_l_gray "_law_gray" = true) (k_l_gray : PySem.W.keepIn K (.ref f_l_gray) = true)
    (a_l_mixed : PySem.W.nsIn K mainGlobals "_law_mixed" = some (some (.ref f_l_mixed)))
    (l_l_mixed : K.lookup f_l_mixed = some ⟨oc_l_mixed, od_l_mixed, .func (PySem.W.fnOf "_law_mixed" "_law_mixed" (defArgs s_l_mixed) (defBody s_l_mixed) (defScope s_l_mixed) .none kV_l_mixed dc_l_mixed pm_l_mixed an_l_mixed cd_l_mixed ct_l_mixed), sl_l_mixed⟩) (c_l_mixed : PySem.W.codeIn K cd_l_mixed "_law_mixed" = true) (k_l_mixed : PySem.W.keepIn K (.ref f_l_mixed) = true)
    (a_l_words : PySem.W.nsIn K mainGlobals "_law_words" = some (some (.ref f_l_words)))
    (l_l_words : K.lookup f_l_words = some ⟨oc_l_words, od_l_words, .func (PySem.W.fnOf "_law_words" "_law_words" (defArgs s_l_words) (defBody s_l_words) (defScope s_l_words) .none kV_l_words dc_l_words pm_l_words an_l_words cd_l_words ct_l_words), sl_l_words⟩) (c_l_words : PySem.W.codeIn K cd_l_words "_law_words" = true) (k_l_words : PySem.W.keepIn K (.ref f_l_words) = true)
    (a_l_lane : PySem.W.nsIn K mainGlobals "_law_lane" = some (some (.ref f_l_lane)))
    (l_l_lane : K.lookup f_l_lane = some ⟨oc_l_lane, od_l_lane, .func (PySem.W.fnOf "_law_lane" "_law_lane" (defArgs s_l_lane) (defBody s_l_lane) (defScope s_l_lane) .none kV_l_lane dc_l_lane pm_l_lane an_l_lane cd_l_lane ct_l_lane), sl_l_lane⟩) (c_l_lane : PySem.W.codeIn K cd_l_lane "_law_lane" = true) (k_l_lane : PySem.W.keepIn K (.ref f_l_lane) = true)
    (a_l_alike : PySem.W.nsIn K mainGlobals "_law_alike" = some (some (.ref f_l_alike)))
    (l_l_alike : K.lookup f_l_alike = some ⟨oc_l_alike, od_l_alike, .func (PySem.W.fnOf "_law_alike" "_law_alike" (defArgs s_l_alike) (defBody s_l_alike) (defScope s_l_alike) .none kV_l_alike dc_l_alike pm_l_alike an_l_alike cd_l_alike ct_l_alike), sl_l_alike⟩) (c_l_alike : PySem.W.codeIn K cd_l_alike "_law_alike" = true) (k_l_alike : PySem.W.keepIn K (.ref f_l_alike) = true)
    (a_l_refused : PySem.W.nsIn K mainGlobals "_law_refused" = some (some (.ref f_l_refused)))
    (l_l_refused : K.lookup f_l_refused = some ⟨oc_l_refused, od_l_refused, .func (PySem.W.fnOf "_law_refused" "_law_refused" (defArgs s_l_refused) (defBody s_l_refused) (defScope s_l_refused) .none kV_l_refused dc_l_refused pm_l_refused an_l_refused cd_l_refused ct_l_refused), sl_l_refused⟩) (c_l_refused : PySem.W.codeIn K cd_l_refused "_law_refused" = true) (k_l_refused : PySem.W.keepIn K (.ref f_l_refused) = true)
    (a_mirrored : PySem.W.nsIn K mainGlobals "mirrored" = some (some (.ref f_mirrored)))
    (l_mirrored : K.lookup f_mirrored = some ⟨oc_mirrored, od_mirrored, .func (PySem.W.fnOf "mirrored" "mirrored" (defArgs s_mirrored) (defBody s_mirrored) (defScope s_mirrored) .none kV_mirrored dc_mirrored pm_mirrored an_mirrored cd_mirrored ct_mirrored), sl_mirrored⟩) (c_mirrored : PySem.W.codeIn K cd_mirrored "mirrored" = true) (k_mirrored : PySem.W.keepIn K (.ref f_mirrored) = true)
    (a_cut : PySem.W.nsIn K mainGlobals "cut" = some (some (.ref f_cut)))
    (l_cut : K.lookup f_cut = some ⟨oc_cut, od_cut, .func (PySem.W.fnOf "cut" "cut" (defArgs s_cut) (defBody s_cut) (defScope s_cut) .none kV_cut dc_cut pm_cut an_cut cd_cut ct_cut), sl_cut⟩) (c_cut : PySem.W.codeIn K cd_cut "cut" = true) (k_cut : PySem.W.keepIn K (.ref f_cut) = true)
    (a_Lane___init__ : PySem.W.findIn K (.ref C_Lane) "__init__" = some (some (.ref f_Lane___init__))) (i_Lane___init__ : PySem.W.isFn K (.ref f_Lane___init__) = true)
    (l_Lane___init__ : K.lookup f_Lane___init__ = some ⟨oc_Lane___init__, od_Lane___init__, .func (PySem.W.fnOf "__init__" "Lane.__init__" (defArgs s_Lane___init__) (defBody s_Lane___init__) (defScope s_Lane___init__) .none kV_Lane___init__ dc_Lane___init__ pm_Lane___init__ an_Lane___init__ cd_Lane___init__ ct_Lane___init__), sl_Lane___init__⟩) (c_Lane___init__ : PySem.W.codeIn K cd_Lane___init__ "Lane.__init__" = true) (k_Lane___init__ : PySem.W.keepIn K (.ref f_Lane___init__) = true)
    (a_Lane_behind : PySem.W.findIn K (.ref C_Lane) "behind" = some (some (.ref f_Lane_behind))) (i_Lane_behind : PySem.W.isFn K (.ref f_Lane_behind) = true)
    (l_Lane_behind : K.lookup f_Lane_behind = some ⟨oc_Lane_behind, od_Lane_behind, .func (PySem.W.fnOf "behind" "Lane.behind" (defArgs s_Lane_behind) (defBody s_Lane_behind) (defScope s_Lane_behind) .none kV_Lane_behind dc_Lane_behind pm_Lane_behind an_Lane_behind cd_Lane_behind ct_Lane_behind), sl_Lane_behind⟩) (c_Lane_behind : PySem.W.codeIn K cd_Lane_behind "Lane.behind" = true) (k_Lane_behind : PySem.W.keepIn K (.ref f_Lane_behind) = true)
    (a_Lane_can_get : PySem.W.findIn K (.ref C_Lane) "can_get" = some (some (.ref f_Lane_can_get))) (i_Lane_can_get : PySem.W.isFn K (.ref f_Lane_can_get) = true)
    (l_Lane_can_get : K.lookup f_Lane_can_get = some ⟨oc_Lane_can_get, od_Lane_can_get, .func (PySem.W.fnOf "can_get" "Lane.can_get" (defArgs s_Lane_can_get) (defBody s_Lane_can_get) (defScope s_Lane_can_get) .none kV_Lane_can_get dc_Lane_can_get pm_Lane_can_get an_Lane_can_get cd_Lane_can_get ct_Lane_can_get), sl_Lane_can_get⟩) (c_Lane_can_get : PySem.W.codeIn K cd_Lane_can_get "Lane.can_get" = true) (k_Lane_can_get : PySem.W.keepIn K (.ref f_Lane_can_get) = true)
    (a_Lane_inside : PySem.W.findIn K (.ref C_Lane) "inside" = some (some (.ref f_Lane_inside))) (i_Lane_inside : PySem.W.isFn K (.ref f_Lane_inside) = true)
    (l_Lane_inside : K.lookup f_Lane_inside = some ⟨oc_Lane_inside, od_Lane_inside, .func (PySem.W.fnOf "inside" "Lane.inside" (defArgs s_Lane_inside) (defBody s_Lane_inside) (defScope s_Lane_inside) .none kV_Lane_inside dc_Lane_inside pm_Lane_inside an_Lane_inside cd_Lane_inside ct_Lane_inside), sl_Lane_inside⟩) (c_Lane_inside : PySem.W.codeIn K cd_Lane_inside "Lane.inside" = true) (k_Lane_inside : PySem.W.keepIn K (.ref f_Lane_inside) = true)
    (a_Lane_place_of : PySem.W.findIn K (.ref C_Lane) "place_of" = some (some (.ref f_Lane_place_of))) (i_Lane_place_of : PySem.W.isFn K (.ref f_Lane_place_of) = true)
    (l_Lane_place_of : K.lookup f_Lane_place_of = some ⟨oc_Lane_place_of, od_Lane_place_of, .func (PySem.W.fnOf "place_of" "Lane.place_of" (defArgs s_Lane_place_of) (defBody s_Lane_place_of) (defScope s_Lane_place_of) .none kV_Lane_place_of dc_Lane_place_of pm_Lane_place_of an_Lane_place_of cd_Lane_place_of ct_Lane_place_of), sl_Lane_place_of⟩) (c_Lane_place_of : PySem.W.codeIn K cd_Lane_place_of "Lane.place_of" = true) (k_Lane_place_of : PySem.W.keepIn K (.ref f_Lane_place_of) = true)
    (a_Lane_do_get : PySem.W.findIn K (.ref C_Lane) "do_get" = some (some (.ref f_Lane_do_get))) (i_Lane_do_get : PySem.W.isFn K (.ref f_Lane_do_get) = true)
    (l_Lane_do_get : K.lookup f_Lane_do_get = some ⟨oc_Lane_do_get, od_Lane_do_get, .func (PySem.W.fnOf "do_get" "Lane.do_get" (defArgs s_Lane_do_get) (defBody s_Lane_do_get) (defScope s_Lane_do_get) .none kV_Lane_do_get dc_Lane_do_get pm_Lane_do_get an_Lane_do_get cd_Lane_do_get ct_Lane_do_get), sl_Lane_do_get⟩) (c_Lane_do_get : PySem.W.codeIn K cd_Lane_do_get "Lane.do_get" = true) (k_Lane_do_get : PySem.W.keepIn K (.ref f_Lane_do_get) = true)
    (a_Lane_can_put : PySem.W.findIn K (.ref C_Lane) "can_put" = some (some (.ref f_Lane_can_put))) (i_Lane_can_put : PySem.W.isFn K (.ref f_Lane_can_put) = true)
    (l_Lane_can_put : K.lookup f_Lane_can_put = some ⟨oc_Lane_can_put, od_Lane_can_put, .func (PySem.W.fnOf "can_put" "Lane.can_put" (defArgs s_Lane_can_put) (defBody s_Lane_can_put) (defScope s_Lane_can_put) .none kV_Lane_can_put dc_Lane_can_put pm_Lane_can_put an_Lane_can_put cd_Lane_can_put ct_Lane_can_put), sl_Lane_can_put⟩) (c_Lane_can_put : PySem.W.codeIn K cd_Lane_can_put "Lane.can_put" = true) (k_Lane_can_put : PySem.W.keepIn K (.ref f_Lane_can_put) = true)
    (a_Lane_do_put : PySem.W.findIn K (.ref C_Lane) "do_put" = some (some (.ref f_Lane_do_put))) (i_Lane_do_put : PySem.W.isFn K (.ref f_Lane_do_put) = true)
    (l_Lane_do_put : K.lookup f_Lane_do_put = some ⟨oc_Lane_do_put, od_Lane_do_put, .func (PySem.W.fnOf "do_put" "Lane.do_put" (defArgs s_Lane_do_put) (defBody s_Lane_do_put) (defScope s_Lane_do_put) .none kV_Lane_do_put dc_Lane_do_put pm_Lane_do_put an_Lane_do_put cd_Lane_do_put ct_Lane_do_put), sl_Lane_do_put⟩) (c_Lane_do_put : PySem.W.codeIn K cd_Lane_do_put "Lane.do_put" = true) (k_Lane_do_put : PySem.W.keepIn K (.ref f_Lane_do_put) = true)
    (a_Lane_do : PySem.W.findIn K (.ref C_Lane) "do" = some (some (.ref f_Lane_do))) (i_Lane_do : PySem.W.isFn K (.ref f_Lane_do) = true)
    (l_Lane_do : K.lookup f_Lane_do = some ⟨oc_Lane_do, od_Lane_do, .func (PySem.W.fnOf "do" "Lane.do" (defArgs s_Lane_do) (defBody s_Lane_do) (defScope s_Lane_do) .none kV_Lane_do dc_Lane_do pm_Lane_do an_Lane_do cd_Lane_do ct_Lane_do), sl_Lane_do⟩) (c_Lane_do : PySem.W.codeIn K cd_Lane_do "Lane.do" = true) (k_Lane_do : PySem.W.keepIn K (.ref f_Lane_do) = true)
    (a_Lane_turns : PySem.W.findIn K (.ref C_Lane) "turns" = some (some (.ref f_Lane_turns))) (i_Lane_turns : PySem.W.isFn K (.ref f_Lane_turns) = true)
    (l_Lane_turns : K.lookup f_Lane_turns = some ⟨oc_Lane_turns, od_Lane_turns, .func (PySem.W.fnOf "turns" "Lane.turns" (defArgs s_Lane_turns) (defBody s_Lane_turns) (defScope s_Lane_turns) .none kV_Lane_turns dc_Lane_turns pm_Lane_turns an_Lane_turns cd_Lane_turns ct_Lane_turns), sl_Lane_turns⟩) (c_Lane_turns : PySem.W.codeIn K cd_Lane_turns "Lane.turns" = true) (k_Lane_turns : PySem.W.keepIn K (.ref f_Lane_turns) = true)
    (a_seen_of : PySem.W.nsIn K mainGlobals "seen_of" = some (some (.ref f_seen_of)))
    (l_seen_of : K.lookup f_seen_of = some ⟨oc_seen_of, od_seen_of, .func (PySem.W.fnOf "seen_of" "seen_of" (defArgs s_seen_of) (defBody s_seen_of) (defScope s_seen_of) .none kV_seen_of dc_seen_of pm_seen_of an_seen_of cd_seen_of ct_seen_of), sl_seen_of⟩) (c_seen_of : PySem.W.codeIn K cd_seen_of "seen_of" = true) (k_seen_of : PySem.W.keepIn K (.ref f_seen_of) = true)
    (a_Lane_events : PySem.W.findIn K (.ref C_Lane) "events" = some (some (.ref f_Lane_events))) (i_Lane_events : PySem.W.isFn K (.ref f_Lane_events) = true)
    (l_Lane_events : K.lookup f_Lane_events = some ⟨oc_Lane_events, od_Lane_events, .func (PySem.W.fnOf "events" "Lane.events" (defArgs s_Lane_events) (defBody s_Lane_events) (defScope s_Lane_events) .none kV_Lane_events dc_Lane_events pm_Lane_events an_Lane_events cd_Lane_events ct_Lane_events), sl_Lane_events⟩) (c_Lane_events : PySem.W.codeIn K cd_Lane_events "Lane.events" = true) (k_Lane_events : PySem.W.keepIn K (.ref f_Lane_events) = true)
    (a_Lane_stand : PySem.W.findIn K (.ref C_Lane) "stand" = some (some (.ref f_Lane_stand))) (i_Lane_stand : PySem.W.isFn K (.ref f_Lane_stand) = true)
    (l_Lane_stand : K.lookup f_Lane_stand = some ⟨oc_Lane_stand, od_Lane_stand, .func (PySem.W.fnOf "stand" "Lane.stand" (defArgs s_Lane_stand) (defBody s_Lane_stand) (defScope s_Lane_stand) .none kV_Lane_stand dc_Lane_stand pm_Lane_stand an_Lane_stand cd_Lane_stand ct_Lane_stand), sl_Lane_stand⟩) (c_Lane_stand : PySem.W.codeIn K cd_Lane_stand "Lane.stand" = true) (k_Lane_stand : PySem.W.keepIn K (.ref f_Lane_stand) = true)
    (a_Lane_state : PySem.W.findIn K (.ref C_Lane) "state" = some (some (.ref f_Lane_state))) (i_Lane_state : PySem.W.isFn K (.ref f_Lane_state) = true)
    (l_Lane_state : K.lookup f_Lane_state = some ⟨oc_Lane_state, od_Lane_state, .func (PySem.W.fnOf "state" "Lane.state" (defArgs s_Lane_state) (defBody s_Lane_state) (defScope s_Lane_state) .none kV_Lane_state dc_Lane_state pm_Lane_state an_Lane_state cd_Lane_state ct_Lane_state), sl_Lane_state⟩) (c_Lane_state : PySem.W.codeIn K cd_Lane_state "Lane.state" = true) (k_Lane_state : PySem.W.keepIn K (.ref f_Lane_state) = true)
    (a_BadWords___init__ : PySem.W.findIn K (.ref C_BadWords) "__init__" = some (some (.ref f_BadWords___init__))) (i_BadWords___init__ : PySem.W.isFn K (.ref f_BadWords___init__) = true)
    (l_BadWords___init__ : K.lookup f_BadWords___init__ = some ⟨oc_BadWords___init__, od_BadWords___init__, .func (PySem.W.fnOf "__init__" "BadWords.__init__" (defArgs s_BadWords___init__) (defBody s_BadWords___init__) (defScope s_BadWords___init__) .none kV_BadWords___init__ dc_BadWords___init__ pm_BadWords___init__ an_BadWords___init__ cd_BadWords___init__ ct_BadWords___init__), sl_BadWords___init__⟩) (c_BadWords___init__ : PySem.W.codeIn K cd_BadWords___init__ "BadWords.__init__" = true) (k_BadWords___init__ : PySem.W.keepIn K (.ref f_BadWords___init__) = true)
    (a_is_word : PySem.W.nsIn K mainGlobals "is_word" = some (some (.ref f_is_word)))
    (l_is_word : K.lookup f_is_word = some ⟨oc_is_word, od_is_word, .func (PySem.W.fnOf "is_word" "is_word" (defArgs s_is_word) (defBody s_is_word) (defScope s_is_word) .none kV_is_word dc_is_word pm_is_word an_is_word cd_is_word ct_is_word), sl_is_word⟩) (c_is_word : PySem.W.codeIn K cd_is_word "is_word" = true) (k_is_word : PySem.W.keepIn K (.ref f_is_word) = true)
    (a_need_words : PySem.W.nsIn K mainGlobals "need_words" = some (some (.ref f_need_words)))
    (l_need_words : K.lookup f_need_words = some ⟨oc_need_words, od_need_words, .func (PySem.W.fnOf "need_words" "need_words" (defArgs s_need_words) (defBody s_need_words) (defScope s_need_words) .none kV_need_words dc_need_words pm_need_words an_need_words cd_need_words ct_need_words), sl_need_words⟩) (c_need_words : PySem.W.codeIn K cd_need_words "need_words" = true) (k_need_words : PySem.W.keepIn K (.ref f_need_words) = true)
    (a_need_lane : PySem.W.nsIn K mainGlobals "need_lane" = some (some (.ref f_need_lane)))
    (l_need_lane : K.lookup f_need_lane = some ⟨oc_need_lane, od_need_lane, .func (PySem.W.fnOf "need_lane" "need_lane" (defArgs s_need_lane) (defBody s_need_lane) (defScope s_need_lane) .none kV_need_lane dc_need_lane pm_need_lane an_need_lane cd_need_lane ct_need_lane), sl_need_lane⟩) (c_need_lane : PySem.W.codeIn K cd_need_lane "need_lane" = true) (k_need_lane : PySem.W.keepIn K (.ref f_need_lane) = true)
    (a_fault : PySem.W.nsIn K mainGlobals "fault" = some (some (.ref f_fault)))
    (l_fault : K.lookup f_fault = some ⟨oc_fault, od_fault, .func (PySem.W.fnOf "fault" "fault" (defArgs s_fault) (defBody s_fault) (defScope s_fault) .none kV_fault dc_fault pm_fault an_fault cd_fault ct_fault), sl_fault⟩) (c_fault : PySem.W.codeIn K cd_fault "fault" = true) (k_fault : PySem.W.keepIn K (.ref f_fault) = true)
    (a_first_torn : PySem.W.nsIn K mainGlobals "first_torn" = some (some (.ref f_first_torn)))
    (l_first_torn : K.lookup f_first_torn = some ⟨oc_first_torn, od_first_torn, .func (PySem.W.fnOf "first_torn" "first_torn" (defArgs s_first_torn) (defBody s_first_torn) (defScope s_first_torn) .none kV_first_torn dc_first_torn pm_first_torn an_first_torn cd_first_torn ct_first_torn), sl_first_torn⟩) (c_first_torn : PySem.W.codeIn K cd_first_torn "first_torn" = true) (k_first_torn : PySem.W.keepIn K (.ref f_first_torn) = true)
    (a_Lane_may : PySem.W.findIn K (.ref C_Lane) "may" = some (some (.ref f_Lane_may))) (i_Lane_may : PySem.W.isFn K (.ref f_Lane_may) = true)
    (l_Lane_may : K.lookup f_Lane_may = some ⟨oc_Lane_may, od_Lane_may, .func (PySem.W.fnOf "may" "Lane.may" (defArgs s_Lane_may) (defBody s_Lane_may) (defScope s_Lane_may) .none kV_Lane_may dc_Lane_may pm_Lane_may an_Lane_may cd_Lane_may ct_Lane_may), sl_Lane_may⟩) (c_Lane_may : PySem.W.codeIn K cd_Lane_may "Lane.may" = true) (k_Lane_may : PySem.W.keepIn K (.ref f_Lane_may) = true)
    (a_played : PySem.W.nsIn K mainGlobals "played" = some (some (.ref f_played)))
    (l_played : K.lookup f_played = some ⟨oc_played, od_played, .func (PySem.W.fnOf "played" "played" (defArgs s_played) (defBody s_played) (defScope s_played) .none kV_played dc_played pm_played an_played cd_played ct_played), sl_played⟩) (c_played : PySem.W.codeIn K cd_played "played" = true) (k_played : PySem.W.keepIn K (.ref f_played) = true)
    (a_got : PySem.W.nsIn K mainGlobals "got" = some (some (.ref f_got)))
    (l_got : K.lookup f_got = some ⟨oc_got, od_got, .func (PySem.W.fnOf "got" "got" (defArgs s_got) (defBody s_got) (defScope s_got) .none kV_got dc_got pm_got an_got cd_got ct_got), sl_got⟩) (c_got : PySem.W.codeIn K cd_got "got" = true) (k_got : PySem.W.keepIn K (.ref f_got) = true)
    (a_need_wide : PySem.W.nsIn K mainGlobals "need_wide" = some (some (.ref f_need_wide)))
    (l_need_wide : K.lookup f_need_wide = some ⟨oc_need_wide, od_need_wide, .func (PySem.W.fnOf "need_wide" "need_wide" (defArgs s_need_wide) (defBody s_need_wide) (defScope s_need_wide) .none kV_need_wide dc_need_wide pm_need_wide an_need_wide cd_need_wide ct_need_wide), sl_need_wide⟩) (c_need_wide : PySem.W.codeIn K cd_need_wide "need_wide" = true) (k_need_wide : PySem.W.keepIn K (.ref f_need_wide) = true)
    (a_gray : PySem.W.nsIn K mainGlobals "gray" = some (some (.ref f_gray)))
    (l_gray : K.lookup f_gray = some ⟨oc_gray, od_gray, .func (PySem.W.fnOf "gray" "gray" (defArgs s_gray) (defBody s_gray) (defScope s_gray) .none kV_gray dc_gray pm_gray an_gray cd_gray ct_gray), sl_gray⟩) (c_gray : PySem.W.codeIn K cd_gray "gray" = true) (k_gray : PySem.W.keepIn K (.ref f_gray) = true)
    (a_gone_through : PySem.W.nsIn K mainGlobals "gone_through" = some (some (.ref f_gone_through)))
    (l_gone_through : K.lookup f_gone_through = some ⟨oc_gone_through, od_gone_through, .func (PySem.W.fnOf "gone_through" "gone_through" (defArgs s_gone_through) (defBody s_gone_through) (defScope s_gone_through) .none kV_gone_through dc_gone_through pm_gone_through an_gone_through cd_gone_through ct_gone_through), sl_gone_through⟩) (c_gone_through : PySem.W.codeIn K cd_gone_through "gone_through" = true) (k_gone_through : PySem.W.keepIn K (.ref f_gone_through) = true)
    (a_need_late : PySem.W.nsIn K mainGlobals "need_late" = some (some (.ref f_need_late)))
    (l_need_late : K.lookup f_need_late = some ⟨oc_need_late, od_need_late, .func (PySem.W.fnOf "need_late" "need_late" (defArgs s_need_late) (defBody s_need_late) (defScope s_need_late) .none kV_need_late dc_need_late pm_need_late an_need_late cd_need_late ct_need_late), sl_need_late⟩) (c_need_late : PySem.W.codeIn K cd_need_late "need_late" = true) (k_need_late : PySem.W.keepIn K (.ref f_need_late) = true)
    (a_least_room : PySem.W.nsIn K mainGlobals "least_room" = some (some (.ref f_least_room)))
    (l_least_room : K.lookup f_least_room = some ⟨oc_least_room, od_least_room, .func (PySem.W.fnOf "least_room" "least_room" (defArgs s_least_room) (defBody s_least_room) (defScope s_least_room) .none kV_least_room dc_least_room pm_least_room an_least_room cd_least_room ct_least_room), sl_least_room⟩) (c_least_room : PySem.W.codeIn K cd_least_room "least_room" = true) (k_least_room : PySem.W.keepIn K (.ref f_least_room) = true)
    (a_all_words : PySem.W.nsIn K mainGlobals "all_words" = some (some (.ref f_all_words)))
    (l_all_words : K.lookup f_all_words = some ⟨oc_all_words, od_all_words, .func (PySem.W.fnOf "all_words" "all_words" (defArgs s_all_words) (defBody s_all_words) (defScope s_all_words) .none kV_all_words dc_all_words pm_all_words an_all_words cd_all_words ct_all_words), sl_all_words⟩) (c_all_words : PySem.W.codeIn K cd_all_words "all_words" = true) (k_all_words : PySem.W.keepIn K (.ref f_all_words) = true)
    (a_plain : PySem.W.nsIn K mainGlobals "plain" = some (some (.ref f_plain)))
    (l_plain : K.lookup f_plain = some ⟨oc_plain, od_plain, .func (PySem.W.fnOf "plain" "plain" (defArgs s_plain) (defBody s_plain) (defScope s_plain) .none kV_plain dc_plain pm_plain an_plain cd_plain ct_plain), sl_plain⟩) (c_plain : PySem.W.codeIn K cd_plain "plain" = true) (k_plain : PySem.W.keepIn K (.ref f_plain) = true)
    (a_steady : PySem.W.nsIn K mainGlobals "steady" = some (some (.ref f_steady)))
    (l_steady : K.lookup f_steady = some ⟨oc_steady, od_steady, .func (PySem.W.fnOf "steady" "steady" (defArgs s_steady) (defBody s_steady) (defScope s_steady) .none kV_steady dc_steady pm_steady an_steady cd_steady ct_steady), sl_steady⟩) (c_steady : PySem.W.codeIn K cd_steady "steady" = true) (k_steady : PySem.W.keepIn K (.ref f_steady) = true)
    (a_torn : PySem.W.nsIn K mainGlobals "torn" = some (some (.ref f_torn)))
    (l_torn : K.lookup f_torn = some ⟨oc_torn, od_torn, .func (PySem.W.fnOf "torn" "torn" (defArgs s_torn) (defBody s_torn) (defScope s_torn) .none kV_torn dc_torn pm_torn an_torn cd_torn ct_torn), sl_torn⟩) (c_torn : PySem.W.codeIn K cd_torn "torn" = true) (k_torn : PySem.W.keepIn K (.ref f_torn) = true)
    (a_law : PySem.W.nsIn K mainGlobals "law" = some (some (.ref f_law)))
    (l_law : K.lookup f_law = some ⟨oc_law, od_law, .func (PySem.W.fnOf "law" "law" (defArgs s_law) (defBody s_law) (defScope s_law) .none kV_law dc_law pm_law an_law (.ref cL) ct_law), sl_law⟩) (c_law : PySem.W.codeIn K (.ref cL) "law" = true) (k_law : PySem.W.keepIn K (.ref f_law) = true)
    (pg_Lane : PySem.W.plainGet K C_Lane Str.empty = true) (hd_Lane : PySem.W.hasDictIn K C_Lane = true) (po_Lane : PySem.W.plainOver K C_Lane = true) (sa_Lane : PySem.W.findIn K (.ref C_Lane) "__setattr__" = some (some (.builtin "object.__setattr__"))) (mk_Lane : PySem.W.makesIn K C_Lane = true) (kc_Lane : PySem.W.keepIn K (.ref C_Lane) = true)
    (na_room : PySem.W.findIn K (.ref C_Lane) "room" = some none)
    (na_words : PySem.W.findIn K (.ref C_Lane) "words" = some none)
    (na_put : PySem.W.findIn K (.ref C_Lane) "put" = some none)
    (na_got : PySem.W.findIn K (.ref C_Lane) "got" = some none)
    (na_seen_got : PySem.W.findIn K (.ref C_Lane) "seen_got" = some none)
    (na_seen_put : PySem.W.findIn K (.ref C_Lane) "seen_put" = some none)
    (na_boxes : PySem.W.findIn K (.ref C_Lane) "boxes" = some none)
    (na_many : PySem.W.findIn K (.ref C_Lane) "many" = some none)
    (na_fault : PySem.W.findIn K (.ref C_Lane) "fault" = some none)
    (e_ga_CE : PySem.W.specialIn K (.ref C_CrossError) "__getattribute__" = some (some (.builtin "type.__getattribute__")))
    (e_rd_CE : PySem.W.readsIn K C_CrossError (.type "type") = true)
    (e_fi_CE : PySem.W.findCls K (.ref C_CrossError) (.type "type") "__init__" = some (.val (.builtin "ValueError.__init__")))
    (x1_BadWords : K.lookup C_BadWords = some (excClassObj nm_BadWords qn_BadWords C_BadWords N_BadWords bs_BadWords [.ref C_CrossError, .type "ValueError", .type "Exception", .type "BaseException", .type "object"] true sn_BadWords sub_BadWords ab_BadWords col_BadWords dd_BadWords m0_BadWords m1_BadWords m2_BadWords m3_BadWords m5_BadWords "ValueError.__new__"))
    (x2_BadWords : PySem.W.findIn K (.ref C_BadWords) "__setattr__" = some (some (.builtin "object.__setattr__")))
    (x3_BadWords : PySem.W.subIn K (.ref C_BadWords) (.type "BaseException") = some true)
    (x4_BadWords : PySem.W.typeIn K (.ref C_BadWords) = some (.type "type"))
    (x5_BadWords : PySem.W.keepIn K (.ref C_BadWords) = true)
    (e_tI_BadWords : PySem.W.typeIn K (.ref f_BadWords___init__) = some (.type "function"))
    (y1_BadWords : PySem.W.findIn K (.ref C_BadWords) "__getattribute__" = some (some (.builtin "BaseException.__getattribute__")))
    (y2_BadWords : PySem.W.findIn K (.ref C_BadWords) "__getattr__" = some none)
    (x6_BadWords : PySem.W.hasDictIn K C_BadWords = true)
    (e_at_BadWords : PySem.W.findIn K (.ref C_BadWords) "at" = some none)
    (z1_BadWords : (PySem.W.clsIn K C_BadWords).isSome = true)
    (z2_BadWords : PySem.W.findIn K (.ref C_BadWords) "__class__" = some (some (.builtin "object.__class__")))
    (z3_BadWords : PySem.W.specialIn K (.builtin "object.__class__") "__get__" = some (some (.builtin "getset_descriptor.__get__")))
    (z4_BadWords : PySem.W.takesIn K (.builtin "object.__class__") = some true)
    (z5_BadWords : PySem.W.mroIn K C_BadWords (.type "object") = some true)
    (e_ex_BadWords : PySem.W.exmOne K (.ref C_BadWords) (.ref C_CrossError) = some true)
    (e_ki_BadWords_BadNumber : PySem.W.kitOne K (.ref C_BadWords) (.ref C_BadNumber) = some false)
    (e_ki_BadWords_BadLane : PySem.W.kitOne K (.ref C_BadWords) (.ref C_BadLane) = some false)
    (e_ki_BadWords_BadWords : PySem.W.kitOne K (.ref C_BadWords) (.ref C_BadWords) = some true)
    (e_ki_BadWords_BadEvent : PySem.W.kitOne K (.ref C_BadWords) (.ref C_BadEvent) = some false)
    (e_kv_BadWords : PySem.W.kitOne K (.ref C_BadWords) (.type "ValueError") = some true)
    (e_xI_BadNumber : PySem.W.excIn K C_BadNumber [.type "ValueError", .type "Exception", .type "BaseException", .type "object"] "ValueError.__new__" = true)
    (e_kC_BadNumber : PySem.W.keepIn K (.ref C_BadNumber) = true)
    (e_bC_BadNumber : PySem.W.subIn K (.ref C_BadNumber) (.type "BaseException") = some true)
    (e_tC_BadNumber : PySem.W.typeIn K (.ref C_BadNumber) = some (.type "type"))
    (y1_BadNumber : PySem.W.findIn K (.ref C_BadNumber) "__getattribute__" = some (some (.builtin "BaseException.__getattribute__")))
    (y2_BadNumber : PySem.W.findIn K (.ref C_BadNumber) "__getattr__" = some none)
    (x3_BadNumber : PySem.W.subIn K (.ref C_BadNumber) (.type "BaseException") = some true)
    (z1_BadNumber : (PySem.W.clsIn K C_BadNumber).isSome = true)
    (z2_BadNumber : PySem.W.findIn K (.ref C_BadNumber) "__class__" = some (some (.builtin "object.__class__")))
    (z3_BadNumber : PySem.W.specialIn K (.builtin "object.__class__") "__get__" = some (some (.builtin "getset_descriptor.__get__")))
    (z4_BadNumber : PySem.W.takesIn K (.builtin "object.__class__") = some true)
    (z5_BadNumber : PySem.W.mroIn K C_BadNumber (.type "object") = some true)
    (e_ex_BadNumber : PySem.W.exmOne K (.ref C_BadNumber) (.ref C_CrossError) = some true)
    (e_ki_BadNumber_BadNumber : PySem.W.kitOne K (.ref C_BadNumber) (.ref C_BadNumber) = some true)
    (e_ki_BadNumber_BadLane : PySem.W.kitOne K (.ref C_BadNumber) (.ref C_BadLane) = some false)
    (e_ki_BadNumber_BadWords : PySem.W.kitOne K (.ref C_BadNumber) (.ref C_BadWords) = some false)
    (e_ki_BadNumber_BadEvent : PySem.W.kitOne K (.ref C_BadNumber) (.ref C_BadEvent) = some false)
    (e_kv_BadNumber : PySem.W.kitOne K (.ref C_BadNumber) (.type "ValueError") = some true)
    (e_xI_BadLane : PySem.W.excIn K C_BadLane [.type "ValueError", .type "Exception", .type "BaseException", .type "object"] "ValueError.__new__" = true)
    (e_kC_BadLane : PySem.W.keepIn K (.ref C_BadLane) = true)
    (e_bC_BadLane : PySem.W.subIn K (.ref C_BadLane) (.type "BaseException") = some true)
    (e_tC_BadLane : PySem.W.typeIn K (.ref C_BadLane) = some (.type "type"))
    (y1_BadLane : PySem.W.findIn K (.ref C_BadLane) "__getattribute__" = some (some (.builtin "BaseException.__getattribute__")))
    (y2_BadLane : PySem.W.findIn K (.ref C_BadLane) "__getattr__" = some none)
    (x3_BadLane : PySem.W.subIn K (.ref C_BadLane) (.type "BaseException") = some true)
    (z1_BadLane : (PySem.W.clsIn K C_BadLane).isSome = true)
    (z2_BadLane : PySem.W.findIn K (.ref C_BadLane) "__class__" = some (some (.builtin "object.__class__")))
    (z3_BadLane : PySem.W.specialIn K (.builtin "object.__class__") "__get__" = some (some (.builtin "getset_descriptor.__get__")))
    (z4_BadLane : PySem.W.takesIn K (.builtin "object.__class__") = some true)
    (z5_BadLane : PySem.W.mroIn K C_BadLane (.type "object") = some true)
    (e_ex_BadLane : PySem.W.exmOne K (.ref C_BadLane) (.ref C_CrossError) = some true)
    (e_ki_BadLane_BadNumber : PySem.W.kitOne K (.ref C_BadLane) (.ref C_BadNumber) = some false)
    (e_ki_BadLane_BadLane : PySem.W.kitOne K (.ref C_BadLane) (.ref C_BadLane) = some true)
    (e_ki_BadLane_BadWords : PySem.W.kitOne K (.ref C_BadLane) (.ref C_BadWords) = some false)
    (e_ki_BadLane_BadEvent : PySem.W.kitOne K (.ref C_BadLane) (.ref C_BadEvent) = some false)
    (e_kv_BadLane : PySem.W.kitOne K (.ref C_BadLane) (.type "ValueError") = some true)
    (z_ValueError : PySem.W.nsIn K mainGlobals "ValueError" = some none)
    (z_abs : PySem.W.nsIn K mainGlobals "abs" = some none)
    (z_all : PySem.W.nsIn K mainGlobals "all" = some none)
    (z_bool : PySem.W.nsIn K mainGlobals "bool" = some none)
    (z_enumerate : PySem.W.nsIn K mainGlobals "enumerate" = some none)
    (z_int : PySem.W.nsIn K mainGlobals "int" = some none)
    (z_isinstance : PySem.W.nsIn K mainGlobals "isinstance" = some none)
    (z_len : PySem.W.nsIn K mainGlobals "len" = some none)
    (z_list : PySem.W.nsIn K mainGlobals "list" = some none)
    (z_max : PySem.W.nsIn K mainGlobals "max" = some none)
    (z_min : PySem.W.nsIn K mainGlobals "min" = some none)
    (z_range : PySem.W.nsIn K mainGlobals "range" = some none)
    (z_set : PySem.W.nsIn K mainGlobals "set" = some none)
    (z_sorted : PySem.W.nsIn K mainGlobals "sorted" = some none)
    (z_str : PySem.W.nsIn K mainGlobals "str" = some none)
    (z_tuple : PySem.W.nsIn K mainGlobals "tuple" = some none)
    (n_MARKS : PySem.W.nsIn K mainGlobals "MARKS" = some (some (.ref a_MARKS)))
    (l_MARKS : K.lookup a_MARKS = some ⟨.type "tuple", dd_MARKS, .seq #[.str "0" t0_MARKS, .str "1" t1_MARKS] nn_MARKS, sl_MARKS⟩)
    (n_MOST_EVENTS : PySem.W.nsIn K mainGlobals "MOST_EVENTS" = some (some (.int 100 t_MOST_EVENTS)))
    (n_MOST_LATE : PySem.W.nsIn K mainGlobals "MOST_LATE" = some (some (.int 6 t_MOST_LATE)))
    (n_MOST_ROOM : PySem.W.nsIn K mainGlobals "MOST_ROOM" = some (some (.int 6 t_MOST_ROOM)))
    (n_MOST_STEADY : PySem.W.nsIn K mainGlobals "MOST_STEADY" = some (some (.int 20 t_MOST_STEADY)))
    (n_MOST_WIDE : PySem.W.nsIn K mainGlobals "MOST_WIDE" = some (some (.int 4 t_MOST_WIDE)))
    (n_MOST_WORDS : PySem.W.nsIn K mainGlobals "MOST_WORDS" = some (some (.int 16 t_MOST_WORDS)))
    (n_OVER : PySem.W.nsIn K mainGlobals "OVER" = some (some (.str "over" t_OVER)))
    (n_UNDER : PySem.W.nsIn K mainGlobals "UNDER" = some (some (.str "under" t_UNDER)))
    (lc_law : K.lookup cL = some ⟨ocL, odL, .fields vsL, slL⟩) (v_law : vsL[11]? = some (.ref PL)) (np_law : K.lookup PL = none) (ch_law : PySem.W.codeHdIn K cL PL = true)
    : LamX.LawAtS l w K CX0 9 63 "_law_script" mg fa h := by
  have e := hfa.symm.trans (PySem.W.mg_of X G a_law)
  cases e
  have F_l_off := fun_mk (st := s_l_off) l_l_off c_l_off k_l_off
  have b_l_off := F_l_off.binds (ps := ["_law_d", "_law_most"]) fun _ _ _ _ _ _ us hl => match us, hl with | [_, _], _ => rfl
  have F_l_bad := fun_mk (st := s_l_bad) l_l_bad c_l_bad k_l_bad
  have b_l_bad := F_l_bad.binds (ps := ["_law_d", "_law_words_here"]) fun _ _ _ _ _ _ us hl => match us, hl with | [_, _], _ => rfl
  have F_l_dice := fun_mk (st := s_l_dice) l_l_dice c_l_dice k_l_dice
  have b_l_dice := F_l_dice.binds (ps := ["_law_script", "_law_k"]) fun _ _ _ _ _ _ us hl => match us, hl with | [_, _], _ => rfl
  have F_l_plain := fun_mk (st := s_l_plain) l_l_plain c_l_plain k_l_plain
  have b_l_plain := F_l_plain.binds (ps := ["_law_wide"]) fun _ _ _ _ _ _ us hl => match us, hl with | [_], _ => rfl
  have F_l_gray := fun_mk (st := s_l_gray) l_l_gray c_l_gray k_l_gray
  have b_l_gray := F_l_gray.binds (ps := ["_law_wide"]) fun _ _ _ _ _ _ us hl => match us, hl with | [_], _ => rfl
  have F_l_mixed := fun_mk (st := s_l_mixed) l_l_mixed c_l_mixed k_l_mixed
  have b_l_mixed := F_l_mixed.binds (ps := ["_law_d", "_law_row"]) fun _ _ _ _ _ _ us hl => match us, hl with | [_, _], _ => rfl
  have F_l_words := fun_mk (st := s_l_words) l_l_words c_l_words k_l_words
  have b_l_words := F_l_words.binds (ps := ["_law_d", "_law_room"]) fun _ _ _ _ _ _ us hl => match us, hl with | [_, _], _ => rfl
  have F_l_lane := fun_mk (st := s_l_lane) l_l_lane c_l_lane k_l_lane
  have b_l_lane := F_l_lane.binds (ps := ["_law_d"]) fun _ _ _ _ _ _ us hl => match us, hl with | [_], _ => rfl
  have F_l_alike := fun_mk (st := s_l_alike) l_l_alike c_l_alike k_l_alike
  have b_l_alike := F_l_alike.binds (ps := ["_law_found", "_law_due"]) fun _ _ _ _ _ _ us hl => match us, hl with | [_, _], _ => rfl
  have F_l_refused := fun_mk (st := s_l_refused) l_l_refused c_l_refused k_l_refused
  have b_l_refused := F_l_refused.binds (ps := ["_law_work", "_law_word", "_law_value"]) fun _ _ _ _ _ _ us hl => match us, hl with | [_, _, _], _ => rfl
  have F_mirrored := fun_mk (st := s_mirrored) l_mirrored c_mirrored k_mirrored
  have b_mirrored := F_mirrored.binds (ps := ["wide"]) fun _ _ _ _ _ _ us hl => match us, hl with | [_], _ => rfl
  have F_cut := fun_mk (st := s_cut) l_cut c_cut k_cut
  have b_cut := F_cut.binds (ps := ["many"]) fun _ _ _ _ _ _ us hl => match us, hl with | [_], _ => rfl
  have F_Lane___init__ := fun_mk (st := s_Lane___init__) l_Lane___init__ c_Lane___init__ k_Lane___init__
  have b_Lane___init__ := F_Lane___init__.binds (ps := ["self", "room", "words"]) fun _ _ _ _ _ _ us hl => match us, hl with | [_, _, _], _ => rfl
  have F_Lane_behind := fun_mk (st := s_Lane_behind) l_Lane_behind c_Lane_behind k_Lane_behind
  have b_Lane_behind := F_Lane_behind.binds (ps := ["self", "place"]) fun _ _ _ _ _ _ us hl => match us, hl with | [_, _], _ => rfl
  have F_Lane_can_get := fun_mk (st := s_Lane_can_get) l_Lane_can_get c_Lane_can_get k_Lane_can_get
  have b_Lane_can_get := F_Lane_can_get.binds (ps := ["self"]) fun _ _ _ _ _ _ us hl => match us, hl with | [_], _ => rfl
  have F_Lane_inside := fun_mk (st := s_Lane_inside) l_Lane_inside c_Lane_inside k_Lane_inside
  have b_Lane_inside := F_Lane_inside.binds (ps := ["self"]) fun _ _ _ _ _ _ us hl => match us, hl with | [_], _ => rfl
  have F_Lane_place_of := fun_mk (st := s_Lane_place_of) l_Lane_place_of c_Lane_place_of k_Lane_place_of
  have b_Lane_place_of := F_Lane_place_of.binds (ps := ["self", "word", "ahead"]) fun _ _ _ _ _ _ us hl => match us, hl with | [_, _, _], _ => rfl
  have F_Lane_do_get := fun_mk (st := s_Lane_do_get) l_Lane_do_get c_Lane_do_get k_Lane_do_get
  have b_Lane_do_get := F_Lane_do_get.binds (ps := ["self", "seen"]) fun _ _ _ _ _ _ us hl => match us, hl with | [_, _], _ => rfl
  have F_Lane_can_put := fun_mk (st := s_Lane_can_put) l_Lane_can_put c_Lane_can_put k_Lane_can_put
  have b_Lane_can_put := F_Lane_can_put.binds (ps := ["self"]) fun _ _ _ _ _ _ us hl => match us, hl with | [_], _ => rfl
  have F_Lane_do_put := fun_mk (st := s_Lane_do_put) l_Lane_do_put c_Lane_do_put k_Lane_do_put
  have b_Lane_do_put := F_Lane_do_put.binds (ps := ["self", "seen"]) fun _ _ _ _ _ _ us hl => match us, hl with | [_, _], _ => rfl
  have F_Lane_do := fun_mk (st := s_Lane_do) l_Lane_do c_Lane_do k_Lane_do
  have b_Lane_do := F_Lane_do.binds (ps := ["self", "event"]) fun _ _ _ _ _ _ us hl => match us, hl with | [_, _], _ => rfl
  have F_Lane_turns := fun_mk (st := s_Lane_turns) l_Lane_turns c_Lane_turns k_Lane_turns
  have b_Lane_turns := F_Lane_turns.binds (ps := ["self", "word"]) fun _ _ _ _ _ _ us hl => match us, hl with | [_, _], _ => rfl
  have F_seen_of := fun_mk (st := s_seen_of) l_seen_of c_seen_of k_seen_of
  have b_seen_of := F_seen_of.binds (ps := ["one", "other"]) fun _ _ _ _ _ _ us hl => match us, hl with | [_, _], _ => rfl
  have F_Lane_events := fun_mk (st := s_Lane_events) l_Lane_events c_Lane_events k_Lane_events
  have b_Lane_events := F_Lane_events.binds (ps := ["self"]) fun _ _ _ _ _ _ us hl => match us, hl with | [_], _ => rfl
  have F_Lane_stand := fun_mk (st := s_Lane_stand) l_Lane_stand c_Lane_stand k_Lane_stand
  have b_Lane_stand := F_Lane_stand.binds (ps := ["self", "state"]) fun _ _ _ _ _ _ us hl => match us, hl with | [_, _], _ => rfl
  have F_Lane_state := fun_mk (st := s_Lane_state) l_Lane_state c_Lane_state k_Lane_state
  have b_Lane_state := F_Lane_state.binds (ps := ["self"]) fun _ _ _ _ _ _ us hl => match us, hl with | [_], _ => rfl
  have F_BadWords___init__ := fun_mk (st := s_BadWords___init__) l_BadWords___init__ c_BadWords___init__ k_BadWords___init__
  have b_BadWords___init__ := F_BadWords___init__.binds (ps := ["self", "at"]) fun _ _ _ _ _ _ us hl => match us, hl with | [_, _], _ => rfl
  have F_is_word := fun_mk (st := s_is_word) l_is_word c_is_word k_is_word
  have b_is_word := F_is_word.binds (ps := ["word"]) fun _ _ _ _ _ _ us hl => match us, hl with | [_], _ => rfl
  have F_need_words := fun_mk (st := s_need_words) l_need_words c_need_words k_need_words
  have b_need_words := F_need_words.binds (ps := ["words"]) fun _ _ _ _ _ _ us hl => match us, hl with | [_], _ => rfl
  have F_need_lane := fun_mk (st := s_need_lane) l_need_lane c_need_lane k_need_lane
  have b_need_lane := F_need_lane.binds (ps := ["lane"]) fun _ _ _ _ _ _ us hl => match us, hl with | [_], _ => rfl
  have F_fault := fun_mk (st := s_fault) l_fault c_fault k_fault
  have b_fault := F_fault.binds (ps := ["lane"]) fun _ _ _ _ _ _ us hl => match us, hl with | [_], _ => rfl
  have F_first_torn := fun_mk (st := s_first_torn) l_first_torn c_first_torn k_first_torn
  have b_first_torn := F_first_torn.binds (ps := ["words"]) fun _ _ _ _ _ _ us hl => match us, hl with | [_], _ => rfl
  have F_Lane_may := fun_mk (st := s_Lane_may) l_Lane_may c_Lane_may k_Lane_may
  have b_Lane_may := F_Lane_may.binds (ps := ["self", "event"]) fun _ _ _ _ _ _ us hl => match us, hl with | [_, _], _ => rfl
  have F_played := fun_mk (st := s_played) l_played c_played k_played
  have b_played := F_played.binds (ps := ["lane", "events"]) fun _ _ _ _ _ _ us hl => match us, hl with | [_, _], _ => rfl
  have F_got := fun_mk (st := s_got) l_got c_got k_got
  have b_got := F_got.binds (ps := ["lane", "events"]) fun _ _ _ _ _ _ us hl => match us, hl with | [_, _], _ => rfl
  have F_need_wide := fun_mk (st := s_need_wide) l_need_wide c_need_wide k_need_wide
  have b_need_wide := F_need_wide.binds (ps := ["wide"]) fun _ _ _ _ _ _ us hl => match us, hl with | [_], _ => rfl
  have F_gray := fun_mk (st := s_gray) l_gray c_gray k_gray
  have b_gray := F_gray.binds (ps := ["wide"]) fun _ _ _ _ _ _ us hl => match us, hl with | [_], _ => rfl
  have F_gone_through := fun_mk (st := s_gone_through) l_gone_through c_gone_through k_gone_through
  have b_gone_through := F_gone_through.binds (ps := ["room", "one", "other"]) fun _ _ _ _ _ _ us hl => match us, hl with | [_, _, _], _ => rfl
  have F_need_late := fun_mk (st := s_need_late) l_need_late c_need_late k_need_late
  have b_need_late := F_need_late.binds (ps := ["one", "other"]) fun _ _ _ _ _ _ us hl => match us, hl with | [_, _], _ => rfl
  have F_least_room := fun_mk (st := s_least_room) l_least_room c_least_room k_least_room
  have b_least_room := F_least_room.binds (ps := ["one", "other"]) fun _ _ _ _ _ _ us hl => match us, hl with | [_, _], _ => rfl
  have F_all_words := fun_mk (st := s_all_words) l_all_words c_all_words k_all_words
  have b_all_words := F_all_words.binds (ps := ["wide"]) fun _ _ _ _ _ _ us hl => match us, hl with | [_], _ => rfl
  have F_plain := fun_mk (st := s_plain) l_plain c_plain k_plain
  have b_plain := F_plain.binds (ps := ["wide"]) fun _ _ _ _ _ _ us hl => match us, hl with | [_], _ => rfl
  have F_steady := fun_mk (st := s_steady) l_steady c_steady k_steady
  have b_steady := F_steady.binds (ps := ["room", "one", "other"]) fun _ _ _ _ _ _ us hl => match us, hl with | [_, _, _], _ => rfl
  have F_torn := fun_mk (st := s_torn) l_torn c_torn k_torn
  have b_torn := F_torn.binds (ps := ["one", "other"]) fun _ _ _ _ _ _ us hl => match us, hl with | [_, _], _ => rfl
  have F_law := fun_mk (st := s_law) l_law c_law k_law
  have b_law := F_law.binds (ps := ["_law_script"]) fun _ _ _ _ _ _ us hl => match us, hl with | [_], _ => rfl
  have hP := own cL PL _ _ _ _ _ _ l_law rfl rfl lc_law v_law
  exact ⟨PySem.W.fnOf "law" "law" (defArgs s_law) (defBody s_law) (defScope s_law) .none kV_law dc_law pm_law an_law (.ref cL) ct_law, [(cL, PL)], sp_lawT K PL, fun p hp => by rw [List.mem_singleton.mp hp]; exact hP, fun p hp => by rw [List.mem_singleton.mp hp]; exact np_law, fun p hp => by rw [List.mem_singleton.mp hp]; exact PySem.W.codeHd_of_K X ch_law, fun s v => .of_eq rfl, fun H a ns hl _ hH hS => ⟨a, ns, rfl, hS, hl, hH (cL, PL) (List.mem_singleton.mpr rfl), fun _ => rfl⟩, fun base _ _ hB => ok_law { f_l_off := _, fd_l_off := _, F_l_off := F_l_off, b_l_off := b_l_off, g_l_off := PySem.W.mg_of X G a_l_off, f_l_bad := _, fd_l_bad := _, F_l_bad := F_l_bad, b_l_bad := b_l_bad, g_l_bad := PySem.W.mg_of X G a_l_bad, f_l_dice := _, fd_l_dice := _, F_l_dice := F_l_dice, b_l_dice := b_l_dice, g_l_dice := PySem.W.mg_of X G a_l_dice, f_l_plain := _, fd_l_plain := _, F_l_plain := F_l_plain, b_l_plain := b_l_plain, g_l_plain := PySem.W.mg_of X G a_l_plain, f_l_gray := _, fd_l_gray := _, F_l_gray := F_l_gray, b_l_gray := b_l_gray, g_l_gray := PySem.W.mg_of X G a_l_gray, f_l_mixed := _, fd_l_mixed := _, F_l_mixed := F_l_mixed, b_l_mixed := b_l_mixed, g_l_mixed := PySem.W.mg_of X G a_l_mixed, f_l_words := _, fd_l_words := _, F_l_words := F_l_words, b_l_words := b_l_words, g_l_words := PySem.W.mg_of X G a_l_words, f_l_lane := _, fd_l_lane := _, F_l_lane := F_l_lane, b_l_lane := b_l_lane, g_l_lane := PySem.W.mg_of X G a_l_lane, f_l_alike := _, fd_l_alike := _, F_l_alike := F_l_alike, b_l_alike := b_l_alike, g_l_alike := PySem.W.mg_of X G a_l_alike, f_l_refused := _, fd_l_refused := _, F_l_refused := F_l_refused, b_l_refused := b_l_refused, g_l_refused := PySem.W.mg_of X G a_l_refused, f_mirrored := _, fd_mirrored := _, F_mirrored := F_mirrored, b_mirrored := b_mirrored, g_mirrored := PySem.W.mg_of X G a_mirrored, f_cut := _, fd_cut := _, F_cut := F_cut, b_cut := b_cut, g_cut := PySem.W.mg_of X G a_cut, f_Lane___init__ := _, fd_Lane___init__ := _, F_Lane___init__ := F_Lane___init__, b_Lane___init__ := b_Lane___init__, f_Lane_behind := _, fd_Lane_behind := _, F_Lane_behind := F_Lane_behind, b_Lane_behind := b_Lane_behind, f_Lane_can_get := _, fd_Lane_can_get := _, F_Lane_can_get := F_Lane_can_get, b_Lane_can_get := b_Lane_can_get, f_Lane_inside := _, fd_Lane_inside := _, F_Lane_inside := F_Lane_inside, b_Lane_inside := b_Lane_inside, f_Lane_place_of := _, fd_Lane_place_of := _, F_Lane_place_of := F_Lane_place_of, b_Lane_place_of := b_Lane_place_of, f_Lane_do_get := _, fd_Lane_do_get := _, F_Lane_do_get := F_Lane_do_get, b_Lane_do_get := b_Lane_do_get, f_Lane_can_put := _, fd_Lane_can_put := _, F_Lane_can_put := F_Lane_can_put, b_Lane_can_put := b_Lane_can_put, f_Lane_do_put := _, fd_Lane_do_put := _, F_Lane_do_put := F_Lane_do_put, b_Lane_do_put := b_Lane_do_put, f_Lane_do := _, fd_Lane_do := _, F_Lane_do := F_Lane_do, b_Lane_do := b_Lane_do, f_Lane_turns := _, fd_Lane_turns := _, F_Lane_turns := F_Lane_turns, b_Lane_turns := b_Lane_turns, f_seen_of := _, fd_seen_of := _, F_seen_of := F_seen_of, b_seen_of := b_seen_of, g_seen_of := PySem.W.mg_of X G a_seen_of, f_Lane_events := _, fd_Lane_events := _, F_Lane_events := F_Lane_events, b_Lane_events := b_Lane_events, f_Lane_stand := _, fd_Lane_stand := _, F_Lane_stand := F_Lane_stand, b_Lane_stand := b_Lane_stand, f_Lane_state := _, fd_Lane_state := _, F_Lane_state := F_Lane_state, b_Lane_state := b_Lane_state, f_BadWords___init__ := _, fd_BadWords___init__ := _, F_BadWords___init__ := F_BadWords___init__, b_BadWords___init__ := b_BadWords___init__, f_is_word := _, fd_is_word := _, F_is_word := F_is_word, b_is_word := b_is_word, g_is_word := PySem.W.mg_of X G a_is_word, f_need_words := _, fd_need_words := _, F_need_words := F_need_words, b_need_words := b_need_words, g_need_words := PySem.W.mg_of X G a_need_words, f_need_lane := _, fd_need_lane := _, F_need_lane := F_need_lane, b_need_lane := b_need_lane, g_need_lane := PySem.W.mg_of X G a_need_lane, f_fault := _, fd_fault := _, F_fault := F_fault, b_fault := b_fault, g_fault := PySem.W.mg_of X G a_fault, f_first_torn := _, fd_first_torn := _, F_first_torn := F_first_torn, b_first_torn := b_first_torn, g_first_torn := PySem.W.mg_of X G a_first_torn, f_Lane_may := _, fd_Lane_may := _, F_Lane_may := F_Lane_may, b_Lane_may := b_Lane_may, f_played := _, fd_played := _, F_played := F_played, b_played := b_played, g_played := PySem.W.mg_of X G a_played, f_got := _, fd_got := _, F_got := F_got, b_got := b_got, g_got := PySem.W.mg_of X G a_got, f_need_wide := _, fd_need_wide := _, F_need_wide := F_need_wide, b_need_wide := b_need_wide, g_need_wide := PySem.W.mg_of X G a_need_wide, f_gray := _, fd_gray := _, F_gray := F_gray, b_gray := b_gray, g_gray := PySem.W.mg_of X G a_gray, f_gone_through := _, fd_gone_through := _, F_gone_through := F_gone_through, b_gone_through := b_gone_through, g_gone_through := PySem.W.mg_of X G a_gone_through, f_need_late := _, fd_need_late := _, F_need_late := F_need_late, b_need_late := b_need_late, g_need_late := PySem.W.mg_of X G a_need_late, f_least_room := _, fd_least_room := _, F_least_room := F_least_room, b_least_room := b_least_room, g_least_room := PySem.W.mg_of X G a_least_room, f_all_words := _, fd_all_words := _, F_all_words := F_all_words, b_all_words := b_all_words, g_all_words := PySem.W.mg_of X G a_all_words, f_plain := _, fd_plain := _, F_plain := F_plain, b_plain := b_plain, g_plain := PySem.W.mg_of X G a_plain, f_steady := _, fd_steady := _, F_steady := F_steady, b_steady := b_steady, g_steady := PySem.W.mg_of X G a_steady, f_torn := _, fd_torn := _, F_torn := F_torn, b_torn := b_torn, g_torn := PySem.W.mg_of X G a_torn, f_law := _, fd_law := _, F_law := F_law, b_law := b_law, g_law := PySem.W.mg_of X G a_law, C_Lane := C_Lane, cl_Lane := ⟨pg_Lane, hd_Lane, po_Lane, sa_Lane⟩, g_Lane := PySem.W.mg_of X G aC_Lane, mk_Lane := ⟨mk_Lane, a_Lane___init__, i_Lane___init__, kc_Lane⟩, na_room := na_room, na_words := na_words, na_put := na_put, na_got := na_got, na_seen_got := na_seen_got, na_seen_put := na_seen_put, na_boxes := na_boxes, na_many := na_many, na_fault := na_fault, m_Lane_behind := ⟨a_Lane_behind, i_Lane_behind, k_Lane_behind⟩, m_Lane_can_get := ⟨a_Lane_can_get, i_Lane_can_get, k_Lane_can_get⟩, m_Lane_inside := ⟨a_Lane_inside, i_Lane_inside, k_Lane_inside⟩, m_Lane_place_of := ⟨a_Lane_place_of, i_Lane_place_of, k_Lane_place_of⟩, m_Lane_do_get := ⟨a_Lane_do_get, i_Lane_do_get, k_Lane_do_get⟩, m_Lane_can_put := ⟨a_Lane_can_put, i_Lane_can_put, k_Lane_can_put⟩, m_Lane_do_put := ⟨a_Lane_do_put, i_Lane_do_put, k_Lane_do_put⟩, m_Lane_do := ⟨a_Lane_do, i_Lane_do, k_Lane_do⟩, m_Lane_turns := ⟨a_Lane_turns, i_Lane_turns, k_Lane_turns⟩, m_Lane_events := ⟨a_Lane_events, i_Lane_events, k_Lane_events⟩, m_Lane_stand := ⟨a_Lane_stand, i_Lane_stand, k_Lane_stand⟩, m_Lane_state := ⟨a_Lane_state, i_Lane_state, k_Lane_state⟩, m_Lane_may := ⟨a_Lane_may, i_Lane_may, k_Lane_may⟩, C_CrossError := C_CrossError, g_CrossError := PySem.W.mg_of X G aC_CrossError, C_BadNumber := C_BadNumber, g_BadNumber := PySem.W.mg_of X G aC_BadNumber, C_BadLane := C_BadLane, g_BadLane := PySem.W.mg_of X G aC_BadLane, C_BadWords := C_BadWords, g_BadWords := PySem.W.mg_of X G aC_BadWords, C_BadEvent := C_BadEvent, g_BadEvent := PySem.W.mg_of X G aC_BadEvent, ga_CE := e_ga_CE, rd_CE := e_rd_CE, fi_CE := e_fi_CE, ox_BadWords := ⟨⟨_, _, _, _, _, _, _, _, _, _, _, _, _, _, _, x1_BadWords, rfl⟩, x2_BadWords, x3_BadWords, x4_BadWords, x5_BadWords⟩, iC_BadWords := a_BadWords___init__, tI_BadWords := e_tI_BadWords, xf_BadWords := ⟨y1_BadWords, y2_BadWords, x3_BadWords, x6_BadWords⟩, at_BadWords := e_at_BadWords, is_BadWords := ⟨z1_BadWords, y1_BadWords, y2_BadWords, x3_BadWords, z2_BadWords, z3_BadWords, z4_BadWords, z5_BadWords⟩, ex_BadWords := e_ex_BadWords, ki_BadWords_BadNumber := e_ki_BadWords_BadNumber, ki_BadWords_BadLane := e_ki_BadWords_BadLane, ki_BadWords_BadWords := e_ki_BadWords_BadWords, ki_BadWords_BadEvent := e_ki_BadWords_BadEvent, kv_BadWords := e_kv_BadWords, xI_BadNumber := e_xI_BadNumber, kC_BadNumber := e_kC_BadNumber, bC_BadNumber := e_bC_BadNumber, tC_BadNumber := e_tC_BadNumber, is_BadNumber := ⟨z1_BadNumber, y1_BadNumber, y2_BadNumber, x3_BadNumber, z2_BadNumber, z3_BadNumber, z4_BadNumber, z5_BadNumber⟩, ex_BadNumber := e_ex_BadNumber, ki_BadNumber_BadNumber := e_ki_BadNumber_BadNumber, ki_BadNumber_BadLane := e_ki_BadNumber_BadLane, ki_BadNumber_BadWords := e_ki_BadNumber_BadWords, ki_BadNumber_BadEvent := e_ki_BadNumber_BadEvent, kv_BadNumber := e_kv_BadNumber, xI_BadLane := e_xI_BadLane, kC_BadLane := e_kC_BadLane, bC_BadLane := e_bC_BadLane, tC_BadLane := e_tC_BadLane, is_BadLane := ⟨z1_BadLane, y1_BadLane, y2_BadLane, x3_BadLane, z2_BadLane, z3_BadLane, z4_BadLane, z5_BadLane⟩, ex_BadLane := e_ex_BadLane, ki_BadLane_BadNumber := e_ki_BadLane_BadNumber, ki_BadLane_BadLane := e_ki_BadLane_BadLane, ki_BadLane_BadWords := e_ki_BadLane_BadWords, ki_BadLane_BadEvent := e_ki_BadLane_BadEvent, kv_BadLane := e_kv_BadLane, z_ValueError := PySem.W.mg_none_of X G z_ValueError, z_abs := PySem.W.mg_none_of X G z_abs, z_all := PySem.W.mg_none_of X G z_all, z_bool := PySem.W.mg_none_of X G z_bool, z_enumerate := PySem.W.mg_none_of X G z_enumerate, z_int := PySem.W.mg_none_of X G z_int, z_isinstance := PySem.W.mg_none_of X G z_isinstance, z_len := PySem.W.mg_none_of X G z_len, z_list := PySem.W.mg_none_of X G z_list, z_max := PySem.W.mg_none_of X G z_max, z_min := PySem.W.mg_none_of X G z_min, z_range := PySem.W.mg_none_of X G z_range, z_set := PySem.W.mg_none_of X G z_set, z_sorted := PySem.W.mg_none_of X G z_sorted, z_str := PySem.W.mg_none_of X G z_str, z_tuple := PySem.W.mg_none_of X G z_tuple, a_MARKS := a_MARKS, c_MARKS := PySem.W.mg_of X G n_MARKS, m_MARKS := fun H => .inr ⟨_, _, _, l_MARKS, rfl, rfl, (show 2 ≤ sizeLine by decide), (.cons ⟨_, rfl⟩ (.cons ⟨_, rfl⟩ .nil))⟩, t_MOST_EVENTS := t_MOST_EVENTS, c_MOST_EVENTS := PySem.W.mg_of X G n_MOST_EVENTS, t_MOST_LATE := t_MOST_LATE, c_MOST_LATE := PySem.W.mg_of X G n_MOST_LATE, t_MOST_ROOM := t_MOST_ROOM, c_MOST_ROOM := PySem.W.mg_of X G n_MOST_ROOM, t_MOST_STEADY := t_MOST_STEADY, c_MOST_STEADY := PySem.W.mg_of X G n_MOST_STEADY, t_MOST_WIDE := t_MOST_WIDE, c_MOST_WIDE := PySem.W.mg_of X G n_MOST_WIDE, t_MOST_WORDS := t_MOST_WORDS, c_MOST_WORDS := PySem.W.mg_of X G n_MOST_WORDS, t_OVER := t_OVER, c_OVER := PySem.W.mg_of X G n_OVER, t_UNDER := t_UNDER, c_UNDER := PySem.W.mg_of X G n_UNDER } rfl (hB (cL, PL) (List.mem_singleton.mpr rfl))⟩
end G
open PySem PySem.W PyProof.Rows
set_option maxRecDepth 100000 in
set_option maxHeartbeats 0 in
theorem PySem.Challenge.cw_crossbeat_k01_what_is_none_holds : PySem.Challenge.rw_crossbeat_k01_what_is_none.Holds := by
  w_on; o_law; k_head; (case hw => w_witness2)
  k_fill
  refine LamX.walk_ofOwn (l := PySem.Challenge.rw_crossbeat_k01_what_is_none) (n := 63) (k := 9) (x := "_law_script") (CX := fun _ => L2.CX0) rfl (by decide) rfl ⟨rfl, by decide, by decide⟩ (by decide +kernel) (fun w h Y => PySem.W.km_in_of Y) ?F (fun _ _ _ _ _ h => h)
  case F =>
    intro w mg fa h Y KX GG hmg own
    refine' G.all_mk KX GG hmg own ?aC_BadEvent ?aC_BadWords ?aC_BadLane ?aC_BadNumber ?aC_CrossError ?aC_Lane ?a_l_off ?l_l_off ?c_l_off ?k_l_off ?a_l_bad ?l_l_bad ?c_l_bad ?k_l_bad ?a_l_dice ?l_l_dice ?c_l_dice ?k_l_dice ?a_l_plain ?l_l_plain ?c_l_plain ?k_l_plain ?a_l_gray ?l_l_gray ?c_l_gray ?k_l_gray ?a_l_mixed ?l_l_mixed ?c_l_mixed ?k_l_mixed ?a_l_words ?l_l_words ?c_l_words ?k_l_words ?a_l_lane ?l_l_lane ?c_l_lane ?k_l_lane ?a_l_alike ?l_l_alike ?c_l_alike ?k_l_alike ?a_l_refused ?l_l_refused ?c_l_refused ?k_l_refused ?a_mirrored ?l_mirrored ?c_mirrored ?k_mirrored ?a_cut ?l_cut ?c_cut ?k_cut ?a_Lane___init__ ?i_Lane___init__ ?l_Lane___init__ ?c_Lane___init__ ?k_Lane___init__ ?a_Lane_behind ?i_Lane_behind ?l_Lane_behind ?c_Lane_behind ?k_Lane_behind ?a_Lane_can_get ?i_Lane_can_get ?l_Lane_can_get ?c_Lane_can_get ?k_Lane_can_get ?a_Lane_inside ?i_Lane_inside ?l_Lane_inside ?c_Lane_inside ?k_Lane_inside ?a_Lane_place_of ?i_Lane_place_of ?l_Lane_place_of ?c_Lane_place_of ?k_Lane_place_of ?a_Lane_do_get ?i_Lane_do_get ?l_Lane_do_get ?c_Lane_do_get ?k_Lane_do_get ?a_Lane_can_put ?i_Lane_can_put ?l_Lane_can_put ?c_Lane_can_put ?k_Lane_can_put ?a_Lane_do_put ?i_Lane_do_put ?l_Lane_do_put ?c_Lane_do_put ?k_Lane_do_put ?a_Lane_do ?i_Lane_do ?l_Lane_do ?c_Lane_do ?k_Lane_do ?a_Lane_turns ?i_Lane_turns ?l_Lane_turns ?c_Lane_turns ?k_Lane_turns ?a_seen_of ?l_seen_of ?c_seen_of ?k_seen_of ?a_Lane_events ?i_Lane_events ?l_Lane_events ?c_Lane_events ?k_Lane_events ?a_Lane_stand ?i_Lane_stand ?l_Lane_stand ?c_Lane_stand ?k_Lane_stand ?a_Lane_state ?i_Lane_state ?l_Lane_state ?c_Lane_state ?k_Lane_state ?a_BadWords___init__ ?i_BadWords___init__ ?l_BadWords___init__ ?c_BadWords___init__ ?k_BadWords___init__ ?a_is_word ?l_is_word ?c_is_word ?k_is_word ?a_need_words ?l_need_words ?c_need_words ?k_need_words ?a_need_lane ?l_need_lane ?c_need_lane ?k_need_lane ?a_fault ?l_fault ?c_fault ?k_fault ?a_first_torn ?l_first_torn ?c_first_torn ?k_first_torn ?a_Lane_may ?i_Lane_may ?l_Lane_may ?c_Lane_may ?k_Lane_may ?a_played ?l_played ?c_played ?k_played ?a_got ?l_got ?c_got ?k_got ?a_need_wide ?l_need_wide ?c_need_wide ?k_need_wide ?a_gray ?l_gray ?c_gray ?k_gray ?a_gone_through ?l_gone_through ?c_gone_through ?k_gone_through ?a_need_late ?l_need_late ?c_need_late ?k_need_late ?a_least_room ?l_least_room ?c_least_room ?k_least_room ?a_all_words ?l_all_words ?c_all_words ?k_all_words ?a_plain ?l_plain ?c_plain ?k_plain ?a_steady ?l_steady ?c_steady ?k_steady ?a_torn ?l_torn ?c_torn ?k_torn ?a_law ?l_law ?c_law ?k_law ?pg_Lane ?hd_Lane ?po_Lane ?sa_Lane ?mk_Lane ?kc_Lane ?na_room ?na_words ?na_put ?na_got ?na_seen_got ?na_seen_put ?na_boxes ?na_many ?na_fault ?e_ga_CE ?e_rd_CE ?e_fi_CE ?x1_BadWords ?x2_BadWords ?x3_BadWords ?x4_BadWords ?x5_BadWords ?e_tI_BadWords ?y1_BadWords ?y2_BadWords ?x6_BadWords ?e_at_BadWords ?z1_BadWords ?z2_BadWords ?z3_BadWords ?z4_BadWords ?z5_BadWords ?e_ex_BadWords ?e_ki_BadWords_BadNumber ?e_ki_BadWords_BadLane ?e_ki_BadWords_BadWords ?e_ki_BadWords_BadEvent ?e_kv_BadWords ?e_xI_BadNumber ?e_kC_BadNumber ?e_bC_BadNumber ?e_tC_BadNumber ?y1_BadNumber ?y2_BadNumber ?x3_BadNumber ?z1_BadNumber ?z2_BadNumber ?z3_BadNumber ?z4_BadNumber ?z5_BadNumber ?e_ex_BadNumber ?e_ki_BadNumber_BadNumber ?e_ki_BadNumber_BadLane ?e_ki_BadNumber_BadWords ?e_ki_BadNumber_BadEvent ?e_kv_BadNumber ?e_xI_BadLane ?e_kC_BadLane ?e_bC_BadLane ?e_tC_BadLane ?y1_BadLane ?y2_BadLane ?x3_BadLane ?z1_BadLane ?z2_BadLane ?z3_BadLane ?z4_BadLane ?z5_BadLane ?e_ex_BadLane ?e_ki_BadLane_BadNumber ?e_ki_BadLane_BadLane ?e_ki_BadLane_BadWords ?e_ki_BadLane_BadEvent ?e_kv_BadLane ?z_ValueError ?z_abs ?z_all ?z_bool ?z_enumerate ?z_int ?z_isinstance ?z_len ?z_list ?z_max ?z_min ?z_range ?z_set ?z_sorted ?z_str ?z_tuple ?n_MARKS ?l_MARKS ?n_MOST_EVENTS ?n_MOST_LATE ?n_MOST_ROOM ?n_MOST_STEADY ?n_MOST_WIDE ?n_MOST_WORDS ?n_OVER ?n_UNDER ?lc_law ?v_law ?np_law ?ch_law
    (case aC_BadEvent => first | k_is | rfl | kernel_rfl)
    (case aC_BadWords => first | k_is | rfl | kernel_rfl)
    (case aC_BadLane => first | k_is | rfl | kernel_rfl)
    (case aC_BadNumber => first | k_is | rfl | kernel_rfl)
    (case aC_CrossError => first | k_is | rfl | kernel_rfl)
    (case aC_Lane => first | k_is | rfl | kernel_rfl)
    (case a_l_off => first | k_is | rfl | kernel_rfl)
    (case l_l_off => first | k_is | rfl | kernel_rfl)
    (case c_l_off => first | k_is | rfl | kernel_rfl)
    (case k_l_off => first | k_is | rfl | kernel_rfl)
    (case a_l_bad => first | k_is | rfl | kernel_rfl)
    (case l_l_bad => first | k_is | rfl | kernel_rfl)
    (case c_l_bad => first | k_is | rfl | kernel_rfl)
    (case k_l_bad => first | k_is | rfl | kernel_rfl)
    (case a_l_dice => first | k_is | rfl | kernel_rfl)
    (case l_l_dice => first | k_is | rfl | kernel_rfl)
    (case c_l_dice => first | k_is | rfl | kernel_rfl)
    (case k_l_dice => first | k_is | rfl | kernel_rfl)
    (case a_l_plain => first | k_is | rfl | kernel_rfl)
    (case l_l_plain => first | k_is | rfl | kernel_rfl)
    (case c_l_plain => first | k_is | rfl | kernel_rfl)
    (case k_l_plain => first | k_is | rfl | kernel_rfl)
    (case a_l_gray => first | k_is | rfl | kernel_rfl)
    (case l_l_gray => first | k_is | rfl | kernel_rfl)
    (case c_l_gray => first | k_is | rfl | kernel_rfl)
    (case k_l_gray => first | k_is | rfl | kernel_rfl)
    (case a_l_mixed => first | k_is | rfl | kernel_rfl)
    (case l_l_mixed => first | k_is | rfl | kernel_rfl)
    (case c_l_mixed => first | k_is | rfl | kernel_rfl)
    (case k_l_mixed => first | k_is | rfl | kernel_rfl)
    (case a_l_words => first | k_is | rfl | kernel_rfl)
    (case l_l_words => first | k_is | rfl | kernel_rfl)
    (case c_l_words => first | k_is | rfl | kernel_rfl)
    (case k_l_words => first | k_is | rfl | kernel_rfl)
    (case a_l_lane => first | k_is | rfl | kernel_rfl)
    (case l_l_lane => first | k_is | rfl | kernel_rfl)
    (case c_l_lane => first | k_is | rfl | kernel_rfl)
    (case k_l_lane => first | k_is | rfl | kernel_rfl)
    (case a_l_alike => first | k_is | rfl | kernel_rfl)
    (case l_l_alike => first | k_is | rfl | kernel_rfl)
    (case c_l_alike => first | k_is | rfl | kernel_rfl)
    (case k_l_alike => first | k_is | rfl | kernel_rfl)
    (case a_l_refused => first | k_is | rfl | kernel_rfl)
    (case l_l_refused => first | k_is | rfl | kernel_rfl)
    (case c_l_refused => first | k_is | rfl | kernel_rfl)
    (case k_l_refused => first | k_is | rfl | kernel_rfl)
    (case a_mirrored => first | k_is | rfl | kernel_rfl)
    (case l_mirrored => first | k_is | rfl | kernel_rfl)
    (case c_mirrored => first | k_is | rfl | kernel_rfl)
    (case k_mirrored => first | k_is | rfl | kernel_rfl)
    (case a_cut => first | k_is | rfl | kernel_rfl)
    (case l_cut => first | k_is | rfl | kernel_rfl)
    (case c_cut => first | k_is | rfl | kernel_rfl)
    (case k_cut => first | k_is | rfl | kernel_rfl)
    (case a_Lane___init__ => first | k_is | rfl | kernel_rfl)
    (case i_Lane___init__ => first | k_is | rfl | kernel_rfl)
    (case l_Lane___init__ => first | k_is | rfl | kernel_rfl)
    (case c_Lane___init__ => first | k_is | rfl | kernel_rfl)
    (case k_Lane___init__ => first | k_is | rfl | kernel_rfl)
    (case a_Lane_behind => first | k_is | rfl | kernel_rfl)
    (case i_Lane_behind => first | k_is | rfl | kernel_rfl)
    (case l_Lane_behind => first | k_is | rfl | kernel_rfl)
    (case c_Lane_behind => first | k_is | rfl | kernel_rfl)
    (case k_Lane_behind => first | k_is | rfl | kernel_rfl)
    (case a_Lane_can_get => first | k_is | rfl | kernel_rfl)
    (case i_Lane_can_get => first | k_is | rfl | kernel_rfl)
    (case l_Lane_can_get => first | k_is | rfl | kernel_rfl)
    (case c_Lane_can_get => first | k_is | rfl | kernel_rfl)
    (case k_Lane_can_get => first | k_is | rfl | kernel_rfl)
    (case a_Lane_inside => first | k_is | rfl | kernel_rfl)
    (case i_Lane_inside => first | k_is | rfl | kernel_rfl)
    (case l_Lane_inside => first | k_is | rfl | kernel_rfl)
    (case c_Lane_inside => first | k_is | rfl | kernel_rfl)
    (case k_Lane_inside => first | k_is | rfl | kernel_rfl)
    (case a_Lane_place_of => first | k_is | rfl | kernel_rfl)
    (case i_Lane_place_of => first | k_is | rfl | kernel_rfl)
    (case l_Lane_place_of => first | k_is | rfl | kernel_rfl)
    (case c_Lane_place_of => first | k_is | rfl | kernel_rfl)
    (case k_Lane_place_of => first | k_is | rfl | kernel_rfl)
    (case a_Lane_do_get => first | k_is | rfl | kernel_rfl)
    (case i_Lane_do_get => first | k_is | rfl | kernel_rfl)
    (case l_Lane_do_get => first | k_is | rfl | kernel_rfl)
    (case c_Lane_do_get => first | k_is | rfl | kernel_rfl)
    (case k_Lane_do_get => first | k_is | rfl | kernel_rfl)
    (case a_Lane_can_put => first | k_is | rfl | kernel_rfl)
    (case i_Lane_can_put => first | k_is | rfl | kernel_rfl)
    (case l_Lane_can_put => first | k_is | rfl | kernel_rfl)
    (case c_Lane_can_put => first | k_is | rfl | kernel_rfl)
    (case k_Lane_can_put => first | k_is | rfl | kernel_rfl)
    (case a_Lane_do_put => first | k_is | rfl | kernel_rfl)
    (case i_Lane_do_put => first | k_is | rfl | kernel_rfl)
    (case l_Lane_do_put => first | k_is | rfl | kernel_rfl)
    (case c_Lane_do_put => first | k_is | rfl | kernel_rfl)
    (case k_Lane_do_put => first | k_is | rfl | kernel_rfl)
    (case a_Lane_do => first | k_is | rfl | kernel_rfl)
    (case i_Lane_do => first | k_is | rfl | kernel_rfl)
    (case l_Lane_do => first | k_is | rfl | kernel_rfl)
    (case c_Lane_do => first | k_is | rfl | kernel_rfl)
    (case k_Lane_do => first | k_is | rfl | kernel_rfl)
    (case a_Lane_turns => first | k_is | rfl | kernel_rfl)
    (case i_Lane_turns => first | k_is | rfl | kernel_rfl)
    (case l_Lane_turns => first | k_is | rfl | kernel_rfl)
    (case c_Lane_turns => first | k_is | rfl | kernel_rfl)
    (case k_Lane_turns => first | k_is | rfl | kernel_rfl)
    (case a_seen_of => first | k_is | rfl | kernel_rfl)
    (case l_seen_of => first | k_is | rfl | kernel_rfl)
    (case c_seen_of => first | k_is | rfl | kernel_rfl)
    (case k_seen_of => first | k_is | rfl | kernel_rfl)
    (case a_Lane_events => first | k_is | rfl | kernel_rfl)
    (case i_Lane_events => first | k_is | rfl | kernel_rfl)
    (case l_Lane_events => first | k_is | rfl | kernel_rfl)
    (case c_Lane_events => first | k_is | rfl | kernel_rfl)
    (case k_Lane_events => first | k_is | rfl | kernel_rfl)
    (case a_Lane_stand => first | k_is | rfl | kernel_rfl)
    (case i_Lane_stand => first | k_is | rfl | kernel_rfl)
    (case l_Lane_stand => first | k_is | rfl | kernel_rfl)
    (case c_Lane_stand => first | k_is | rfl | kernel_rfl)
    (case k_Lane_stand => first | k_is | rfl | kernel_rfl)
    (case a_Lane_state => first | k_is | rfl | kernel_rfl)
    (case i_Lane_state => first | k_is | rfl | kernel_rfl)
    (case l_Lane_state => first | k_is | rfl | kernel_rfl)
    (case c_Lane_state => first | k_is | rfl | kernel_rfl)
    (case k_Lane_state => first | k_is | rfl | kernel_rfl)
    (case a_BadWords___init__ => first | k_is | rfl | kernel_rfl)
    (case i_BadWords___init__ => first | k_is | rfl | kernel_rfl)
    (case l_BadWords___init__ => first | k_is | rfl | kernel_rfl)
    (case c_BadWords___init__ => first | k_is | rfl | kernel_rfl)
    (case k_BadWords___init__ => first | k_is | rfl | kernel_rfl)
    (case a_is_word => first | k_is | rfl | kernel_rfl)
    (case l_is_word => first | k_is | rfl | kernel_rfl)
    (case c_is_word => first | k_is | rfl | kernel_rfl)
    (case k_is_word => first | k_is | rfl | kernel_rfl)
    (case a_need_words => first | k_is | rfl | kernel_rfl)
    (case l_need_words => first | k_is | rfl | kernel_rfl)
    (case c_need_words => first | k_is | rfl | kernel_rfl)
    (case k_need_words => first | k_is | rfl | kernel_rfl)
    (case a_need_lane => first | k_is | rfl | kernel_rfl)
    (case l_need_lane => first | k_is | rfl | kernel_rfl)
    (case c_need_lane => first | k_is | rfl | kernel_rfl)
    (case k_need_lane => first | k_is | rfl | kernel_rfl)
    (case a_fault => first | k_is | rfl | kernel_rfl)
    (case l_fault => first | k_is | rfl | kernel_rfl)
    (case c_fault => first | k_is | rfl | kernel_rfl)
    (case k_fault => first | k_is | rfl | kernel_rfl)
    (case a_first_torn => first | k_is | rfl | kernel_rfl)
    (case l_first_torn => first | k_is | rfl | kernel_rfl)
    (case c_first_torn => first | k_is | rfl | kernel_rfl)
    (case k_first_torn => first | k_is | rfl | kernel_rfl)
    (case a_Lane_may => first | k_is | rfl | kernel_rfl)
    (case i_Lane_may => first | k_is | rfl | kernel_rfl)
    (case l_Lane_may => first | k_is | rfl | kernel_rfl)
    (case c_Lane_may => first | k_is | rfl | kernel_rfl)
    (case k_Lane_may => first | k_is | rfl | kernel_rfl)
    (case a_played => first | k_is | rfl | kernel_rfl)
    (case l_played => first | k_is | rfl | kernel_rfl)
    (case c_played => first | k_is | rfl | kernel_rfl)
    (case k_played => first | k_is | rfl | kernel_rfl)
    (case a_got => first | k_is | rfl | kernel_rfl)
    (case l_got => first | k_is | rfl | kernel_rfl)
    (case c_got => first | k_is | rfl | kernel_rfl)
    (case k_got => first | k_is | rfl | kernel_rfl)
    (case a_need_wide => first | k_is | rfl | kernel_rfl)
    (case l_need_wide => first | k_is | rfl | kernel_rfl)
    (case c_need_wide => first | k_is | rfl | kernel_rfl)
    (case k_need_wide => first | k_is | rfl | kernel_rfl)
    (case a_gray => first | k_is | rfl | kernel_rfl)
    (case l_gray => first | k_is | rfl | kernel_rfl)
    (case c_gray => first | k_is | rfl | kernel_rfl)
    (case k_gray => first | k_is | rfl | kernel_rfl)
    (case a_gone_through => first | k_is | rfl | kernel_rfl)
    (case l_gone_through => first | k_is | rfl | kernel_rfl)
    (case c_gone_through => first | k_is | rfl | kernel_rfl)
    (case k_gone_through => first | k_is | rfl | kernel_rfl)
    (case a_need_late => first | k_is | rfl | kernel_rfl)
    (case l_need_late => first | k_is | rfl | kernel_rfl)
    (case c_need_late => first | k_is | rfl | kernel_rfl)
    (case k_need_late => first | k_is | rfl | kernel_rfl)
    (case a_least_room => first | k_is | rfl | kernel_rfl)
    (case l_least_room => first | k_is | rfl | kernel_rfl)
    (case c_least_room => first | k_is | rfl | kernel_rfl)
    (case k_least_room => first | k_is | rfl | kernel_rfl)
    (case a_all_words => first | k_is | rfl | kernel_rfl)
    (case l_all_words => first | k_is | rfl | kernel_rfl)
    (case c_all_words => first | k_is | rfl | kernel_rfl)
    (case k_all_words => first | k_is | rfl | kernel_rfl)
    (case a_plain => first | k_is | rfl | kernel_rfl)
    (case l_plain => first | k_is | rfl | kernel_rfl)
    (case c_plain => first | k_is | rfl | kernel_rfl)
    (case k_plain => first | k_is | rfl | kernel_rfl)
    (case a_steady => first | k_is | rfl | kernel_rfl)
    (case l_steady => first | k_is | rfl | kernel_rfl)
    (case c_steady => first | k_is | rfl | kernel_rfl)
    (case k_steady => first | k_is | rfl | kernel_rfl)
    (case a_torn => first | k_is | rfl | kernel_rfl)
    (case l_torn => first | k_is | rfl | kernel_rfl)
    (case c_torn => first | k_is | rfl | kernel_rfl)
    (case k_torn => first | k_is | rfl | kernel_rfl)
    (case a_law => first | k_is | rfl | kernel_rfl)
    (case l_law => first | k_is | rfl | kernel_rfl)
    (case c_law => first | k_is | rfl | kernel_rfl)
    (case k_law => first | k_is | rfl | kernel_rfl)
    (case pg_Lane => first | k_is | rfl | kernel_rfl)
    (case hd_Lane => first | k_is | rfl | kernel_rfl)
    (case po_Lane => first | k_is | rfl | kernel_rfl)
    (case sa_Lane => first | k_is | rfl | kernel_rfl)
    (case mk_Lane => first | k_is | rfl | kernel_rfl)
    (case kc_Lane => first | k_is | rfl | kernel_rfl)
    (case na_room => first | k_is | rfl | kernel_rfl)
    (case na_words => first | k_is | rfl | kernel_rfl)
    (case na_put => first | k_is | rfl | kernel_rfl)
    (case na_got => first | k_is | rfl | kernel_rfl)
    (case na_seen_got => first | k_is | rfl | kernel_rfl)
    (case na_seen_put => first | k_is | rfl | kernel_rfl)
    (case na_boxes => first | k_is | rfl | kernel_rfl)
    (case na_many => first | k_is | rfl | kernel_rfl)
    (case na_fault => first | k_is | rfl | kernel_rfl)
    (case e_ga_CE => first | k_is | rfl | kernel_rfl)
    (case e_rd_CE => first | k_is | rfl | kernel_rfl)
    (case e_fi_CE => first | k_is | rfl | kernel_rfl)
    (case x1_BadWords => first | k_is | rfl | kernel_rfl)
    (case x2_BadWords => first | k_is | rfl | kernel_rfl)
    (case x3_BadWords => first | k_is | rfl | kernel_rfl)
    (case x4_BadWords => first | k_is | rfl | kernel_rfl)
    (case x5_BadWords => first | k_is | rfl | kernel_rfl)
    (case e_tI_BadWords => first | k_is | rfl | kernel_rfl)
    (case y1_BadWords => first | k_is | rfl | kernel_rfl)
    (case y2_BadWords => first | k_is | rfl | kernel_rfl)
    (case x6_BadWords => first | k_is | rfl | kernel_rfl)
    (case e_at_BadWords => first | k_is | rfl | kernel_rfl)
    (case z1_BadWords => first | k_is | rfl | kernel_rfl)
    (case z2_BadWords => first | k_is | rfl | kernel_rfl)
    (case z3_BadWords => first | k_is | rfl | kernel_rfl)
    (case z4_BadWords => first | k_is | rfl | kernel_rfl)
    (case z5_BadWords => first | k_is | rfl | kernel_rfl)
    (case e_ex_BadWords => first | k_is | rfl | kernel_rfl)
    (case e_ki_BadWords_BadNumber => first | k_is | rfl | kernel_rfl)
    (case e_ki_BadWords_BadLane => first | k_is | rfl | kernel_rfl)
    (case e_ki_BadWords_BadWords => first | k_is | rfl | kernel_rfl)
    (case e_ki_BadWords_BadEvent => first | k_is | rfl | kernel_rfl)
    (case e_kv_BadWords => first | k_is | rfl | kernel_rfl)
    (case e_xI_BadNumber => first | k_is | rfl | kernel_rfl)
    (case e_kC_BadNumber => first | k_is | rfl | kernel_rfl)
    (case e_bC_BadNumber => first | k_is | rfl | kernel_rfl)
    (case e_tC_BadNumber => first | k_is | rfl | kernel_rfl)
    (case y1_BadNumber => first | k_is | rfl | kernel_rfl)
    (case y2_BadNumber => first | k_is | rfl | kernel_rfl)
    (case x3_BadNumber => first | k_is | rfl | kernel_rfl)
    (case z1_BadNumber => first | k_is | rfl | kernel_rfl)
    (case z2_BadNumber => first | k_is | rfl | kernel_rfl)
    (case z3_BadNumber => first | k_is | rfl | kernel_rfl)
    (case z4_BadNumber => first | k_is | rfl | kernel_rfl)
    (case z5_BadNumber => first | k_is | rfl | kernel_rfl)
    (case e_ex_BadNumber => first | k_is | rfl | kernel_rfl)
    (case e_ki_BadNumber_BadNumber => first | k_is | rfl | kernel_rfl)
    (case e_ki_BadNumber_BadLane => first | k_is | rfl | kernel_rfl)
    (case e_ki_BadNumber_BadWords => first | k_is | rfl | kernel_rfl)
    (case e_ki_BadNumber_BadEvent => first | k_is | rfl | kernel_rfl)
    (case e_kv_BadNumber => first | k_is | rfl | kernel_rfl)
    (case e_xI_BadLane => first | k_is | rfl | kernel_rfl)
    (case e_kC_BadLane => first | k_is | rfl | kernel_rfl)
    (case e_bC_BadLane => first | k_is | rfl | kernel_rfl)
    (case e_tC_BadLane => first | k_is | rfl | kernel_rfl)
    (case y1_BadLane => first | k_is | rfl | kernel_rfl)
    (case y2_BadLane => first | k_is | rfl | kernel_rfl)
    (case x3_BadLane => first | k_is | rfl | kernel_rfl)
    (case z1_BadLane => first | k_is | rfl | kernel_rfl)
    (case z2_BadLane => first | k_is | rfl | kernel_rfl)
    (case z3_BadLane => first | k_is | rfl | kernel_rfl)
    (case z4_BadLane => first | k_is | rfl | kernel_rfl)
    (case z5_BadLane => first | k_is | rfl | kernel_rfl)
    (case e_ex_BadLane => first | k_is | rfl | kernel_rfl)
    (case e_ki_BadLane_BadNumber => first | k_is | rfl | kernel_rfl)
    (case e_ki_BadLane_BadLane => first | k_is | rfl | kernel_rfl)
    (case e_ki_BadLane_BadWords => first | k_is | rfl | kernel_rfl)
    (case e_ki_BadLane_BadEvent => first | k_is | rfl | kernel_rfl)
    (case e_kv_BadLane => first | k_is | rfl | kernel_rfl)
    (case z_ValueError => first | k_is | rfl | kernel_rfl)
    (case z_abs => first | k_is | rfl | kernel_rfl)
    (case z_all => first | k_is | rfl | kernel_rfl)
    (case z_bool => first | k_is | rfl | kernel_rfl)
    (case z_enumerate => first | k_is | rfl | kernel_rfl)
    (case z_int => first | k_is | rfl | kernel_rfl)
    (case z_isinstance => first | k_is | rfl | kernel_rfl)
    (case z_len => first | k_is | rfl | kernel_rfl)
    (case z_list => first | k_is | rfl | kernel_rfl)
    (case z_max => first | k_is | rfl | kernel_rfl)
    (case z_min => first | k_is | rfl | kernel_rfl)
    (case z_range => first | k_is | rfl | kernel_rfl)
    (case z_set => first | k_is | rfl | kernel_rfl)
    (case z_sorted => first | k_is | rfl | kernel_rfl)
    (case z_str => first | k_is | rfl | kernel_rfl)
    (case z_tuple => first | k_is | rfl | kernel_rfl)
    (case n_MARKS => first | k_is | rfl | kernel_rfl)
    (case l_MARKS => first | k_is | rfl | kernel_rfl)
    (case n_MOST_EVENTS => first | k_is | rfl | kernel_rfl)
    (case n_MOST_LATE => first | k_is | rfl | kernel_rfl)
    (case n_MOST_ROOM => first | k_is | rfl | kernel_rfl)
    (case n_MOST_STEADY => first | k_is | rfl | kernel_rfl)
    (case n_MOST_WIDE => first | k_is | rfl | kernel_rfl)
    (case n_MOST_WORDS => first | k_is | rfl | kernel_rfl)
    (case n_OVER => first | k_is | rfl | kernel_rfl)
    (case n_UNDER => first | k_is | rfl | kernel_rfl)
    (case lc_law => first | k_is | rfl | kernel_rfl)
    (case v_law => first | k_is | rfl | kernel_rfl)
    (case np_law => first | k_is | rfl | kernel_rfl)
    (case ch_law => first | k_is | rfl | kernel_rfl)
#print axioms PySem.Challenge.cw_crossbeat_k01_what_is_none_holds
