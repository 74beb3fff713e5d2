import PyProof.Rows.All
import Wide.All
import OpenK.AllK
import Wide.FinOn
import HandS.ForMost
import HandS.Evl
import HandS.Style
import HandS.IsInst
import HandS.Strs
import HandS.Set
import PyProof.Rows.SetFrom
import HandS.Walk
import HandS.Conv
import KE.KDictDisplayH
import KE.KAssignIn
import PySem.Challenge.RW_crossbeat_k11_asked_again
set_option Elab.async false
set_option linter.all false
set_option maxRecDepth 100000
set_option maxHeartbeats 4000000
namespace G
open PySem L2 Evl
def topS (i : Nat) : Stmt := PySem.Challenge.pw_crossbeat_k11_asked_again.main.body.getD i (.Pass ⟨0, 0, 0, 0⟩)
abbrev s_l_alike : Stmt := topS 41
theorem sc_l_alike : FnScope ["_law_found", "_law_due", "_law_k"] ["_law_found", "_law_due"] (defScope s_l_alike) := ⟨rfl, rfl, rfl, by decide +kernel, rfl, by decide +kernel, by decide +kernel⟩
abbrev s_mirrored : Stmt := topS 15
theorem sc_mirrored : FnScope ["wide", "found", "turn", "word"] ["wide"] (defScope s_mirrored) := ⟨rfl, rfl, rfl, by decide +kernel, rfl, by decide +kernel, by decide +kernel⟩
abbrev s_cut : Stmt := topS 17
theorem sc_cut : FnScope ["many", "wide", "every"] ["many"] (defScope s_cut) := ⟨rfl, rfl, rfl, by decide +kernel, rfl, by decide +kernel, by decide +kernel⟩
abbrev s_Lane___init__ : Stmt := inClass (topS 27) 0
theorem sc_Lane___init__ : FnScope ["self", "room", "words", "box"] ["self", "room", "words"] (defScope s_Lane___init__) := ⟨rfl, rfl, rfl, by decide +kernel, rfl, by decide +kernel, by decide +kernel⟩
abbrev s_Lane_behind : Stmt := inClass (topS 27) 4
theorem sc_Lane_behind : FnScope ["self", "place"] ["self", "place"] (defScope s_Lane_behind) := ⟨rfl, rfl, rfl, by decide +kernel, rfl, by decide +kernel, by decide +kernel⟩
abbrev s_Lane_can_get : Stmt := inClass (topS 27) 7
theorem sc_Lane_can_get : FnScope ["self"] ["self"] (defScope s_Lane_can_get) := ⟨rfl, rfl, rfl, by decide +kernel, rfl, by decide +kernel, by decide +kernel⟩
abbrev s_Lane_inside : Stmt := inClass (topS 27) 3
theorem sc_Lane_inside : FnScope ["self"] ["self"] (defScope s_Lane_inside) := ⟨rfl, rfl, rfl, by decide +kernel, rfl, by decide +kernel, by decide +kernel⟩
abbrev s_Lane_place_of : Stmt := inClass (topS 27) 5
theorem sc_Lane_place_of : FnScope ["self", "word", "ahead"] ["self", "word", "ahead"] (defScope s_Lane_place_of) := ⟨rfl, rfl, rfl, by decide +kernel, rfl, by decide +kernel, by decide +kernel⟩
abbrev s_Lane_do_get : Stmt := inClass (topS 27) 10
theorem sc_Lane_do_get : FnScope ["self", "seen", "found"] ["self", "seen"] (defScope s_Lane_do_get) := ⟨rfl, rfl, rfl, by decide +kernel, rfl, by decide +kernel, by decide +kernel⟩
abbrev s_Lane_can_put : Stmt := inClass (topS 27) 6
theorem sc_Lane_can_put : FnScope ["self"] ["self"] (defScope s_Lane_can_put) := ⟨rfl, rfl, rfl, by decide +kernel, rfl, by decide +kernel, by decide +kernel⟩
abbrev s_Lane_do_put : Stmt := inClass (topS 27) 9
theorem sc_Lane_do_put : FnScope ["self", "seen", "found"] ["self", "seen"] (defScope s_Lane_do_put) := ⟨rfl, rfl, rfl, by decide +kernel, rfl, by decide +kernel, by decide +kernel⟩
abbrev s_Lane_do : Stmt := inClass (topS 27) 11
theorem sc_Lane_do : FnScope ["self", "event"] ["self", "event"] (defScope s_Lane_do) := ⟨rfl, rfl, rfl, by decide +kernel, rfl, by decide +kernel, by decide +kernel⟩
abbrev s_Lane_turns : Stmt := inClass (topS 27) 8
theorem sc_Lane_turns : FnScope ["self", "word", "here", "goes"] ["self", "word"] (defScope s_Lane_turns) := ⟨rfl, rfl, rfl, by decide +kernel, rfl, by decide +kernel, by decide +kernel⟩
abbrev s_seen_of : Stmt := topS 18
theorem sc_seen_of : FnScope ["one", "other", "found", "at", "marks", "longer", "word", "mark"] ["one", "other"] (defScope s_seen_of) := ⟨rfl, rfl, rfl, by decide +kernel, rfl, by decide +kernel, by decide +kernel⟩
abbrev s_Lane_events : Stmt := inClass (topS 27) 13
theorem sc_Lane_events : FnScope ["self", "found", "word", "one", "other", "seen"] ["self"] (defScope s_Lane_events) := ⟨rfl, rfl, rfl, by decide +kernel, rfl, by decide +kernel, by decide +kernel⟩
abbrev s_Lane_stand : Stmt := inClass (topS 27) 2
theorem sc_Lane_stand : FnScope ["self", "state"] ["self", "state"] (defScope s_Lane_stand) := ⟨rfl, rfl, rfl, by decide +kernel, rfl, by decide +kernel, by decide +kernel⟩
abbrev s_Lane_state : Stmt := inClass (topS 27) 1
theorem sc_Lane_state : FnScope ["self"] ["self"] (defScope s_Lane_state) := ⟨rfl, rfl, rfl, by decide +kernel, rfl, by decide +kernel, by decide +kernel⟩
abbrev s_is_word : Stmt := topS 11
theorem sc_is_word : FnScope ["word", "mark"] ["word"] (defScope s_is_word) := ⟨rfl, rfl, rfl, by decide +kernel, rfl, by decide +kernel, by decide +kernel⟩
abbrev s_need_words : Stmt := topS 12
theorem sc_need_words : FnScope ["words", "at", "word"] ["words"] (defScope s_need_words) := ⟨rfl, rfl, rfl, by decide +kernel, rfl, by decide +kernel, by decide +kernel⟩
abbrev s_need_lane : Stmt := topS 26
theorem sc_need_lane : FnScope ["lane", "room", "words"] ["lane"] (defScope s_need_lane) := ⟨rfl, rfl, rfl, by decide +kernel, rfl, by decide +kernel, by decide +kernel⟩
abbrev s_fault : Stmt := topS 30
theorem sc_fault : FnScope ["lane", "here", "met", "level", "behind", "state", "event"] ["lane"] (defScope s_fault) := ⟨rfl, rfl, rfl, by decide +kernel, rfl, by decide +kernel, by decide +kernel⟩
abbrev s_first_torn : Stmt := topS 20
theorem sc_first_torn : FnScope ["words", "at", "both", "others", "word"] ["words"] (defScope s_first_torn) := ⟨rfl, rfl, rfl, by decide +kernel, rfl, by decide +kernel, by decide +kernel⟩
abbrev s_Lane_may : Stmt := inClass (topS 27) 12
theorem sc_Lane_may : FnScope ["self", "event", "one", "other"] ["self", "event"] (defScope s_Lane_may) := ⟨rfl, rfl, rfl, by decide +kernel, rfl, by decide +kernel, by decide +kernel⟩
abbrev s_played : Stmt := topS 28
theorem sc_played : FnScope ["lane", "events", "here", "found", "at", "event"] ["lane", "events"] (defScope s_played) := ⟨rfl, rfl, rfl, by decide +kernel, rfl, by decide +kernel, by decide +kernel⟩
abbrev s_got : Stmt := topS 29
theorem sc_got : FnScope ["lane", "events", "told", "at"] ["lane", "events"] (defScope s_got) := ⟨rfl, rfl, rfl, by decide +kernel, rfl, by decide +kernel, by decide +kernel⟩
abbrev s_need_wide : Stmt := topS 10
theorem sc_need_wide : FnScope ["wide"] ["wide"] (defScope s_need_wide) := ⟨rfl, rfl, rfl, by decide +kernel, rfl, by decide +kernel, by decide +kernel⟩
abbrev s_gray : Stmt := topS 16
theorem sc_gray : FnScope ["wide"] ["wide"] (defScope s_gray) := ⟨rfl, rfl, rfl, by decide +kernel, rfl, by decide +kernel, by decide +kernel⟩
abbrev s_gone_through : Stmt := topS 35
theorem sc_gone_through : FnScope ["room", "one", "other", "many", "puts", "gets", "met", "moment", "base", "key", "number", "begin", "put", "goes_in", "goes_out"] ["room", "one", "other"] (defScope s_gone_through) := ⟨rfl, rfl, rfl, by decide +kernel, rfl, by decide +kernel, by decide +kernel⟩
abbrev s_need_late : Stmt := topS 34
theorem sc_need_late : FnScope ["one", "other"] ["one", "other"] (defScope s_need_late) := ⟨rfl, rfl, rfl, by decide +kernel, rfl, by decide +kernel, by decide +kernel⟩
abbrev s_least_room : Stmt := topS 37
theorem sc_least_room : FnScope ["one", "other", "room", "begin", "beats", "letters"] ["one", "other"] (defScope s_least_room) := ⟨rfl, rfl, rfl, by decide +kernel, rfl, by decide +kernel, by decide +kernel⟩
abbrev s_all_words : Stmt := topS 13
theorem sc_all_words : FnScope ["wide", "found", "turn", "word"] ["wide"] (defScope s_all_words) := ⟨rfl, rfl, rfl, by decide +kernel, rfl, by decide +kernel, by decide +kernel⟩
abbrev s_plain : Stmt := topS 14
theorem sc_plain : FnScope ["wide"] ["wide"] (defScope s_plain) := ⟨rfl, rfl, rfl, by decide +kernel, rfl, by decide +kernel, by decide +kernel⟩
abbrev s_steady : Stmt := topS 36
theorem sc_steady : FnScope ["room", "one", "other"] ["room", "one", "other"] (defScope s_steady) := ⟨rfl, rfl, rfl, by decide +kernel, rfl, by decide +kernel, by decide +kernel⟩
abbrev s_torn : Stmt := topS 19
theorem sc_torn : FnScope ["one", "other"] ["one", "other"] (defScope s_torn) := ⟨rfl, rfl, rfl, by decide +kernel, rfl, by decide +kernel, by decide +kernel⟩
abbrev s_l_asked : Stmt := topS 53
theorem sc_l_asked : FnScope ["_law_kind", "_law_room", "_law_words_here", "_law_events_here", "_law_broken"] ["_law_kind", "_law_room", "_law_words_here", "_law_events_here"] (defScope s_l_asked) := ⟨rfl, rfl, rfl, by decide +kernel, rfl, by decide +kernel, by decide +kernel⟩
abbrev s_l_dice : Stmt := topS 39
theorem sc_l_dice : FnScope ["_law_script", "_law_k", "_law_found", "_law_cell"] ["_law_script", "_law_k"] (defScope s_l_dice) := ⟨rfl, rfl, rfl, by decide +kernel, rfl, by decide +kernel, by decide +kernel⟩
abbrev s_l_begun : Stmt := topS 48
theorem sc_l_begun : FnScope [] [] (defScope s_l_begun) := ⟨rfl, rfl, rfl, by decide +kernel, rfl, by decide +kernel, by decide +kernel⟩
abbrev s_l_plain : Stmt := topS 43
theorem sc_l_plain : FnScope ["_law_wide", "_law_found", "_law_number", "_law_word", "_law_at"] ["_law_wide"] (defScope s_l_plain) := ⟨rfl, rfl, rfl, by decide +kernel, rfl, by decide +kernel, by decide +kernel⟩
abbrev s_l_seen : Stmt := topS 45
theorem sc_l_seen : FnScope ["_law_one", "_law_other", "_law_found", "_law_word", "_law_at"] ["_law_one", "_law_other"] (defScope s_l_seen) := ⟨rfl, rfl, rfl, by decide +kernel, rfl, by decide +kernel, by decide +kernel⟩
abbrev s_l_turn : Stmt := topS 49
theorem sc_l_turn : FnScope ["_law_lane_here", "_law_s", "_law_word", "_law_room", "_law_words_here", "_law_round_of", "_law_here", "_law_goes", "_law_other"] ["_law_lane_here", "_law_s", "_law_word"] (defScope s_l_turn) := ⟨rfl, rfl, rfl, by decide +kernel, rfl, by decide +kernel, by decide +kernel⟩
abbrev s_l_can : Stmt := topS 50
theorem sc_l_can : FnScope ["_law_lane_here", "_law_s", "_law_found", "_law_word", "_law_seen_here"] ["_law_lane_here", "_law_s"] (defScope s_l_can) := ⟨rfl, rfl, rfl, by decide +kernel, rfl, by decide +kernel, by decide +kernel⟩
abbrev s_l_do : Stmt := topS 51
theorem sc_l_do : FnScope ["_law_lane_here", "_law_s", "_law_event", "_law_room", "_law_words_here", "_law_goes", "_law_inside", "_law_found", "_law_key"] ["_law_lane_here", "_law_s", "_law_event"] (defScope s_l_do) := ⟨rfl, rfl, rfl, by decide +kernel, rfl, by decide +kernel, by decide +kernel⟩
abbrev s_l_off : Stmt := topS 40
theorem sc_l_off : FnScope ["_law_d", "_law_most", "_law_found"] ["_law_d", "_law_most"] (defScope s_l_off) := ⟨rfl, rfl, rfl, by decide +kernel, rfl, by decide +kernel, by decide +kernel⟩
abbrev s_l_events : Stmt := topS 52
theorem sc_l_events : FnScope ["_law_d", "_law_lane_here", "_law_most", "_law_s", "_law_events_here", "_law_told", "_law_turn_here", "_law_some", "_law_event"] ["_law_d", "_law_lane_here", "_law_most"] (defScope s_l_events) := ⟨rfl, rfl, rfl, by decide +kernel, rfl, by decide +kernel, by decide +kernel⟩
abbrev s_l_gray : Stmt := topS 44
theorem sc_l_gray : FnScope ["_law_wide", "_law_found", "_law_word", "_law_marks", "_law_at"] ["_law_wide"] (defScope s_l_gray) := ⟨rfl, rfl, rfl, by decide +kernel, rfl, by decide +kernel, by decide +kernel⟩
abbrev s_l_mixed : Stmt := topS 42
theorem sc_l_mixed : FnScope ["_law_d", "_law_row", "_law_left", "_law_found"] ["_law_d", "_law_row"] (defScope s_l_mixed) := ⟨rfl, rfl, rfl, by decide +kernel, rfl, by decide +kernel, by decide +kernel⟩
abbrev s_l_words : Stmt := topS 46
theorem sc_l_words : FnScope ["_law_d", "_law_room", "_law_wide", "_law_every", "_law_words_here", "_law_kind", "_law_at", "_law_by", "_law_k", "_law_order", "_law_turn_here", "_law_found", "_law_word", "_law_marks", "_law_mark"] ["_law_d", "_law_room"] (defScope s_l_words) := ⟨rfl, rfl, rfl, by decide +kernel, rfl, by decide +kernel, by decide +kernel⟩
abbrev s_l_lane : Stmt := topS 47
theorem sc_l_lane : FnScope ["_law_d", "_law_room"] ["_law_d"] (defScope s_l_lane) := ⟨rfl, rfl, rfl, by decide +kernel, rfl, by decide +kernel, by decide +kernel⟩
abbrev s_law : Stmt := topS 54
theorem sc_law : FnScope ["_law_script", "_law_d", "_law_cases", "_law_k", "_law_lane_here", "_law_kept", "_law_room", "_law_words_here", "_law_events_here", "_law_kind", "_law_told", "_law_part", "_law_turn_here", "_law_handed"] ["_law_script"] (defScope s_law) := ⟨rfl, rfl, rfl, by decide +kernel, rfl, by decide +kernel, by decide +kernel⟩
structure TX (K : PySem.W.Frag) (mg : Str → Option Value) where
  f_l_alike : Addr
  fd_l_alike : FuncData
  F_l_alike : Fun K "_law_alike" "_law_alike" s_l_alike f_l_alike fd_l_alike
  b_l_alike : Binds K fd_l_alike ["_law_found", "_law_due"] []
  g_l_alike : mg "_law_alike" = some (.ref f_l_alike)
  f_mirrored : Addr
  fd_mirrored : FuncData
  F_mirrored : Fun K "mirrored" "mirrored" s_mirrored f_mirrored fd_mirrored
  b_mirrored : Binds K fd_mirrored ["wide"] []
  g_mirrored : mg "mirrored" = some (.ref f_mirrored)
  f_cut : Addr
  fd_cut : FuncData
  F_cut : Fun K "cut" "cut" s_cut f_cut fd_cut
  b_cut : Binds K fd_cut ["many"] []
  g_cut : mg "cut" = some (.ref f_cut)
  f_Lane___init__ : Addr
  fd_Lane___init__ : FuncData
  F_Lane___init__ : Fun K "__init__" "Lane.__init__" s_Lane___init__ f_Lane___init__ fd_Lane___init__
  b_Lane___init__ : Binds K fd_Lane___init__ ["self", "room", "words"] []
  f_Lane_behind : Addr
  fd_Lane_behind : FuncData
  F_Lane_behind : Fun K "behind" "Lane.behind" s_Lane_behind f_Lane_behind fd_Lane_behind
  b_Lane_behind : Binds K fd_Lane_behind ["self", "place"] []
  f_Lane_can_get : Addr
  fd_Lane_can_get : FuncData
  F_Lane_can_get : Fun K "can_get" "Lane.can_get" s_Lane_can_get f_Lane_can_get fd_Lane_can_get
  b_Lane_can_get : Binds K fd_Lane_can_get ["self"] []
  f_Lane_inside : Addr
  fd_Lane_inside : FuncData
  F_Lane_inside : Fun K "inside" "Lane.inside" s_Lane_inside f_Lane_inside fd_Lane_inside
  b_Lane_inside : Binds K fd_Lane_inside ["self"] []
  f_Lane_place_of : Addr
  fd_Lane_place_of : FuncData
  F_Lane_place_of : Fun K "place_of" "Lane.place_of" s_Lane_place_of f_Lane_place_of fd_Lane_place_of
  b_Lane_place_of : Binds K fd_Lane_place_of ["self", "word", "ahead"] []
  f_Lane_do_get : Addr
  fd_Lane_do_get : FuncData
  F_Lane_do_get : Fun K "do_get" "Lane.do_get" s_Lane_do_get f_Lane_do_get fd_Lane_do_get
  b_Lane_do_get : Binds K fd_Lane_do_get ["self", "seen"] []
  f_Lane_can_put : Addr
  fd_Lane_can_put : FuncData
  F_Lane_can_put : Fun K "can_put" "Lane.can_put" s_Lane_can_put f_Lane_can_put fd_Lane_can_put
  b_Lane_can_put : Binds K fd_Lane_can_put ["self"] []
  f_Lane_do_put : Addr
  fd_Lane_do_put : FuncData
  F_Lane_do_put : Fun K "do_put" "Lane.do_put" s_Lane_do_put f_Lane_do_put fd_Lane_do_put
  b_Lane_do_put : Binds K fd_Lane_do_put ["self", "seen"] []
  f_Lane_do : Addr
  fd_Lane_do : FuncData
  F_Lane_do : Fun K "do" "Lane.do" s_Lane_do f_Lane_do fd_Lane_do
  b_Lane_do : Binds K fd_Lane_do ["self", "event"] []
  f_Lane_turns : Addr
  fd_Lane_turns : FuncData
  F_Lane_turns : Fun K "turns" "Lane.turns" s_Lane_turns f_Lane_turns fd_Lane_turns
  b_Lane_turns : Binds K fd_Lane_turns ["self", "word"] []
  f_seen_of : Addr
  fd_seen_of : FuncData
  F_seen_of : Fun K "seen_of" "seen_of" s_seen_of f_seen_of fd_seen_of
  b_seen_of : Binds K fd_seen_of ["one", "other"] []
  g_seen_of : mg "seen_of" = some (.ref f_seen_of)
  f_Lane_events : Addr
  fd_Lane_events : FuncData
  F_Lane_events : Fun K "events" "Lane.events" s_Lane_events f_Lane_events fd_Lane_events
  b_Lane_events : Binds K fd_Lane_events ["self"] []
  f_Lane_stand : Addr
  fd_Lane_stand : FuncData
  F_Lane_stand : Fun K "stand" "Lane.stand" s_Lane_stand f_Lane_stand fd_Lane_stand
  b_Lane_stand : Binds K fd_Lane_stand ["self", "state"] []
  f_Lane_state : Addr
  fd_Lane_state : FuncData
  F_Lane_state : Fun K "state" "Lane.state" s_Lane_state f_Lane_state fd_Lane_state
  b_Lane_state : Binds K fd_Lane_state ["self"] []
  f_is_word : Addr
  fd_is_word : FuncData
  F_is_word : Fun K "is_word" "is_word" s_is_word f_is_word fd_is_word
  b_is_word : Binds K fd_is_word ["word"] []
  g_is_word : mg "is_word" = some (.ref f_is_word)
  f_need_words : Addr
  fd_need_words : FuncData
  F_need_words : Fun K "need_words" "need_words" s_need_words f_need_words fd_need_words
  b_need_words : Binds K fd_need_words ["words"] []
  g_need_words : mg "need_words" = some (.ref f_need_words)
  f_need_lane : Addr
  fd_need_lane : FuncData
  F_need_lane : Fun K "need_lane" "need_lane" s_need_lane f_need_lane fd_need_lane
  b_need_lane : Binds K fd_need_lane ["lane"] []
  g_need_lane : mg "need_lane" = some (.ref f_need_lane)
  f_fault : Addr
  fd_fault : FuncData
  F_fault : Fun K "fault" "fault" s_fault f_fault fd_fault
  b_fault : Binds K fd_fault ["lane"] []
  g_fault : mg "fault" = some (.ref f_fault)
  f_first_torn : Addr
  fd_first_torn : FuncData
  F_first_torn : Fun K "first_torn" "first_torn" s_first_torn f_first_torn fd_first_torn
  b_first_torn : Binds K fd_first_torn ["words"] []
  g_first_torn : mg "first_torn" = some (.ref f_first_torn)
  f_Lane_may : Addr
  fd_Lane_may : FuncData
  F_Lane_may : Fun K "may" "Lane.may" s_Lane_may f_Lane_may fd_Lane_may
  b_Lane_may : Binds K fd_Lane_may ["self", "event"] []
  f_played : Addr
  fd_played : FuncData
  F_played : Fun K "played" "played" s_played f_played fd_played
  b_played : Binds K fd_played ["lane", "events"] []
  g_played : mg "played" = some (.ref f_played)
  f_got : Addr
  fd_got : FuncData
  F_got : Fun K "got" "got" s_got f_got fd_got
  b_got : Binds K fd_got ["lane", "events"] []
  g_got : mg "got" = some (.ref f_got)
  f_need_wide : Addr
  fd_need_wide : FuncData
  F_need_wide : Fun K "need_wide" "need_wide" s_need_wide f_need_wide fd_need_wide
  b_need_wide : Binds K fd_need_wide ["wide"] []
  g_need_wide : mg "need_wide" = some (.ref f_need_wide)
  f_gray : Addr
  fd_gray : FuncData
  F_gray : Fun K "gray" "gray" s_gray f_gray fd_gray
  b_gray : Binds K fd_gray ["wide"] []
  g_gray : mg "gray" = some (.ref f_gray)
  f_gone_through : Addr
  fd_gone_through : FuncData
  F_gone_through : Fun K "gone_through" "gone_through" s_gone_through f_gone_through fd_gone_through
  b_gone_through : Binds K fd_gone_through ["room", "one", "other"] []
  g_gone_through : mg "gone_through" = some (.ref f_gone_through)
  f_need_late : Addr
  fd_need_late : FuncData
  F_need_late : Fun K "need_late" "need_late" s_need_late f_need_late fd_need_late
  b_need_late : Binds K fd_need_late ["one", "other"] []
  g_need_late : mg "need_late" = some (.ref f_need_late)
  f_least_room : Addr
  fd_least_room : FuncData
  F_least_room : Fun K "least_room" "least_room" s_least_room f_least_room fd_least_room
  b_least_room : Binds K fd_least_room ["one", "other"] []
  g_least_room : mg "least_room" = some (.ref f_least_room)
  f_all_words : Addr
  fd_all_words : FuncData
  F_all_words : Fun K "all_words" "all_words" s_all_words f_all_words fd_all_words
  b_all_words : Binds K fd_all_words ["wide"] []
  g_all_words : mg "all_words" = some (.ref f_all_words)
  f_plain : Addr
  fd_plain : FuncData
  F_plain : Fun K "plain" "plain" s_plain f_plain fd_plain
  b_plain : Binds K fd_plain ["wide"] []
  g_plain : mg "plain" = some (.ref f_plain)
  f_steady : Addr
  fd_steady : FuncData
  F_steady : Fun K "steady" "steady" s_steady f_steady fd_steady
  b_steady : Binds K fd_steady ["room", "one", "other"] []
  g_steady : mg "steady" = some (.ref f_steady)
  f_torn : Addr
  fd_torn : FuncData
  F_torn : Fun K "torn" "torn" s_torn f_torn fd_torn
  b_torn : Binds K fd_torn ["one", "other"] []
  g_torn : mg "torn" = some (.ref f_torn)
  f_l_asked : Addr
  fd_l_asked : FuncData
  F_l_asked : Fun K "_law_asked" "_law_asked" s_l_asked f_l_asked fd_l_asked
  b_l_asked : Binds K fd_l_asked ["_law_kind", "_law_room", "_law_words_here", "_law_events_here"] []
  g_l_asked : mg "_law_asked" = some (.ref f_l_asked)
  f_l_dice : Addr
  fd_l_dice : FuncData
  F_l_dice : Fun K "_law_dice" "_law_dice" s_l_dice f_l_dice fd_l_dice
  b_l_dice : Binds K fd_l_dice ["_law_script", "_law_k"] []
  g_l_dice : mg "_law_dice" = some (.ref f_l_dice)
  f_l_begun : Addr
  fd_l_begun : FuncData
  F_l_begun : Fun K "_law_begun" "_law_begun" s_l_begun f_l_begun fd_l_begun
  b_l_begun : Binds K fd_l_begun [] []
  g_l_begun : mg "_law_begun" = some (.ref f_l_begun)
  f_l_plain : Addr
  fd_l_plain : FuncData
  F_l_plain : Fun K "_law_plain" "_law_plain" s_l_plain f_l_plain fd_l_plain
  b_l_plain : Binds K fd_l_plain ["_law_wide"] []
  g_l_plain : mg "_law_plain" = some (.ref f_l_plain)
  f_l_seen : Addr
  fd_l_seen : FuncData
  F_l_seen : Fun K "_law_seen" "_law_seen" s_l_seen f_l_seen fd_l_seen
  b_l_seen : Binds K fd_l_seen ["_law_one", "_law_other"] []
  g_l_seen : mg "_law_seen" = some (.ref f_l_seen)
  f_l_turn : Addr
  fd_l_turn : FuncData
  F_l_turn : Fun K "_law_turn" "_law_turn" s_l_turn f_l_turn fd_l_turn
  b_l_turn : Binds K fd_l_turn ["_law_lane_here", "_law_s", "_law_word"] []
  g_l_turn : mg "_law_turn" = some (.ref f_l_turn)
  f_l_can : Addr
  fd_l_can : FuncData
  F_l_can : Fun K "_law_can" "_law_can" s_l_can f_l_can fd_l_can
  b_l_can : Binds K fd_l_can ["_law_lane_here", "_law_s"] []
  g_l_can : mg "_law_can" = some (.ref f_l_can)
  f_l_do : Addr
  fd_l_do : FuncData
  F_l_do : Fun K "_law_do" "_law_do" s_l_do f_l_do fd_l_do
  b_l_do : Binds K fd_l_do ["_law_lane_here", "_law_s", "_law_event"] []
  g_l_do : mg "_law_do" = some (.ref f_l_do)
  f_l_off : Addr
  fd_l_off : FuncData
  F_l_off : Fun K "_law_off" "_law_off" s_l_off f_l_off fd_l_off
  b_l_off : Binds K fd_l_off ["_law_d", "_law_most"] []
  g_l_off : mg "_law_off" = some (.ref f_l_off)
  f_l_events : Addr
  fd_l_events : FuncData
  F_l_events : Fun K "_law_events" "_law_events" s_l_events f_l_events fd_l_events
  b_l_events : Binds K fd_l_events ["_law_d", "_law_lane_here", "_law_most"] []
  g_l_events : mg "_law_events" = some (.ref f_l_events)
  f_l_gray : Addr
  fd_l_gray : FuncData
  F_l_gray : Fun K "_law_gray" "_law_gray" s_l_gray f_l_gray fd_l_gray
  b_l_gray : Binds K fd_l_gray ["_law_wide"] []
  g_l_gray : mg "_law_gray" = some (.ref f_l_gray)
  f_l_mixed : Addr
  fd_l_mixed : FuncData
  F_l_mixed : Fun K "_law_mixed" "_law_mixed" s_l_mixed f_l_mixed fd_l_mixed
  b_l_mixed : Binds K fd_l_mixed ["_law_d", "_law_row"] []
  g_l_mixed : mg "_law_mixed" = some (.ref f_l_mixed)
  f_l_words : Addr
  fd_l_words : FuncData
  F_l_words : Fun K "_law_words" "_law_words" s_l_words f_l_words fd_l_words
  b_l_words : Binds K fd_l_words ["_law_d", "_law_room"] []
  g_l_words : mg "_law_words" = some (.ref f_l_words)
  f_l_lane : Addr
  fd_l_lane : FuncData
  F_l_lane : Fun K "_law_lane" "_law_lane" s_l_lane f_l_lane fd_l_lane
  b_l_lane : Binds K fd_l_lane ["_law_d"] []
  g_l_lane : mg "_law_lane" = some (.ref f_l_lane)
  f_law : Addr
  fd_law : FuncData
  F_law : Fun K "law" "law" s_law f_law fd_law
  b_law : Binds K fd_law ["_law_script"] []
  g_law : mg "law" = some (.ref f_law)
  C_Lane : Addr
  cl_Lane : Cls K C_Lane
  g_Lane : mg "Lane" = some (.ref C_Lane)
  mk_Lane : Mk K C_Lane f_Lane___init__
  na_room : NoAttr K C_Lane "room"
  na_words : NoAttr K C_Lane "words"
  na_put : NoAttr K C_Lane "put"
  na_got : NoAttr K C_Lane "got"
  na_seen_got : NoAttr K C_Lane "seen_got"
  na_seen_put : NoAttr K C_Lane "seen_put"
  na_boxes : NoAttr K C_Lane "boxes"
  na_many : NoAttr K C_Lane "many"
  na_fault : NoAttr K C_Lane "fault"
  m_Lane_behind : Meth K C_Lane "behind" f_Lane_behind
  m_Lane_can_get : Meth K C_Lane "can_get" f_Lane_can_get
  m_Lane_inside : Meth K C_Lane "inside" f_Lane_inside
  m_Lane_place_of : Meth K C_Lane "place_of" f_Lane_place_of
  m_Lane_do_get : Meth K C_Lane "do_get" f_Lane_do_get
  m_Lane_can_put : Meth K C_Lane "can_put" f_Lane_can_put
  m_Lane_do_put : Meth K C_Lane "do_put" f_Lane_do_put
  m_Lane_do : Meth K C_Lane "do" f_Lane_do
  m_Lane_turns : Meth K C_Lane "turns" f_Lane_turns
  m_Lane_events : Meth K C_Lane "events" f_Lane_events
  m_Lane_stand : Meth K C_Lane "stand" f_Lane_stand
  m_Lane_state : Meth K C_Lane "state" f_Lane_state
  m_Lane_may : Meth K C_Lane "may" f_Lane_may
  z_abs : mg "abs" = none
  z_all : mg "all" = none
  z_bool : mg "bool" = none
  z_enumerate : mg "enumerate" = none
  z_int : mg "int" = none
  z_isinstance : mg "isinstance" = none
  z_len : mg "len" = none
  z_list : mg "list" = none
  z_max : mg "max" = none
  z_min : mg "min" = none
  z_range : mg "range" = none
  z_set : mg "set" = none
  z_sorted : mg "sorted" = none
  z_str : mg "str" = none
  z_tuple : mg "tuple" = none
  a_MARKS : Addr
  c_MARKS : mg "MARKS" = some (.ref a_MARKS)
  m_MARKS : ∀ H, SqT K H a_MARKS [.str "0", .str "1"]
  t_MOST_EVENTS : Tok
  c_MOST_EVENTS : mg "MOST_EVENTS" = some (.int 100 t_MOST_EVENTS)
  t_MOST_LATE : Tok
  c_MOST_LATE : mg "MOST_LATE" = some (.int 6 t_MOST_LATE)
  t_MOST_ROOM : Tok
  c_MOST_ROOM : mg "MOST_ROOM" = some (.int 6 t_MOST_ROOM)
  t_MOST_STEADY : Tok
  c_MOST_STEADY : mg "MOST_STEADY" = some (.int 20 t_MOST_STEADY)
  t_MOST_WIDE : Tok
  c_MOST_WIDE : mg "MOST_WIDE" = some (.int 4 t_MOST_WIDE)
  t_MOST_WORDS : Tok
  c_MOST_WORDS : mg "MOST_WORDS" = some (.int 16 t_MOST_WORDS)
  t_OVER : Tok
  c_OVER : mg "OVER" = some (.str "over" t_OVER)
  t_UNDER : Tok
  c_UNDER : mg "UNDER" = some (.str "under" t_UNDER)
/-! ### heaps -/
/-- all but d stays -/
def Exd (d : Addr) (H H' : Hp) : Prop := ∀ a o, H a = some o → a ≠ d → H' a = some o
theorem Exd.refl (d : Addr) (H : Hp) : Exd d H H := fun _ _ h _ => h
theorem Exd.trans {d : Addr} {H H1 H2 : Hp} (a : Exd d H H1) (b : Exd d H1 H2) : Exd d H H2 := fun x o h n => b x o (a x o h n) n
theorem Exd.of {d : Addr} {H H1 : Hp} (a : Ex H H1) : Exd d H H1 := fun x o h _ => a x o h
theorem Exd.upd {d : Addr} {H H1 : Hp} {o : HO} (a : Exd d H H1) : Exd d H (L2.upd H1 d o) := fun x o h n => by
  rw [upd_ne n]
  exact a x o h n
theorem ifP {c A B : Prop} [Decidable c] (h : c) (k : A) : if c then A else B := by
  rw [if_pos h]
  exact k
theorem ifN {c A B : Prop} [Decidable c] (h : ¬ c) (k : B) : if c then A else B := by
  rw [if_neg h]
  exact k
theorem evt_use {tt : TT} {σ : L2.St} {H : Hp} {b : Bool} {Q : Bool → Hp → Prop} (h : EvT tt σ H b) (k : ∀ H2, Ex H H2 → Q b H2) : tt σ H Q := h H (Ex.refl H) Q k
theorem lo62 (n : Nat) : -(2 ^ 62 : Int) ≤ (n : Int) := by omega
theorem hi62 {n : Nat} (h : n ≤ 1000) : (n : Int) < 2 ^ 62 := by omega
theorem ats {α : Type} {xs : List α} {z : Int} {j : Nat} {v : α} (e : z = (j : Int)) (h : xs[j]? = some v) : atI xs z = some v := by
  rw [e]
  exact atI_nat h
/-- the dice: two numbers and the great ones that are left -/
def Dice (H : Hp) (d : Addr) : Prop := ∃ (s c : Int) (r : List Int), H d = some (.lst ((s :: c :: r).map V.int)) ∧ 0 ≤ s ∧ s < 2147483647 ∧ 0 ≤ c ∧ ∀ x ∈ r, 0 ≤ x
def sp_l_off : Sp := fun vs H Q _ => ∃ (d : Addr) (n : Int), vs = [.ref d, .int n] ∧ Dice H d ∧ 0 < n ∧ n < 1073741824 ∧ ∀ (x : Int) (H' : Hp), 0 ≤ x → x < n → Exd d H H' → Dice H' d → Q (.int x) H'
def sp_l_dice (K : PySem.W.Frag) : Sp := fun vs H Q _ => ∃ (a : Addr) (ns : List Int), vs = [.ref a, .int 0] ∧ SqL K H a (ns.map V.int) ∧ ns.length ≤ 63 ∧ ∀ (d : Addr) (H' : Hp), H d = none → Ex H H' → Dice H' d → Q (.ref d) H'
section
variable {P : Program} {w : World} {K : PySem.W.Frag} {mg : Str → Option Value} {base : Heap}
theorem Dice.mono {H H' : Hp} {d : Addr} (e : Ex H H') (h : Dice H d) : Dice H' d := by
  obtain ⟨s, c, r, h, h1⟩ := h
  exact ⟨s, c, r, e _ _ h, h1⟩
theorem Dice.upd {H : Hp} {d p : Addr} {o : HO} (h : Dice H d) (n : d ≠ p) : Dice (L2.upd H p o) d := by
  obtain ⟨s, c, r, h, h1⟩ := h
  exact ⟨s, c, r, by rw [upd_ne n]; exact h, h1⟩
theorem Dice.ne {H : Hp} {d p : Addr} (h : Dice H d) (n : H p = none) : d ≠ p := by
  obtain ⟨s, c, r, h, _⟩ := h
  exact ne_of_none h n
/-- the law's own promise -/
def sp_law (K : PySem.W.Frag) : Sp := fun vs H Q _ => ∃ (a : Addr) (ns : List Int), vs = [.ref a] ∧ SqL K H a (ns.map V.int) ∧ ns.length ≤ 63 ∧ ∀ H', Q (.bl true) H'
end
/-! ### words -/
def bit (b : Bool) : Nat := if b then 49 else 48
def wd (bs : List Bool) : Str := ⟨(bs.map bit).toArray⟩
abbrev wv (bs : List Bool) : V := .str (wd bs)
theorem str0 : ("0" : Str) = wd [false] := by decide +kernel
theorem str1 : ("1" : Str) = wd [true] := by decide +kernel
theorem strE : ("" : Str) = wd [] := by decide +kernel
theorem wd_app (a b : List Bool) : wd a ++ wd b = wd (a ++ b) := by
  show Str.append (wd a) (wd b) = wd (a ++ b)
  simp [Str.append, wd, List.map_append]
theorem wd_len (a : List Bool) : (wd a).length = a.length := by
  show (List.map bit a).toArray.size = a.length
  simp
theorem bit_inj {a b : Bool} (h : bit a = bit b) : a = b := by
  revert h
  cases a <;> cases b <;> decide
theorem map_bit_inj : ∀ {a b : List Bool}, a.map bit = b.map bit → a = b
  | [], [], _ => rfl
  | [], _ :: _, h => by cases h
  | _ :: _, [], h => by cases h
  | x :: a, y :: b, h => by
    have h : bit x :: a.map bit = bit y :: b.map bit := h
    injection h with h1 h2
    rw [bit_inj h1, map_bit_inj h2]
theorem wd_inj {a b : List Bool} (h : wd a = wd b) : a = b := by
  have h : (a.map bit).toArray = (b.map bit).toArray := congrArg Str.cps h
  exact map_bit_inj (by simpa using congrArg Array.toList h)
theorem wv_inj {a b : List Bool} (h : wv a = wv b) : a = b := wd_inj (V.str.inj h)
theorem wd_toList (a : List Bool) : (wd a).cps.toList = a.map bit := by
  show (a.map bit).toArray.toList = _
  simp
theorem sgn (b : Bool) : (⟨#[bit b]⟩ : Str) = wd [b] := rfl
theorem small9 {n : Nat} (h : n ≤ 1000) : n ≤ sizeLine := Nat.le_of_lt (small1000 h)
/-- all words, as numbers rise; the mirrored way -/
def plainW : Nat → List (List Bool)
  | 0 => [[]]
  | n + 1 => (plainW n).map (false :: ·) ++ (plainW n).map (true :: ·)
def grayW : Nat → List (List Bool)
  | 0 => [[]]
  | n + 1 => (grayW n).map (false :: ·) ++ (grayW n).reverse.map (true :: ·)
theorem plainW_len : ∀ n, (plainW n).length = 2 ^ n
  | 0 => rfl
  | n + 1 => by
    show ((plainW n).map _ ++ (plainW n).map _).length = _
    rw [List.length_append, List.length_map, List.length_map, plainW_len n, Nat.pow_succ]
    omega
theorem grayW_len : ∀ n, (grayW n).length = 2 ^ n
  | 0 => rfl
  | n + 1 => by
    show ((grayW n).map _ ++ (grayW n).reverse.map _).length = _
    rw [List.length_append, List.length_map, List.length_map, List.length_reverse, grayW_len n, Nat.pow_succ]
    omega
theorem plainW_wide : ∀ n, ∀ w ∈ plainW n, w.length = n
  | 0, w, h => by
    cases (List.mem_singleton.mp h)
    rfl
  | n + 1, w, h => by
    rcases List.mem_append.mp h with h | h <;> obtain ⟨u, hu, rfl⟩ := List.mem_map.mp h <;> simp [plainW_wide n u hu]
theorem grayW_wide : ∀ n, ∀ w ∈ grayW n, w.length = n
  | 0, w, h => by
    cases (List.mem_singleton.mp h)
    rfl
  | n + 1, w, h => by
    rcases List.mem_append.mp h with h | h <;> obtain ⟨u, hu, rfl⟩ := List.mem_map.mp h
    · simp [grayW_wide n u hu]
    · simp [grayW_wide n u (List.mem_reverse.mp hu)]
theorem pow16 {n : Nat} (h : n ≤ 4) : 2 ^ n ≤ 16 := by
  have : n = 0 ∨ n = 1 ∨ n = 2 ∨ n = 3 ∨ n = 4 := by omega
  rcases this with rfl | rfl | rfl | rfl | rfl <;> decide
/-! ### comprehensions whose element is a value -/
section
variable {K : PySem.W.Frag}
/-- over a list; the test's answer p, the element g -/
theorem lcFM {α : Type} {a : Addr} (l : List α) (ev : α → V) (p : α → Bool) (g : α → V) {j : Nat} {tt : TT} {te : TE} {vs : List Nat} {σ : L2.St} {H1 : Hp} {D : Addr} {Qd : Hp → Prop}
    (hx : SqL K H1 a (l.map ev)) (hz : l.length ≤ 1000) (hD : H1 D = none) (hw : ∀ x, wipe ((wipe σ vs).set j (some x)) vs = wipe σ vs)
    (hs : ∀ x ∈ l, ∀ H, Ex H1 H → ∀ (Y : VK) (N : Hp → Prop), (∀ H2, Ex H H2 → if p x = true then Y (g x) H2 else N H2) → tt ((wipe σ vs).set j (some (ev x))) H fun b H3 => if b = true then te ((wipe σ vs).set j (some (ev x))) H3 Y else N H3)
    (hd : ∀ H2, Ex H1 H2 → H2 D = some (.lst ((l.filter p).map g)) → Qd H2) :
    ∃ W : Nat → Nat → Hp → Prop, (∃ m, W 0 m (upd H1 D (.lst []))) ∧ ∀ i m H, W i m H →
      ((Itl K a).stop i H ∧ Qd H) ∨ ((Itl K a).go i H ∧ ∃ Nx : Hp → Prop, (∀ H', Nx H' → ∃ m', m' < m ∧ W (i + 1) m' H') ∧ ∀ x H', (Itl K a).yld i H x H' → (gName j) x (wipe σ vs) H' fun σ2 H2 => wipe σ2 vs = wipe σ vs ∧ tt σ2 H2 fun b H3 =>
        if b = true then te σ2 H3 fun y H4 => ∃ acc, H4 D = some (.lst acc) ∧ acc.length < sizeLine ∧ Nx (upd H4 D (.lst (acc ++ [y]))) else Nx H3) := by
  refine lc_list (xs := l.map ev) (fun i H => Ex H1 H ∧ H D = some (.lst (((l.take i).filter p).map g))) ⟨Ex.new hD, upd_same⟩ (fun i H _ h => ex_l h.1 hx) (fun i x H hi h => ?_) (fun H h => ?_)
  · obtain ⟨y, hy, rfl⟩ : ∃ y, l[i]? = some y ∧ ev y = x := by
      rw [List.getElem?_map] at hi
      cases e : l[i]? with
      | none => rw [e] at hi; cases hi
      | some y => rw [e] at hi; exact ⟨y, rfl, Option.some.inj hi⟩
    have hm : y ∈ l := List.mem_of_getElem? hy
    have ht : l.take (i + 1) = l.take i ++ [y] := by rw [List.take_add_one, hy]; rfl
    refine ⟨hw _, hs y hm H h.1 _ _ fun H2 e2 => ?_⟩
    have hl : (((l.take i).filter p).map g).length < sizeLine := by
      rw [List.length_map]
      refine small1000 (Nat.le_trans (List.length_filter_le _ _) ?_)
      rw [List.length_take]
      omega
    by_cases hp : p y = true
    · rw [if_pos hp]
      refine ⟨_, e2 _ _ h.2, hl, Ex.mut (h.1.trans e2) hD, ?_⟩
      rw [upd_same, ht, List.filter_append, List.map_append]
      simp [hp]
    · rw [if_neg hp]
      refine ⟨h.1.trans e2, ?_⟩
      rw [e2 _ _ h.2, ht, List.filter_append, List.map_append]
      simp [hp]
  · refine hd H h.1 ?_
    rw [h.2, List.length_map, List.take_length]
theorem lcM {α : Type} {a : Addr} (l : List α) (ev : α → V) (g : α → V) {j : Nat} {te : TE} {vs : List Nat} {σ : L2.St} {H1 : Hp} {D : Addr} {Qd : Hp → Prop}
    (hx : SqL K H1 a (l.map ev)) (hz : l.length ≤ 1000) (hD : H1 D = none) (hw : ∀ x, wipe ((wipe σ vs).set j (some x)) vs = wipe σ vs)
    (hs : ∀ x ∈ l, ∀ H, Ex H1 H → ∀ (Y : VK), (∀ H2, Ex H H2 → Y (g x) H2) → te ((wipe σ vs).set j (some (ev x))) H Y)
    (hd : ∀ H2, Ex H1 H2 → H2 D = some (.lst (l.map g)) → Qd H2) :
    ∃ W : Nat → Nat → Hp → Prop, (∃ m, W 0 m (upd H1 D (.lst []))) ∧ ∀ i m H, W i m H →
      ((Itl K a).stop i H ∧ Qd H) ∨ ((Itl K a).go i H ∧ ∃ Nx : Hp → Prop, (∀ H', Nx H' → ∃ m', m' < m ∧ W (i + 1) m' H') ∧ ∀ x H', (Itl K a).yld i H x H' → (gName j) x (wipe σ vs) H' fun σ2 H2 => wipe σ2 vs = wipe σ vs ∧ tYes σ2 H2 fun b H3 =>
        if b = true then te σ2 H3 fun y H4 => ∃ acc, H4 D = some (.lst acc) ∧ acc.length < sizeLine ∧ Nx (upd H4 D (.lst (acc ++ [y]))) else Nx H3) :=
  lcFM l ev (fun _ => true) g hx hz hD hw (fun x hm H e Y N h => iteT (B := N H) (hs x hm H e Y fun H2 e2 => by simpa using h H2 e2)) (fun H2 e h => hd H2 e (by rw [h, List.filter_eq_self.mpr (fun _ _ => rfl)]))
/-- over range(n) -/
theorem lcRF (n : Nat) (p : Nat → Bool) (g : Nat → V) {j : Nat} {tt : TT} {te : TE} {vs : List Nat} {σ : L2.St} {H1 : Hp} {D : Addr} {Qd : Hp → Prop} {z : Int}
    (hz0 : z = (n : Int)) (hz : n ≤ 1000) (hD : H1 D = none) (hw : ∀ x, wipe ((wipe σ vs).set j (some x)) vs = wipe σ vs)
    (hs : ∀ i, i < n → ∀ H, Ex H1 H → ∀ (Y : VK) (N : Hp → Prop), (∀ H2, Ex H H2 → if p i = true then Y (g i) H2 else N H2) → tt ((wipe σ vs).set j (some (.int (i : Int)))) H fun b H3 => if b = true then te ((wipe σ vs).set j (some (.int (i : Int)))) H3 Y else N H3)
    (hd : ∀ H2, Ex H1 H2 → H2 D = some (.lst (((List.range n).filter p).map g)) → Qd H2) :
    ∃ W : Nat → Nat → Hp → Prop, (∃ m, W 0 m (upd H1 D (.lst []))) ∧ ∀ i m H, W i m H →
      ((Itr 0 z.toNat).stop i H ∧ Qd H) ∨ ((Itr 0 z.toNat).go i H ∧ ∃ Nx : Hp → Prop, (∀ H', Nx H' → ∃ m', m' < m ∧ W (i + 1) m' H') ∧ ∀ x H', (Itr 0 z.toNat).yld i H x H' → (gName j) x (wipe σ vs) H' fun σ2 H2 => wipe σ2 vs = wipe σ vs ∧ tt σ2 H2 fun b H3 =>
        if b = true then te σ2 H3 fun y H4 => ∃ acc, H4 D = some (.lst acc) ∧ acc.length < sizeLine ∧ Nx (upd H4 D (.lst (acc ++ [y]))) else Nx H3) := by
  have hn : z.toNat = n := by omega
  refine lc_range (lo := 0) (n := z.toNat) (fun i H => Ex H1 H ∧ H D = some (.lst (((List.range i).filter p).map g))) ⟨Ex.new hD, upd_same⟩ (fun i H hi h => ?_) (fun H h => ?_)
  · have e0 : (0 : Int) + (i : Int) = (i : Int) := Int.zero_add _
    rw [e0]
    refine ⟨hw _, hs i (by omega) H h.1 _ _ fun H2 e2 => ?_⟩
    have hl : (((List.range i).filter p).map g).length < sizeLine := by
      rw [List.length_map]
      refine small1000 (Nat.le_trans (List.length_filter_le _ _) ?_)
      rw [List.length_range]
      omega
    by_cases hp : p i = true
    · rw [if_pos hp]
      refine ⟨_, e2 _ _ h.2, hl, Ex.mut (h.1.trans e2) hD, ?_⟩
      rw [upd_same, List.range_succ, List.filter_append, List.map_append]
      simp [hp]
    · rw [if_neg hp]
      refine ⟨h.1.trans e2, ?_⟩
      rw [e2 _ _ h.2, List.range_succ, List.filter_append, List.map_append]
      simp [hp]
  · refine hd H h.1 ?_
    rw [h.2, hn]
theorem lcR (n : Nat) (g : Nat → V) {j : Nat} {te : TE} {vs : List Nat} {σ : L2.St} {H1 : Hp} {D : Addr} {Qd : Hp → Prop} {z : Int}
    (hz0 : z = (n : Int)) (hz : n ≤ 1000) (hD : H1 D = none) (hw : ∀ x, wipe ((wipe σ vs).set j (some x)) vs = wipe σ vs)
    (hs : ∀ i, i < n → ∀ H, Ex H1 H → ∀ (Y : VK), (∀ H2, Ex H H2 → Y (g i) H2) → te ((wipe σ vs).set j (some (.int (i : Int)))) H Y)
    (hd : ∀ H2, Ex H1 H2 → H2 D = some (.lst ((List.range n).map g)) → Qd H2) :
    ∃ W : Nat → Nat → Hp → Prop, (∃ m, W 0 m (upd H1 D (.lst []))) ∧ ∀ i m H, W i m H →
      ((Itr 0 z.toNat).stop i H ∧ Qd H) ∨ ((Itr 0 z.toNat).go i H ∧ ∃ Nx : Hp → Prop, (∀ H', Nx H' → ∃ m', m' < m ∧ W (i + 1) m' H') ∧ ∀ x H', (Itr 0 z.toNat).yld i H x H' → (gName j) x (wipe σ vs) H' fun σ2 H2 => wipe σ2 vs = wipe σ vs ∧ tYes σ2 H2 fun b H3 =>
        if b = true then te σ2 H3 fun y H4 => ∃ acc, H4 D = some (.lst acc) ∧ acc.length < sizeLine ∧ Nx (upd H4 D (.lst (acc ++ [y]))) else Nx H3) :=
  lcRF n (fun _ => true) g hz0 hz hD hw (fun i hi H e Y N h => iteT (B := N H) (hs i hi H e Y fun H2 e2 => by simpa using h H2 e2)) (fun H2 e h => hd H2 e (by rw [h, List.filter_eq_self.mpr (fun _ _ => rfl)]))
end
section
variable {K : PySem.W.Frag}
/-- a comprehension over anything that is walked -/
theorem lcW {α : Type} {J : It} {Gd : Hp → Prop} (l : List α) (ev : α → V) (p : α → Bool) (g : α → V) (wk : Walk J l.length Gd (fun i H x H' => H' = H ∧ ∃ y, l[i]? = some y ∧ x = ev y)) {j : Nat} {tt : TT} {te : TE} {vs : List Nat} {σ : L2.St} {H1 : Hp} {D : Addr} {Qd : Hp → Prop}
    (hG : ∀ H, Ex H1 H → Gd H) (hz : l.length ≤ 1000) (hD : H1 D = none) (hw : ∀ x, wipe ((wipe σ vs).set j (some x)) vs = wipe σ vs)
    (hs : ∀ x ∈ l, ∀ H, Ex H1 H → ∀ (Y : VK) (N : Hp → Prop), (∀ H2, Ex H H2 → if p x = true then Y (g x) H2 else N H2) → tt ((wipe σ vs).set j (some (ev x))) H fun b H3 => if b = true then te ((wipe σ vs).set j (some (ev x))) H3 Y else N H3)
    (hd : ∀ H2, Ex H1 H2 → H2 D = some (.lst ((l.filter p).map g)) → Qd H2) :
    ∃ W : Nat → Nat → Hp → Prop, (∃ m, W 0 m (upd H1 D (.lst []))) ∧ ∀ i m H, W i m H →
      (J.stop i H ∧ Qd H) ∨ (J.go i H ∧ ∃ Nx : Hp → Prop, (∀ H', Nx H' → ∃ m', m' < m ∧ W (i + 1) m' H') ∧ ∀ x H', J.yld i H x H' → (gName j) x (wipe σ vs) H' fun σ2 H2 => wipe σ2 vs = wipe σ vs ∧ tt σ2 H2 fun b H3 =>
        if b = true then te σ2 H3 fun y H4 => ∃ acc, H4 D = some (.lst acc) ∧ acc.length < sizeLine ∧ Nx (upd H4 D (.lst (acc ++ [y]))) else Nx H3) := by
  refine lc_it wk (fun i H => Ex H1 H ∧ H D = some (.lst (((l.take i).filter p).map g))) ⟨Ex.new hD, upd_same⟩ (fun i H _ h => hG H h.1) (fun i x H H' hi h hy => ?_) (fun H h => ?_)
  · obtain ⟨rfl, y, hy, rfl⟩ := hy
    have hm : y ∈ l := List.mem_of_getElem? hy
    have ht : l.take (i + 1) = l.take i ++ [y] := by rw [List.take_add_one, hy]; rfl
    refine ⟨hw _, hs y hm _ h.1 _ _ fun H2 e2 => ?_⟩
    have hl : (((l.take i).filter p).map g).length < sizeLine := by
      rw [List.length_map]
      refine small1000 (Nat.le_trans (List.length_filter_le _ _) ?_)
      rw [List.length_take]
      omega
    by_cases hp : p y = true
    · rw [if_pos hp]
      refine ⟨_, e2 _ _ h.2, hl, Ex.mut (h.1.trans e2) hD, ?_⟩
      rw [upd_same, ht, List.filter_append, List.map_append]
      simp [hp]
    · rw [if_neg hp]
      refine ⟨h.1.trans e2, ?_⟩
      rw [e2 _ _ h.2, ht, List.filter_append, List.map_append]
      simp [hp]
  · refine hd H h.1 ?_
    rw [h.2, List.take_length]
theorem walk_sgn (z : Str) : Walk (Its z) z.cps.toList.length (fun _ => True) (fun i H x H' => H' = H ∧ ∃ y, z.cps.toList[i]? = some y ∧ x = V.str ⟨#[y]⟩) := by
  rw [Array.length_toList]
  exact walk_str.mono (fun _ h => h) (fun i H x H' _ _ ⟨h1, c, h2, h3⟩ => ⟨h1, c, by rw [Array.getElem?_toList]; exact h2, h3⟩)
theorem cutTake {xs : List V} {n : Nat} : cutV xs none (some (n : Int)) = xs.take n := by
  unfold cutV
  rw [show HT.sIx xs.length xs.length (some (n : Int)) = min n xs.length from HT.sIx_nat xs.length xs.length n, HT.sIx_none, List.drop_zero, Nat.sub_zero]
  exact List.take_eq_take_iff.mpr (by omega)
theorem cutDrop {xs : List V} {n : Nat} : cutV xs (some (n : Int)) none = xs.drop n := by
  unfold cutV
  rw [show HT.sIx xs.length 0 (some (n : Int)) = min n xs.length from HT.sIx_nat xs.length 0 n, HT.sIx_none]
  by_cases h : n ≤ xs.length
  · rw [Nat.min_eq_left h, List.take_of_length_le (by simp)]
  · rw [Nat.min_eq_right (by omega), List.drop_of_length_le (Nat.le_refl _), List.drop_of_length_le (by omega)]
    simp
theorem inV_wv (w : List Bool) (l : List (List Bool)) : inV (wv w) (l.map wv) = decide (w ∈ l) := by
  unfold inV
  rw [List.any_map]
  by_cases h : w ∈ l
  · rw [decide_eq_true h, List.any_eq_true]
    exact ⟨w, h, by simp [eqV]⟩
  · rw [decide_eq_false h, List.any_eq_false]
    intro x hx he
    have he : eqV (wv x) (wv w) = true := he
    refine h ?_
    have : wd x = wd w := by simpa [eqV] using he
    rw [← wd_inj this]
    exact hx
theorem flatW (l : List (List Bool)) : (l.map wv).all flatV = true := by
  rw [List.all_eq_true]
  intro x hx
  obtain ⟨w, _, rfl⟩ := List.mem_map.mp hx
  rfl
end
theorem atW {w : List Bool} {i : Nat} {z : Int} (e : z = (i : Int)) (h : i < w.length) : atI (wd w).cps.toList z = some (bit (w.getD i false)) := by
  refine ats e ?_
  rw [wd_toList, List.getElem?_map, List.getD_eq_getElem?_getD, List.getElem?_eq_getElem h]
  rfl
theorem dec_sgn (a b : Bool) : (!decide (V.str ⟨#[bit a]⟩ = V.str ⟨#[bit b]⟩)) = (a != b) := by
  cases a <;> cases b <;> decide
theorem getDW {ws : List (List Bool)} {i : Nat} (h : i < ws.length) : (ws.map wv)[i]? = some (wv (ws.getD i [])) := by
  rw [List.getElem?_map, List.getD_eq_getElem?_getD, List.getElem?_eq_getElem h]
  rfl
theorem getD_mem {ws : List (List Bool)} {i : Nat} (h : i < ws.length) : ws.getD i [] ∈ ws := by
  rw [List.getD_eq_getElem?_getD, List.getElem?_eq_getElem h]
  exact List.getElem_mem h
/-! ### own rules: an attribute as a target; a dict display with one tuple key -/
def gFld (K : PySem.W.Frag) (ta : TE) (f : Str) : TG := fun y σ H Q => ta σ H fun x H2 => ∃ a C dx fs, x = .ref a ∧ H2 a = some (.ins C dx fs) ∧ Cls K C ∧ NoAttr K C f ∧ fs.length < 1000 ∧ Q σ (upd H2 a (.ins C dx (putF f y fs)))
theorem pg_fld {X : Cx} {o : Expr} {f : Str} {pos : Pos} {ta : TE} (ha : PE X o ta) : PG X (.Attribute o f pos) (gFld X.K ta f) := by
  refine ⟨fun pins s σ H v u Q I r h => ?_⟩
  refine PySem.W.kas_attr (thn (ha.run pins s σ H _ I h) fun ov s2 ⟨x, H2, I2, rx, a, C, dx, fs, ex, ea, c, n, l, q2⟩ => ?_)
  subst ex
  obtain rfl : ov = Value.ref a := rx
  exact setattr_ok I2 ea c n l r fun s3 I3 => ⟨σ, _, I3, q2⟩
def tDispT (trs : List (TE × TE)) : TE := fun σ H Q => ∀ p, H p = none → tPairs trs σ (upd H p (.dT [])) fun ps H2 => H2 p = some (.dT []) ∧ ∃ (k : List Key) (b : Addr) (v : V), ps = [(.ref b, v)] ∧ H2 b = some (.tup (k.map kV)) ∧ Q (.ref p) (upd H2 p (.dT [(k, v)]))
theorem pe_dispT {X : Cx} {pos : Pos} {keys : List (Option Expr)} {values : List Expr} {trs : List (TE × TE)} (hu : X.A.units + 1 < cLine) (h : PPs X pos keys values trs) (hall : keys.all (·.isSome) = true) (hl : keys.length = values.length) (h0 : keys ≠ [])
    (h15 : keys.length ≤ 15) : PE X (.Dict keys values pos) (tDispT trs) := by
  refine ⟨fun pins s σ H Q I q => ?_⟩
  have hn := I.hok.fresh (Nat.le_refl s.heap.objs.size)
  have I1 := I.laid (a := s.heap.objs.size) (o := .dT []) (h' := s.heap.push { cls := .type "dict", data := .dict #[] }) (t' := s.toks) (fun _ _ q => Heap.get?_push_of_some _ q) (Nat.le_refl _) (dt_empty s.heap I.big)
  have hpl := pairTrees_length keys values X.env pos hall hl
  have hp0 : pairTrees keys values X.env pos ≠ [] := fun he => by
    rw [he] at hpl
    exact h0 (List.length_eq_zero_iff.mp hpl.symm)
  rw [arm_eval_Dict, zip_pairTrees keys values X.env pos hall hl, dictDisplay_pairs _ hp0 (by omega)]
  refine wpAny_bind (wpAny_standAt (wpAny_bind (wpAny_subDictH (knd := tupleKind (mixKind X.prog X.w)) (Q := fun d s' => wpAny (model X.prog X.w) X.A (pure (Value.ref d)) (EP X pins σ Q) X.xe s') (show X.A.units < cLine by omega) (by omega) (thn (h.run pins _ σ _ _ I1 (q _ hn)) fun ws s2 ⟨ps, H2, I2, rel, e, k, b, v, ep, eb, q2⟩ => ?_))))
  subst ep
  cases rel with
  | @cons _ c _ cs r1 t =>
    cases t
    obtain ⟨kb, vb⟩ := c
    obtain ⟨r1, r2⟩ := r1
    cases (show kb = Value.ref b from r1)
    obtain ⟨z, hd, xs, rk, dd⟩ := dt_of I2.hok e
    cases rk
    refine ⟨[(k, b, vb)], ⟨rfl, rfl, key_of I2.hok eb, trivial⟩, dd, fun h' tk dd' hs => wpAny_pure ⟨.ref s.heap.objs.size, _, ?_, rfl, q2⟩⟩
    obtain ⟨o, es, ep, hq, h2, h3, h4, _, h5⟩ := dd'
    have hz : ([(k, v)] : List (List Key × V)).length ≤ sizeLine := by rw [sizeLine_eq]; simp
    refine d_write I2 (by rw [e]; exact True.intro) hs ⟨o, hq⟩ ⟨hz, hd, _, (KT.put (H := H2) (kvs := []) (xs := []) .nil k eb r2).keeps fun c ys ec => ?_, o, es, ep, hq, h2, h3, h4, h5⟩
    rw [upd_ne (ne_of ec e (fun z => nomatch z))]
    exact ec
/-! ### data of a bounded depth: None, ints, texts, lists and tuples -/
def Leaf (v : V) (d : PyData) : Prop := (v = .non ∧ d = .none) ∨ (∃ i, v = .int i ∧ d = .int i) ∨ (∃ x, v = .str x ∧ d = .str x)
def Da (H : Hp) : Nat → V → PyData → Prop
  | 0, v, d => Leaf v d
  | n + 1, v, d => Leaf v d ∨ (∃ a xs ds, v = .ref a ∧ d = .list ds ∧ H a = some (.lst xs) ∧ xs.length ≤ 1000 ∧ Paired (Da H n) xs ds) ∨ (∃ a xs ds, v = .ref a ∧ d = .tuple ds ∧ H a = some (.tup xs) ∧ xs.length ≤ 1000 ∧ Paired (Da H n) xs ds)
theorem paired_imp {α β : Type} {R S : α → β → Prop} (h : ∀ a b, R a b → S a b) : ∀ {xs : List α} {ys : List β}, Paired R xs ys → Paired S xs ys
  | _, _, .nil => .nil
  | _, _, .cons r t => .cons (h _ _ r) (paired_imp h t)
theorem Da.mono {H H' : Hp} (e : Ex H H') : ∀ {n : Nat} {v : V} {d : PyData}, Da H n v d → Da H' n v d
  | 0, _, _, h => h
  | n + 1, _, _, h => by
    rcases h with h | ⟨a, xs, ds, h1, h2, h3, h4, h5⟩ | ⟨a, xs, ds, h1, h2, h3, h4, h5⟩
    · exact .inl h
    · exact .inr (.inl ⟨a, xs, ds, h1, h2, e _ _ h3, h4, paired_imp (fun _ _ => Da.mono e) h5⟩)
    · exact .inr (.inr ⟨a, xs, ds, h1, h2, e _ _ h3, h4, paired_imp (fun _ _ => Da.mono e) h5⟩)
theorem Da.leaf {H : Hp} {v : V} {d : PyData} (h : Leaf v d) : ∀ {n : Nat}, Da H n v d
  | 0 => h
  | _ + 1 => .inl h
theorem Da.int {H : Hp} {n : Nat} (i : Int) : Da H n (.int i) (.int i) := Da.leaf (.inr (.inl ⟨i, rfl, rfl⟩))
theorem Da.str {H : Hp} {n : Nat} (x : Str) : Da H n (.str x) (.str x) := Da.leaf (.inr (.inr ⟨x, rfl, rfl⟩))
theorem Da.non {H : Hp} {n : Nat} : Da H n .non .none := Da.leaf (.inl ⟨rfl, rfl⟩)
theorem Da.lst {H : Hp} {n : Nat} {a : Addr} {xs : List V} {ds : List PyData} (h : H a = some (.lst xs)) (l : xs.length ≤ 1000) (p : Paired (Da H n) xs ds) : Da H (n + 1) (.ref a) (.list ds) := .inr (.inl ⟨a, xs, ds, rfl, rfl, h, l, p⟩)
theorem Da.tup {H : Hp} {n : Nat} {a : Addr} {xs : List V} {ds : List PyData} (h : H a = some (.tup xs)) (l : xs.length ≤ 1000) (p : Paired (Da H n) xs ds) : Da H (n + 1) (.ref a) (.tuple ds) := .inr (.inr ⟨a, xs, ds, rfl, rfl, h, l, p⟩)
theorem paired_map {α β γ : Type} {R : α → β → Prop} (f : γ → α) (g : γ → β) : ∀ (l : List γ), (∀ x ∈ l, R (f x) (g x)) → Paired R (l.map f) (l.map g)
  | [], _ => .nil
  | x :: l, h => .cons (h x List.mem_cons_self) (paired_map f g l fun y hy => h y (List.mem_cons_of_mem _ hy))
theorem Da.strs {H : Hp} {n : Nat} {a : Addr} {l : List (List Bool)} (h : H a = some (.lst (l.map wv))) (hl : l.length ≤ 1000) : Da H (n + 1) (.ref a) (.list (l.map fun w => .str (wd w))) :=
  Da.lst h (by simpa using hl) (paired_map _ _ l fun w _ => Da.str _)
theorem paired_at {α β : Type} {R : α → β → Prop} : ∀ {xs : List α} {ys : List β} {i : Nat}, Paired R xs ys → i < ys.length → ∃ x y, xs[i]? = some x ∧ ys[i]? = some y ∧ R x y
  | _, _, i, .nil, h => absurd h (Nat.not_lt_zero _)
  | _, _, 0, .cons r _, _ => ⟨_, _, rfl, rfl, r⟩
  | _, _, i + 1, .cons _ t, h => paired_at (i := i) t (Nat.lt_of_succ_lt_succ h)
theorem paired_len {α β : Type} {R : α → β → Prop} : ∀ {xs : List α} {ys : List β}, Paired R xs ys → xs.length = ys.length
  | _, _, .nil => rfl
  | _, _, .cons _ t => congrArg (· + 1) (paired_len t)
/-! ### data compared -/
def Sd : Nat → PyData → Prop
  | _, .none => True
  | _, .bool _ => True
  | _, .int _ => True
  | _, .str x => PyData.strOk x = true
  | 0, _ => False
  | n + 1, .list ds => ∀ d ∈ ds, Sd n d
  | n + 1, .tuple ds => ∀ d ∈ ds, Sd n d
  | _ + 1, .dict _ => False
theorem strOk_wd (b : List Bool) : PyData.strOk (wd b) = true := by
  unfold PyData.strOk
  rw [← Array.all_toList, wd_toList, List.all_eq_true]
  intro x hx
  obtain ⟨c, _, rfl⟩ := List.mem_map.mp hx
  cases c <;> decide
theorem canAll : ∀ {ds : List PyData}, (∀ d ∈ ds, d.canLay0 = true) → PyData.canLayAll0 ds = true
  | [], _ => rfl
  | d :: ds, h => by
    rw [PyData.canLayAll0, h d List.mem_cons_self, canAll fun x hx => h x (List.mem_cons_of_mem _ hx)]
    rfl
theorem depthAll_le {n : Nat} : ∀ {ds : List PyData}, (∀ d ∈ ds, d.depth ≤ n) → PyData.depthAll ds ≤ n
  | [], _ => by
    rw [PyData.depthAll]
    exact Nat.zero_le _
  | d :: ds, h => by
    rw [PyData.depthAll]
    exact Nat.max_le.mpr ⟨h d List.mem_cons_self, depthAll_le fun x hx => h x (List.mem_cons_of_mem _ hx)⟩
theorem Sd.ok : ∀ {n : Nat} {d : PyData}, Sd n d → d.canLay0 = true ∧ d.depth ≤ n := by
  intro n
  induction n with
  | zero =>
    intro d h
    cases d with
    | none => exact ⟨by rw [PyData.canLay0], by rw [PyData.depth] <;> simp⟩
    | bool b => exact ⟨by rw [PyData.canLay0], by rw [PyData.depth] <;> simp⟩
    | int i => exact ⟨by rw [PyData.canLay0], by rw [PyData.depth] <;> simp⟩
    | str x => exact ⟨by rw [PyData.canLay0]; exact h, by rw [PyData.depth] <;> simp⟩
    | list ds => exact h.elim
    | tuple ds => exact h.elim
    | dict ds => exact h.elim
  | succ n ih =>
    intro d h
    cases d with
    | none => exact ⟨by rw [PyData.canLay0], by rw [PyData.depth] <;> simp⟩
    | bool b => exact ⟨by rw [PyData.canLay0], by rw [PyData.depth] <;> simp⟩
    | int i => exact ⟨by rw [PyData.canLay0], by rw [PyData.depth] <;> simp⟩
    | str x => exact ⟨by rw [PyData.canLay0]; exact h, by rw [PyData.depth] <;> simp⟩
    | list ds => exact ⟨by rw [PyData.canLay0]; exact canAll fun x hx => (ih (h x hx)).1, by rw [PyData.depth]; exact Nat.succ_le_succ (depthAll_le fun x hx => (ih (h x hx)).2)⟩
    | tuple ds => exact ⟨by rw [PyData.canLay0]; exact canAll fun x hx => (ih (h x hx)).1, by rw [PyData.depth]; exact Nat.succ_le_succ (depthAll_le fun x hx => (ih (h x hx)).2)⟩
    | dict ds => exact h.elim
theorem Sd.shaped {n : Nat} {d : PyData} (h : Sd n d) (hn : n ≤ 64) : SeqAt.shaped d = true := by
  obtain ⟨h1, h2⟩ := h.ok
  unfold SeqAt.shaped
  rw [h1, decide_eq_true (Nat.le_trans h2 hn)]
  rfl
theorem dpAll_of {K : PySem.W.Frag} {H : Hp} {R : V → PyData → Prop} (hR : ∀ v d, R v d → Dp K H v d) : ∀ {xs : List V} {ds : List PyData}, Paired R xs ds → DpAll K H xs ds
  | _, _, .nil => .nil
  | _, _, .cons r t => .cons (hR _ _ r) (dpAll_of hR t)
theorem Da.dp {K : PySem.W.Frag} {H : Hp} : ∀ {n : Nat} {v : V} {d : PyData}, Da H n v d → Dp K H v d := by
  have leaf : ∀ {v : V} {d : PyData}, Leaf v d → Dp K H v d := by
    rintro v d (⟨rfl, rfl⟩ | ⟨i, rfl, rfl⟩ | ⟨x, rfl, rfl⟩)
    · exact .non
    · exact .int i
    · exact .str x
  intro n
  induction n with
  | zero => exact fun h => leaf h
  | succ n ih =>
    rintro v d (h | ⟨a, xs, ds, rfl, rfl, h1, h2, h3⟩ | ⟨a, xs, ds, rfl, rfl, h1, h2, h3⟩)
    · exact leaf h
    · exact .lst (SqL.of h1) (dpAll_of (fun _ _ => ih) h3)
    · exact .tup (SqT.of h1) (dpAll_of (fun _ _ => ih) h3)
theorem dpStrs {K : PySem.W.Frag} {H : Hp} : ∀ (l : List Str), DpAll K H (l.map V.str) (l.map PyData.str)
  | [] => .nil
  | x :: l => .cons (.str x) (dpStrs l)
theorem dpL {K : PySem.W.Frag} {H : Hp} {a : Addr} {l : List Str} (h : SqL K H a (l.map V.str)) : Dp K H (.ref a) (.list (l.map PyData.str)) := .lst h (dpStrs l)
theorem sdStrs {n : Nat} {l : List Str} (h : ∀ x ∈ l, PyData.strOk x = true) : Sd (n + 1) (.list (l.map PyData.str)) := fun d hd => by
  obtain ⟨x, hx, rfl⟩ := List.mem_map.mp hd
  cases n <;> exact h x hx
theorem eqvStrs : ∀ (l m : List Str), PyData.eqv (.list (l.map PyData.str)) (.list (m.map PyData.str)) = decide (l = m) := by
  intro l m
  rw [PyData.eqv]
  induction l generalizing m with
  | nil =>
    cases m with
    | nil => rfl
    | cons y m => rfl
  | cons x l ih =>
    cases m with
    | nil => rfl
    | cons y m =>
      show PyData.eqvAll (.str x :: l.map PyData.str) (.str y :: m.map PyData.str) = _
      rw [PyData.eqvAll, ih m, PyData.eqv]
      by_cases h1 : x = y
      · by_cases h2 : l = m
        · simp [h1, h2]
        · simp [h1, h2]
      · simp [h1]
/-! ### sets of texts: set(list of texts), sorted of it, its length -/
section
open PyProof.Rows
def kOf (e : Int × Value) : Str := match e.2 with
  | .str k _ => k
  | _ => Str.empty
def GE (w : World) (e : Int × Value) : Prop := ∃ k tk, e.2 = Value.str k tk ∧ e.1 = hashStr w k
/-- at a stands a set of the texts l; its table rises and may be walked -/
def SetT (w : World) (h : Heap) (a : Addr) (l : List Str) : Prop :=
  ∃ o es ep t, h.get? a = some o ∧ o.ExactSet ∧ o.data = .set es ep t ∧ (∀ e ∈ es.toList, GE w e) ∧ (es.toList.map kOf).Perm l ∧ l.Nodup ∧ es.size < scanBound ∧ t.fits es.size = true ∧ Ris t.place.toList ∧
    (w.params.followText "set-order" = true ∨ t.led = true)
def insS (l : List Str) (k : Str) : List Str := if k ∈ l then l else k :: l
section
variable {P : Program} {w : World} {h h' : Heap} {a : Addr} {l : List Str}
theorem SetT.at (R : SetT w h a l) (k : ∀ o, h.get? a = some o → h'.get? a = some o) : SetT w h' a l := by
  obtain ⟨o, es, ep, t, ho, r⟩ := R
  exact ⟨o, es, ep, t, k o ho, r⟩
theorem ge_is {e : Int × Value} (g : GE w e) (k : Str) : (strKind P w).is k e.2 = true ↔ kOf e = k := by
  obtain ⟨k0, tk, h1, _⟩ := g
  unfold kOf
  rw [h1]
  show Value.isStrOf k (.str k0 tk) = true ↔ k0 = k
  simp [Value.isStrOf]
theorem ge_elems {m : List (Int × Value)} (g : ∀ e ∈ m, GE w e) : ElemsOf (strKind P w) m := fun e he => by
  obtain ⟨k, tk, h1, h2⟩ := g e he
  exact ⟨⟨k, by rw [h1]; exact strKind_is P w k tk, h2⟩, by rw [h1] <;> rfl⟩
theorem ge_mem {m : List (Int × Value)} (g : ∀ e ∈ m, GE w e) (k : Str) : k ∈ m.map kOf ↔ ∃ e ∈ m, (strKind P w).is k e.2 = true := by
  rw [List.mem_map]
  exact ⟨fun ⟨e, he, q⟩ => ⟨e, he, (ge_is (g e he) k).2 q⟩, fun ⟨e, he, q⟩ => ⟨e, he, (ge_is (g e he) k).1 q⟩⟩
theorem SetT.size (R : SetT w h a l) : ∃ o es ep t, h.get? a = some o ∧ o.ExactSet ∧ o.data = .set es ep t ∧ es.size = l.length ∧ t.fits es.size = true := by
  obtain ⟨o, es, ep, t, ho, hx, hd, g, pm, nd, hb, hf, _⟩ := R
  exact ⟨o, es, ep, t, ho, hx, hd, by rw [← pm.length_eq, List.length_map, Array.length_toList], hf⟩
theorem SetT.setOf (R : SetT w h a l) : h.SetOf (strKind P w) a (fun k => decide (k ∈ l)) l.length := by
  obtain ⟨o, es, ep, t, ho, hx, hd, g, pm, nd, hb, hf, _⟩ := R
  refine ⟨o, es, ep, t, ho, hx, hd, ge_elems g, fun k => ?_, hb, hf, by rw [← pm.length_eq, List.length_map, Array.length_toList]⟩
  rw [decide_eq_true_eq, ← pm.mem_iff]
  exact ge_mem g k
end
section
variable {P : Program} {w : World} {A : Around} {E : Value → Shared → Prop} {s : Shared} {a : Addr} {l : List Str}
theorem tail_T {g : Bool → Sem Unit} (hg : ∀ (b : Bool) (s1 : Shared) (Q' : Unit → Shared → Prop), Q' () s1 → wpAny (model P w) A (g b) Q' E s1)
    {o : Obj} {es : Array (Int × Value)} {ep : Nat} {t : SetTable} (ho : s.heap.get? a = some o) (hex : o.ExactSet) (hd : o.data = .set es ep t)
    {es1 : Array (Int × Value)} {t2 : SetTable} {l1 : List Str} (g1 : ∀ e ∈ es1.toList, GE w e) (p1 : (es1.toList.map kOf).Perm l1) (nd1 : l1.Nodup)
    (hb1 : es1.size < scanBound) (hf2 : t2.fits es1.size = true) (hr : Ris t2.place.toList) (hl : w.params.followText "set-order" = true ∨ t2.led = true) {wasDummy : Bool} {R : Option Bool → Shared → Prop}
    (hR : ∀ h', Heap.SameBut a s.heap h' → SetT w h' a l1 → R (some true) { s with heap := h' }) :
    wpAny (model P w) A (do
        storeSet a es1 t2
        if (!wasDummy && t2.tooFull) = true then do
            g (relayAll t2 es1 (SetTable.grown es1.size)).2.2
            storeSet a (relayAll t2 es1 (SetTable.grown es1.size)).1 (relayAll t2 es1 (SetTable.grown es1.size)).2.1
            pure (some true)
          else pure (some true)) R E s := by
  have o1 := store_at (es' := es1) (t' := t2) ho hd
  have s1 := Heap.SameBut.update s.heap a (Obj.putSet es1 t2)
  refine wpAny_bind (wpAny_storeSet_of ho hd ?_ (fits_of_scanBound hb1))
  split
  · have q1 := relayAll_perm t2 es1 (SetTable.grown es1.size)
    have q2 := relayAll_fits t2 es1 (SetTable.grown es1.size)
    have q3 := relayAll_ris t2 es1 (SetTable.grown es1.size)
    have q4 := relayAll_led t2 es1 (SetTable.grown es1.size)
    generalize relayAll t2 es1 (SetTable.grown es1.size) = Z at q1 q2 q3 q4 ⊢
    obtain ⟨es2, t3, gave⟩ := Z
    dsimp only at q1 q2 q3 q4 ⊢
    have z1 : es2.size = es1.size := by rw [← Array.length_toList, q1.length_eq, Array.length_toList]
    have z2 : es2.size < scanBound := by rw [z1]; exact hb1
    refine wpAny_bind (hg _ _ _ (wpAny_bind (wpAny_storeSet_of o1 rfl ?_ (fits_of_scanBound z2))))
    exact wpAny_pure (hR _ (s1.trans (Heap.SameBut.update _ a _)) ⟨_, es2, _, t3, store_at (es' := es2) (t' := t3) o1 rfl, hex, rfl, fun e he => g1 e (q1.mem_iff.mp he), (q1.map kOf).trans p1, nd1, z2, q2, q3, hl.imp id fun z => by rw [q4]; exact z⟩)
  · exact wpAny_pure (hR _ s1 ⟨_, es1, _, t2, o1, hex, rfl, g1, p1, nd1, hb1, hf2, hr, hl⟩)
theorem add_T {k : Str} {tk : Tok} {Q : Bool → Shared → Prop} (R : SetT w s.heap a l) (room : l.length + 1 < scanBound)
    (hQ : ∀ h' b, Heap.SameBut a s.heap h' → SetT w h' a (insS l k) → Q b { s with heap := h' }) :
    wpAny (model P w) A (setAddHashed a (.str k tk) ((strKind P w).hash k)) Q E s := by
  obtain ⟨o, es, ep, t, ho, hex, hd, g, pm, nd, hb, hf, hr, hl⟩ := R
  have hkey : (strKind P w).is k (.str k tk) = true := strKind_is P w k tk
  have hsc : (Value.str k tk).scannable = true := rfl
  have hel : ElemsOf (strKind P w) es.toList := ge_elems g
  unfold setAddHashed setAddHashedIn
  refine wpAny_holding (wpAny_bind (wpAny_setState_of ho hd hf ?_))
  dsimp only
  rw [byScan_of hsc hb hel]
  simp only [↓reduceIte]
  unfold setAddByScan
  refine wpAny_bind (wpAny_bind (wpAny_rule (wpAny_bind (wpAny_setScan_of hkey ho hd hf hel ?_))))
  cases hfi : List.findIdx? (fun e => (strKind P w).is k e.2) es.toList with
  | some j =>
    dsimp only
    obtain ⟨hj, pj, _⟩ := List.findIdx?_eq_some_iff_getElem.mp hfi
    have hk : k ∈ l := pm.mem_iff.mp ((ge_mem (P := P) (w := w) g k).2 ⟨es.toList[j], List.getElem_mem hj, pj⟩)
    refine wpAny_pure (wpAny_pure (hQ s.heap _ (Heap.SameBut.refl a s.heap) ?_))
    rw [insS, if_pos hk]
    exact ⟨o, es, ep, t, ho, hex, hd, g, pm, nd, hb, hf, hr, hl⟩
  | none =>
    dsimp only
    have hk0 : k ∉ es.toList.map kOf := fun z => by
      obtain ⟨e, he, q⟩ := (ge_mem (P := P) (w := w) g k).1 z
      have c := List.findIdx?_eq_none_iff.mp hfi e he
      rw [q] at c
      cases c
    have hk : k ∉ l := fun z => hk0 (pm.mem_iff.mpr z)
    have q1 := layNew_perm t es ((strKind P w).hash k) (.str k tk)
    have q2 := layNew_fits t es ((strKind P w).hash k) (.str k tk)
    have q3 := layNew_ris t es ((strKind P w).hash k) (.str k tk) hr
    have q4 := layNew_led t es ((strKind P w).hash k) (.str k tk)
    generalize layNew t es ((strKind P w).hash k) (.str k tk) = Z at q1 q2 q3 q4 ⊢
    obtain ⟨es1, t1, wasDummy, gave⟩ := Z
    dsimp only at q1 q2 q3 q4 ⊢
    rw [Array.toList_push] at q1
    have pc : es1.toList.Perm (((strKind P w).hash k, Value.str k tk) :: es.toList) := q1.trans (List.perm_append_singleton _ _)
    have pk : (es1.toList.map kOf).Perm (insS l k) := by
      rw [insS, if_neg hk]
      exact (pc.map kOf).trans (List.Perm.cons k pm)
    have g1 : ∀ e ∈ es1.toList, GE w e := fun e he => by
      rcases List.mem_cons.mp (pc.mem_iff.mp he) with z | z
      · rw [z]
        exact ⟨k, tk, rfl, rfl⟩
      · exact g e z
    have nd1 : (insS l k).Nodup := by
      rw [insS, if_neg hk]
      exact List.nodup_cons.mpr ⟨hk, nd⟩
    have hb1 : es1.size < scanBound := by
      rw [← Array.length_toList, pc.length_eq, List.length_cons, ← List.length_map (f := kOf), pm.length_eq]
      exact room
    have hled : w.params.followText "set-order" = true ∨ t1.led = true := hl.imp id fun z => by rw [q4]; exact z
    have fin : ∀ h', Heap.SameBut a s.heap h' → SetT w h' a (insS l k) → Q true { s with heap := h' } := fun h' sb r => hQ h' true sb r
    have hgw : ∀ (b : Bool) {s1 : Shared} {Q' : Unit → Shared → Prop}, Q' () s1 → wpAny (model P w) A (match b with | true => rule "set.scan.the-table-gave-way" | false => pure ()) Q' E s1 :=
      fun b s1 Q' q => by cases b <;> first | exact wpAny_pure q | exact wpAny_rule q
    refine wpAny_bind (hgw _ ?_)
    split
    · refine wpAny_bind ?_
      rw [hashByValue_scannable 8 hsc]
      refine wpAny_pure (tail_T ?_ ho hex hd g1 pk nd1 hb1 ?_ ?_ ?_ ?_)
      · intro b s1 Q' q; cases b <;> first | exact wpAny_pure q | exact wpAny_rule q
      · first | (split <;> first | exact q2 | exact SetTable.fits_plain_off q2) | exact q2
      · first | (split <;> exact q3) | exact q3
      · first | (split <;> exact hled) | exact hled
      · intro h' sb r; dsimp only; exact wpAny_pure (fin h' sb r)
    · refine wpAny_bind (wpAny_pure ?_)
      simp only [↓reduceIte]
      refine tail_T ?_ ho hex hd g1 pk nd1 hb1 q2 q3 hled ?_
      · intro b s1 Q' q; cases b <;> first | exact wpAny_pure q | exact wpAny_rule q
      · intro h' sb r; dsimp only; exact wpAny_pure (fin h' sb r)
end
/-- the members met ahead of place i -/
def metS (val : Nat → Str) (i : Nat) : List Str := ((List.range i).map val).foldl insS []
theorem metS_succ (val : Nat → Str) (i : Nat) : metS val (i + 1) = insS (metS val i) (val i) := by
  unfold metS
  rw [List.range_succ, List.map_append, List.foldl_append]
  rfl
theorem insS_len (l : List Str) (k : Str) : (insS l k).length ≤ l.length + 1 := by
  unfold insS
  split <;> simp
theorem metS_len (val : Nat → Str) : ∀ i, (metS val i).length ≤ i
  | 0 => Nat.le_refl _
  | i + 1 => by
    rw [metS_succ]
    have := insS_len (metS val i) (val i)
    have := metS_len val i
    omega
section
variable {P : Program} {w : World} {A : Around} {R : Result → Shared → Prop} {I : Addr} {fp wr : List Addr} {Gn : Array GenState → Array GenState → Prop} {n : Nat} {Pv : Nat → Value → Prop} {St : Nat → Shared → Prop}
theorem loop_T (W : WalksS P w A.in1 I fp wr Gn n Pv St) (S : Addr) (hSf : S ∉ fp) (val : Nat → Str) (hval : ∀ i v, Pv i v → ∃ t, v = .str (val i) t) (hb : n + 1 < scanBound) :
    ∀ (k i : Nat) (s : Shared), n - i = k → i ≤ n → St i s → SetT w s.heap S (metS val i) → (∀ s', Moved (S :: wr) Gn s s' → SetT w s'.heap S (metS val n) → R (.ok (.ret .none)) s') →
      codeAny (model P w) A (.builtin "set.update.loop" ⟨[.ref S, .ref I], []⟩) R s := by
  have hSw : S ∉ wr := fun h => hSf (W.sub _ h)
  have hsub : ∀ b ∈ wr, b ∈ S :: wr := fun b hb => List.mem_cons_of_mem _ hb
  intro k
  induction k with
  | zero =>
    intro i s hk hi hst hS hR
    obtain rfl : i = n := by omega
    refine codeAny_builtin F.entry_set_update_loop ?_
    rw [Around.under_plainId F.plain_set_update_loop _]
    show wpAny _ A.in1 (pyNext (.ref I) >>= _) _ _ s
    exact wpAny_bind (W.done s _ _ hst fun s' hm => (show wpAny _ A.in1 (ret Value.none) _ _ s' from wpAny_pure (hR s' (hm.mono hsub) (hS.at fun o e => hm.heap S _ hSw e))))
  | succ k ih =>
    intro i s hk hi hst hS hR
    have hlt : i < n := by omega
    refine codeAny_builtin F.entry_set_update_loop ?_
    rw [Around.under_plainId F.plain_set_update_loop _]
    show wpAny _ A.in1 (pyNext (.ref I) >>= _) _ _ s
    refine wpAny_bind (W.item i s _ _ hlt hst fun v s' hP hst' hm => ?_)
    obtain ⟨t, rfl⟩ := hval i v hP
    have hS' : SetT w s'.heap S (metS val i) := hS.at fun o e => hm.heap S _ hSw e
    show wpAny _ A.in1 (holding [Value.str (val i) t] (setAdd S (.str (val i) t)) >>= _) _ _ s'
    refine wpAny_bind (wpAny_holding ?_)
    unfold setAdd
    refine wpAny_holding (wpAny_bind ((strKind P w).pyHash (k := val i) (strKind_is _ _ _ _) ?_))
    have hroom : (metS val i).length + 1 < scanBound := by have := metS_len val i; omega
    refine add_T (s := { s' with toks := s'.toks + 1 }) hS' hroom fun h' b hsb hS2 => ?_
    rw [← metS_succ] at hS2
    refine wpAny_pure ⟨plainId_quiet F.plain_set_update_loop _, ih (i + 1) _ (by omega) hlt (W.frame _ s' _ _ hst' (Nat.le_succ _) fun b hb o e => ?_) hS2 fun s'' hm'' hS'' => ?_⟩
    · exact (hsb.2 b (fun h : b = S => hSf (by rw [← h]; exact hb))).trans e
    · refine hR s'' (Moved.trans W.gtrans ((hm.mono hsub).then_heap (Nat.le_succ _) fun b o hb e => ?_) hm'') hS''
      exact (hsb.2 b (fun h : b = S => hb (by rw [h]; exact List.mem_cons_self))).trans e
end
section
variable {P : Program} {w : World} {A : Around} {E : Value → Shared → Prop} {s : Shared}
abbrev emptyT (w : World) : Obj := { cls := .type "set", dict := none, data := .set #[] 0 (.fresh 0 0 (!w.params.followText "set-order")) }
theorem new_T (a : Value) {Q1 : Value → Shared → Prop} (h : Q1 (.ref s.heap.objs.size) { s with heap := s.heap.push (emptyT w) }) :
    codeAny (model P w) A (.call (.builtin "set.__new__") ⟨[.type "set", a], []⟩) (wants Q1 E) s := by
  refine codeAny_of_tree ?_
  show wpAny _ A.in1 (do checkBuiltinCall "set.__new__" ⟨[.type "set", a], []⟩; again (.builtin "set.__new__" ⟨[.type "set", a], []⟩)) _ _ s
  refine wpAny_bind (wpAny_of_eq (F.newCall_set_1 a) (wpAny_pure ⟨plainId_quiet F.plain_set_new _, codeAny_builtin F.entry_set_new ?_⟩))
  rw [Around.under_plainId F.plain_set_new _]
  unfold Builtin.«set.__new__» Builtin.Frozenset.newClass
  have hsub := sub_set_self
  obtain ⟨hp, g, d, tk, os⟩ := s
  dsimp only
  wp_walk
  refine wpAny_askSetting (wpAny_pure ?_)
  dsimp only
  simp only [newObj]
  exact wpAny_bind (wpAny_alloc (wpAny_pure (wpAny_pure h)))
theorem fresh_T {h : Heap} (w : World) {a : Addr} (e : h.get? a = some (emptyT w)) : SetT w h a [] :=
  ⟨_, #[], 0, _, e, ⟨rfl, rfl, rfl⟩, rfl, (fun e he => by simp at he), (by simp), List.nodup_nil, (by decide), (by rfl), List.Pairwise.nil, by
    show _ ∨ (!w.params.followText "set-order") = true
    cases w.params.followText "set-order"
    · exact .inr rfl
    · exact .inl rfl⟩
set_option maxRecDepth 100000 in
set_option maxHeartbeats 3200000 in
theorem call_set_T {l : Addr} {items : Array Value} {xs : List Str} {Q : Value → Shared → Prop} (hh : A.handled = none) (hl : s.heap.IsList l items) (hi : StrsAre items.toList xs) (hb : items.size + 1 < scanBound)
    (h : ∀ (h' : Heap) (tk : Nat), SetT w h' s.heap.objs.size (xs.foldl insS []) → (∀ b o, b < s.heap.objs.size → s.heap.get? b = some o → h'.get? b = some o) → Q (.ref s.heap.objs.size) { s with heap := h', toks := tk }) :
    wpAny (model P w) A (call (.type "set") [.ref l]) Q E s := by
  have hsz : xs.length = items.size := by rw [← StrsAre.len_eq hi, Array.length_toList]
  have hmet : metS (fun i => xs.getD i Str.empty) items.size = xs.foldl insS [] := by
    unfold metS
    congr 1
    rw [← hsz]
    refine List.ext_getElem (by simp) fun i h1 h2 => ?_
    simp only [List.getElem_map, List.getElem_range]
    rw [List.getD_eq_getElem?_getD, List.getElem?_eq_getElem h2]
    rfl
  obtain ⟨c, tl, hmro⟩ := F.called_set.mro
  have hmade := F.called_set.made
  have hsub := F.called_set.sub
  refine wpAny_call (codeAny_of_tree ?_)
  show wpAny _ _ (callAny (.type "set") _) _ _ _
  refine wpAny_pure ⟨Code.quiet_builtin _ (by decide +kernel), codeAny_builtin F.entry_type_call ?_⟩
  rw [Around.under_plain (weight_type_call_type "set" [.ref l] []) rfl]
  have h1 := F.called_set.notType
  have h2 := F.called_set.canCreate
  have hct := F.typeCall_set_1 (.ref l)
  repeat (any_goals (first | assumption | wp_step))
  refine codeAny_mono (new_T (.ref l) (E := E) (Q1 := fun obj s1 => obj = .ref s.heap.objs.size ∧ s1 = { s with heap := s.heap.push (emptyT w) }) ⟨rfl, rfl⟩) fun r s1 hr => ?_
  cases r with
  | error e => exact hr
  | ok fl =>
    cases fl with
    | ret obj =>
      obtain ⟨rfl, rfl⟩ := hr
      have hS : (s.heap.push (emptyT w)).get? s.heap.objs.size = some (emptyT w) := Heap.get?_push_size _ rfl
      have hT : Shared.TypeIs { s with heap := s.heap.push (emptyT w) } (.ref s.heap.objs.size) "set" := ⟨_, hS, rfl⟩
      have hli := F.called_set.init.lookup
      have hbi := F.called_set.init.bind (.ref s.heap.objs.size)
      repeat (any_goals (first | assumption | wp_step))
      refine codeAny_mono (codeAny_call_builtin (R := wants (fun r s2 => r = .none ∧ ∃ h' tk, s2 = { s with heap := h', toks := tk } ∧ SetT w h' s.heap.objs.size (xs.foldl insS []) ∧
          (∀ b o, b < s.heap.objs.size → s.heap.get? b = some o → h'.get? b = some o)) E) F.called_set.init.plain F.entry_set_init (check_set_init_1 hT ?_)) fun r2 s2 hr2 => ?_
      · obtain ⟨ol, hol, hcl, nl, hdl⟩ := hl
        obtain ⟨ocls, odict, odata, oslots⟩ := ol
        simp only at hcl hdl
        subst hcl; subst hdl
        have hol' : (s.heap.push (emptyT w)).get? l = some { cls := .type "list", dict := odict, data := .seq items nl, slots := oslots } := Heap.get?_push_of_some _ hol
        have hsls := F.sub_list_set
        have hslf := F.sub_list_frozenset
        have hne : (Value.type "list" == Value.type "dict") = false := by decide
        have hl1 : (s.heap.push (emptyT w)).IsList l items := ⟨_, hol', rfl, nl, rfl⟩
        unfold Builtin.«set.__init__» noKeywords Builtin.Frozenset.updateFrom
        generalize hPI : pyIter = PI
        wp_walk
        subst hPI
        refine wpAny_pyIter_list hl1 (wpAny_bind (wpAny_runValue ?_))
        have hlS : l < s.heap.objs.size := Heap.lt_size hol
        have hh3 : A.in1.in1.in1.handled = none := by simp [hh]
        have hneI : l ≠ (s.heap.push (emptyT w)).objs.size := by
          rw [Heap.size_push]
          exact Nat.ne_of_lt (Nat.lt_succ_of_lt hlS)
        have hSf : s.heap.objs.size ∉ [(s.heap.push (emptyT w)).objs.size, l] := by
          rw [Heap.size_push]
          simp only [List.mem_cons, List.mem_singleton, List.not_mem_nil, or_false, not_or]
          exact ⟨Nat.ne_of_lt (Nat.lt_succ_self _), Nat.ne_of_gt hlS⟩
        have hval : ∀ (i : Nat) (v : Value), items[i]? = some v → ∃ t, v = .str ((fun i => xs.getD i Str.empty) i) t := fun i v hv => SS.strs_at hi i v (by rw [Array.getElem?_toList]; exact hv)
        refine loop_T ((Walks.list hh3 _ l hneI items).toS) s.heap.objs.size hSf (fun i => xs.getD i Str.empty) hval hb (items.size - 0) 0 _ (by omega) (Nat.zero_le _)
          ⟨⟨_, Heap.get?_push_size _ rfl, rfl, rfl⟩, (hl1.push _)⟩ ?hS0 ?hR
        case hS0 =>
          exact fresh_T w (Heap.get?_push_of_some _ hS)
        case hR =>
          intro s' hm hS'
          rw [hmet] at hS'
          obtain ⟨h', g', d', tk', os'⟩ := s'
          have eg : g' = s.gens := hm.gens
          have ed : d' = s.drawn := hm.drawn
          have eo : os' = s.os := hm.os
          subst eg; subst ed; subst eo
          show wpAny _ _ _ _ _ _
          refine wpAny_pure ?_
          show wpAny _ _ (ret Value.none) _ _ _
          refine wpAny_pure ⟨rfl, h', tk', rfl, hS', fun b o hb e => ?_⟩
          have hb1 : b ≠ s.heap.objs.size := Nat.ne_of_lt hb
          have hb2 : b ≠ (s.heap.push (emptyT w)).objs.size := by
            rw [Heap.size_push]
            exact Nat.ne_of_lt (Nat.lt_succ_of_lt hb)
          exact hm.heap b o (by simp only [List.mem_cons, List.mem_singleton, List.not_mem_nil, or_false, not_or]; exact ⟨hb1, hb2⟩) (Heap.get?_push_of_some _ (Heap.get?_push_of_some _ e))
      · cases r2 with
        | error e => exact hr2
        | ok fl2 =>
          cases fl2 with
          | ret r =>
            obtain ⟨rfl, h', tk, rfl, hS', hk'⟩ := hr2
            repeat (any_goals (first | assumption | wp_step))
            exact h _ _ hS' hk'
          | _ => exact hr2.elim
    | _ => exact hr.elim
end
section
variable {P : Program} {w : World} {A : Around} {E : Value → Shared → Prop} {s : Shared} {a : Addr}
theorem strs_of : ∀ (l : List Value), (∀ v ∈ l, ∃ k tk, v = Value.str k tk) → StrsAre l (l.map strOf)
  | l, h => strsAre_map l h
theorem sorted_T {l : List Str} {Q : Value → Shared → Prop} (R : SetT w s.heap a l) (hh : A.handled = none) (h64 : l.length < 64)
    (hQ : ∀ s' p (out : Array Value) (c : Nat) (ys : List Str), (∀ b o, s.heap.get? b = some o → s'.heap.get? b = some o) → s'.gens = s.gens → s'.os = s.os → s.heap.objs.size ≤ p →
      s'.heap.get? p = some (seqObj "list" out c) → StrsAre out.toList ys → ys.Perm l → sortedS ys = true → Q (.ref p) s') :
    wpAny (model P w) A (call (.builtin "sorted") [.ref a]) Q E s := by
  obtain ⟨o, es, ep, t, ho, hex, hd, g, pm, nd, hb, hf, hr, hl⟩ := R
  refine Calls.call_function_entry kind_sorted plain_sorted entry_sorted (args_sorted1 _) ?_
  unfold Builtin.«sorted»
  refine wpAny_bind (m := checkCount "sorted" 1 1 _) (wpAny_pure ?_)
  refine wpAny_bind (collect_set (A := A.in1) hh ⟨o, ho, hex.1, hd⟩ hf hb hr hl fun s1 vs k1 hz g1 o1 pv => ?_)
  have hS : StrsAre vs (vs.map strOf) := strs_of vs fun v hv => by
    obtain ⟨e, he, q⟩ := List.mem_map.mp (pv.mem_iff.mp hv)
    obtain ⟨k, tk, h1, _⟩ := g e he
    exact ⟨k, tk, by rw [← q]; exact h1⟩
  have pk : (vs.map strOf).Perm l := by
    have q := pv.map strOf
    rw [List.map_map] at q
    refine q.trans (List.Perm.trans (List.Perm.of_eq ?_) pm)
    refine List.map_congr_left fun e he => ?_
    obtain ⟨k, tk, h1, _⟩ := g e he
    show strOf e.2 = kOf e
    unfold kOf
    rw [h1]
    rfl
  have hvl : vs.length = l.length := by rw [← pk.length_eq, List.length_map]
  refine wpAny_bind (wpAny_newList ?_ (by rw [hvl, sizeLine_eq]; omega))
  have hoL : (s1.heap.push (seqObj "list" vs.toArray 0)).get? s1.heap.objs.size = some (seqObj "list" vs.toArray 0) := Heap.get?_push_size _ rfl
  refine wpAny_bind (wpAny_holding (wpAny_call_entry slot_list_sort ⟨_, hoL, rfl⟩ entry_list_sort (list_sort_treeK strKind_oneLt hoL hS.keysOf (fun v1 v2 rest e => keyKind_strs (by rw [← e]; exact hS)) (by rw [hvl]; exact h64) fun st' a1 a2 => ⟨_, rfl, ?_⟩) (args_list_sort _)))
  obtain ⟨ys, y1, y2, y3⟩ := sorted_out_str hS a1 a2
  obtain ⟨c, hc⟩ := sortedHeap_at (vs := vs) (out := (arrOf st').map (·.2)) hoL
  refine wpAny_pure ⟨_, rfl, hQ _ s1.heap.objs.size _ c ys (fun b u e => ?_) g1 o1 hz hc y1 (y2.trans pk) y3⟩
  have q := k1 b u e
  have hlt := Heap.lt_size q
  show (sortedHeap (s1.heap.push (seqObj "list" vs.toArray 0)) s1.heap.objs.size vs ((arrOf st').map (·.2))).get? b = some u
  rw [sortedHeap_old (Nat.ne_of_lt hlt) (by rw [size_push']; exact Nat.lt_succ_of_lt hlt)]
  exact Heap.get?_push_of_some _ q
end
/-! the same as rules -/
def SetH (w : World) (a : Addr) (l : List Str) : HO := .ext fun h => SetT w h a l
section
variable {X : Cx}
theorem setH_new {w : World} {P : Program} {H : Hp} {h : Heap} {a : Addr} {l : List Str} (R : SetT w h a l) : ObjOk P w H h a (SetH w a l) :=
  ⟨R, (by obtain ⟨o, _, _, _, ho, _⟩ := R; exact ⟨o, ho⟩), fun h1 h2 r k => SetT.at r k⟩
theorem setH_get {pins : List (Addr × Obj)} {σ : L2.St} {H : Hp} {s : Shared} {a : Addr} {l : List Str} (I : Inv X pins σ H s) (ha : H a = some (SetH X.w a l)) : SetT X.w s.heap a l := (I.hok a _ ha).1
def rSetS (K : PySem.W.Frag) (w : World) : List V → Hp → VK → Prop := fun vs H Q => ∃ (b : Addr) (xs : List Str), vs = [V.ref b] ∧ SqL K H b (xs.map V.str) ∧ xs.length ≤ 100 ∧ ∀ p, H p = none → Q (.ref p) (upd H p (SetH w p (xs.foldl insS [])))
theorem cr_setS (hc : X.calm = true) : CallR X (.type "set") (rSetS X.K X.w) := by
  intro pins s σ H vs us Q I r h
  obtain ⟨b, xs, rfl, hb, hx, q⟩ := h
  obtain ⟨its, rv, hl, _⟩ := I.list hb
  rw [Vals.ref1 r]
  have hlen := rv.length
  rw [List.length_map] at hlen
  refine call_set_T (I.ok.hd hc) hl.isList rv.strs (by rw [List.size_toArray, ← hlen]; unfold scanBound; omega) fun h' tk R k => ?_
  have hn : H s.heap.objs.size = none := I.hok.fresh (Nat.le_refl _)
  have J : Inv X pins σ (upd H s.heap.objs.size (SetH X.w s.heap.objs.size (xs.foldl insS []))) { s with heap := h', toks := tk } :=
    I.call (ch := []) (Un.laid (fun b o e => k b o (Heap.lt_size e) e) (Nat.le_refl _) hn) (I.hok.laid (fun b o e => k b o (Heap.lt_size e) e) (Nat.le_refl _) (setH_new R)) I.bare (fun _ z => nomatch z)
  exact ⟨.ref _, _, J, rfl, q _ hn⟩
def rSortSet (w : World) : List V → Hp → VK → Prop := fun vs H Q => ∃ (a : Addr) (l : List Str), vs = [V.ref a] ∧ H a = some (SetH w a l) ∧ l.length < 64 ∧ ∀ (ys : List Str) (p : Addr), ys.Perm l → sortedS ys = true → H p = none → Q (.ref p) (upd H p (.lst (ys.map V.str)))
theorem cr_sortSet (hc : X.calm = true) : CallR X (.builtin "sorted") (rSortSet X.w) := by
  intro pins s σ H vs us Q I r h
  obtain ⟨a, l, rfl, ha, h64, q⟩ := h
  rw [Vals.ref1 r]
  refine sorted_T (setH_get I ha) (I.ok.hd hc) h64 fun s' p out c ys k g o hp hg hi hpm hs => ?_
  have hlen : (ys.map V.str).length ≤ sizeLine := by rw [List.length_map, hpm.length_eq, sizeLine_eq]; omega
  have hn : H p = none := I.hok.fresh hp
  have J : Inv X pins σ (upd H p (.lst (ys.map V.str))) { s with heap := s'.heap, gens := s'.gens, drawn := s'.drawn, toks := s'.toks } :=
    I.call (ch := []) (Un.laid k hp hn) (I.hok.laid k hp ⟨hlen, out.toList, c, vals_of_strs hi, hg⟩) (by rw [g]; exact I.bare) (fun _ z => nomatch z)
  have e : s' = { s with heap := s'.heap, gens := s'.gens, drawn := s'.drawn, toks := s'.toks } := by
    cases s'; cases s; cases o; rfl
  rw [e]
  exact ⟨.ref p, _, J, rfl, q ys p hpm hs hn⟩
def rLenSet (w : World) : List V → Hp → VK → Prop := fun vs H Q => ∃ (a : Addr) (l : List Str), vs = [V.ref a] ∧ H a = some (SetH w a l) ∧ l.length ≤ 100 ∧ Q (.int l.length) H
theorem call_lenSet : CallR X (.builtin "len") (rLenSet X.w) := by
  intro pins s σ H vs us Q I r h
  obtain ⟨a, l, rfl, ha, hl, q⟩ := h
  rw [Vals.ref1 r]
  obtain ⟨o, es, ep, t, ho, hex, hd, hn, hf⟩ := (setH_get I ha).size
  exact call_len_set ho hex hd hf (by rw [hn]; omega) ⟨.int l.length, H, I.tok _, ⟨_, by rw [hn]⟩, q⟩
end
end
/-! ### what is seen while a word turns -/
def mk2 (x y : Bool) : List Bool := if x = y then [x] else [false, true]
def seenZ : List (Bool × Bool) → List (List Bool)
  | [] => [[]]
  | z :: zs => (mk2 z.1 z.2).flatMap fun m => (seenZ zs).map (m :: ·)
def seenW (a b : List Bool) : List (List Bool) := seenZ (a.zip b)
def stepS (F : List (List Bool)) (z : Bool × Bool) : List (List Bool) := F.flatMap fun w => (mk2 z.1 z.2).map fun m => w ++ [m]
theorem seen_fold : ∀ (zs : List (Bool × Bool)) (F : List (List Bool)), zs.foldl stepS F = F.flatMap fun w => (seenZ zs).map (w ++ ·)
  | [], F => by simp [seenZ]
  | z :: zs, F => by
    rw [List.foldl_cons, seen_fold zs]
    simp only [stepS, seenZ, List.flatMap_assoc, List.flatMap_map, List.map_flatMap, List.map_map]
    congr 1
    funext w
    congr 1
    funext m
    refine List.map_congr_left fun u _ => ?_
    simp
def sUp (a b : List Bool) (i : Nat) : List (List Bool) := ((a.zip b).take i).foldl stepS [[]]
theorem sUp_all {a b : List Bool} {n : Nat} (ha : a.length = n) (hb : b.length = n) : sUp a b n = seenW a b := by
  unfold sUp seenW
  rw [List.take_of_length_le (by simp [ha, hb]), seen_fold]
  simp
theorem sUp_succ {a b : List Bool} {i : Nat} (ha : i < a.length) (hb : i < b.length) : sUp a b (i + 1) = stepS (sUp a b i) (a.getD i false, b.getD i false) := by
  unfold sUp
  have h : (a.zip b)[i]? = some (a.getD i false, b.getD i false) := by
    rw [List.getElem?_zip_eq_some]
    rw [List.getD_eq_getElem?_getD, List.getD_eq_getElem?_getD, List.getElem?_eq_getElem ha, List.getElem?_eq_getElem hb]
    exact ⟨rfl, rfl⟩
  rw [List.take_add_one, h, List.foldl_append]
  rfl
theorem mk2_len (x y : Bool) : (mk2 x y).length ≤ 2 := by
  unfold mk2
  split <;> simp
theorem stepS_len (F : List (List Bool)) (z : Bool × Bool) : (stepS F z).length ≤ 2 * F.length := by
  unfold stepS
  induction F with
  | nil => simp
  | cons w F ih =>
    rw [List.flatMap_cons, List.length_append, List.length_map]
    have := mk2_len z.1 z.2
    simp only [List.length_cons]
    omega
theorem sUp_len (a b : List Bool) : ∀ i, (sUp a b i).length ≤ 2 ^ i
  | 0 => by simp [sUp]
  | i + 1 => by
    by_cases h : i < (a.zip b).length
    · have ha : i < a.length := by simp at h; omega
      have hb : i < b.length := by simp at h; omega
      rw [sUp_succ ha hb, Nat.pow_succ]
      have := stepS_len (sUp a b i) (a.getD i false, b.getD i false)
      have := sUp_len a b i
      omega
    · have e : sUp a b (i + 1) = sUp a b i := by
        unfold sUp
        rw [List.take_of_length_le (by omega), List.take_of_length_le (by omega)]
      rw [e, Nat.pow_succ]
      have := sUp_len a b i
      omega
theorem sUp_wide {a b : List Bool} : ∀ {i : Nat}, i ≤ a.length → i ≤ b.length → ∀ w ∈ sUp a b i, w.length = i
  | 0, _, _, w, h => by
    have h : w ∈ [[]] := by simpa [sUp] using h
    rw [List.mem_singleton.mp h]
    rfl
  | i + 1, ha, hb, w, h => by
    rw [sUp_succ (by omega) (by omega)] at h
    obtain ⟨u, hu, hw⟩ := List.mem_flatMap.mp h
    obtain ⟨m, _, rfl⟩ := List.mem_map.mp hw
    simp [sUp_wide (by omega) (by omega) u hu]
theorem seenW_len {a b : List Bool} {n : Nat} (ha : a.length = n) (hb : b.length = n) : (seenW a b).length ≤ 2 ^ n := by
  rw [← sUp_all ha hb]
  exact sUp_len a b n
theorem seenW_wide {a b : List Bool} {n : Nat} (ha : a.length = n) (hb : b.length = n) : ∀ w ∈ seenW a b, w.length = n := by
  rw [← sUp_all ha hb]
  exact sUp_wide (by omega) (by omega)
theorem perm_two {α : Type} {ys : List α} {p q : α} (h : ys.Perm [p, q]) : ys = [p, q] ∨ ys = [q, p] := by
  have hl := h.length_eq
  match ys, hl with
  | [u, v], _ =>
    have hu : u = p ∨ u = q := by simpa using h.mem_iff.mp (List.mem_cons_self)
    rcases hu with rfl | rfl
    · have := (List.perm_cons u).mp h
      have := List.perm_singleton.mp this
      exact .inl (by rw [this])
    · have h2 : [u, v].Perm [u, p] := h.trans (List.Perm.swap u p [])
      have := List.perm_singleton.mp ((List.perm_cons u).mp h2)
      exact .inr (by rw [this])
theorem sorted_marks {x y : Bool} {ys : List Str} (h : ys.Perm ([wd [x], wd [y]].foldl insS [])) (hs : PyProof.Rows.sortedS ys = true) : ys = (mk2 x y).map fun m => wd [m] := by
  have c1 : (wd [true] : Str) ∉ [wd [false]] := by decide
  have c2 : (wd [false] : Str) ∉ [wd [true]] := by decide
  have h1 : ([wd [x], wd [y]].foldl insS []) = insS [wd [x]] (wd [y]) := rfl
  rw [h1] at h
  cases x <;> cases y
  · rw [show insS [wd [false]] (wd [false]) = [wd [false]] by decide] at h
    rw [List.perm_singleton.mp h]
    rfl
  · rw [show insS [wd [false]] (wd [true]) = [wd [true], wd [false]] by decide] at h
    rcases perm_two h with rfl | rfl
    · exact absurd hs (by decide)
    · rfl
  · rw [show insS [wd [true]] (wd [false]) = [wd [false], wd [true]] by decide] at h
    rcases perm_two h with rfl | rfl
    · rfl
    · exact absurd hs (by decide)
  · rw [show insS [wd [true]] (wd [true]) = [wd [true]] by decide] at h
    rw [List.perm_singleton.mp h]
    rfl
theorem setM_len (x y : Str) : ([x, y].foldl insS []).length ≤ 2 := by
  have h1 : ([x, y].foldl insS []) = insS [x] y := rfl
  rw [h1]
  exact insS_len [x] y
def RetU (xs : List V) (H : Hp) (Q : VK) : Prop := ∀ p H2, H p = none → Ex H H2 → H2 p = some (.tup xs) → Q (.ref p) H2
/-! ### lanes: the places, the events, a step -/
inductive Ev where
  | look (w : Bool)
  | tp (p : Bool) (o : Option (List Bool))
  deriving DecidableEq
structure Co where
  put : Nat
  got : Nat
  sp : Nat
  sg : Nat
  deriving DecidableEq
def oV : Option (List Bool) → V
  | none => .non
  | some w => wv w
def pS : Bool → Str
  | true => "put"
  | false => "get"
def wS : Bool → Str
  | true => "writer"
  | false => "reader"
def evV : Ev → List V
  | .look w => [.str "look", .str (wS w)]
  | .tp p o => [.str (pS p), oV o]
def goes (r : Nat) (c : Co) : Bool → Bool
  | true => decide (((c.put : Int) - c.sg) % (2 * r) < r)
  | false => !decide (c.sp = c.got)
def insd (r : Nat) (c : Co) : Int := ((c.put : Int) - c.got) % (2 * r)
def nxt (r i : Nat) : Nat := (i + 1) % (2 * r)
def here (c : Co) : Bool → Nat
  | true => c.put
  | false => c.got
def other (r : Nat) (c : Co) (p : Bool) : Nat := if goes r c p then nxt r (here c p) else here c p
def mayW (r : Nat) (ws : List (List Bool)) (c : Co) (p : Bool) : List (List Bool) := seenW (ws.getD (here c p) []) (ws.getD (other r c p) [])
def canP (r : Nat) (ws : List (List Bool)) (c : Co) (p : Bool) : List Ev := .tp p none :: (mayW r ws c p).map fun w => .tp p (some w)
def canE (r : Nat) (ws : List (List Bool)) (c : Co) : List Ev := [.look true, .look false] ++ canP r ws c true ++ canP r ws c false
def bad (r : Nat) (c : Co) : Bool → Bool
  | true => decide (insd r c = r)
  | false => decide (insd r c = 0)
def adv (r : Nat) (c : Co) : Bool → Co
  | true => { c with put := nxt r c.put }
  | false => { c with got := nxt r c.got }
def sees (ws : List (List Bool)) (p : Bool) (o : Option (List Bool)) (c : Co) : Co :=
  match o with
  | none => c
  | some w => if w ∈ ws then (match p with | true => { c with sp := ws.idxOf w } | false => { c with sg := ws.idxOf w }) else c
/-- a letter that moves -/
def movs (r : Nat) (c : Co) : Ev → Option Bool
  | .look _ => none
  | .tp p _ => if goes r c p && !bad r c p then some p else none
def cst (r : Nat) (ws : List (List Bool)) (c : Co) : Ev → Co
  | .look true => { c with sg := c.got }
  | .look false => { c with sp := c.put }
  | .tp p o => if goes r c p then (if bad r c p then c else sees ws p o (adv r c p)) else sees ws p o c
/-- a fault -/
def flt (r : Nat) (c : Co) : Ev → Option Bool
  | .look _ => none
  | .tp p _ => if goes r c p && bad r c p then some p else none
def fltV : Option Bool → V
  | none => .non
  | some true => .str "over"
  | some false => .str "under"
def CoOk (r : Nat) (c : Co) : Prop := c.put < 2 * r ∧ c.got < 2 * r ∧ c.sp < 2 * r ∧ c.sg < 2 * r
structure WW (ws : List (List Bool)) (n r : Nat) : Prop where
  r1 : 1 ≤ r
  r6 : r ≤ 6
  n1 : 1 ≤ n
  n4 : n ≤ 4
  len : ws.length = 2 * r
  wide : ∀ w ∈ ws, w.length = n
theorem nxt_lt {r : Nat} (h : 1 ≤ r) (i : Nat) : nxt r i < 2 * r := Nat.mod_lt _ (by omega)
theorem nxt_int (r i : Nat) : ((nxt r i : Nat) : Int) = ((i : Int) + 1) % (2 * (r : Int)) := by
  unfold nxt
  rw [Int.natCast_emod]
  simp
theorem coOk_zero {r : Nat} (h : 1 ≤ r) : CoOk r ⟨0, 0, 0, 0⟩ := by
  refine ⟨?_, ?_, ?_, ?_⟩ <;> show 0 < 2 * r <;> omega
theorem sees_ok {r : Nat} {ws : List (List Bool)} {c : Co} (hl : ws.length = 2 * r) (h : CoOk r c) (p : Bool) (o : Option (List Bool)) : CoOk r (sees ws p o c) := by
  unfold sees
  cases o with
  | none => exact h
  | some w =>
    by_cases hm : w ∈ ws
    · have hi : ws.idxOf w < 2 * r := by
        rw [← hl]
        exact List.idxOf_lt_length_of_mem hm
      simp only [if_pos hm]
      cases p
      · exact ⟨h.1, h.2.1, h.2.2.1, hi⟩
      · exact ⟨h.1, h.2.1, hi, h.2.2.2⟩
    · simp only [if_neg hm]
      exact h
theorem adv_ok {r : Nat} {c : Co} (hr : 1 ≤ r) (h : CoOk r c) (p : Bool) : CoOk r (adv r c p) := by
  cases p
  · exact ⟨h.1, nxt_lt hr _, h.2.2.1, h.2.2.2⟩
  · exact ⟨nxt_lt hr _, h.2.1, h.2.2.1, h.2.2.2⟩
theorem cst_ok {r : Nat} {ws : List (List Bool)} {c : Co} (hr : 1 ≤ r) (hl : ws.length = 2 * r) (h : CoOk r c) (e : Ev) : CoOk r (cst r ws c e) := by
  cases e with
  | look w =>
    cases w
    · exact ⟨h.1, h.2.1, h.1, h.2.2.2⟩
    · exact ⟨h.1, h.2.1, h.2.2.1, h.2.1⟩
  | tp p o =>
    show CoOk r (if goes r c p then (if bad r c p then c else sees ws p o (adv r c p)) else sees ws p o c)
    split
    · split
      · exact h
      · exact sees_ok hl (adv_ok hr h p) p o
    · exact sees_ok hl h p o
theorem here_lt {r : Nat} {c : Co} (h : CoOk r c) (p : Bool) : here c p < 2 * r := by
  cases p
  · exact h.2.1
  · exact h.1
theorem other_lt {r : Nat} {c : Co} (hr : 1 ≤ r) (h : CoOk r c) (p : Bool) : other r c p < 2 * r := by
  unfold other
  split
  · exact nxt_lt hr _
  · exact here_lt h p
theorem WW.at {ws : List (List Bool)} {n r i : Nat} (h : WW ws n r) (hi : i < 2 * r) : (ws.map wv)[i]? = some (wv (ws.getD i [])) := by
  have : i < ws.length := by rw [h.len]; exact hi
  rw [List.getElem?_map, List.getD_eq_getElem?_getD, List.getElem?_eq_getElem this]
  rfl
theorem WW.wat {ws : List (List Bool)} {n r i : Nat} (h : WW ws n r) (hi : i < 2 * r) : (ws.getD i []).length = n := by
  have : i < ws.length := by rw [h.len]; exact hi
  rw [List.getD_eq_getElem?_getD, List.getElem?_eq_getElem this]
  exact h.wide _ (List.getElem_mem this)
theorem mayW_len {ws : List (List Bool)} {n r : Nat} {c : Co} (h : WW ws n r) (hc : CoOk r c) (p : Bool) : (mayW r ws c p).length ≤ 16 := by
  have := seenW_len (h.wat (here_lt hc p)) (h.wat (other_lt h.r1 hc p))
  have := pow16 h.n4
  unfold mayW
  omega
theorem mayW_wide {ws : List (List Bool)} {n r : Nat} {c : Co} (h : WW ws n r) (hc : CoOk r c) (p : Bool) : ∀ w ∈ mayW r ws c p, w.length = n := seenW_wide (h.wat (here_lt hc p)) (h.wat (other_lt h.r1 hc p))
/-! the fields of a lane -/
def FS (r : Nat) (pw pb : Addr) (c : Co) (m : Nat) (f : V) : List (Str × V) :=
  [("room", .int (r : Int)), ("words", .ref pw), ("put", .int (c.put : Int)), ("got", .int (c.got : Int)), ("seen_got", .int (c.sg : Int)), ("seen_put", .int (c.sp : Int)), ("boxes", .ref pb), ("many", .int (m : Int)), ("fault", f)]
section
variable {r : Nat} {pw pb : Addr} {c : Co} {m : Nat} {f : V}
theorem fs_room : (FS r pw pb c m f).lookup ("room" : Str) = some (.int (r : Int)) := by rfl
theorem fs_words : (FS r pw pb c m f).lookup ("words" : Str) = some (.ref pw) := by rfl
theorem fs_put : (FS r pw pb c m f).lookup ("put" : Str) = some (.int (c.put : Int)) := by rfl
theorem fs_got : (FS r pw pb c m f).lookup ("got" : Str) = some (.int (c.got : Int)) := by rfl
theorem fs_sg : (FS r pw pb c m f).lookup ("seen_got" : Str) = some (.int (c.sg : Int)) := by rfl
theorem fs_sp : (FS r pw pb c m f).lookup ("seen_put" : Str) = some (.int (c.sp : Int)) := by rfl
theorem fs_boxes : (FS r pw pb c m f).lookup ("boxes" : Str) = some (.ref pb) := by rfl
theorem fs_many : (FS r pw pb c m f).lookup ("many" : Str) = some (.int (m : Int)) := by rfl
theorem fs_fault : (FS r pw pb c m f).lookup ("fault" : Str) = some f := by rfl
theorem fs_len : (FS r pw pb c m f).length < 1000 := by simp [FS]
theorem fp_put {z : Nat} : putF "put" (.int (z : Int)) (FS r pw pb c m f) = FS r pw pb { c with put := z } m f := by rfl
theorem fp_got {z : Nat} : putF "got" (.int (z : Int)) (FS r pw pb c m f) = FS r pw pb { c with got := z } m f := by rfl
theorem fp_sg {z : Nat} : putF "seen_got" (.int (z : Int)) (FS r pw pb c m f) = FS r pw pb { c with sg := z } m f := by rfl
theorem fp_sp {z : Nat} : putF "seen_put" (.int (z : Int)) (FS r pw pb c m f) = FS r pw pb { c with sp := z } m f := by rfl
theorem fp_many {z : Nat} : putF "many" (.int (z : Int)) (FS r pw pb c m f) = FS r pw pb c z f := by rfl
theorem fp_fault {z : V} : putF "fault" z (FS r pw pb c m f) = FS r pw pb c m z := by rfl
end
/-- a lane's object -/
def Ln (C : Addr) (r : Nat) (pw pb : Addr) (H : Hp) (x : Addr) (c : Co) (m : Nat) (f : V) : Prop := ∃ dx, H x = some (.ins C dx (FS r pw pb c m f))
theorem Ln.mono {C : Addr} {r : Nat} {pw pb : Addr} {H H' : Hp} {x : Addr} {c : Co} {m : Nat} {f : V} (e : Ex H H') (h : Ln C r pw pb H x c m f) : Ln C r pw pb H' x c m f := by
  obtain ⟨dx, h⟩ := h
  exact ⟨dx, e _ _ h⟩
/-- all but d and e stays -/
def Ex2 (d e : Addr) (H H' : Hp) : Prop := ∀ a o, H a = some o → a ≠ d → a ≠ e → H' a = some o
theorem Ex2.refl (d e : Addr) (H : Hp) : Ex2 d e H H := fun _ _ h _ _ => h
theorem Ex2.trans {d e : Addr} {H H1 H2 : Hp} (a : Ex2 d e H H1) (b : Ex2 d e H1 H2) : Ex2 d e H H2 := fun x o h n m => b x o (a x o h n m) n m
theorem Ex2.of {d e : Addr} {H H1 : Hp} (a : Ex H H1) : Ex2 d e H H1 := fun x o h _ _ => a x o h
theorem Ex2.upd1 {d e : Addr} {H H1 : Hp} {o : HO} (a : Ex2 d e H H1) : Ex2 d e H (L2.upd H1 d o) := fun x o h n m => by
  rw [upd_ne n]
  exact a x o h n m
theorem Ex2.upd2 {d e : Addr} {H H1 : Hp} {o : HO} (a : Ex2 d e H H1) : Ex2 d e H (L2.upd H1 e o) := fun x o h n m => by
  rw [upd_ne m]
  exact a x o h n m
theorem EvAt_none {t : Addr} {H : Hp} {xs : List V} {C dx : Addr} {fs : List (Str × V)} {x : Addr} (h : H t = some (.tup xs)) (h2 : H x = some (.ins C dx fs)) : t ≠ x := by
  rintro rfl
  rw [h] at h2
  cases h2
theorem idx_spec {ws : List (List Bool)} {w : List Bool} (h : w ∈ ws) : (ws.map wv)[ws.idxOf w]? = some (wv w) ∧ ∀ (k : Nat) (z : V), k < ws.idxOf w → (ws.map wv)[k]? = some z → eqV z (wv w) = false := by
  have hl := List.idxOf_lt_length_of_mem h
  refine ⟨?_, fun k z hk hz => ?_⟩
  · rw [List.getElem?_map, List.getElem?_eq_getElem hl, List.getElem_idxOf]
    rfl
  · rw [List.getElem?_map] at hz
    have hkl : k < ws.length := Nat.lt_trans hk hl
    rw [List.getElem?_eq_getElem hkl] at hz
    have hz : wv ws[k] = z := Option.some.inj hz
    subst hz
    have : ws[k] ≠ w := by
      intro e
      have := List.not_of_lt_findIdx (p := (· == w)) hk
      simp [e] at this
    have hn : wd ws[k] ≠ wd w := fun e => this (wd_inj e)
    simpa [eqV] using hn
/-! what the lane's object holds behind an event -/
def pMany (r : Nat) (c : Co) (m : Nat) (e : Ev) : Nat := if movs r c e = some true then m + 1 else m
def pBox (r : Nat) (c : Co) (m : Nat) (bx : List V) (e : Ev) : List V := if movs r c e = some true then bx.set (c.put % r) (.int (m : Int)) else bx
def pAns (r : Nat) (c : Co) (m : Nat) (bx : List V) (e : Ev) : V :=
  match movs r c e with
  | some true => .int (m : Int)
  | some false => bx.getD (c.got % r) .non
  | none => fltV (flt r c e)
def pFlt (r : Nat) (c : Co) (f : V) (e : Ev) : V :=
  match flt r c e with
  | none => f
  | some p => fltV (some p)
def PDo (C : Addr) (r : Nat) (pw pb x : Addr) (ws : List (List Bool)) (c : Co) (m : Nat) (f : V) (bx : List V) (e : Ev) (H : Hp) (Q : VK) : Prop :=
  ∀ H', Ex2 x pb H H' → Ln C r pw pb H' x (cst r ws c e) (pMany r c m e) (pFlt r c f e) → H' pb = some (.lst (pBox r c m bx e)) → Q (pAns r c m bx e) H'
theorem pBox_len {r : Nat} {c : Co} {m : Nat} {bx : List V} {e : Ev} (h : bx.length = r) : (pBox r c m bx e).length = r := by
  unfold pBox
  split
  · rw [List.length_set]
    exact h
  · exact h
section
variable {r : Nat} {c : Co} {p : Bool} {o : Option (List Bool)}
theorem movs_go (h1 : goes r c p = true) (h2 : bad r c p = false) : movs r c (.tp p o) = some p := by
  show (if goes r c p && !bad r c p then some p else none) = _
  rw [h1, h2]
  rfl
theorem movs_bad (h2 : bad r c p = true) : movs r c (.tp p o) = none := by
  show (if goes r c p && !bad r c p then some p else none) = _
  rw [h2]
  simp
theorem movs_stay (h1 : goes r c p = false) : movs r c (.tp p o) = none := by
  show (if goes r c p && !bad r c p then some p else none) = _
  rw [h1]
  rfl
theorem flt_go (h2 : bad r c p = false) : flt r c (.tp p o) = none := by
  show (if goes r c p && bad r c p then some p else none) = _
  rw [h2]
  simp
theorem flt_bad (h1 : goes r c p = true) (h2 : bad r c p = true) : flt r c (.tp p o) = some p := by
  show (if goes r c p && bad r c p then some p else none) = _
  rw [h1, h2]
  rfl
theorem flt_stay (h1 : goes r c p = false) : flt r c (.tp p o) = none := by
  show (if goes r c p && bad r c p then some p else none) = _
  rw [h1]
  rfl
theorem cst_go {ws : List (List Bool)} (h1 : goes r c p = true) (h2 : bad r c p = false) : cst r ws c (.tp p o) = sees ws p o (adv r c p) := by
  show (if goes r c p then (if bad r c p then c else sees ws p o (adv r c p)) else sees ws p o c) = _
  rw [h1, h2]
  rfl
theorem cst_bad {ws : List (List Bool)} (h1 : goes r c p = true) (h2 : bad r c p = true) : cst r ws c (.tp p o) = c := by
  show (if goes r c p then (if bad r c p then c else sees ws p o (adv r c p)) else sees ws p o c) = _
  rw [h1, h2]
  rfl
theorem cst_stay {ws : List (List Bool)} (h1 : goes r c p = false) : cst r ws c (.tp p o) = sees ws p o c := by
  show (if goes r c p then (if bad r c p then c else sees ws p o (adv r c p)) else sees ws p o c) = _
  rw [h1]
  rfl
end
def nwin (m : Nat) (ps : List Nat) : List Nat := (List.range m).map fun i => ps.getD (m - 1 - i) 0
def skey (m : Nat) (ps gs : List Nat) : List Nat := (nwin m ps ++ nwin m gs).map (· - gs.getD (m - 1) 0)
def ixOf (k : List Nat) : List (List Nat) → Option Nat
  | [] => none
  | x :: r => if x = k then some 0 else (ixOf k r).map (· + 1)
def newP (r a : Nat) (ps gs : List Nat) : Nat := if ps.getD 0 0 < r + gs.getD a 0 then ps.getD 0 0 + 1 else ps.getD 0 0
def newG (b : Nat) (ps gs : List Nat) : Nat := if gs.getD 0 0 < ps.getD b 0 then gs.getD 0 0 + 1 else gs.getD 0 0
/-- the going by beats: fuel, the beat, the counts (newest first), the keys met (newest first) -/
def sgo (r a b m : Nat) : Nat → Nat → List Nat → List Nat → List (List Nat) → Option (Nat × Nat × Nat)
  | 0, _, _, _, _ => none
  | f + 1, t, ps, gs, ks => match ixOf (skey m ps gs) ks with
    | some i => some (t - 1 - i, i + 1, ps.getD 0 0 - ps.getD (i + 1) 0)
    | none => sgo r a b m f (t + 1) (newP r a ps gs :: ps) (newG b ps gs :: gs) (skey m ps gs :: ks)
def sRes (r a b : Nat) : Option (Nat × Nat × Nat) := sgo r a b (max a b + 1) 40 0 [0] [0] []
/-! quick forms for the kernel -/
def beqL : List Nat → List Nat → Bool
  | [], [] => true
  | x :: a, y :: b => Nat.beq x y && beqL a b
  | _, _ => false
def at0 : List Nat → Nat → Nat
  | [], _ => 0
  | x :: _, 0 => x
  | _ :: r, n + 1 => at0 r n
def winQ (base : Nat) : Nat → List Nat → List Nat → List Nat
  | 0, _, acc => acc
  | m + 1, [], acc => winQ base m [] (0 :: acc)
  | m + 1, x :: r, acc => winQ base m r ((x - base) :: acc)
def ixQ (k : List Nat) : List (List Nat) → Nat → Option Nat
  | [], _ => none
  | x :: r, i => cond (beqL x k) (some i) (ixQ k r (i + 1))
def sQ (r a b m : Nat) : Nat → Nat → List Nat → List Nat → List (List Nat) → Option (Nat × Nat × Nat)
  | 0, _, _, _, _ => none
  | f + 1, t, ps, gs, ks =>
    match ixQ (winQ (at0 gs (m - 1)) m ps (winQ (at0 gs (m - 1)) m gs [])) ks 0 with
    | some i => some (t - 1 - i, i + 1, at0 ps 0 - at0 ps (i + 1))
    | none => sQ r a b m f (t + 1) ((cond (Nat.blt (at0 ps 0) (r + at0 gs a)) (at0 ps 0 + 1) (at0 ps 0)) :: ps) ((cond (Nat.blt (at0 gs 0) (at0 ps b)) (at0 gs 0 + 1) (at0 gs 0)) :: gs) (winQ (at0 gs (m - 1)) m ps (winQ (at0 gs (m - 1)) m gs []) :: ks)
theorem at0_eq : ∀ (l : List Nat) (n : Nat), at0 l n = l.getD n 0
  | [], _ => by simp [at0]
  | x :: _, 0 => by simp [at0]
  | _ :: r, n + 1 => by simp [at0, at0_eq r n]
theorem beqL_iff : ∀ (a b : List Nat), beqL a b = true ↔ a = b
  | [], [] => by simp [beqL]
  | [], _ :: _ => by simp [beqL]
  | _ :: _, [] => by simp [beqL]
  | x :: a, y :: b => by simp [beqL, beqL_iff a b]
theorem nwin_succ (m : Nat) (ps : List Nat) : nwin (m + 1) ps = nwin m ps.tail ++ [ps.getD 0 0] := by
  unfold nwin
  rw [List.range_succ, List.map_append]
  congr 1
  · refine List.map_congr_left fun i hi => ?_
    have hi : i < m := List.mem_range.mp hi
    have e : m + 1 - 1 - i = (m - 1 - i) + 1 := by omega
    rw [e]
    cases ps with
    | nil => simp
    | cons x r => simp
  · simp
theorem winQ_eq (base : Nat) : ∀ (m : Nat) (ps acc : List Nat), winQ base m ps acc = (nwin m ps).map (· - base) ++ acc
  | 0, _, _ => by simp [winQ, nwin]
  | m + 1, [], acc => by
    rw [nwin_succ]
    show winQ base m [] (0 :: acc) = _
    rw [winQ_eq base m [] (0 :: acc)]
    simp
  | m + 1, x :: r, acc => by
    rw [nwin_succ]
    show winQ base m r ((x - base) :: acc) = _
    rw [winQ_eq base m r]
    simp
theorem key_eq (m : Nat) (ps gs : List Nat) : winQ (at0 gs (m - 1)) m ps (winQ (at0 gs (m - 1)) m gs []) = skey m ps gs := by
  rw [winQ_eq, winQ_eq, at0_eq]
  simp [skey]
theorem ixQ_eq (k : List Nat) : ∀ (ks : List (List Nat)) (i : Nat), ixQ k ks i = (ixOf k ks).map (· + i)
  | [], _ => rfl
  | x :: r, i => by
    unfold ixQ ixOf
    by_cases h : x = k
    · rw [(beqL_iff x k).mpr h, if_pos h]
      simp
    · have hb : beqL x k = false := by
        cases e : beqL x k with
        | false => rfl
        | true => exact absurd ((beqL_iff x k).mp e) h
      rw [hb, if_neg h, Option.map_map]
      show ixQ k r (i + 1) = _
      rw [ixQ_eq k r (i + 1)]
      congr 1
      funext j
      simp
      omega
theorem sQ_eq (r a b m : Nat) : ∀ (f t : Nat) (ps gs : List Nat) (ks : List (List Nat)), sQ r a b m f t ps gs ks = sgo r a b m f t ps gs ks
  | 0, _, _, _, _ => rfl
  | f + 1, t, ps, gs, ks => by
    unfold sQ sgo
    rw [key_eq, ixQ_eq]
    cases ixOf (skey m ps gs) ks with
    | some i => simp [at0_eq]
    | none =>
      show sQ r a b m f (t + 1) _ _ _ = sgo r a b m f (t + 1) _ _ _
      rw [sQ_eq r a b m f]
      simp only [at0_eq]
      have e1 : (cond (Nat.blt (ps.getD 0 0) (r + gs.getD a 0)) (ps.getD 0 0 + 1) (ps.getD 0 0)) = newP r a ps gs := by
        unfold newP
        by_cases h : ps.getD 0 0 < r + gs.getD a 0
        · rw [if_pos h, show Nat.blt (ps.getD 0 0) (r + gs.getD a 0) = true from Nat.ble_eq.mpr h]
          rfl
        · rw [if_neg h]
          cases e : Nat.blt (ps.getD 0 0) (r + gs.getD a 0) with
          | false => rfl
          | true => exact absurd (Nat.ble_eq.mp e) h
      have e2 : (cond (Nat.blt (gs.getD 0 0) (ps.getD b 0)) (gs.getD 0 0 + 1) (gs.getD 0 0)) = newG b ps gs := by
        unfold newG
        by_cases h : gs.getD 0 0 < ps.getD b 0
        · rw [if_pos h, show Nat.blt (gs.getD 0 0) (ps.getD b 0) = true from Nat.ble_eq.mpr h]
          rfl
        · rw [if_neg h]
          cases e : Nat.blt (gs.getD 0 0) (ps.getD b 0) with
          | false => rfl
          | true => exact absurd (Nat.ble_eq.mp e) h
      rw [e1, e2]
def okQ (r a b : Nat) : Bool := match sQ r a b (max a b + 1) 40 0 [0] [0] [] with
  | some (_, p, q) => Nat.beq (q * (a + b + 2)) (p * min r (a + b + 2)) && (Nat.blt 0 p && Nat.blt p 100)
  | none => false
def upTo (p : Nat → Bool) : Nat → Bool
  | 0 => true
  | n + 1 => p n && upTo p n
theorem upTo_ok {p : Nat → Bool} : ∀ {n : Nat}, upTo p n = true → ∀ i, i < n → p i = true
  | 0, _, i, h => absurd h (Nat.not_lt_zero _)
  | n + 1, h, i, hi => by
    have h : (p n && upTo p n) = true := h
    rw [Bool.and_eq_true] at h
    by_cases e : i = n
    · rw [e]
      exact h.1
    · exact upTo_ok h.2 i (by omega)
def allQ : Bool := upTo (fun a => upTo (fun b => upTo (fun r => okQ (r + 1) a b) 20) 7) 7
set_option maxHeartbeats 0 in
theorem allQ_ok : allQ = true := by decide +kernel
/-- of each room, each lateness: it goes round, and as many letters as told -/
theorem sRes_ok {r a b : Nat} (h1 : 1 ≤ r) (h2 : r ≤ 20) (ha : a ≤ 6) (hb : b ≤ 6) : ∃ s p q, sRes r a b = some (s, p, q) ∧ q * (a + b + 2) = p * min r (a + b + 2) ∧ 1 ≤ p ∧ p < 100 := by
  have h := upTo_ok (upTo_ok (upTo_ok allQ_ok a (by omega)) b (by omega)) (r - 1) (by omega)
  have e : r - 1 + 1 = r := by omega
  rw [e] at h
  unfold okQ at h
  rw [sQ_eq] at h
  unfold sRes
  cases hs : sgo r a b (max a b + 1) 40 0 [0] [0] [] with
  | none =>
    rw [hs] at h
    cases h
  | some x =>
    obtain ⟨s, p, q⟩ := x
    rw [hs] at h
    have h : (Nat.beq (q * (a + b + 2)) (p * min r (a + b + 2)) && (Nat.blt 0 p && Nat.blt p 100)) = true := h
    rw [Bool.and_eq_true, Bool.and_eq_true] at h
    exact ⟨s, p, q, rfl, Nat.eq_of_beq_eq_true h.1, Nat.ble_eq.mp h.2.1, Nat.ble_eq.mp h.2.2⟩
/-! ### steady: windows, keys met -/
abbrev nv (n : Nat) : V := .int (n : Int)
theorem nwin_len (m : Nat) (ps : List Nat) : (nwin m ps).length = m := by simp [nwin]
theorem nwin_at {m i : Nat} (ps : List Nat) (h : i < m) : ((nwin m ps).map nv)[i]? = some (nv (ps.getD (m - 1 - i) 0)) := by
  unfold nwin
  rw [List.map_map, List.getElem?_map, List.getElem?_range h]
  rfl
theorem nwin_last {m : Nat} (ps : List Nat) (h : 0 < m) : atI ((nwin m ps).map nv) (-1) = some (nv (ps.getD 0 0)) := by
  obtain ⟨k, rfl⟩ : ∃ k, m = k + 1 := ⟨m - 1, by omega⟩
  rw [nwin_succ, List.map_append]
  exact atI_last _ _
theorem nwin_new {m : Nat} (ps : List Nat) (x : Nat) (h : 0 < m) : (nwin m ps).drop 1 ++ [x] = nwin m (x :: ps) := by
  obtain ⟨k, rfl⟩ : ∃ k, m = k + 1 := ⟨m - 1, by omega⟩
  rw [nwin_succ k (x :: ps)]
  show (nwin (k + 1) ps).drop 1 ++ [x] = nwin k ps ++ [x]
  congr 1
  unfold nwin
  rw [← List.map_drop, List.range_succ_eq_map, List.drop_one, List.tail_cons, List.map_map]
  refine List.map_congr_left fun i hi => ?_
  have hi := List.mem_range.mp hi
  show ps.getD (k + 1 - 1 - (i + 1)) 0 = ps.getD (k - 1 - i) 0
  congr 1
  omega
theorem nwin_zero (m : Nat) : nwin m [0] = List.replicate m 0 := by
  unfold nwin
  have h : ∀ i ∈ List.range m, (fun i => [0].getD (m - 1 - i) 0) i = (fun _ => 0) i := fun i _ => by
    show [0].getD (m - 1 - i) 0 = 0
    cases (m - 1 - i) <;> rfl
  rw [List.map_congr_left h, List.map_const', List.length_range]
theorem rep_flat (n : Nat) (x : V) : (List.replicate n [x]).flatten = List.replicate n x := by
  induction n with
  | zero => rfl
  | succ n ih => rw [List.replicate_succ, List.flatten_cons, ih]; rfl
/-- the counts never fall, no more are got than put -/
structure SInv (ps gs : List Nat) : Prop where
  g : ∀ i, gs.getD (i + 1) 0 ≤ gs.getD i 0
  p : ∀ i, ps.getD (i + 1) 0 ≤ ps.getD i 0
  gp : ∀ i, gs.getD i 0 ≤ ps.getD i 0
theorem SInv.start : SInv [0] [0] := ⟨fun i => by simp, fun i => by simp, fun i => by cases i <;> simp⟩
theorem mono_getD {l : List Nat} (h : ∀ i, l.getD (i + 1) 0 ≤ l.getD i 0) : ∀ (i j : Nat), l.getD (i + j) 0 ≤ l.getD i 0
  | i, 0 => Nat.le_refl _
  | i, j + 1 => Nat.le_trans (h (i + j)) (mono_getD h i j)
theorem SInv.step {ps gs : List Nat} (h : SInv ps gs) (r a b : Nat) : SInv (newP r a ps gs :: ps) (newG b ps gs :: gs) := by
  have hp : ps.getD 0 0 ≤ newP r a ps gs := by unfold newP; split <;> omega
  have hg : gs.getD 0 0 ≤ newG b ps gs := by unfold newG; split <;> omega
  have hgp : newG b ps gs ≤ newP r a ps gs := by
    have h1 := h.gp 0
    have h2 := mono_getD h.p 0 b
    rw [Nat.zero_add] at h2
    have : newG b ps gs ≤ ps.getD 0 0 := by unfold newG; split <;> omega
    omega
  refine ⟨fun i => ?_, fun i => ?_, fun i => ?_⟩
  · cases i with
    | zero => simpa using hg
    | succ i => simpa using h.g i
  · cases i with
    | zero => simpa using hp
    | succ i => simpa using h.p i
  · cases i with
    | zero => simpa using hgp
    | succ i => simpa using h.gp i
theorem SInv.base {ps gs : List Nat} (h : SInv ps gs) (m : Nat) : ∀ x ∈ nwin m ps ++ nwin m gs, gs.getD (m - 1) 0 ≤ x := by
  intro x hx
  have key : ∀ i, gs.getD (m - 1) 0 ≤ gs.getD (m - 1 - i) 0 := fun i => by
    have h1 := mono_getD h.g (m - 1 - i) (min i (m - 1))
    have e : m - 1 - i + min i (m - 1) = m - 1 := by omega
    rw [e] at h1
    exact h1
  rcases List.mem_append.mp hx with hx | hx <;> obtain ⟨i, _, rfl⟩ := List.mem_map.mp hx
  · exact Nat.le_trans (key i) (h.gp _)
  · exact key i
theorem skey_len (m : Nat) (ps gs : List Nat) : (skey m ps gs).length = 2 * m := by simp [skey, nwin_len]; omega
/-- what is met: keys (newest first), the counts beside them, the dict's pairs; F: what stands for a beat and a count -/
def Met (F : Hp → Nat → Nat → V → Prop) (H : Hp) : List (List Nat) → List Nat → List (List Key × V) → Prop
  | [], _, kvs => kvs = []
  | k :: ks, qs, kvs => ∃ kvs' v, kvs = kvs' ++ [(k.map fun (n : Nat) => (Sum.inl (n : Int) : Key), v)] ∧ F H ks.length (qs.getD 0 0) v ∧ k ∉ ks ∧ Met F H ks qs.tail kvs'
abbrev skk (k : List Nat) : List Key := k.map fun (n : Nat) => (Sum.inl (n : Int) : Key)
theorem skk_inj : ∀ {a b : List Nat}, skk a = skk b → a = b
  | [], [], _ => rfl
  | [], _ :: _, h => by cases h
  | _ :: _, [], h => by cases h
  | x :: a, y :: b, h => by
    have h : (Sum.inl (x : Int) : Key) :: skk a = (Sum.inl (y : Int) : Key) :: skk b := h
    injection h with h1 h2
    have h3 := Sum.inl.inj h1
    rw [skk_inj h2, show x = y by omega]
theorem skk_kV (k : List Nat) : (skk k).map kV = k.map nv := by
  rw [List.map_map]
  rfl
theorem Met.imp {F : Hp → Nat → Nat → V → Prop} {H H' : Hp} (h : ∀ j q v, F H j q v → F H' j q v) : ∀ {ks : List (List Nat)} {qs : List Nat} {kvs : List (List Key × V)}, Met F H ks qs kvs → Met F H' ks qs kvs
  | [], _, _, m => m
  | _ :: _, _, _, ⟨kvs', v, e, f, n, m⟩ => ⟨kvs', v, e, h _ _ _ f, n, Met.imp h m⟩
theorem Met.len {F : Hp → Nat → Nat → V → Prop} {H : Hp} : ∀ {ks : List (List Nat)} {qs : List Nat} {kvs : List (List Key × V)}, Met F H ks qs kvs → kvs.length = ks.length
  | [], _, _, m => by
    have m : _ = [] := m
    rw [m]
    rfl
  | _ :: _, _, _, ⟨kvs', v, e, f, n, m⟩ => by
    rw [e, List.length_append, Met.len m]
    rfl
theorem Met.none {F : Hp → Nat → Nat → V → Prop} {H : Hp} {k : List Nat} : ∀ {ks : List (List Nat)} {qs : List Nat} {kvs : List (List Key × V)}, Met F H ks qs kvs → k ∉ ks → valV kvs (skk k) = Option.none
  | [], _, _, m, _ => by
    have m : _ = [] := m
    rw [m]
    rfl
  | k' :: ks, qs, _, ⟨kvs', v, e, f, n, m⟩, h => by
    have h1 : ¬ k = k' := fun e => h (by rw [e]; exact List.mem_cons_self)
    have h2 : k ∉ ks := fun q => h (List.mem_cons_of_mem _ q)
    rw [e, valV_snoc _ _ _ _ (Met.none m n), if_neg (fun q => h1 (skk_inj q)), Met.none m h2]
theorem ixOf_none {k : List Nat} : ∀ {ks : List (List Nat)}, ixOf k ks = Option.none → k ∉ ks
  | [], _ => by simp
  | x :: r, h => by
    unfold ixOf at h
    by_cases e : x = k
    · rw [if_pos e] at h
      cases h
    · rw [if_neg e] at h
      intro hm
      rcases List.mem_cons.mp hm with q | q
      · exact e q.symm
      · exact ixOf_none (Option.map_eq_none_iff.mp h) q
theorem ixOf_some {k : List Nat} : ∀ {ks : List (List Nat)} {i : Nat}, ixOf k ks = some i → i < ks.length ∧ k ∈ ks
  | [], _, h => by cases h
  | x :: r, i, h => by
    unfold ixOf at h
    by_cases e : x = k
    · rw [if_pos e] at h
      obtain rfl := Option.some.inj h
      exact ⟨by simp, by rw [e]; exact List.mem_cons_self⟩
    · rw [if_neg e] at h
      obtain ⟨j, hj, rfl⟩ := Option.map_eq_some_iff.mp h
      have := ixOf_some hj
      exact ⟨by simp; omega, List.mem_cons_of_mem _ this.2⟩
theorem Met.some {F : Hp → Nat → Nat → V → Prop} {H : Hp} {k : List Nat} : ∀ {ks : List (List Nat)} {qs : List Nat} {kvs : List (List Key × V)} {i : Nat}, Met F H ks qs kvs → ixOf k ks = some i →
    ∃ v, valV kvs (skk k) = some v ∧ F H (ks.length - 1 - i) (qs.getD i 0) v
  | [], _, _, _, _, h => by cases h
  | k' :: ks, qs, _, i, ⟨kvs', v, e, f, n, m⟩, h => by
    unfold ixOf at h
    by_cases q : k' = k
    · rw [if_pos q] at h
      obtain rfl := Option.some.inj h
      subst q
      refine ⟨v, ?_, ?_⟩
      · rw [e, valV_snoc _ _ _ _ (Met.none m n), if_pos rfl]
      · simpa using f
    · rw [if_neg q] at h
      obtain ⟨j, hj, rfl⟩ := Option.map_eq_some_iff.mp h
      obtain ⟨v', h1, h2⟩ := Met.some m hj
      refine ⟨v', ?_, ?_⟩
      · rw [e, valV_snoc _ _ _ _ (Met.none m n), if_neg (fun z => q (skk_inj z).symm), h1]
      · have e1 : (k' :: ks).length - 1 - (j + 1) = ks.length - 1 - j := by simp; omega
        have e2 : qs.getD (j + 1) 0 = qs.tail.getD j 0 := by cases qs <;> simp
        rw [e1, e2]
        exact h2
theorem Met.add {F : Hp → Nat → Nat → V → Prop} {H : Hp} {k : List Nat} {ks : List (List Nat)} {ps : List Nat} {kvs : List (List Key × V)} {v : V} (m : Met F H ks ps.tail kvs) (h : k ∉ ks) (f : F H ks.length (ps.getD 0 0) v) : Met F H (k :: ks) ps (putK kvs (skk k) v) :=
  ⟨kvs, v, putK_new _ (Met.none m h), f, h, m⟩
theorem cut1 (xs : List V) : cutV xs (some 1) none = xs.drop 1 := by
  unfold cutV
  rw [show HT.sIx xs.length 0 (some 1) = min 1 xs.length from HT.sIx_nat xs.length 0 1, HT.sIx_none]
  cases xs with
  | nil => rfl
  | cons x r =>
    rw [show min 1 (x :: r).length = 1 by simp]
    simp
def sp_gone_through : Sp := fun vs H Q _ => ∃ r a b s p q : Nat, vs = [nv r, nv a, nv b] ∧ r ≤ 1000 ∧ a ≤ 100 ∧ b ≤ 100 ∧ sRes r a b = some (s, p, q) ∧ RetU [nv s, nv p, nv q] H Q
theorem int_max (a b : Nat) : (if (b : Int) > (a : Int) then (b : Int) else (a : Int)) = ((max a b : Nat) : Int) := by
  by_cases h : (b : Int) > (a : Int)
  · rw [if_pos h]
    omega
  · rw [if_neg h]
    omega
theorem b2n (c : Bool) (n : Nat) : (n : Int) + (if c = true then (1 : Int) else 0) = ((if c = true then n + 1 else n : Nat) : Int) := by
  cases c <;> simp
theorem sgo_pos {r a b m t : Nat} {ps gs : List Nat} {ks : List (List Nat)} {x : Nat × Nat × Nat} : ∀ {f : Nat}, sgo r a b m f t ps gs ks = some x → ∃ f', f = f' + 1
  | 0, h => by cases h
  | f + 1, _ => ⟨f, rfl⟩
theorem sgo_hit {r a b m f t i : Nat} {ps gs : List Nat} {ks : List (List Nat)} {x : Nat × Nat × Nat} (h : sgo r a b m (f + 1) t ps gs ks = some x) (hi : ixOf (skey m ps gs) ks = some i) : x = (t - 1 - i, i + 1, ps.getD 0 0 - ps.getD (i + 1) 0) := by
  unfold sgo at h
  rw [hi] at h
  exact (Option.some.inj h).symm
theorem sgo_miss {r a b m f t : Nat} {ps gs : List Nat} {ks : List (List Nat)} {x : Nat × Nat × Nat} (h : sgo r a b m (f + 1) t ps gs ks = some x) (hi : ixOf (skey m ps gs) ks = none) : sgo r a b m f (t + 1) (newP r a ps gs :: ps) (newG b ps gs :: gs) (skey m ps gs :: ks) = some x := by
  unfold sgo at h
  rw [hi] at h
  exact h
section
variable {P : Program} {w : World} {K : PySem.W.Frag} {mg : Str → Option Value} {base : Heap}
theorem ok_l_off (T : TX K mg) : FnOk P w K mg base CX0 1 T.f_l_off T.fd_l_off ["_law_d", "_law_most"] sp_l_off := by
  refine T.F_l_off.ok sc_l_off (fun vs H Q E h => ?_) (fun cdv A outer s H vs Q E hr h => ?_)
  · obtain ⟨d, n, rfl, _⟩ := h
    rfl
  · obtain ⟨d, n, rfl, ⟨s0, c, r, hd, s1, s2, c0, r0⟩, n0, n1, q⟩ := h
    refine ⟨_, (pss_cut (ps_if (PW.pt (pw_and (pt_cmpR op_eq (pe_ix ix_list (pv 0) pe_int (fun _ _ => rfl)) pe_int (nomark _)) (pw_and1 (pt_cmpR op_gt (pe_callB call_len_seq (by rfl) T.z_len PySem.boot_len (pa_cons (pv 0) pa_nil)) pe_int (nomark _)))))
 (pss_one (ps_asg (pe_bm PySem.F.plainAttrs_list PySem.F.slot_list_pop PySem.F.type_list_pop mt_popAt (pv 0) (pa_cons pe_int pa_nil)) (pg_sub (pv 0) pe_int set_list)))
 pss_nil)
 (pss_cons (ps_if (pt_cmpR op_gt (pe_ix ix_list (pv 0) pe_int (fun _ _ => rfl)) pe_int (nomark _))
 (pss_cons (ps_set (i := 2) sc_l_off.nd rfl (by first | exact Or.inl rfl | exact Or.inr rfl) (pe_op op_mod (pe_ix ix_list (pv 0) pe_int (fun _ _ => rfl)) (pv 1)))
 (pss_cons (ps_asg (pe_op op_fdiv (pe_ix ix_list (pv 0) pe_int (fun _ _ => rfl)) (pv 1)) (pg_sub (pv 0) pe_int set_list))
 (pss_one (ps_ret (pv 2)))))
 pss_nil)
 (pss_cons (ps_asg (pe_op op_mod (pe_op op_add (pe_op op_mul (pe_ix ix_list (pv 0) pe_int (fun _ _ => rfl)) pe_int) pe_int) pe_int) (pg_sub (pv 0) pe_int set_list))
 (pss_one (ps_ret (pe_op op_mod (pe_op op_fdiv (pe_ix ix_list (pv 0) pe_int (fun _ _ => rfl)) pe_int) (pv 1))))))), ?_⟩
    refine ⟨fun σ H1 => σ = [some (.ref d), some (.int n), none] ∧ Exd d H H1 ∧ ∃ c r, H1 d = some (.lst ((s0 :: c :: r).map V.int)) ∧ 0 ≤ c ∧ ∀ x ∈ r, 0 ≤ x, ?_, ?_⟩
    · refine ⟨_, rfl, d, _, 1, .int c, rfl, rfl, SqL.of hd, atI_nat (j := 1) rfl, rfl, _, rfl, ite2 (fun e => ?_) (fun e => ?_)⟩
      · refine ⟨_, rfl, d, _, rfl, .inl (SqL.of hd), _, _, rfl, rfl, _, rfl, ite2 (fun e2 => ?_) (fun e2 => ⟨rfl, Exd.refl _ _, c, r, hd, c0, r0⟩)⟩
        cases r with
        | nil => exact absurd e2 (by simp)
        | cons z r =>
          refine ⟨_, rfl, .inl ⟨rfl, _, SqL.of hd⟩, d, _, 2, 2, .int z, rfl, rfl, hd, by decide, by decide, ?_, rfl, _, rfl, d, _, 1, 1, rfl, rfl, upd_same, ?_, rfl, ?_, z, r, ?_, r0 _ (List.mem_cons_self), fun x hx => r0 x (List.mem_cons_of_mem _ hx)⟩
          · simp [seqIndex?]; omega
          · simp [ixN]; omega
          · exact ((Exd.refl _ _).upd).upd
          · rw [upd_same]; rfl
      · exact ⟨rfl, Exd.refl _ _, c, r, hd, c0, r0⟩
    · rintro σ H1 ⟨rfl, e1, c, r, hd, c0, r0⟩
      refine ⟨_, rfl, d, _, 1, .int c, rfl, rfl, SqL.of hd, atI_nat (j := 1) rfl, _, _, rfl, rfl, _, rfl, ite2 (fun e => ?_) (fun e => ?_)⟩
      · refine ⟨_, rfl, d, _, 1, .int c, rfl, rfl, SqL.of hd, atI_nat (j := 1) rfl, _, rfl, _, _, rfl, rfl, n0, ?_⟩
        refine ⟨_, rfl, d, _, 1, .int c, rfl, rfl, SqL.of hd, atI_nat (j := 1) rfl, _, rfl, _, _, rfl, rfl, ⟨n0, n1⟩, _, rfl, d, _, 1, 1, rfl, rfl, hd, ?_, ?_⟩
        · simp [ixN]; omega
        · refine ⟨_, rfl, q _ _ (Int.emod_nonneg _ (by omega)) (Int.emod_lt_of_pos _ n0) e1.upd ⟨s0, c / n, r, ?_, s1, s2, Int.ediv_nonneg c0 (by omega), r0⟩⟩
          rw [upd_same]; rfl
      · refine ⟨_, rfl, d, _, 0, .int s0, rfl, rfl, SqL.of hd, atI_nat (j := 0) rfl, _, _, rfl, rfl, .inl ⟨by omega, by omega⟩, _, _, rfl, rfl, _, _, rfl, rfl, (by decide : (0 : Int) < 2147483647), _, rfl, d, _, 0, 0, rfl, rfl, hd, ?_, ?_⟩
        · simp [ixN]; omega
        · refine ⟨_, rfl, d, _, 0, .int ((s0 * 48271 + 11) % 2147483647), rfl, rfl, SqL.of upd_same, atI_nat (j := 0) rfl, _, _, rfl, rfl, ⟨by decide, by decide⟩, _, rfl, _, _, rfl, rfl, n0, ?_⟩
          refine q _ _ (Int.emod_nonneg _ (by omega)) (Int.emod_lt_of_pos _ n0) e1.upd ⟨(s0 * 48271 + 11) % 2147483647, c, r, ?_, Int.emod_nonneg _ (by decide), Int.emod_lt_of_pos _ (by decide), c0, r0⟩
          rw [upd_same]; rfl
theorem ok_l_dice (T : TX K mg) : FnOk P w K mg base CX0 1 T.f_l_dice T.fd_l_dice ["_law_script", "_law_k"] (sp_l_dice K) := by
  refine T.F_l_dice.ok sc_l_dice (fun vs H Q E h => ?_) (fun cdv A outer s H vs Q E hr h => ?_)
  · obtain ⟨a, ns, rfl, _⟩ := h
    rfl
  · obtain ⟨a, ns, rfl, hS, hl, q⟩ := h
    refine ⟨_, (pss_cons (ps_set (i := 2) sc_l_dice.nd rfl (by first | exact Or.inl rfl | exact Or.inr rfl) (pv 1))
 (pss_cons (ps_for PassesOwn.never rfl (pi_list (pv 0)) (pg_name (i := 3) sc_l_dice.nd rfl (by first | exact Or.inl rfl | exact Or.inr rfl))
 (pss_one (ps_set (i := 2) sc_l_dice.nd rfl (by first | exact Or.inl rfl | exact Or.inr rfl) (pe_op op_mod (pe_op op_add (pe_op op_mul (pv 2) pe_int) (pe_callB call_abs (by rfl) T.z_abs (by decide +kernel) (pa_cons (pv 3) pa_nil))) pe_int))))
 (pss_one (ps_ret (pe_op op_cat (pe_lst (pa_cons (pv 2) (pa_cons pe_int pa_nil))) (pe_lc (own := [("_law_cell", 3)]) (g := gName 3) (by rfl) sc_l_dice.nd (pi_list (pv 0)) (blkOk_by (own := [("_law_cell", 3)]) (N := ["_law_script", "_law_k", "_law_found", "_law_cell"]) (sc := defScope s_l_dice) (by decide +kernel)) (fun _ _ _ _ _ => pg_name (i := 3) sc_l_dice.nd rfl (Or.inl rfl)) (fun _ _ _ _ _ => (pts_one (pt_cmpR op_ge (pv 3) (pe_op op_pow pe_int pe_int) (nomark _)))) (fun _ _ _ _ _ => (pv 3)))))))), ?_⟩
    refine ⟨_, rfl, .ref a, rfl, a, rfl, ⟨_, hS⟩, for_list (xs := ns.map V.int) (fun i σ H' => H' = H ∧ ∃ f y, σ = [some (.ref a), some (.int 0), some (.int f), y] ∧ 0 ≤ f ∧ f < 2147483647) ⟨rfl, 0, none, rfl, by decide, by decide⟩ (fun i σ H' _ h => by rw [h.1]; exact hS) ?_ ?_⟩
    · rintro i x σ H' hi ⟨rfl, f, y, rfl, f0, f1⟩
      obtain ⟨z, hz, rfl⟩ : ∃ z, ns[i]? = some z ∧ V.int z = x := by
        rw [List.getElem?_map] at hi
        cases e : ns[i]? with
        | none => rw [e] at hi; cases hi
        | some y => rw [e] at hi; exact ⟨y, rfl, Option.some.inj hi⟩
      refine ⟨_, rfl, _, _, rfl, rfl, .inl ⟨by omega, by omega⟩, _, rfl, z, rfl, _, _, rfl, rfl, _, _, rfl, rfl, (by decide : (0 : Int) < 2147483647), rfl, _, _, rfl, Int.emod_nonneg _ (by decide), Int.emod_lt_of_pos _ (by decide)⟩
    · rintro σ H' ⟨rfl, f, y, rfl, f0, f1⟩
      refine ⟨_, rfl, small9 (by simp), fun p np => ?_⟩
      have e1 : Ex H' (upd H' p (.lst [.int f, .int 0])) := Ex.new np
      refine ⟨.ref a, rfl, a, rfl, ⟨_, ex_l e1 hS⟩, fun D hD => lcFM ns V.int (fun z => decide ((1000000000000000000 : Int) ≤ z)) V.int (ex_l e1 hS) (by omega) hD (fun _ => rfl) (fun z hz H2 e2 Y N hq => ?_) (fun H2 e2 h2 => ?_)⟩
      · refine ⟨_, rfl, _, _, rfl, rfl, ⟨by decide, by decide, by decide⟩, _, _, rfl, rfl, _, rfl, ?_⟩
        have hq := hq H2 (Ex.refl _)
        by_cases hc : (1000000000000000000 : Int) ≤ z
        · rw [if_pos (decide_eq_true hc)] at hq
          exact ifP (decide_eq_true (show (10 : Int) ^ (18 : Int).toNat ≤ z by simpa using hc)) ⟨_, rfl, hq⟩
        · rw [if_neg (by simpa using hc)] at hq
          exact ifN (show ¬ decide ((10 : Int) ^ (18 : Int).toNat ≤ z) = true by simpa using hc) hq
      · refine ⟨p, D, _, _, rfl, rfl, e2 _ _ upd_same, h2, ?_, fun o no => ?_⟩
        · have := List.length_filter_le (fun z => decide ((1000000000000000000 : Int) ≤ z)) ns
          simp only [List.length_map, List.length_cons, List.length_nil]
          exact small9 (by omega)
        · have e3 : Ex H' (upd H2 o (.lst ([.int f, .int 0] ++ (ns.filter (fun z => decide ((1000000000000000000 : Int) ≤ z))).map V.int))) := (e1.trans e2).trans (Ex.new no)
          refine q o _ (fresh_back (e1.trans e2) no) e3 ⟨f, 0, ns.filter (fun z => decide ((1000000000000000000 : Int) ≤ z)), ?_, f0, f1, by decide, fun x hx => ?_⟩
          · rw [upd_same]
            rfl
          · have := (List.mem_filter.mp hx).2
            simp at this
            omega
theorem Exd.fresh {d : Addr} {H H' : Hp} {p : Addr} (e : Exd d H H') (h : H' p = none) (n : p ≠ d) : H p = none := by
  cases h1 : H p with
  | none => rfl
  | some o =>
    rw [e p o h1 n] at h
    cases h
theorem Exd.mut {d : Addr} {H H' : Hp} {p : Addr} {o : HO} (e : Exd d H H') (h : H p = none) : Exd d H (L2.upd H' p o) := fun a u ha n => by
  rw [upd_ne (ne_of_none ha h)]
  exact e a u ha n
theorem Exd.l {K : PySem.W.Frag} {d a : Addr} {H H' : Hp} {xs : List V} (e : Exd d H H') (h : SqL K H a xs) (n : a ≠ d) : SqL K H' a xs := by
  rcases h with (h | ⟨o, h⟩) | h
  · exact .inl (.inl (e _ _ h n))
  · exact .inl (.inr ⟨o, e _ _ h n⟩)
  · exact .inr h
theorem Dice.neN {H : Hp} {d p : Addr} (h : Dice H d) (n : H p = none) : p ≠ d := (h.ne n).symm
/-- leaves: ints and good texts -/
def LeafV : V → Prop
  | .int _ => True
  | .str x => PyData.strOk x = true
  | _ => False
def datOf : V → PyData
  | .int i => .int i
  | .str x => .str x
  | _ => .none
theorem dp_leaves {K : PySem.W.Frag} {H : Hp} : ∀ {xs : List V}, (∀ x ∈ xs, LeafV x) → DpAll K H xs (xs.map datOf)
  | [], _ => .nil
  | x :: xs, h => by
    refine .cons ?_ (dp_leaves fun y hy => h y (List.mem_cons_of_mem _ hy))
    have hx := h x List.mem_cons_self
    cases x with
    | int i => exact .int i
    | str z => exact .str z
    | non => exact hx.elim
    | bl b => exact hx.elim
    | byt b => exact hx.elim
    | flt b => exact hx.elim
    | ref b => exact hx.elim
    | ty b => exact hx.elim
theorem sd_leaves {n : Nat} {xs : List V} (h : ∀ x ∈ xs, LeafV x) : Sd (n + 1) (.list (xs.map datOf)) := fun d hd => by
  obtain ⟨x, hx, rfl⟩ := List.mem_map.mp hd
  have hx := h x hx
  cases x with
  | int i => cases n <;> trivial
  | str z => cases n <;> exact hx
  | non => exact hx.elim
  | bl b => exact hx.elim
  | byt b => exact hx.elim
  | flt b => exact hx.elim
  | ref b => exact hx.elim
  | ty b => exact hx.elim
theorem eqv_nil (ds : List PyData) : PyData.eqv (.list ds) (.list []) = ds.isEmpty := by
  rw [PyData.eqv]
  cases ds <;> rfl
def sp_l_mixed (K : PySem.W.Frag) : Sp := fun vs H Q _ => ∃ (d r : Addr) (xs : List V), vs = [.ref d, .ref r] ∧ Dice H d ∧ r ≠ d ∧ SqL K H r xs ∧ (∀ x ∈ xs, LeafV x) ∧ xs.length ≤ 100 ∧
  ∀ (p : Addr) (ys : List V) (H' : Hp), H p = none → Exd d H H' → Dice H' d → ys.Perm xs → H' p = some (.lst ys) → Q (.ref p) H'
theorem ok_l_mixed (T : TX K mg) : FnOk P w K mg base CX0 2 T.f_l_mixed T.fd_l_mixed ["_law_d", "_law_row"] (sp_l_mixed K) := by
  refine T.F_l_mixed.ok sc_l_mixed (fun vs H Q E h => ?_) (fun cdv A outer s H vs Q E hr h => ?_)
  · obtain ⟨_, _, _, rfl, _⟩ := h
    rfl
  · obtain ⟨d, r, xs, rfl, hd, nrd, hx, hlf, hle, q⟩ := h
    refine ⟨_, (pss_cons (ps_set (i := 2) sc_l_mixed.nd rfl (by first | exact Or.inl rfl | exact Or.inr rfl) (pe_callTy call_list_of (by rfl) T.z_list (by decide +kernel) (pa_cons (pv 1) pa_nil)))
 (pss_cons (ps_set (i := 3) sc_l_mixed.nd rfl (by first | exact Or.inl rfl | exact Or.inr rfl) (pe_lst pa_nil))
 (pss_cons (ps_while PassesOwn.never (pt_cmpR (op_neD hr.units) (pv 2) (pe_lst pa_nil) (nomark _))
 (pss_one (ps_expr (pe_bm PySem.F.plainAttrs_list PySem.F.slot_list_append PySem.F.type_list_append mt_append (pv 3) (pa_cons (pe_bm PySem.F.plainAttrs_list PySem.F.slot_list_pop PySem.F.type_list_pop mt_popAt (pv 2) (pa_cons (pe_call (ok_l_off T) (hr.mono (by decide)) (by rfl) T.g_l_off T.F_l_off.kp T.b_l_off .nil pass0 (pa_cons (pv 0) (pa_cons (pe_callB call_len_seq (by rfl) T.z_len PySem.boot_len (pa_cons (pv 2) pa_nil)) pa_nil))) pa_nil)) pa_nil)))))
 (pss_one (ps_ret (pv 3)))))), ?_⟩
    refine ⟨_, rfl, r, xs, rfl, .inl hx, fun l nl => ⟨small9 (by simp), fun f nf => ?_⟩⟩
    have e1 := Ex.new (o := HO.lst xs) nl
    have e2 := Ex.new (o := HO.lst []) nf
    have nlf : l ≠ f := ne_of_none upd_same nf
    have nfH := fresh_back e1 nf
    have nld := hd.neN nl
    have nfd := (hd.mono e1).neN nf
    refine ⟨fun m σ H' => ∃ ls fs : List V, σ = [some (.ref d), some (.ref r), some (.ref l), some (.ref f)] ∧ m = ls.length ∧ H' l = some (.lst ls) ∧ H' f = some (.lst fs) ∧ (fs ++ ls).Perm xs ∧ Exd d H H' ∧ Dice H' d,
      ⟨xs.length, xs, [], rfl, rfl, e2 _ _ upd_same, upd_same, List.Perm.refl _, Exd.of (e1.trans e2), hd.mono (e1.trans e2)⟩, ?_⟩
    rintro m σ H1 ⟨ls, fs, rfl, rfl, hl, hf, pm, ex, hd1⟩
    have lf1 : ∀ x ∈ ls, LeafV x := fun x hx => hlf x (pm.mem_iff.mp (List.mem_append_right _ hx))
    have lenp : fs.length + ls.length = xs.length := by rw [← List.length_append, pm.length_eq]
    refine ⟨_, rfl, small9 (by simp), fun o no => ?_⟩
    have eo := Ex.new (o := HO.lst []) no
    refine ⟨.list (ls.map datOf), .list [], .lst (SqL.of (eo _ _ hl)) (dp_leaves lf1), .lst (SqL.of upd_same) .nil, (sd_leaves (n := 0) lf1).shaped (by decide), (sd_leaves (n := 0) (xs := []) (by simp)).shaped (by decide), _, rfl, ?_⟩
    rw [eqv_nil]
    have hl := eo _ _ hl
    have hf := eo _ _ hf
    have ex := ex.trans (Exd.of eo)
    have hd1 := hd1.mono eo
    generalize upd H1 o (.lst []) = H2 at hl hf ex hd1 ⊢
    cases ls with
    | nil =>
      refine ifN (by simp) ⟨_, rfl, q f fs H2 nfH ex hd1 (by simpa using pm) hf⟩
    | cons z ls =>
      refine ifP (by simp) ⟨fun σ' H' => ∃ ls' fs : List V, σ' = [some (.ref d), some (.ref r), some (.ref l), some (.ref f)] ∧ ls'.length < (z :: ls).length ∧ H' l = some (.lst ls') ∧ H' f = some (.lst fs) ∧ (fs ++ ls').Perm xs ∧ Exd d H H' ∧ Dice H' d, fun σ' H' hN => ?_, ?_⟩
      · obtain ⟨ls', fs', h1, h2, h3⟩ := hN
        exact ⟨ls'.length, h2, ls', fs', h1, rfl, h3⟩
      · refine ⟨_, rfl, .inl ⟨rfl, _, SqL.of hf⟩, _, rfl, .inl ⟨rfl, _, SqL.of hl⟩, _, rfl, _, rfl, l, _, rfl, .inl (SqL.of hl), ?_⟩
        refine ⟨d, ((z :: ls).length : Int), rfl, hd1, by simp, by simp at lenp ⊢; omega, fun x H3 x0 x1 e3 hd3 => ?_⟩
        have hl3 := e3 _ _ hl nld
        have hf3 := e3 _ _ hf nfd
        obtain ⟨k, rfl⟩ : ∃ k : Nat, x = (k : Int) := ⟨x.toNat, by omega⟩
        have hk : k < (z :: ls).length := by omega
        obtain ⟨y, hy⟩ : ∃ y, (z :: ls)[k]? = some y := ⟨_, List.getElem?_eq_getElem hk⟩
        refine ⟨l, _, _, k, y, rfl, rfl, hl3, by omega, by simp at lenp hk; omega, ?_, hy, ?_⟩
        · unfold seqIndex?
          have h1 : ¬ ((k : Int) < 0) := by omega
          have h2 : (k : Int) < ((z :: ls).length : Int) := by omega
          simp only [h1, if_false]
          rw [if_pos (by simp only [Bool.and_eq_true, decide_eq_true_eq]; exact ⟨by omega, h2⟩)]
          simp
        refine ⟨f, _, _, rfl, rfl, by rw [upd_ne nlf.symm]; exact hf3, small1000 (by omega), (z :: ls).eraseIdx k, fs ++ [y], rfl, ?_, ?_, upd_same, ?_, ?_, ?_⟩
        · rw [List.length_eraseIdx_of_lt hk]
          omega
        · rw [upd_ne nlf, upd_same]
        · refine List.Perm.trans ?_ pm
          rw [List.append_assoc]
          refine List.Perm.append_left fs ?_
          exact erase_perm (z :: ls) k y hy
        · exact ((ex.trans e3).mut nl).mut nfH
        · exact (hd3.upd nld.symm).upd nfd.symm
def isW (z : Str) : Bool := (decide (1 ≤ z.length) && decide (z.length ≤ 4)) && z.cps.toList.all fun c => c == 48 || c == 49
theorem isW_wd {b : List Bool} (h1 : 1 ≤ b.length) (h2 : b.length ≤ 4) : isW (wd b) = true := by
  unfold isW
  rw [wd_len, wd_toList, decide_eq_true h1, decide_eq_true h2]
  simp only [Bool.true_and, List.all_eq_true]
  intro x hx
  obtain ⟨c, _, rfl⟩ := List.mem_map.mp hx
  cases c <;> decide
theorem inMarks (c : Nat) : inV (.str ⟨#[c]⟩) [.str "0", .str "1"] = (c == 48 || c == 49) := by
  have h0 : ("0" : Str) = ⟨#[48]⟩ := by decide +kernel
  have h1 : ("1" : Str) = ⟨#[49]⟩ := by decide +kernel
  unfold inV
  rw [h0, h1]
  simp only [List.any_cons, List.any_nil, Bool.or_false]
  have e : ∀ k : Nat, eqV (.str ⟨#[k]⟩) (.str ⟨#[c]⟩) = (c == k) := fun k => by
    by_cases h : c = k
    · subst h
      simp [eqV]
    · have h2 : ((⟨#[k]⟩ : Str) == ⟨#[c]⟩) = false := beq_eq_false_iff_ne.mpr fun e => h (by
        injection e with e
        simpa using e.symm)
      rw [beq_eq_false_iff_ne.mpr h]
      exact h2
  rw [e, e]
def sp_is_word : Sp := fun vs H Q _ => ∃ z : Str, vs = [.str z] ∧ z.length ≤ 1000 ∧ PyData.strOk z = true ∧ RetV (.bl (isW z)) H Q
theorem ok_is_word (T : TX K mg) : FnOk P w K mg base CX0 1 T.f_is_word T.fd_is_word ["word"] sp_is_word := by
  refine T.F_is_word.ok sc_is_word (fun vs H Q E h => ?_) (fun cdv A outer s H vs Q E hr h => ?_)
  · obtain ⟨_, rfl, _⟩ := h
    rfl
  · obtain ⟨z, rfl, hz, hok, q⟩ := h
    refine ⟨_, (pss_one (ps_ret (pe_and (pe_chain op_le op_le pe_int (pe_callB call_len_str (by rfl) T.z_len PySem.boot_len (pa_cons (pv 0) pa_nil)) (pe_glob (v := .int 4) (by rfl) T.c_MOST_WIDE ⟨_, rfl⟩)) (pe_one (pe_cmpR (op_eqD hr.units) (pe_lc (own := [("mark", 1)]) (g := gName 1) (by rfl) sc_is_word.nd (pi_str (pv 0)) (blkOk_by (own := [("mark", 1)]) (N := ["word", "mark"]) (sc := defScope s_is_word) (by decide +kernel)) (fun _ _ _ _ _ => pg_name (i := 1) sc_is_word.nd rfl (Or.inl rfl)) (fun _ _ _ _ _ => (pts_one (pt_cmpR (r := rIn K true) op_notIn_seq (pv 1) (pe_glob (v := .ref T.a_MARKS) (by rfl) T.c_MARKS rfl) (by rfl)))) (fun _ _ _ _ _ => (pv 1))) (pe_lst pa_nil) (nomark _)))))), ?_⟩
    refine ⟨_, rfl, z, rfl, small9 hz, _, _, rfl, rfl, _, rfl, ?_⟩
    by_cases h1 : 1 ≤ z.length
    · refine ifP (decide_eq_true (by omega)) ⟨_, _, rfl, rfl, _, rfl, ?_⟩
      by_cases h4 : z.length ≤ 4
      · refine ifP (decide_eq_true (by omega)) ?_
        refine ⟨_, rfl, z, rfl, fun D nD => lcW z.cps.toList (fun c => V.str ⟨#[c]⟩) (fun c => !(c == 48 || c == 49)) (fun c => V.str ⟨#[c]⟩) (walk_sgn z) (fun _ _ => trivial) (by rw [Array.length_toList]; exact hz) nD (fun _ => rfl) (fun c hc H2 e2 Y N hY => ?_) (fun H2 e2 h2 => ?_)⟩
        · refine ⟨_, rfl, T.a_MARKS, _, rfl, .inr (T.m_MARKS _), rfl, rfl, _, rfl, ?_⟩
          have hY := hY H2 (Ex.refl _)
          rw [← inMarks c] at hY
          cases hm : inV (.str ⟨#[c]⟩) [.str "0", .str "1"] with
          | true =>
            rw [hm] at hY
            exact hY
          | false =>
            rw [hm] at hY
            exact ⟨_, rfl, hY⟩
        · refine ⟨small9 (by simp), fun o no => ?_⟩
          have e3 := e2.trans (Ex.new (o := HO.lst []) no)
          have h3 : SqL K (upd H2 o (.lst [])) D (((z.cps.toList.filter fun c => !(c == 48 || c == 49)).map fun c => (⟨#[c]⟩ : Str)).map V.str) := SqL.of (by rw [(Ex.new no) _ _ h2, List.map_map]; rfl)
          have ok1 : ∀ x ∈ (z.cps.toList.filter fun c => !(c == 48 || c == 49)).map (fun c => (⟨#[c]⟩ : Str)), PyData.strOk x = true := fun x hx => by
            obtain ⟨c, hc, rfl⟩ := List.mem_map.mp hx
            have h5 : z.cps.toList.all (· < 0x110000) = true := by rw [Array.all_toList]; exact hok
            have h6 := List.all_eq_true.mp h5 c (List.mem_filter.mp hc).1
            simpa [PyData.strOk] using h6
          refine ⟨_, .list (([] : List Str).map PyData.str), dpL h3, dpL (SqL.of upd_same), (sdStrs (n := 0) ok1).shaped (by decide), (sdStrs (n := 0) (by simp)).shaped (by decide), ?_⟩
          rw [eqvStrs]
          have e : isW z = decide ((z.cps.toList.filter fun c => !(c == 48 || c == 49)).map (fun c => (⟨#[c]⟩ : Str)) = []) := by
            unfold isW
            rw [decide_eq_true h1, decide_eq_true h4, Bool.true_and, Bool.true_and]
            rw [Bool.eq_iff_iff, decide_eq_true_eq, List.map_eq_nil_iff, List.filter_eq_nil_iff, List.all_eq_true]
            simp only [Bool.not_eq_true', Bool.not_eq_false]
          rw [← e]
          exact q _ e3
      · refine ifN (by simp; omega) ?_
        have e : isW z = false := by simp [isW, h4]
        rw [← e]
        exact q _ (Ex.refl _)
    · refine ifN (by simp; omega) ⟨_, rfl, ifN (by simp) ?_⟩
      have e : isW z = false := by simp [isW, h1]
      rw [← e]
      exact q _ (Ex.refl _)
/-- words of a round -/
structure Round (ws : List (List Bool)) (n : Nat) : Prop where
  ne : ws ≠ []
  wide : ∀ w ∈ ws, w.length = n
  n1 : 1 ≤ n
  n4 : n ≤ 4
  nd : ws.Nodup
  le : ws.length ≤ 16
theorem Round.pos {ws : List (List Bool)} {n : Nat} (h : Round ws n) : 0 < ws.length := List.length_pos_iff.mpr h.ne
def sp_need_words (K : PySem.W.Frag) : Sp := fun vs H Q _ => ∃ (p : Addr) (ws : List (List Bool)) (n : Nat), vs = [.ref p] ∧ SqL K H p (ws.map wv) ∧ Round ws n ∧ RetV .non H Q
theorem ok_need_words (T : TX K mg) : FnOk P w K mg base CX0 2 T.f_need_words T.fd_need_words ["words"] (sp_need_words K) := by
  refine T.F_need_words.ok sc_need_words (fun vs H Q E h => ?_) (fun cdv A outer s H vs Q E hr h => ?_)
  · obtain ⟨_, _, _, rfl, _⟩ := h
    rfl
  · obtain ⟨p, ws, n, rfl, hp, hR, q⟩ := h
    have hpos := hR.pos
    refine ⟨_, (pss_cons (ps_if (pt_cmpR op_eq (pe_callB call_len_seq (by rfl) T.z_len PySem.boot_len (pa_cons (pv 0) pa_nil)) pe_int (nomark _))
 (pss_one ps_never)
 pss_nil)
 (pss_one (ps_for PassesOwn.never rfl (pi_enum (by rfl) T.z_enumerate (pa_cons (pv 0) pa_nil)) (pg_tup (by rfl) (pgs_cons (pg_name (i := 1) sc_need_words.nd rfl (by first | exact Or.inl rfl | exact Or.inr rfl)) (pgs_cons (pg_name (i := 2) sc_need_words.nd rfl (by first | exact Or.inl rfl | exact Or.inr rfl)) pgs_nil)))
 (pss_one (ps_if (PW.pt (pw_or (pt_not (pt_val (pe_call (ok_is_word T) (hr.mono (by decide)) (by rfl) T.g_is_word T.F_is_word.kp T.b_is_word .nil pass0 (pa_cons (pv 2) pa_nil)))) (pw_or (pt_cmpR op_ne (pe_callB call_len_str (by rfl) T.z_len PySem.boot_len (pa_cons (pv 2) pa_nil)) (pe_callB call_len_str (by rfl) T.z_len PySem.boot_len (pa_cons (pe_ix ix_list (pv 0) pe_int (fun _ _ => rfl)) pa_nil)) (nomark _)) (pw_or1 (pt_cmpR op_in_seq (pv 2) (pe_slice sl_list (pv 0) po_none (po_some (pv 1))) (by rfl))))))
 (pss_one ps_never)
 pss_nil))))), ?_⟩
    refine ⟨_, rfl, p, _, rfl, .inl hp, rfl, _, rfl, ifN (by simp; exact hR.ne) ?_⟩
    refine ⟨_, rfl, p, _, rfl, hp, ?_⟩
    refine for_it (walk_enum (K := K) (a := p) (xs := ws.map wv)) (fun i σ H' => ∃ y z, σ = [some (.ref p), y, z] ∧ Ex H H') ⟨_, _, rfl, Ex.refl _⟩ (fun i σ H' _ ⟨_, _, _, e⟩ => ex_l e hp) ?_ ?_
    · rintro i x σ H1 H2 hi ⟨y, z, rfl, e1⟩ ⟨t, u, v, rfl, nt, rfl, hu, hv⟩
      obtain rfl := Option.some.inj hu
      have hv : (ws.map wv)[i]? = some v := hv
      obtain ⟨w, hw, rfl⟩ : ∃ w, ws[i]? = some w ∧ wv w = v := by
        rw [List.getElem?_map] at hv
        cases e : ws[i]? with
        | none => rw [e] at hv; cases hv
        | some y => rw [e] at hv; exact ⟨y, rfl, Option.some.inj hv⟩
      have hwm := List.mem_of_getElem? hw
      have hwl := hR.wide w hwm
      have e2 := e1.trans (Ex.new (o := HO.tup [.int (i : Nat), wv w]) nt)
      refine ⟨t, _, rfl, SqT.of upd_same, rfl, _, _, rfl, _, _, rfl, rfl, ?_⟩
      have h1 := hR.n1
      have h4 := hR.n4
      refine ⟨_, rfl, wd w, rfl, by rw [wd_len]; omega, strOk_wd w, fun H3 e3 => ?_⟩
      rw [isW_wd (by omega) (by omega)]
      refine ⟨true, rfl, ifN (by simp) ?_⟩
      have e13 := e2.trans e3
      obtain ⟨w0, hw0⟩ : ∃ w0, ws[0]? = some w0 := ⟨ws[0], List.getElem?_eq_getElem hpos⟩
      have hl0 := hR.wide w0 (List.mem_of_getElem? hw0)
      refine ⟨_, rfl, wd w, rfl, small9 (by rw [wd_len]; omega), _, rfl, p, _, 0, wv w0, rfl, rfl, ex_l e13 hp, atI_nat (j := 0) (by rw [List.getElem?_map, hw0]; rfl), wd w0, rfl, small9 (by rw [wd_len]; omega), rfl, _, rfl, ifN ?_ ?_⟩
      · rw [decide_eq_true (by rw [wd_len, wd_len, hwl, hl0])]
        simp
      refine ⟨_, rfl, _, rfl, _, rfl, i, rfl, p, _, rfl, ex_l e13 hp, fun o no => ⟨o, _, rfl, .inl (SqL.of upd_same), rfl, ?_, _, rfl, ?_⟩⟩
      · rw [cutTake, ← List.map_take]
        exact flatW _
      · rw [cutTake, ← List.map_take]
        refine ifN ?_ ⟨_, _, rfl, e13.trans (Ex.new no)⟩
        show ¬ inV (wv w) ((ws.take i).map wv) = true
        rw [inV_wv, decide_eq_true_eq]
        intro hm
        obtain ⟨j, hj, e⟩ := List.mem_iff_getElem.mp hm
        rw [List.length_take] at hj
        rw [List.getElem_take] at e
        have hw' := (List.getElem?_eq_some_iff.mp hw)
        obtain ⟨hi', e'⟩ := hw'
        have := (List.getElem_inj hR.nd (h₀ := by omega) (h₁ := hi')).mp (e.trans e'.symm)
        omega
    · rintro σ H' ⟨y, z, rfl, e⟩
      exact q _ e
def sp_seen_of : Sp := fun vs H Q _ => ∃ (a b : List Bool) (n : Nat), vs = [wv a, wv b] ∧ a.length = n ∧ b.length = n ∧ n ≤ 4 ∧ RetL ((seenW a b).map wv) H Q
theorem ok_seen_of (T : TX K mg) : FnOk P w K mg base CX0 1 T.f_seen_of T.fd_seen_of ["one", "other"] sp_seen_of := by
  refine T.F_seen_of.ok sc_seen_of (fun vs H Q E h => ?_) (fun cdv A outer s H vs Q E hr h => ?_)
  · obtain ⟨_, _, _, rfl, _⟩ := h
    rfl
  · obtain ⟨a, b, n, rfl, ha, hb, hn, q⟩ := h
    refine ⟨_, (pss_cons (ps_set (i := 2) sc_seen_of.nd rfl (by first | exact Or.inl rfl | exact Or.inr rfl) (pe_lst (pa_cons pe_str pa_nil)))
 (pss_cons (ps_for PassesOwn.never rfl (pi_range1 (by rfl) T.z_range (pa_cons (pe_callB call_len_str (by rfl) T.z_len PySem.boot_len (pa_cons (pv 0) pa_nil)) pa_nil)) (pg_name (i := 3) sc_seen_of.nd rfl (by first | exact Or.inl rfl | exact Or.inr rfl))
 (pss_cons (ps_set (i := 4) sc_seen_of.nd rfl (by first | exact Or.inl rfl | exact Or.inr rfl) (pe_callB (r := rSortSet w) (cr_sortSet rfl) (by rfl) T.z_sorted (by decide +kernel) (pa_cons (pe_callTy (r := rSetS K w) (cr_setS rfl) (by rfl) T.z_set (by decide +kernel) (pa_cons (pe_lst (pa_cons (pe_ix ix_str (pv 0) (pv 3) (fun _ _ => rfl)) (pa_cons (pe_ix ix_str (pv 1) (pv 3) (fun _ _ => rfl)) pa_nil))) pa_nil)) pa_nil)))
 (pss_cons (ps_set (i := 5) sc_seen_of.nd rfl (by first | exact Or.inl rfl | exact Or.inr rfl) (pe_lst pa_nil))
 (pss_cons (ps_for PassesOwn.never rfl (pi_list (pv 2)) (pg_name (i := 6) sc_seen_of.nd rfl (by first | exact Or.inl rfl | exact Or.inr rfl))
 (pss_one (ps_expr (pe_bm PySem.F.plainAttrs_list PySem.F.slot_list_extend PySem.F.type_list_extend mt_extend (pv 5) (pa_cons (pe_lc (own := [("mark", 7)]) (g := gName 7) (by rfl) sc_seen_of.nd (pi_list (pv 4)) (blkOk_by (own := [("mark", 7)]) (N := ["one", "other", "found", "at", "marks", "longer", "word", "mark"]) (sc := defScope s_seen_of) (by decide +kernel)) (fun _ _ _ _ _ => pg_name (i := 7) sc_seen_of.nd rfl (Or.inl rfl)) (fun _ _ _ _ _ => pts_nil) (fun _ _ _ _ _ => (pe_op op_add_str (pv 6) (pv 7)))) pa_nil)))))
 (pss_one (ps_set (i := 2) sc_seen_of.nd rfl (by first | exact Or.inl rfl | exact Or.inr rfl) (pv 5)))))))
 (pss_one (ps_ret (pv 2))))), ?_⟩
    refine ⟨small9 (by simp), fun p np => ?_⟩
    refine ⟨_, rfl, wd a, rfl, small9 (by rw [wd_len]; omega), _, rfl, lo62 _, hi62 (by rw [wd_len]; omega), ?_⟩
    have en : (((wd a).length : Int)).toNat = n := by rw [wd_len]; omega
    rw [en]
    refine for_range (lo := 0) (n := n) (fun i σ H' => ∃ p y3 y4 y5 y6 y7, σ = [some (wv a), some (wv b), some (.ref p), y3, y4, y5, y6, y7] ∧ Ex H H' ∧ H p = none ∧ H' p = some (.lst ((sUp a b i).map wv)))
      ⟨p, _, _, _, _, _, rfl, Ex.new np, np, by rw [upd_same, strE]; rfl⟩ ?_ ?_
    · rintro i σ H1 hi ⟨p, y3, y4, y5, y6, y7, rfl, e1, np, hp⟩
      have ei : (0 : Int) + (i : Int) = (i : Int) := Int.zero_add _
      rw [ei]
      have hpw : (sUp a b i).length ≤ 16 := Nat.le_trans (sUp_len a b i) (pow16 (by omega))
      -- marks
      refine ⟨_, rfl, _, rfl, wd a, _, bit (a.getD i false), rfl, rfl, small9 (by rw [wd_len]; omega), atW rfl (by omega), _, rfl, _, rfl, wd b, _, bit (b.getD i false), rfl, rfl, small9 (by rw [wd_len]; omega), atW rfl (by omega), small9 (by simp), fun l nl => ?_⟩
      have el := Ex.new (o := HO.lst [.str ⟨#[bit (a.getD i false)]⟩, .str ⟨#[bit (b.getD i false)]⟩]) nl
      refine ⟨l, [wd [a.getD i false], wd [b.getD i false]], rfl, SqL.of upd_same, by simp, fun st nst => ?_⟩
      have est := Ex.new (o := SetH w st ([wd [a.getD i false], wd [b.getD i false]].foldl insS [])) nst
      refine ⟨st, _, rfl, upd_same, Nat.lt_of_le_of_lt (setM_len _ _) (by decide), fun ys m hperm hsort nm => ?_⟩
      rw [sorted_marks hperm hsort]
      have em := Ex.new (o := HO.lst (((mk2 (a.getD i false) (b.getD i false)).map fun m => wd [m]).map V.str)) nm
      have e2 := (el.trans est).trans em
      have hm2 : (upd (upd (upd H1 l (.lst [.str ⟨#[bit (a.getD i false)]⟩, .str ⟨#[bit (b.getD i false)]⟩])) st (SetH w st ([wd [a.getD i false], wd [b.getD i false]].foldl insS []))) m (.lst (((mk2 (a.getD i false) (b.getD i false)).map fun m => wd [m]).map V.str))) m = some (.lst ((mk2 (a.getD i false) (b.getD i false)).map fun m => wv [m])) := by
        rw [upd_same, List.map_map]
        rfl
      have hp2 := e2 _ _ hp
      have e12 := e1.trans e2
      generalize (upd (upd (upd H1 l (.lst [.str ⟨#[bit (a.getD i false)]⟩, .str ⟨#[bit (b.getD i false)]⟩])) st (SetH w st ([wd [a.getD i false], wd [b.getD i false]].foldl insS []))) m (.lst (((mk2 (a.getD i false) (b.getD i false)).map fun m => wd [m]).map V.str))) = H2 at hm2 hp2 e12 ⊢
      -- longer
      refine ⟨small9 (by simp), fun lo nlo => ?_⟩
      have elo := Ex.new (o := HO.lst []) nlo
      have nlp : p ≠ lo := ne_of_none hp2 nlo
      have nlm : m ≠ lo := ne_of_none hm2 nlo
      have nlH : H lo = none := fresh_back e12 nlo
      refine ⟨_, rfl, p, rfl, ⟨_, SqL.of (elo _ _ hp2)⟩, ?_⟩
      refine for_list (K := K) (a := p) (xs := (sUp a b i).map wv) (fun k σ H' => ∃ y6 y7, σ = [some (wv a), some (wv b), some (.ref p), some (.int (i : Int)), some (.ref m), some (.ref lo), y6, y7] ∧ Ex H H' ∧ H' p = some (.lst ((sUp a b i).map wv)) ∧ H' m = some (.lst ((mk2 (a.getD i false) (b.getD i false)).map fun m => wv [m])) ∧
          H' lo = some (.lst ((stepS ((sUp a b i).take k) (a.getD i false, b.getD i false)).map wv)))
        ⟨_, _, rfl, e12.trans elo, elo _ _ hp2, elo _ _ hm2, upd_same⟩ (fun k σ H' _ ⟨_, _, _, _, h, _⟩ => SqL.of h) ?_ ?_
      · rintro k x σ H3 hk ⟨y6, y7, rfl, e3, hp3, hm3, hl3⟩
        obtain ⟨u, hu, rfl⟩ : ∃ u, (sUp a b i)[k]? = some u ∧ wv u = x := by
          rw [List.getElem?_map] at hk
          cases e : (sUp a b i)[k]? with
          | none => rw [e] at hk; cases hk
          | some y => rw [e] at hk; exact ⟨y, rfl, Option.some.inj hk⟩
        have hul : u.length = i := sUp_wide (by omega) (by omega) u (List.mem_of_getElem? hu)
        refine ⟨_, rfl, .inl ⟨rfl, _, SqL.of hl3⟩, _, rfl, m, rfl, ⟨_, SqL.of hm3⟩, fun D nD => lcM (mk2 (a.getD i false) (b.getD i false)) (fun c => wv [c]) (fun c => wv (u ++ [c])) (SqL.of hm3) (Nat.le_trans (mk2_len _ _) (by decide)) nD (fun _ => rfl) (fun c hc H4 e4 Y hY => ?_) (fun H4 e4 h4 => ?_)⟩
        · refine ⟨_, rfl, _, rfl, _, _, rfl, rfl, small9 (by rw [wd_len, wd_len]; simp; omega), ?_⟩
          rw [wd_app]
          exact hY _ (Ex.refl _)
        · have hlen : (stepS ((sUp a b i).take k) (a.getD i false, b.getD i false)).length ≤ 32 := by
            have h1 := stepS_len ((sUp a b i).take k) (a.getD i false, b.getD i false)
            have h2 : ((sUp a b i).take k).length ≤ 16 := by rw [List.length_take]; omega
            omega
          refine ⟨lo, D, _, _, rfl, rfl, e4 _ _ hl3, h4, ?_, _, _, rfl, (e3.trans e4).mut nlH, ?_, ?_, ?_⟩
          · rw [List.length_map, List.length_map]
            have := mk2_len (a.getD i false) (b.getD i false)
            exact small9 (by omega)
          · rw [upd_ne nlp]
            exact e4 _ _ hp3
          · rw [upd_ne nlm]
            exact e4 _ _ hm3
          · rw [upd_same, List.take_add_one, hu]
            unfold stepS
            simp [Function.comp_def]
      · rintro σ H3 ⟨y6, y7, rfl, e3, hp3, hm3, hl3⟩
        rw [List.length_map, List.take_length, ← sUp_succ (by omega) (by omega)] at hl3
        exact ⟨_, rfl, lo, _, _, _, _, _, rfl, e3, nlH, hl3⟩
    · rintro σ H1 ⟨p, y3, y4, y5, y6, y7, rfl, e1, np, hp⟩
      rw [sUp_all ha hb] at hp
      exact ⟨_, rfl, q p H1 np e1 hp⟩
def sp_mirrored : Sp := fun vs H Q _ => ∃ n : Nat, vs = [.int (n : Int)] ∧ n ≤ 4 ∧ RetL ((grayW n).map wv) H Q
theorem ok_mirrored (T : TX K mg) : FnOk P w K mg base CX0 1 T.f_mirrored T.fd_mirrored ["wide"] sp_mirrored := by
  refine T.F_mirrored.ok sc_mirrored (fun vs H Q E h => ?_) (fun cdv A outer s H vs Q E hr h => ?_)
  · obtain ⟨n, rfl, _⟩ := h
    rfl
  · obtain ⟨n, rfl, hn, q⟩ := h
    refine ⟨_, (pss_cons (ps_set (i := 1) sc_mirrored.nd rfl (by first | exact Or.inl rfl | exact Or.inr rfl) (pe_lst (pa_cons pe_str pa_nil)))
 (pss_cons (ps_for PassesOwn.never rfl (pi_range1 (by rfl) T.z_range (pa_cons (pv 0) pa_nil)) (pg_name (i := 2) sc_mirrored.nd rfl (by first | exact Or.inl rfl | exact Or.inr rfl))
 (pss_one (ps_set (i := 1) sc_mirrored.nd rfl (by first | exact Or.inl rfl | exact Or.inr rfl) (pe_op op_cat (pe_lc (own := [("word", 3)]) (g := gName 3) (by rfl) sc_mirrored.nd (pi_list (pv 1)) (blkOk_by (own := [("word", 3)]) (N := ["wide", "found", "turn", "word"]) (sc := defScope s_mirrored) (by decide +kernel)) (fun _ _ _ _ _ => pg_name (i := 3) sc_mirrored.nd rfl (Or.inl rfl)) (fun _ _ _ _ _ => pts_nil) (fun _ _ _ _ _ => (pe_op op_add_str pe_str (pv 3)))) (pe_lc (own := [("word", 3)]) (g := gName 3) (by rfl) sc_mirrored.nd (pi_list (pe_revL (pv 1))) (blkOk_by (own := [("word", 3)]) (N := ["wide", "found", "turn", "word"]) (sc := defScope s_mirrored) (by decide +kernel)) (fun _ _ _ _ _ => pg_name (i := 3) sc_mirrored.nd rfl (Or.inl rfl)) (fun _ _ _ _ _ => pts_nil) (fun _ _ _ _ _ => (pe_op op_add_str pe_str (pv 3))))))))
 (pss_one (ps_ret (pv 1))))), ?_⟩
    refine ⟨small9 (by decide), fun p np => ?_⟩
    refine q_forR1 (ea_cons (ev_var rfl) ea_nil) ⟨by omega, by omega⟩ (fun i σ H' => i ≤ n ∧ ∃ p y z, σ = [some (.int (n : Int)), some (.ref p), y, z] ∧ Ex H H' ∧ H p = none ∧ H' p = some (.lst ((grayW i).map wv))) (fun H1 e1 => ⟨Nat.zero_le _, p, _, _, rfl, (Ex.new np).trans e1, np, ?_⟩) ?_ ?_
    · rw [e1 _ _ upd_same, strE]
      rfl
    · rintro i σ H' hi ⟨_, p, y, z, rfl, e1, np, hp⟩
      have hw : (grayW i).length ≤ 1000 := by
        rw [grayW_len]
        exact Nat.le_trans (pow16 (by omega)) (by decide)
      refine ⟨.ref p, rfl, p, rfl, ⟨_, SqL.of hp⟩, fun D1 n1 => lcM (grayW i) wv (fun w => wv (false :: w)) (SqL.of hp) hw n1 (fun _ => rfl) (fun x hx H2 e2 Y hY => ?_) (fun H2 e2 h2 => ?_)⟩
      · refine ⟨_, rfl, _, _, rfl, rfl, ?_, ?_⟩
        · rw [str0, wd_len, wd_len, grayW_wide i x hx]
          exact small9 (by simp; omega)
        · rw [str0, wd_app]
          exact hY _ (Ex.refl _)
      · refine ⟨.ref p, rfl, p, _, rfl, SqL.of (e2 _ _ hp), fun r nr => ?_⟩
        have e2r := Ex.new (o := HO.lst ((grayW i).map wv).reverse) nr
        have hr2 : SqL K (upd H2 r (.lst ((grayW i).map wv).reverse)) r ((grayW i).reverse.map wv) := SqL.of (by rw [upd_same, List.map_reverse])
        refine ⟨r, rfl, ⟨_, hr2⟩, fun D2 n2 => lcM (grayW i).reverse wv (fun w => wv (true :: w)) hr2 (by rw [List.length_reverse]; exact hw) n2 (fun _ => rfl) (fun x hx H2 e2 Y hY => ?_) (fun H3 e3 h3 => ?_)⟩
        · refine ⟨_, rfl, _, _, rfl, rfl, ?_, ?_⟩
          · rw [str1, wd_len, wd_len, grayW_wide i x (List.mem_reverse.mp hx)]
            exact small9 (by simp; omega)
          · rw [str1, wd_app]
            exact hY _ (Ex.refl _)
        · have e23 := e2.trans (e2r.trans e3)
          refine ⟨D1, D2, _, _, rfl, rfl, e3 _ _ (e2r _ _ h2), h3, ?_, fun o no => ?_⟩
          · simp only [List.length_map, List.length_reverse, grayW_len]
            have := pow16 (n := i) (by omega)
            exact small9 (by omega)
          · refine ⟨by omega, o, _, _, rfl, (e1.trans e23).trans (Ex.new no), fresh_back (e1.trans e23) no, ?_⟩
            rw [upd_same]
            show some (HO.lst _) = some (HO.lst _)
            simp [grayW, Function.comp_def]
    · rintro σ H' ⟨_, p, y, z, rfl, e1, np, hp⟩
      exact ⟨_, rfl, q p H' np e1 hp⟩
def cwide (h : Nat) : Nat := if h ≤ 1 then 1 else if h ≤ 2 then 2 else if h ≤ 4 then 3 else 4
def cutWs (h : Nat) : List (List Bool) := (grayW (cwide h)).take h ++ (grayW (cwide h)).drop (2 ^ cwide h - h)
def sp_cut : Sp := fun vs H Q _ => ∃ h : Nat, vs = [.int (2 * (h : Int))] ∧ 1 ≤ h ∧ h ≤ 8 ∧ RetL ((cutWs h).map wv) H Q
theorem cwide_iff {h n : Nat} (h1 : 1 ≤ h) (h8 : h ≤ 8) (n1 : 1 ≤ n) (hn : n ≤ cwide h) : 2 ^ n < 2 * h ↔ n < cwide h := by
  have : h = 1 ∨ h = 2 ∨ h = 3 ∨ h = 4 ∨ h = 5 ∨ h = 6 ∨ h = 7 ∨ h = 8 := by omega
  have hc : cwide h ≤ 4 := by unfold cwide; split <;> (try split) <;> (try split) <;> omega
  have : n = 1 ∨ n = 2 ∨ n = 3 ∨ n = 4 := by omega
  rename_i hh
  rcases hh with rfl | rfl | rfl | rfl | rfl | rfl | rfl | rfl <;> rcases this with rfl | rfl | rfl | rfl <;> revert hn <;> decide
theorem cwide_le (h : Nat) : 1 ≤ cwide h ∧ cwide h ≤ 4 := by
  unfold cwide
  split
  · decide
  · split
    · decide
    · split <;> decide
theorem ok_cut (T : TX K mg) : FnOk P w K mg base CX0 2 T.f_cut T.fd_cut ["many"] sp_cut := by
  refine T.F_cut.ok sc_cut (fun vs H Q E h => ?_) (fun cdv A outer s H vs Q E hr h => ?_)
  · obtain ⟨_, rfl, _⟩ := h
    rfl
  · obtain ⟨h, rfl, h1, h8, q⟩ := h
    have hc := cwide_le h
    have h16 := pow16 hc.2
    refine ⟨_, (pss_cons (ps_if (PW.pt (pw_or (pt_not (pt_chain op_le op_le pe_int (pv 0) (pe_glob (v := .int 16) (by rfl) T.c_MOST_WORDS ⟨_, rfl⟩))) (pw_or1 (pt_cmpR op_eq (pe_op op_mod (pv 0) pe_int) pe_int (nomark _)))))
 (pss_one ps_never)
 pss_nil)
 (pss_cons (ps_set (i := 1) sc_cut.nd rfl (by first | exact Or.inl rfl | exact Or.inr rfl) pe_int)
 (pss_cons (ps_while PassesOwn.never (pt_cmpR op_lt (pe_callB call_len_seq (by rfl) T.z_len PySem.boot_len (pa_cons (pe_call (ok_mirrored T) (hr.mono (by decide)) (by rfl) T.g_mirrored T.F_mirrored.kp T.b_mirrored .nil pass0 (pa_cons (pv 1) pa_nil)) pa_nil)) (pv 0) (nomark _))
 (pss_one (ps_set (i := 1) sc_cut.nd rfl (by first | exact Or.inl rfl | exact Or.inr rfl) (pe_op op_add (pv 1) pe_int))))
 (pss_cons (ps_set (i := 2) sc_cut.nd rfl (by first | exact Or.inl rfl | exact Or.inr rfl) (pe_call (ok_mirrored T) (hr.mono (by decide)) (by rfl) T.g_mirrored T.F_mirrored.kp T.b_mirrored .nil pass0 (pa_cons (pv 1) pa_nil)))
 (pss_one (ps_ret (pe_op op_cat (pe_slice sl_list (pv 2) po_none (po_some (pe_op op_fdiv (pv 0) pe_int))) (pe_slice sl_list (pv 2) (po_some (pe_op op_sub (pe_callB call_len_seq (by rfl) T.z_len PySem.boot_len (pa_cons (pv 2) pa_nil)) (pe_op op_fdiv (pv 0) pe_int))) po_none)))))))), ?_⟩
    refine ⟨_, rfl, _, _, rfl, rfl, _, rfl, ifP (decide_eq_true (by omega)) ⟨_, _, rfl, rfl, _, rfl, ifN (by simp; omega) ?_⟩⟩
    refine ⟨_, rfl, _, _, rfl, rfl, (by decide : (0 : Int) < 2), rfl, _, rfl, ifN ?_ ?_⟩
    · show ¬ decide (V.int (2 * (h : Int) % 2) = V.int 1) = true
      rw [show (2 * (h : Int)) % 2 = 0 by omega]
      decide
    refine ⟨fun f σ H' => ∃ (n : Nat) (y2 : Option V), σ = [some (.int (2 * (h : Int))), some (.int (n : Int)), y2] ∧ Ex H H' ∧ 1 ≤ n ∧ n + f = cwide h, ⟨cwide h - 1, 1, none, rfl, Ex.refl _, by omega, by omega⟩, ?_⟩
    rintro f σ H1 ⟨n, y2, rfl, e1, n1, hf⟩
    have hiff := cwide_iff h1 h8 n1 (show n ≤ cwide h by omega)
    refine ⟨_, rfl, n, rfl, by omega, fun p H2 np e2 hp => ?_⟩
    refine ⟨p, _, rfl, .inl (SqL.of hp), _, rfl, _, _, rfl, rfl, _, rfl, ?_⟩
    rw [List.length_map, grayW_len]
    by_cases hlt : 2 ^ n < 2 * h
    · refine ifP (decide_eq_true (by exact_mod_cast hlt)) ?_
      refine ⟨fun σ' H' => ∃ (n : Nat) (y2 : Option V), σ' = [some (.int (2 * (h : Int))), some (.int (n : Int)), y2] ∧ Ex H H' ∧ 1 ≤ n ∧ n + f = cwide h + 1 ∧ 0 < f, fun σ' H' hN => ?_, ?_⟩
      · obtain ⟨n', y', a1, a2, a3, a4, a5⟩ := hN
        exact ⟨f - 1, by omega, n', y', a1, a2, a3, by omega⟩
      · have := hiff.mp hlt
        exact ⟨_, rfl, _, _, rfl, rfl, n + 1, _, rfl, e1.trans e2, by omega, by omega, by omega⟩
    · refine ifN (by simp; exact_mod_cast Nat.le_of_not_lt hlt) ?_
      have hn : n = cwide h := by
        have : ¬ n < cwide h := fun z => hlt (hiff.mpr z)
        omega
      subst hn
      refine ⟨_, rfl, cwide h, rfl, hc.2, fun p H3 np e3 hp => ?_⟩
      have ed : 2 * (h : Int) / 2 = (h : Int) := by omega
      refine ⟨_, rfl, _, rfl, _, _, rfl, rfl, ⟨by decide, by decide⟩, _, rfl, p, _, rfl, SqL.of hp, fun s1 ns1 => ?_⟩
      have es1 := Ex.new (o := HO.lst (cutV ((grayW (cwide h)).map wv) none (some (2 * (h : Int) / 2)))) ns1
      refine ⟨_, rfl, _, rfl, p, _, rfl, .inl (SqL.of (es1 _ _ hp)), _, rfl, _, _, rfl, rfl, ⟨by decide, by decide⟩, _, _, rfl, rfl, _, rfl, p, _, rfl, SqL.of (es1 _ _ hp), fun s2 ns2 => ?_⟩
      have hle : h ≤ 2 ^ cwide h := by
        have := cwide_iff h1 h8 hc.1 (Nat.le_refl _)
        omega
      have ex : (((grayW (cwide h)).map wv).length : Int) - (h : Int) = ((2 ^ cwide h - h : Nat) : Int) := by
        rw [List.length_map, grayW_len]
        omega
      refine ⟨s1, s2, _, _, rfl, rfl, (Ex.new ns2) _ _ upd_same, upd_same, ?_, fun o no => ?_⟩
      · rw [ed, ex, cutTake, cutDrop, List.length_take, List.length_drop, List.length_map, grayW_len]
        exact small9 (by omega)
      · refine q o _ (fresh_back (((e1.trans e2).trans e3).trans (es1.trans (Ex.new ns2))) no) ((((e1.trans e2).trans e3).trans (es1.trans (Ex.new ns2))).trans (Ex.new no)) ?_
        rw [upd_same, ed, ex, cutTake, cutDrop, cutWs, List.map_append, List.map_take, List.map_drop]
def bothOf (ws : List (List Bool)) (i : Nat) : List (List Bool) := [ws.getD i [], ws.getD ((i + 1) % ws.length) []]
def othersOf (ws : List (List Bool)) (i : Nat) : List (List Bool) := (seenW (ws.getD i []) (ws.getD ((i + 1) % ws.length) [])).filter fun w => !decide (w ∈ bothOf ws i)
/-- the first place whose turn lets another word be seen, and that word -/
def tornAt (ws : List (List Bool)) : Nat → Option (Nat × List Bool)
  | 0 => none
  | n + 1 => match tornAt ws n with
    | some x => some x
    | none => (othersOf ws n).head?.map fun w => (n, w)
def torn1 (ws : List (List Bool)) : Option (Nat × List Bool) := tornAt ws ws.length
theorem tornAt_none {ws : List (List Bool)} {n : Nat} (h : tornAt ws n = none) (ho : othersOf ws n = []) : tornAt ws (n + 1) = none := by
  unfold tornAt
  rw [h, ho]
  rfl
theorem tornAt_some {ws : List (List Bool)} {n : Nat} {w : List Bool} {r : List (List Bool)} (h : tornAt ws n = none) (ho : othersOf ws n = w :: r) : ∀ k, tornAt ws (n + 1 + k) = some (n, w)
  | 0 => by
    show tornAt ws (n + 1) = _
    unfold tornAt
    rw [h, ho]
    rfl
  | k + 1 => by
    show tornAt ws (n + 1 + k + 1) = _
    unfold tornAt
    rw [tornAt_some h ho k]
/-- the answer: None, or a new pair -/
def RetP (o : Option (Nat × List Bool)) (H : Hp) (Q : VK) : Prop := match o with
  | none => RetV .non H Q
  | some (i, w) => RetU [.int (i : Int), wv w] H Q
def sp_first_torn (K : PySem.W.Frag) : Sp := fun vs H Q _ => ∃ (p : Addr) (ws : List (List Bool)) (n : Nat), vs = [.ref p] ∧ SqL K H p (ws.map wv) ∧ Round ws n ∧ RetP (torn1 ws) H Q
theorem ok_first_torn (T : TX K mg) : FnOk P w K mg base CX0 3 T.f_first_torn T.fd_first_torn ["words"] (sp_first_torn K) := by
  refine T.F_first_torn.ok sc_first_torn (fun vs H Q E h => ?_) (fun cdv A outer s H vs Q E hr h => ?_)
  · obtain ⟨_, _, _, rfl, _⟩ := h
    rfl
  · obtain ⟨p, ws, n, rfl, hp, hR, q⟩ := h
    have hpos := hR.pos
    have hle := hR.le
    refine ⟨_, (pss_cons (ps_expr (pe_call (ok_need_words T) (hr.mono (by decide)) (by rfl) T.g_need_words T.F_need_words.kp T.b_need_words .nil pass0 (pa_cons (pv 0) pa_nil)))
 (pss_cons (ps_for PassesOwn.never rfl (pi_range1 (by rfl) T.z_range (pa_cons (pe_callB call_len_seq (by rfl) T.z_len PySem.boot_len (pa_cons (pv 0) pa_nil)) pa_nil)) (pg_name (i := 1) sc_first_torn.nd rfl (by first | exact Or.inl rfl | exact Or.inr rfl))
 (pss_cons (ps_set (i := 2) sc_first_torn.nd rfl (by first | exact Or.inl rfl | exact Or.inr rfl) (pe_lst (pa_cons (pe_ix ix_list (pv 0) (pv 1) (fun _ _ => rfl)) (pa_cons (pe_ix ix_list (pv 0) (pe_op op_mod (pe_op op_add (pv 1) pe_int) (pe_callB call_len_seq (by rfl) T.z_len PySem.boot_len (pa_cons (pv 0) pa_nil))) (fun _ _ => rfl)) pa_nil))))
 (pss_cons (ps_setLc (i := 3) (own := [("word", 4)]) (g := gName 4) (by rfl) sc_first_torn.nd rfl rfl (sw_true rfl rfl rfl (by decide +kernel)) (pi_list (pe_call (ok_seen_of T) (hr.mono (by decide)) (by rfl) T.g_seen_of T.F_seen_of.kp T.b_seen_of .nil pass0 (pa_cons (pe_ix ix_list (pv 2) pe_int (fun _ _ => rfl)) (pa_cons (pe_ix ix_list (pv 2) pe_int (fun _ _ => rfl)) pa_nil)))) (blkOk_by (own := [("word", 4)]) (N := ["words", "at", "both", "others", "word"]) (sc := defScope s_first_torn) (by decide +kernel)) (fun _ _ _ _ _ => pg_name (i := 4) sc_first_torn.nd rfl (Or.inl rfl)) (fun _ _ _ _ _ => (pts_one (pt_cmpR (r := rIn K true) op_notIn_seq (pv 4) (pv 2) (by rfl)))) (fun _ _ _ _ _ => (pv 4)))
 (pss_one (ps_if (pt_cmpR (op_neD hr.units) (pv 3) (pe_lst pa_nil) (nomark _))
 (pss_one (ps_ret (pe_tup (pa_cons (pv 1) (pa_cons (pe_ix ix_list (pv 3) pe_int (fun _ _ => rfl)) pa_nil)))))
 pss_nil)))))
 (pss_one (ps_ret pe_non)))), ?_⟩
    refine ⟨_, rfl, p, ws, n, rfl, hp, hR, fun H1 e1 => ?_⟩
    refine ⟨_, rfl, p, _, rfl, .inl (ex_l e1 hp), _, rfl, lo62 _, hi62 (by rw [List.length_map]; omega), ?_⟩
    rw [List.length_map]
    refine for_range (lo := 0) (n := ws.length) (fun i σ H' => ∃ y1 y2 y3 y4, σ = [some (.ref p), y1, y2, y3, y4] ∧ Ex H H' ∧ tornAt ws i = none) ⟨_, _, _, _, rfl, e1, rfl⟩ ?_ ?_
    · rintro i σ H2 hi ⟨y1, y2, y3, y4, rfl, e2, ht⟩
      have ei : (0 : Int) + (i : Int) = (i : Int) := Int.zero_add _
      rw [ei]
      have hj : (i + 1) % ws.length < ws.length := Nat.mod_lt _ hpos
      have w1 := hR.wide _ (getD_mem hi)
      have w2 := hR.wide _ (getD_mem hj)
      refine ⟨_, rfl, _, rfl, p, _, _, wv (ws.getD i []), rfl, rfl, ex_l e2 hp, atI_nat (getDW hi), _, rfl, _, rfl, _, _, rfl, rfl, _, rfl, p, _, rfl, .inl (ex_l e2 hp), _, _, rfl, rfl, ?_, p, _, _, wv (ws.getD ((i + 1) % ws.length) []), rfl, rfl, ex_l e2 hp, ats ?_ (getDW hj), small9 (by simp), fun b nb => ?_⟩
      · show (0 : Int) < ((ws.map wv).length : Int)
        rw [List.length_map]
        omega
      · rw [List.length_map]
        simp
      have eb := Ex.new (o := HO.lst [wv (ws.getD i []), wv (ws.getD ((i + 1) % ws.length) [])]) nb
      refine ⟨_, rfl, b, _, 0, _, rfl, rfl, SqL.of upd_same, atI_nat (j := 0) rfl, _, rfl, b, _, 1, _, rfl, rfl, SqL.of upd_same, atI_nat (j := 1) rfl, ?_⟩
      refine ⟨_, _, n, rfl, w1, w2, hR.n4, fun l H3 nl e3 hl => ?_⟩
      have hb3 := e3 _ _ (upd_same (H := H2) (a := b) (o := HO.lst [wv (ws.getD i []), wv (ws.getD ((i + 1) % ws.length) [])]))
      have hsl : (seenW (ws.getD i []) (ws.getD ((i + 1) % ws.length) [])).length ≤ 16 := Nat.le_trans (seenW_len w1 w2) (pow16 hR.n4)
      refine ⟨l, rfl, ⟨_, SqL.of hl⟩, fun D nD => lcFM (seenW (ws.getD i []) (ws.getD ((i + 1) % ws.length) [])) wv (fun w => !decide (w ∈ bothOf ws i)) wv (SqL.of hl) (by omega) nD (fun _ => rfl) (fun x hx H4 e4 Y N hY => ?_) (fun H4 e4 h4 => ?_)⟩
      · refine ⟨_, rfl, _, rfl, b, _, rfl, .inl (SqL.of (e4 _ _ hb3)), rfl, flatW (bothOf ws i), _, rfl, ?_⟩
        have hY := hY H4 (Ex.refl _)
        show if (!inV (wv x) ((bothOf ws i).map wv)) = true then _ else _
        rw [inV_wv]
        cases hd : decide (x ∈ bothOf ws i) with
        | true =>
          rw [hd] at hY
          exact hY
        | false =>
          rw [hd] at hY
          exact ⟨_, rfl, hY⟩
      have h4 : H4 D = some (.lst (((othersOf ws i).map wd).map V.str)) := by
        rw [h4, List.map_map]
        rfl
      have e24 := ((e2.trans eb).trans e3).trans e4
      refine ⟨_, rfl, small9 (by simp), fun o no => ?_⟩
      have eo := Ex.new (o := HO.lst []) no
      refine ⟨_, .list (([] : List Str).map PyData.str), dpL (SqL.of (eo _ _ h4)), dpL (SqL.of upd_same), (sdStrs (n := 0) (fun x hx => ?_)).shaped (by decide), (sdStrs (n := 0) (by simp)).shaped (by decide), _, rfl, ?_⟩
      · obtain ⟨u, _, rfl⟩ := List.mem_map.mp hx
        exact strOk_wd u
      rw [eqvStrs]
      cases hot : othersOf ws i with
      | nil =>
        refine ifN (by simp) ?_
        exact ⟨_, _, _, _, rfl, e24.trans eo, tornAt_none ht hot⟩
      | cons u r =>
        refine ifP (by simp) ?_
        rw [hot] at h4
        refine ⟨_, rfl, _, rfl, D, _, 0, wv u, rfl, rfl, SqL.of (eo _ _ h4), atI_nat (j := 0) rfl, small9 (by simp), fun t nt => ?_⟩
        have hq : torn1 ws = some (i, u) := by
          have := tornAt_some ht hot (ws.length - (i + 1))
          rw [show i + 1 + (ws.length - (i + 1)) = ws.length by omega] at this
          exact this
        rw [hq] at q
        exact q t _ (fresh_back (e24.trans eo) nt) ((e24.trans eo).trans (Ex.new nt)) upd_same
    · rintro σ H2 ⟨y1, y2, y3, y4, rfl, e2, ht⟩
      have hq : torn1 ws = none := ht
      rw [hq] at q
      exact q _ e2
def sp_torn : Sp := fun vs H Q _ => ∃ (a b : List Bool) (n : Nat), vs = [wv a, wv b] ∧ a.length = n ∧ b.length = n ∧ 1 ≤ n ∧ n ≤ 4 ∧ RetL ((seenW a b).map wv) H Q
theorem ok_torn (T : TX K mg) : FnOk P w K mg base CX0 2 T.f_torn T.fd_torn ["one", "other"] sp_torn := by
  refine T.F_torn.ok sc_torn (fun vs H Q E h => ?_) (fun cdv A outer s H vs Q E hr h => ?_)
  · obtain ⟨_, _, _, rfl, _⟩ := h
    rfl
  · obtain ⟨a, b, n, rfl, ha, hb, h1, h4, q⟩ := h
    refine ⟨_, (pss_cons (ps_if (pt_not (pt_val (pe_call (ok_is_word T) (hr.mono (by decide)) (by rfl) T.g_is_word T.F_is_word.kp T.b_is_word .nil pass0 (pa_cons (pv 0) pa_nil))))
 (pss_one ps_never)
 pss_nil)
 (pss_cons (ps_if (PW.pt (pw_or (pt_not (pt_val (pe_call (ok_is_word T) (hr.mono (by decide)) (by rfl) T.g_is_word T.F_is_word.kp T.b_is_word .nil pass0 (pa_cons (pv 1) pa_nil)))) (pw_or1 (pt_cmpR op_ne (pe_callB call_len_str (by rfl) T.z_len PySem.boot_len (pa_cons (pv 0) pa_nil)) (pe_callB call_len_str (by rfl) T.z_len PySem.boot_len (pa_cons (pv 1) pa_nil)) (nomark _)))))
 (pss_one ps_never)
 pss_nil)
 (pss_one (ps_ret (pe_call (ok_seen_of T) (hr.mono (by decide)) (by rfl) T.g_seen_of T.F_seen_of.kp T.b_seen_of .nil pass0 (pa_cons (pv 0) (pa_cons (pv 1) pa_nil))))))), ?_⟩
    refine ⟨_, rfl, wd a, rfl, by rw [wd_len]; omega, strOk_wd a, fun H1 e1 => ?_⟩
    rw [isW_wd (by omega) (by omega)]
    refine ⟨true, rfl, ifN (by simp) ⟨_, rfl, wd b, rfl, by rw [wd_len]; omega, strOk_wd b, fun H2 e2 => ?_⟩⟩
    rw [isW_wd (by omega) (by omega)]
    refine ⟨true, rfl, ifN (by simp) ⟨_, rfl, wd a, rfl, small9 (by rw [wd_len]; omega), _, rfl, wd b, rfl, small9 (by rw [wd_len]; omega), rfl, _, rfl, ifN ?_ ?_⟩⟩
    · rw [decide_eq_true (by rw [wd_len, wd_len, ha, hb])]
      simp
    · exact ⟨_, rfl, _, rfl, a, b, n, rfl, ha, hb, h4, fun p H3 np e3 hp => RetL.go q (e1.trans e2) np e3 hp⟩
theorem kb_ib : kitB "int" "bool" = some false := by decide +kernel
theorem kb_ii : kitB "int" "int" = some true := by decide +kernel
theorem kb_sb : kitB "str" "bool" = some false := by decide +kernel
theorem kb_si : kitB "str" "int" = some false := by decide +kernel
theorem kb_ss : kitB "str" "str" = some true := by decide +kernel
theorem kb_lb : kitB "list" "bool" = some false := by decide +kernel
theorem kb_li : kitB "list" "int" = some false := by decide +kernel
theorem kb_ls : kitB "list" "str" = some false := by decide +kernel
theorem kb_lt : kitB "list" "tuple" = some false := by decide +kernel
theorem kb_ll : kitB "list" "list" = some true := by decide +kernel
theorem kb_tb : kitB "tuple" "bool" = some false := by decide +kernel
theorem kb_ti : kitB "tuple" "int" = some false := by decide +kernel
theorem kb_ts : kitB "tuple" "str" = some false := by decide +kernel
theorem kb_tt : kitB "tuple" "tuple" = some true := by decide +kernel
theorem kb_tl : kitB "tuple" "list" = some false := by decide +kernel
theorem isiR {K : PySem.W.Frag} {H : Hp} {Q : VK} {x : V} {t n : String} {b : Bool} (hx : TyX K H x (.type t)) (hk : kitB t n = some b) (q : Q (.bl b) H) : rIsi K [x, .ty n] H Q := ⟨x, .ty n, .type t, .type n, b, rfl, .ty n, hx, kit_ty hk, q⟩
theorem Da.both {H : Hp} {n : Nat} {x y : V} {d : PyData} (hx : Da H n x d) (hy : Da H n y d) : (Leaf x d ∧ Leaf y d) ∨
    (∃ m a xs b ys ds, n = m + 1 ∧ x = .ref a ∧ y = .ref b ∧ d = .list ds ∧ H a = some (.lst xs) ∧ H b = some (.lst ys) ∧ ys.length ≤ 1000 ∧ Paired (Da H m) xs ds ∧ Paired (Da H m) ys ds) ∨
    (∃ m a xs b ys ds, n = m + 1 ∧ x = .ref a ∧ y = .ref b ∧ d = .tuple ds ∧ H a = some (.tup xs) ∧ H b = some (.tup ys) ∧ ys.length ≤ 1000 ∧ Paired (Da H m) xs ds ∧ Paired (Da H m) ys ds) := by
  cases n with
  | zero => exact .inl ⟨hx, hy⟩
  | succ n =>
    rcases hy with ly | ⟨b, ys, ds, rfl, rfl, hb, lb, pb⟩ | ⟨b, ys, ds, rfl, rfl, hb, lb, pb⟩
    · rcases hx with lx | ⟨a, xs, ds, _, rfl, _⟩ | ⟨a, xs, ds, _, rfl, _⟩
      · exact .inl ⟨lx, ly⟩
      · rcases ly with ⟨_, h⟩ | ⟨_, _, h⟩ | ⟨_, _, h⟩ <;> cases h
      · rcases ly with ⟨_, h⟩ | ⟨_, _, h⟩ | ⟨_, _, h⟩ <;> cases h
    · rcases hx with lx | ⟨a, xs, ds', e, h, h1, h2, h3⟩ | ⟨a, xs, ds', _, h, _⟩
      · rcases lx with ⟨_, h⟩ | ⟨_, _, h⟩ | ⟨_, _, h⟩ <;> cases h
      · cases h; exact .inr (.inl ⟨n, a, xs, b, ys, _, rfl, e, rfl, rfl, h1, hb, lb, h3, pb⟩)
      · cases h
    · rcases hx with lx | ⟨a, xs, ds', _, h, _⟩ | ⟨a, xs, ds', e, h, h1, h2, h3⟩
      · rcases lx with ⟨_, h⟩ | ⟨_, _, h⟩ | ⟨_, _, h⟩ <;> cases h
      · cases h
      · cases h; exact .inr (.inr ⟨n, a, xs, b, ys, _, rfl, e, rfl, rfl, h1, hb, lb, h3, pb⟩)
def sp_l_alike : Nat → Sp
  | 0 => fun _ _ _ _ => False
  | n + 1 => fun vs H Q _ => ∃ x y d, vs = [x, y] ∧ Da H n x d ∧ Da H n y d ∧ RetV (.bl true) H Q
theorem ok_alikeN (T : TX K mg) : ∀ n : Nat, FnOk P w K mg base CX0 n T.f_l_alike T.fd_l_alike ["_law_found", "_law_due"] (sp_l_alike n)
  | 0 => ⟨fun _ _ _ _ h => h.elim, fun _ _ _ _ _ _ _ _ _ _ _ _ _ h => h.elim⟩
  | n + 1 => by
    have ih := ok_alikeN T n
    refine T.F_l_alike.ok sc_l_alike (fun vs H Q E h => ?_) (fun cdv A outer s H vs Q E hr h => ?_)
    · obtain ⟨x, y, d, rfl, _⟩ := h
      rfl
    · obtain ⟨x, y, d, rfl, hx, hy, q⟩ := h
      refine ⟨_, (pss_cons (ps_if (pt_cmpR op_isN (pv 1) pe_non (nomark _))
 (pss_one (ps_ret (pe_cmpR op_isN (pv 0) pe_non (nomark _))))
 pss_nil)
 (pss_cons (ps_if (pt_val (pe_callB call_isi (by rfl) T.z_isinstance (by decide +kernel) (pa_cons (pv 1) (pa_cons (pe_bltn (v := .ty "bool") (u := .type "bool") (by rfl) T.z_bool (by decide +kernel) rfl) pa_nil))))
 (pss_one (ps_ret (pe_and (pe_callB call_isi (by rfl) T.z_isinstance (by decide +kernel) (pa_cons (pv 0) (pa_cons (pe_bltn (v := .ty "bool") (u := .type "bool") (by rfl) T.z_bool (by decide +kernel) rfl) pa_nil))) (pe_one (pe_cmpR op_eq (pv 0) (pv 1) (nomark _))))))
 pss_nil)
 (pss_cons (ps_if (pt_val (pe_callB call_isi (by rfl) T.z_isinstance (by decide +kernel) (pa_cons (pv 1) (pa_cons (pe_bltn (v := .ty "int") (u := .type "int") (by rfl) T.z_int (by decide +kernel) rfl) pa_nil))))
 (pss_one (ps_ret (pe_and (pe_callB call_isi (by rfl) T.z_isinstance (by decide +kernel) (pa_cons (pv 0) (pa_cons (pe_bltn (v := .ty "int") (u := .type "int") (by rfl) T.z_int (by decide +kernel) rfl) pa_nil))) (pe_and (pe_not (pe_callB call_isi (by rfl) T.z_isinstance (by decide +kernel) (pa_cons (pv 0) (pa_cons (pe_bltn (v := .ty "bool") (u := .type "bool") (by rfl) T.z_bool (by decide +kernel) rfl) pa_nil)))) (pe_one (pe_cmpR op_eq (pv 0) (pv 1) (nomark _)))))))
 pss_nil)
 (pss_cons (ps_if (pt_val (pe_callB call_isi (by rfl) T.z_isinstance (by decide +kernel) (pa_cons (pv 1) (pa_cons (pe_bltn (v := .ty "str") (u := .type "str") (by rfl) T.z_str (by decide +kernel) rfl) pa_nil))))
 (pss_one (ps_ret (pe_and (pe_callB call_isi (by rfl) T.z_isinstance (by decide +kernel) (pa_cons (pv 0) (pa_cons (pe_bltn (v := .ty "str") (u := .type "str") (by rfl) T.z_str (by decide +kernel) rfl) pa_nil))) (pe_one (pe_cmpR op_eq (pv 0) (pv 1) (nomark _))))))
 pss_nil)
 (pss_cons (ps_if (PW.pt (pw_or (pt_cmpR op_ne (pe_callB call_isi (by rfl) T.z_isinstance (by decide +kernel) (pa_cons (pv 1) (pa_cons (pe_bltn (v := .ty "tuple") (u := .type "tuple") (by rfl) T.z_tuple (by decide +kernel) rfl) pa_nil))) (pe_callB call_isi (by rfl) T.z_isinstance (by decide +kernel) (pa_cons (pv 0) (pa_cons (pe_bltn (v := .ty "tuple") (u := .type "tuple") (by rfl) T.z_tuple (by decide +kernel) rfl) pa_nil))) (nomark _)) (pw_or1 (pt_cmpR op_ne (pe_callB call_isi (by rfl) T.z_isinstance (by decide +kernel) (pa_cons (pv 1) (pa_cons (pe_bltn (v := .ty "list") (u := .type "list") (by rfl) T.z_list (by decide +kernel) rfl) pa_nil))) (pe_callB call_isi (by rfl) T.z_isinstance (by decide +kernel) (pa_cons (pv 0) (pa_cons (pe_bltn (v := .ty "list") (u := .type "list") (by rfl) T.z_list (by decide +kernel) rfl) pa_nil))) (nomark _)))))
 (pss_one (ps_ret pe_bl))
 pss_nil)
 (pss_cons (ps_if (pt_cmpR op_ne (pe_callB call_len (by rfl) T.z_len PySem.boot_len (pa_cons (pv 0) pa_nil)) (pe_callB call_len (by rfl) T.z_len PySem.boot_len (pa_cons (pv 1) pa_nil)) (nomark _))
 (pss_one (ps_ret pe_bl))
 pss_nil)
 (pss_one (ps_ret (pe_callB (cr_all rfl) (by rfl) T.z_all (by decide +kernel) (pa_cons (pe_lc (own := [("_law_k", 2)]) (g := gName 2) (by rfl) sc_l_alike.nd (pi_range1 (by rfl) T.z_range (pa_cons (pe_callB call_len (by rfl) T.z_len PySem.boot_len (pa_cons (pv 1) pa_nil)) pa_nil)) (blkOk_by (own := [("_law_k", 2)]) (N := ["_law_found", "_law_due", "_law_k"]) (sc := defScope s_l_alike) (by decide +kernel)) (fun _ _ _ _ _ => pg_name (i := 2) sc_l_alike.nd rfl (Or.inl rfl)) (fun _ _ _ _ _ => pts_nil) (fun _ _ _ _ _ => (pe_call ih hr (by rfl) T.g_l_alike T.F_l_alike.kp T.b_l_alike .nil pass0 (pa_cons (pe_ix (r := rIx K) ix_seq (pv 0) (pv 2) (fun _ _ => rfl)) (pa_cons (pe_ix (r := rIx K) ix_seq (pv 1) (pv 2) (fun _ _ => rfl)) pa_nil))))) pa_nil)))))))))), ?_⟩
      rcases hx.both hy with ⟨lx, ly⟩ | ⟨n, a, xs, b, ys, ds, rfl, rfl, rfl, rfl, ha, hb, lb, pa, pb⟩ | ⟨n, a, xs, b, ys, ds, rfl, rfl, rfl, rfl, ha, hb, lb, pa, pb⟩
      · rcases ly with ⟨rfl, rfl⟩ | ⟨i, rfl, rfl⟩ | ⟨z, rfl, rfl⟩
        · obtain rfl : x = .non := by
            rcases lx with ⟨h, _⟩ | ⟨_, _, h⟩ | ⟨_, _, h⟩
            · exact h
            · cases h
            · cases h
          exact ⟨_, rfl, rfl, _, rfl, ifP rfl ⟨_, rfl, rfl, q _ (Ex.refl _)⟩⟩
        · obtain rfl : x = .int i := by
            rcases lx with ⟨_, h⟩ | ⟨_, e, h⟩ | ⟨_, _, h⟩
            · cases h
            · cases h; exact e
            · cases h
          refine ⟨_, rfl, rfl, _, rfl, ifN (by simp) ⟨_, rfl, _, _, _, _, _, rfl, .ty _, (.base (.int i)), kit_ty kb_ib, ⟨_, rfl, ifN (by simp) ⟨_, rfl, _, _, _, _, _, rfl, .ty _, (.base (.int i)), kit_ty kb_ii, ⟨_, rfl, ifP rfl ?_⟩⟩⟩⟩⟩
          refine ⟨_, rfl, _, _, _, _, _, rfl, .ty _, (.base (.int i)), kit_ty kb_ii, ⟨_, rfl, ifP rfl ⟨_, rfl, _, _, _, _, _, rfl, .ty _, (.base (.int i)), kit_ty kb_ib, ⟨_, rfl, _, rfl, ifP rfl ⟨_, rfl, _, rfl, rfl, ?_⟩⟩⟩⟩⟩
          rw [decide_eq_true rfl]
          exact q _ (Ex.refl _)
        · obtain rfl : x = .str z := by
            rcases lx with ⟨_, h⟩ | ⟨_, _, h⟩ | ⟨_, e, h⟩
            · cases h
            · cases h
            · cases h; exact e
          refine ⟨_, rfl, rfl, _, rfl, ifN (by simp) ⟨_, rfl, _, _, _, _, _, rfl, .ty _, (.base (.str z)), kit_ty kb_sb, ⟨_, rfl, ifN (by simp) ⟨_, rfl, _, _, _, _, _, rfl, .ty _, (.base (.str z)), kit_ty kb_si, ⟨_, rfl, ifN (by simp) ⟨_, rfl, _, _, _, _, _, rfl, .ty _, (.base (.str z)), kit_ty kb_ss, ⟨_, rfl, ifP rfl ?_⟩⟩⟩⟩⟩⟩⟩
          refine ⟨_, rfl, _, _, _, _, _, rfl, .ty _, (.base (.str z)), kit_ty kb_ss, ⟨_, rfl, ifP rfl ⟨_, rfl, _, rfl, rfl, ?_⟩⟩⟩
          rw [decide_eq_true rfl]
          exact q _ (Ex.refl _)
      · have tx : TyX K H (.ref a) (.type "list") := .base (.lst ha)
        have ty : TyX K H (.ref b) (.type "list") := .base (.lst hb)
        refine ⟨_, rfl, rfl, _, rfl, ifN (by simp) ⟨_, rfl, _, _, _, _, _, rfl, .ty _, ty, kit_ty kb_lb, ⟨_, rfl, ifN (by simp) ⟨_, rfl, _, _, _, _, _, rfl, .ty _, ty, kit_ty kb_li, ⟨_, rfl, ifN (by simp) ⟨_, rfl, _, _, _, _, _, rfl, .ty _, ty, kit_ty kb_ls, ⟨_, rfl, ifN (by simp) ?_⟩⟩⟩⟩⟩⟩⟩
        refine ⟨_, rfl, _, _, _, _, _, rfl, .ty _, ty, kit_ty kb_lt, ⟨_, rfl, _, _, _, _, _, rfl, .ty _, tx, kit_ty kb_lt, ⟨rfl, _, rfl, ifN (by simp) ⟨_, rfl, _, _, _, _, _, rfl, .ty _, ty, kit_ty kb_ll, ⟨_, rfl, _, _, _, _, _, rfl, .ty _, tx, kit_ty kb_ll, ⟨rfl, _, rfl, ifN (by simp) ?_⟩⟩⟩⟩⟩⟩
        refine ⟨_, rfl, _, _, rfl, .inl ⟨_, SqL.of ha, rfl⟩, _, rfl, _, _, rfl, .inl ⟨_, SqL.of hb, rfl⟩, rfl, _, rfl, ifN ?_ ?_⟩
        · rw [decide_eq_true (by rw [paired_len pa, paired_len pb])]
          decide
        refine ⟨_, rfl, _, _, rfl, .inl ⟨_, SqL.of hb, rfl⟩, _, rfl, lo62 _, hi62 lb, fun D nD => lcR ys.length (fun _ => .bl true) rfl lb nD (fun _ => rfl) (fun i hi H3 e3 Y hY => ?_) (fun H3 e3 h3 => ?_)⟩
        · obtain ⟨y, z, hy, hz, ry⟩ := paired_at pb (i := i) (by rw [← paired_len pb]; exact hi)
          obtain ⟨x, z', hx, hz', rx⟩ := paired_at pa (i := i) (by rw [← paired_len pb]; exact hi)
          obtain rfl : z = z' := Option.some.inj (hz.symm.trans hz')
          exact ⟨_, rfl, _, rfl, .inl ⟨a, xs, _, x, rfl, rfl, SqL.of (e3 _ _ ha), atI_nat hx, _, rfl, _, rfl, .inl ⟨b, ys, _, y, rfl, rfl, SqL.of (e3 _ _ hb), atI_nat hy, x, y, z, rfl, rx.mono e3, ry.mono e3, hY⟩⟩⟩
        · refine ⟨D, (List.range ys.length).map (fun _ => true), rfl, SqL.of (by rw [h3, List.map_map]; rfl), ?_⟩
          rw [show ((List.range ys.length).map (fun _ => true)).all id = true by simp]
          exact q _ e3
      · have tx : TyX K H (.ref a) (.type "tuple") := .base (.tup ha)
        have ty : TyX K H (.ref b) (.type "tuple") := .base (.tup hb)
        refine ⟨_, rfl, rfl, _, rfl, ifN (by simp) ⟨_, rfl, _, _, _, _, _, rfl, .ty _, ty, kit_ty kb_tb, ⟨_, rfl, ifN (by simp) ⟨_, rfl, _, _, _, _, _, rfl, .ty _, ty, kit_ty kb_ti, ⟨_, rfl, ifN (by simp) ⟨_, rfl, _, _, _, _, _, rfl, .ty _, ty, kit_ty kb_ts, ⟨_, rfl, ifN (by simp) ?_⟩⟩⟩⟩⟩⟩⟩
        refine ⟨_, rfl, _, _, _, _, _, rfl, .ty _, ty, kit_ty kb_tt, ⟨_, rfl, _, _, _, _, _, rfl, .ty _, tx, kit_ty kb_tt, ⟨rfl, _, rfl, ifN (by simp) ⟨_, rfl, _, _, _, _, _, rfl, .ty _, ty, kit_ty kb_tl, ⟨_, rfl, _, _, _, _, _, rfl, .ty _, tx, kit_ty kb_tl, ⟨rfl, _, rfl, ifN (by simp) ?_⟩⟩⟩⟩⟩⟩
        refine ⟨_, rfl, _, _, rfl, .inr ⟨_, SqT.of ha, rfl⟩, _, rfl, _, _, rfl, .inr ⟨_, SqT.of hb, rfl⟩, rfl, _, rfl, ifN ?_ ?_⟩
        · rw [decide_eq_true (by rw [paired_len pa, paired_len pb])]
          decide
        refine ⟨_, rfl, _, _, rfl, .inr ⟨_, SqT.of hb, rfl⟩, _, rfl, lo62 _, hi62 lb, fun D nD => lcR ys.length (fun _ => .bl true) rfl lb nD (fun _ => rfl) (fun i hi H3 e3 Y hY => ?_) (fun H3 e3 h3 => ?_)⟩
        · obtain ⟨y, z, hy, hz, ry⟩ := paired_at pb (i := i) (by rw [← paired_len pb]; exact hi)
          obtain ⟨x, z', hx, hz', rx⟩ := paired_at pa (i := i) (by rw [← paired_len pb]; exact hi)
          obtain rfl : z = z' := Option.some.inj (hz.symm.trans hz')
          exact ⟨_, rfl, _, rfl, .inr (.inl ⟨a, xs, _, x, rfl, rfl, SqT.of (e3 _ _ ha), atI_nat hx, _, rfl, _, rfl, .inr (.inl ⟨b, ys, _, y, rfl, rfl, SqT.of (e3 _ _ hb), atI_nat hy, x, y, z, rfl, rx.mono e3, ry.mono e3, hY⟩)⟩)⟩
        · refine ⟨D, (List.range ys.length).map (fun _ => true), rfl, SqL.of (by rw [h3, List.map_map]; rfl), ?_⟩
          rw [show ((List.range ys.length).map (fun _ => true)).all id = true by simp]
          exact q _ e3
theorem ok_l_alike (T : TX K mg) : FnOk P w K mg base CX0 6 T.f_l_alike T.fd_l_alike ["_law_found", "_law_due"] (sp_l_alike 6) := ok_alikeN T 6
def sp_Lane_inside (C : Addr) : Sp := fun vs H Q _ => ∃ (x : Addr) (r : Nat) (pw pb : Addr) (c : Co) (m : Nat) (f : V), vs = [.ref x] ∧ Ln C r pw pb H x c m f ∧ 1 ≤ r ∧ RetV (.int (insd r c)) H Q
theorem ok_Lane_inside (T : TX K mg) : FnOk P w K mg base CX0 1 T.f_Lane_inside T.fd_Lane_inside ["self"] (sp_Lane_inside T.C_Lane) := by
  refine T.F_Lane_inside.ok sc_Lane_inside (fun vs H Q E h => ?_) (fun cdv A outer s H vs Q E hr h => ?_)
  · obtain ⟨_, _, _, _, _, _, _, rfl, _⟩ := h
    rfl
  · obtain ⟨x, r, pw, pb, c, m, f, rfl, ⟨dx, hx⟩, r1, q⟩ := h
    refine ⟨_, (pss_one (ps_ret (pe_op op_mod (pe_op op_sub (pe_fld (pv 0) rfl) (pe_fld (pv 0) rfl)) (pe_op op_mul pe_int (pe_fld (pv 0) rfl))))), ?_⟩
    refine ⟨_, rfl, x, _, _, _, _, rfl, hx, T.cl_Lane, T.na_put, fs_put, _, rfl, x, _, _, _, _, rfl, hx, T.cl_Lane, T.na_got, fs_got, _, _, rfl, rfl, _, rfl, x, _, _, _, _, rfl, hx, T.cl_Lane, T.na_room, fs_room, _, _, rfl, rfl, .inl ⟨by decide, by decide⟩, _, _, rfl, rfl, by omega, q _ (Ex.refl _)⟩
def sp_Lane_behind (C : Addr) : Sp := fun vs H Q _ => ∃ (x : Addr) (r : Nat) (pw pb : Addr) (c : Co) (m : Nat) (f : V) (i : Nat), vs = [.ref x, .int (i : Int)] ∧ Ln C r pw pb H x c m f ∧ 1 ≤ r ∧ RetV (.int (nxt r i : Nat)) H Q
theorem ok_Lane_behind (T : TX K mg) : FnOk P w K mg base CX0 1 T.f_Lane_behind T.fd_Lane_behind ["self", "place"] (sp_Lane_behind T.C_Lane) := by
  refine T.F_Lane_behind.ok sc_Lane_behind (fun vs H Q E h => ?_) (fun cdv A outer s H vs Q E hr h => ?_)
  · obtain ⟨_, _, _, _, _, _, _, _, rfl, _⟩ := h
    rfl
  · obtain ⟨x, r, pw, pb, c, m, f, i, rfl, ⟨dx, hx⟩, r1, q⟩ := h
    refine ⟨_, (pss_one (ps_ret (pe_op op_mod (pe_op op_add (pv 1) pe_int) (pe_op op_mul pe_int (pe_fld (pv 0) rfl))))), ?_⟩
    refine ⟨_, rfl, _, _, rfl, rfl, _, rfl, x, _, _, _, _, rfl, hx, T.cl_Lane, T.na_room, fs_room, _, _, rfl, rfl, .inl ⟨by decide, by decide⟩, _, _, rfl, rfl, by omega, ?_⟩
    rw [nxt_int] at q
    exact q _ (Ex.refl _)
def sp_Lane_can_put (C : Addr) : Sp := fun vs H Q _ => ∃ (x : Addr) (r : Nat) (pw pb : Addr) (c : Co) (m : Nat) (f : V), vs = [.ref x] ∧ Ln C r pw pb H x c m f ∧ 1 ≤ r ∧ RetV (.bl (goes r c true)) H Q
theorem ok_Lane_can_put (T : TX K mg) : FnOk P w K mg base CX0 1 T.f_Lane_can_put T.fd_Lane_can_put ["self"] (sp_Lane_can_put T.C_Lane) := by
  refine T.F_Lane_can_put.ok sc_Lane_can_put (fun vs H Q E h => ?_) (fun cdv A outer s H vs Q E hr h => ?_)
  · obtain ⟨_, _, _, _, _, _, _, rfl, _⟩ := h
    rfl
  · obtain ⟨x, r, pw, pb, c, m, f, rfl, ⟨dx, hx⟩, r1, q⟩ := h
    refine ⟨_, (pss_one (ps_ret (pe_cmpR op_lt (pe_op op_mod (pe_op op_sub (pe_fld (pv 0) rfl) (pe_fld (pv 0) rfl)) (pe_op op_mul pe_int (pe_fld (pv 0) rfl))) (pe_fld (pv 0) rfl) (nomark _)))), ?_⟩
    refine ⟨_, rfl, x, _, _, _, _, rfl, hx, T.cl_Lane, T.na_put, fs_put, _, rfl, x, _, _, _, _, rfl, hx, T.cl_Lane, T.na_seen_got, fs_sg, _, _, rfl, rfl, _, rfl, x, _, _, _, _, rfl, hx, T.cl_Lane, T.na_room, fs_room, _, _, rfl, rfl, .inl ⟨by decide, by decide⟩, _, _, rfl, rfl, by omega, _, rfl, x, _, _, _, _, rfl, hx, T.cl_Lane, T.na_room, fs_room, _, _, rfl, rfl, q _ (Ex.refl _)⟩
def sp_Lane_can_get (C : Addr) : Sp := fun vs H Q _ => ∃ (x : Addr) (r : Nat) (pw pb : Addr) (c : Co) (m : Nat) (f : V), vs = [.ref x] ∧ Ln C r pw pb H x c m f ∧ 1 ≤ r ∧ RetV (.bl (goes r c false)) H Q
theorem goes_get (r : Nat) (c : Co) : goes r c false = !decide (V.int (c.sp : Int) = V.int (c.got : Int)) := by
  show (!decide (c.sp = c.got)) = _
  by_cases h : c.sp = c.got
  · simp [h]
  · have : ¬ (c.sp : Int) = (c.got : Int) := by omega
    simp [h, this]
theorem ok_Lane_can_get (T : TX K mg) : FnOk P w K mg base CX0 1 T.f_Lane_can_get T.fd_Lane_can_get ["self"] (sp_Lane_can_get T.C_Lane) := by
  refine T.F_Lane_can_get.ok sc_Lane_can_get (fun vs H Q E h => ?_) (fun cdv A outer s H vs Q E hr h => ?_)
  · obtain ⟨_, _, _, _, _, _, _, rfl, _⟩ := h
    rfl
  · obtain ⟨x, r, pw, pb, c, m, f, rfl, ⟨dx, hx⟩, r1, q⟩ := h
    refine ⟨_, (pss_one (ps_ret (pe_cmpR op_ne (pe_fld (pv 0) rfl) (pe_fld (pv 0) rfl) (nomark _)))), ?_⟩
    rw [goes_get] at q
    refine ⟨_, rfl, x, _, _, _, _, rfl, hx, T.cl_Lane, T.na_seen_put, fs_sp, _, rfl, x, _, _, _, _, rfl, hx, T.cl_Lane, T.na_got, fs_got, rfl, q _ (Ex.refl _)⟩
def sp_Lane_place_of (C : Addr) : Sp := fun vs H Q _ => ∃ (x : Addr) (r : Nat) (pw pb : Addr) (c : Co) (m : Nat) (f : V) (ws : List (List Bool)) (u : List Bool) (i : Nat), vs = [.ref x, wv u, .int (i : Int)] ∧ Ln C r pw pb H x c m f ∧ H pw = some (.lst (ws.map wv)) ∧ RetV (.int (if u ∈ ws then ws.idxOf u else i : Nat)) H Q
theorem ok_Lane_place_of (T : TX K mg) : FnOk P w K mg base CX0 1 T.f_Lane_place_of T.fd_Lane_place_of ["self", "word", "ahead"] (sp_Lane_place_of T.C_Lane) := by
  refine T.F_Lane_place_of.ok sc_Lane_place_of (fun vs H Q E h => ?_) (fun cdv A outer s H vs Q E hr h => ?_)
  · obtain ⟨_, _, _, _, _, _, _, _, _, _, rfl, _⟩ := h
    rfl
  · obtain ⟨x, r, pw, pb, c, m, f, ws, u, i, rfl, ⟨dx, hx⟩, hw, q⟩ := h
    refine ⟨_, (pss_one (ps_ret (pe_ifExp (pt_cmpR op_in_seq (pv 1) (pe_fld (pv 0) rfl) (by rfl)) (pe_bm PySem.F.plainAttrs_list PySem.F.slot_list_index PySem.F.type_list_index mt_index (pe_fld (pv 0) rfl) (pa_cons (pv 1) pa_nil)) (pv 2)))), ?_⟩
    refine ⟨_, rfl, _, rfl, x, _, _, _, _, rfl, hx, T.cl_Lane, T.na_words, fs_words, pw, _, rfl, .inl (SqL.of hw), rfl, flatW _, _, rfl, ?_⟩
    show if inV (wv u) (ws.map wv) = true then _ else _
    rw [inV_wv]
    by_cases hm : u ∈ ws
    · rw [if_pos hm] at q
      obtain ⟨h1, h2⟩ := idx_spec hm
      refine ifP (by simpa using hm) ⟨_, rfl, x, _, _, _, _, rfl, hx, T.cl_Lane, T.na_words, fs_words, .inl ⟨rfl, _, SqL.of hw⟩, _, rfl, pw, _, _, _, _, rfl, rfl, SqL.of hw, rfl, flatW _, h1, by simp [eqV], h2, q _ (Ex.refl _)⟩
    · rw [if_neg hm] at q
      exact ifN (by simpa using hm) ⟨_, rfl, q _ (Ex.refl _)⟩
def sp_Lane_turns (C : Addr) : Sp := fun vs H Q _ => ∃ (x : Addr) (r : Nat) (pw pb : Addr) (c : Co) (m : Nat) (f : V) (ws : List (List Bool)) (n : Nat) (p : Bool), vs = [.ref x, .str (pS p)] ∧ Ln C r pw pb H x c m f ∧ H pw = some (.lst (ws.map wv)) ∧ WW ws n r ∧ CoOk r c ∧ RetU [wv (ws.getD (here c p) []), wv (ws.getD (other r c p) [])] H Q
theorem ok_Lane_turns (T : TX K mg) : FnOk P w K mg base CX0 2 T.f_Lane_turns T.fd_Lane_turns ["self", "word"] (sp_Lane_turns T.C_Lane) := by
  refine T.F_Lane_turns.ok sc_Lane_turns (fun vs H Q E h => ?_) (fun cdv A outer s H vs Q E hr h => ?_)
  · obtain ⟨_, _, _, _, _, _, _, _, _, _, rfl, _⟩ := h
    rfl
  · obtain ⟨x, r, pw, pb, c, m, f, ws, n, p, rfl, hx, hw, hW, hc, q⟩ := h
    refine ⟨_, (pss_cons (ps_set (i := 2) sc_Lane_turns.nd rfl (by first | exact Or.inl rfl | exact Or.inr rfl) (pe_ifExp (pt_cmpR op_eq (pv 1) pe_str (nomark _)) (pe_fld (pv 0) rfl) (pe_fld (pv 0) rfl)))
 (pss_cons (ps_set (i := 3) sc_Lane_turns.nd rfl (by first | exact Or.inl rfl | exact Or.inr rfl) (pe_ifExp (pt_cmpR op_eq (pv 1) pe_str (nomark _)) (pe_meth0 (pv 0) T.cl_Lane T.m_Lane_can_put (ok_Lane_can_put T) (hr.mono (by decide)) T.b_Lane_can_put .nil pass0) (pe_meth0 (pv 0) T.cl_Lane T.m_Lane_can_get (ok_Lane_can_get T) (hr.mono (by decide)) T.b_Lane_can_get .nil pass0)))
 (pss_one (ps_ret (pe_tup (pa_cons (pe_ix ix_list (pe_fld (pv 0) rfl) (pv 2) (fun _ _ => rfl)) (pa_cons (pe_ifExp (pt_val (pv 3)) (pe_ix ix_list (pe_fld (pv 0) rfl) (pe_meth (pv 0) T.cl_Lane T.m_Lane_behind (ok_Lane_behind T) (hr.mono (by decide)) T.b_Lane_behind .nil pass0 (pa_cons (pv 2) pa_nil)) (fun _ _ => rfl)) (pe_ix ix_list (pe_fld (pv 0) rfl) (pv 2) (fun _ _ => rfl))) pa_nil))))))), ?_⟩
    obtain ⟨dx, hx0⟩ := hx
    have hh := here_lt hc p
    have ho := other_lt hW.r1 hc p
    cases p with
    | true =>
      refine ⟨_, rfl, rfl, _, rfl, ifP (by decide +kernel) ⟨_, rfl, x, _, _, _, _, rfl, hx0, T.cl_Lane, T.na_put, fs_put, ?_⟩⟩
      refine ⟨_, rfl, rfl, _, rfl, ifP (by decide +kernel) ⟨_, rfl, x, _, _, rfl, hx0, rfl, x, r, pw, pb, c, m, f, rfl, ⟨dx, hx0⟩, hW.r1, fun H1 e1 => ?_⟩⟩
      have hx1 := e1 _ _ hx0
      have hw1 := e1 _ _ hw
      refine ⟨_, rfl, x, _, _, _, _, rfl, hx1, T.cl_Lane, T.na_words, fs_words, _, rfl, pw, _, _, _, rfl, rfl, SqL.of hw1, atI_nat (hW.at hh), _, rfl, _, rfl, ?_⟩
      by_cases hg : goes r c true = true
      · refine ifP hg ⟨_, rfl, x, _, _, _, _, rfl, hx1, T.cl_Lane, T.na_words, fs_words, _, rfl, x, _, _, rfl, hx1, rfl, _, rfl, x, r, pw, pb, c, m, f, _, rfl, ⟨dx, hx1⟩, hW.r1, fun H2 e2 => ?_⟩
        have ho' : other r c true = nxt r (here c true) := by
          unfold other
          rw [if_pos hg]
        refine ⟨pw, _, _, _, rfl, rfl, SqL.of (e2 _ _ hw1), atI_nat (hW.at (nxt_lt hW.r1 _)), small9 (by simp), fun t nt => q t _ (fresh_back (e1.trans e2) nt) ((e1.trans e2).trans (Ex.new nt)) ?_⟩
        rw [upd_same, ho']
        rfl
      · refine ifN hg ⟨_, rfl, x, _, _, _, _, rfl, hx1, T.cl_Lane, T.na_words, fs_words, _, rfl, pw, _, _, _, rfl, rfl, SqL.of hw1, atI_nat (hW.at hh), small9 (by simp), fun t nt => q t _ (fresh_back e1 nt) (e1.trans (Ex.new nt)) ?_⟩
        have ho' : other r c true = here c true := by
          unfold other
          rw [if_neg hg]
        rw [upd_same, ho']
        rfl
    | false =>
      refine ⟨_, rfl, rfl, _, rfl, ifN (by decide +kernel) ⟨_, rfl, x, _, _, _, _, rfl, hx0, T.cl_Lane, T.na_got, fs_got, ?_⟩⟩
      refine ⟨_, rfl, rfl, _, rfl, ifN (by decide +kernel) ⟨_, rfl, x, _, _, rfl, hx0, rfl, x, r, pw, pb, c, m, f, rfl, ⟨dx, hx0⟩, hW.r1, fun H1 e1 => ?_⟩⟩
      have hx1 := e1 _ _ hx0
      have hw1 := e1 _ _ hw
      refine ⟨_, rfl, x, _, _, _, _, rfl, hx1, T.cl_Lane, T.na_words, fs_words, _, rfl, pw, _, _, _, rfl, rfl, SqL.of hw1, atI_nat (hW.at hh), _, rfl, _, rfl, ?_⟩
      by_cases hg : goes r c false = true
      · refine ifP hg ⟨_, rfl, x, _, _, _, _, rfl, hx1, T.cl_Lane, T.na_words, fs_words, _, rfl, x, _, _, rfl, hx1, rfl, _, rfl, x, r, pw, pb, c, m, f, _, rfl, ⟨dx, hx1⟩, hW.r1, fun H2 e2 => ?_⟩
        have ho' : other r c false = nxt r (here c false) := by
          unfold other
          rw [if_pos hg]
        refine ⟨pw, _, _, _, rfl, rfl, SqL.of (e2 _ _ hw1), atI_nat (hW.at (nxt_lt hW.r1 _)), small9 (by simp), fun t nt => q t _ (fresh_back (e1.trans e2) nt) ((e1.trans e2).trans (Ex.new nt)) ?_⟩
        rw [upd_same, ho']
        rfl
      · refine ifN hg ⟨_, rfl, x, _, _, _, _, rfl, hx1, T.cl_Lane, T.na_words, fs_words, _, rfl, pw, _, _, _, rfl, rfl, SqL.of hw1, atI_nat (hW.at hh), small9 (by simp), fun t nt => q t _ (fresh_back e1 nt) (e1.trans (Ex.new nt)) ?_⟩
        have ho' : other r c false = here c false := by
          unfold other
          rw [if_neg hg]
        rw [upd_same, ho']
        rfl
def sp_Lane_do_put (C : Addr) : Sp := fun vs H Q _ => ∃ (x : Addr) (r : Nat) (pw pb : Addr) (c : Co) (m : Nat) (f : V) (ws : List (List Bool)) (n : Nat) (bx : List V) (o : Option (List Bool)), vs = [.ref x, oV o] ∧ Ln C r pw pb H x c m f ∧ H pw = some (.lst (ws.map wv)) ∧ H pb = some (.lst bx) ∧ bx.length = r ∧ pw ≠ pb ∧ WW ws n r ∧ CoOk r c ∧ PDo C r pw pb x ws c m f bx (.tp true o) H Q
theorem int_dec (a b : Int) : decide (V.int a = V.int b) = decide (a = b) := by
  by_cases h : a = b
  · simp [h]
  · simp [h]
theorem ok_Lane_do_put (T : TX K mg) : FnOk P w K mg base CX0 2 T.f_Lane_do_put T.fd_Lane_do_put ["self", "seen"] (sp_Lane_do_put T.C_Lane) := by
  refine T.F_Lane_do_put.ok sc_Lane_do_put (fun vs H Q E h => ?_) (fun cdv A outer s H vs Q E hr h => ?_)
  · obtain ⟨_, _, _, _, _, _, _, _, _, _, _, rfl, _⟩ := h
    rfl
  · obtain ⟨x, r, pw, pb, c, m, f, ws, n, bx, o, rfl, ⟨dx, hx⟩, hw, hb, hbl, nwb, hW, hc, q⟩ := h
    have nwx : pw ≠ x := by
      rintro rfl
      rw [hw] at hx
      cases hx
    have nbx : pb ≠ x := by
      rintro rfl
      rw [hb] at hx
      cases hx
    have r1 := hW.r1
    refine ⟨_, (pss_cons (ps_set (i := 2) sc_Lane_do_put.nd rfl (by first | exact Or.inl rfl | exact Or.inr rfl) pe_non)
 (pss_cut (ps_if (pt_val (pe_meth0 (pv 0) T.cl_Lane T.m_Lane_can_put (ok_Lane_can_put T) (hr.mono (by decide)) T.b_Lane_can_put .nil pass0))
 (pss_cons (ps_set (i := 2) sc_Lane_do_put.nd rfl (by first | exact Or.inl rfl | exact Or.inr rfl) (pe_fld (pv 0) rfl))
 (pss_cons (ps_if (pt_cmpR op_eq (pe_meth0 (pv 0) T.cl_Lane T.m_Lane_inside (ok_Lane_inside T) (hr.mono (by decide)) T.b_Lane_inside .nil pass0) (pe_fld (pv 0) rfl) (nomark _))
 (pss_cons (ps_fld (pv 0) (pe_glob (v := .str "over") (by rfl) T.c_OVER ⟨_, rfl⟩) rfl)
 (pss_one (ps_ret (pe_glob (v := .str "over") (by rfl) T.c_OVER ⟨_, rfl⟩))))
 pss_nil)
 (pss_cons (ps_asg (pe_fld (pv 0) rfl) (pg_sub (pe_fld (pv 0) rfl) (pe_op op_mod (pe_fld (pv 0) rfl) (pe_fld (pv 0) rfl)) set_list))
 (pss_cons (ps_fld (pv 0) (pe_op op_add (pe_fld (pv 0) rfl) pe_int) rfl)
 (pss_one (ps_fld (pv 0) (pe_meth (pv 0) T.cl_Lane T.m_Lane_behind (ok_Lane_behind T) (hr.mono (by decide)) T.b_Lane_behind .nil pass0 (pa_cons (pe_fld (pv 0) rfl) pa_nil)) rfl))))))
 pss_nil)
 (pss_cut (ps_if (pt_cmpR op_notN (pv 1) pe_non (nomark _))
 (pss_one (ps_fld (pv 0) (pe_meth (pv 0) T.cl_Lane T.m_Lane_place_of (ok_Lane_place_of T) (hr.mono (by decide)) T.b_Lane_place_of .nil pass0 (pa_cons (pv 1) (pa_cons (pe_fld (pv 0) rfl) pa_nil))) rfl))
 pss_nil)
 (pss_one (ps_ret (pv 2)))))), ?_⟩
    refine ⟨fun σ H' => ∃ c1 m1 bx1 fv, σ = [some (.ref x), some (oV o), some fv] ∧ Ex2 x pb H H' ∧ H' x = some (.ins T.C_Lane dx (FS r pw pb c1 m1 f)) ∧ H' pw = some (.lst (ws.map wv)) ∧ H' pb = some (.lst bx1) ∧ sees ws true o c1 = cst r ws c (.tp true o) ∧ m1 = pMany r c m (.tp true o) ∧ bx1 = pBox r c m bx (.tp true o) ∧ fv = pAns r c m bx (.tp true o) ∧ f = pFlt r c f (.tp true o), ?_, ?_⟩
    · refine ⟨_, rfl, x, dx, _, rfl, hx, rfl, x, r, pw, pb, c, m, f, rfl, ⟨dx, hx⟩, r1, fun H1 e1 => ⟨_, rfl, ?_⟩⟩
      have hx1 := e1 _ _ hx
      have hw1 := e1 _ _ hw
      have hb1 := e1 _ _ hb
      cases hg : goes r c true with
      | false =>
        refine ifN (by simp) ⟨c, m, bx, .non, rfl, Ex2.of e1, hx1, hw1, hb1, (cst_stay hg).symm, ?_, ?_, ?_, ?_⟩
        · unfold pMany
          rw [movs_stay hg]
          rfl
        · unfold pBox
          rw [movs_stay hg]
          rfl
        · unfold pAns
          rw [movs_stay hg, flt_stay hg]
          rfl
        · unfold pFlt
          rw [flt_stay hg]
      | true =>
        refine ifP rfl ⟨_, rfl, x, _, _, _, _, rfl, hx1, T.cl_Lane, T.na_many, fs_many, ?_⟩
        refine ⟨_, rfl, x, dx, _, rfl, hx1, rfl, x, r, pw, pb, c, m, f, rfl, ⟨dx, hx1⟩, r1, fun H2 e2 => ?_⟩
        have hx2 := e2 _ _ hx1
        have hw2 := e2 _ _ hw1
        have hb2 := e2 _ _ hb1
        have e12 := e1.trans e2
        refine ⟨_, rfl, x, _, _, _, _, rfl, hx2, T.cl_Lane, T.na_room, fs_room, rfl, _, rfl, ?_⟩
        rw [int_dec]
        cases hbd : bad r c true with
        | true =>
          refine ifP hbd ?_
          have hA : pAns r c m bx (.tp true o) = .str "over" := by
            unfold pAns
            rw [movs_bad hbd, flt_bad hg hbd]
            rfl
          unfold PDo at q
          rw [hA] at q
          refine ⟨_, rfl, x, _, _, _, rfl, hx2, T.cl_Lane, T.na_fault, fs_len, q _ (Ex2.of e12).upd1 ⟨dx, ?_⟩ ?_⟩
          · rw [upd_same, fp_fault, cst_bad hg hbd]
            unfold pMany pFlt
            rw [movs_bad hbd, flt_bad hg hbd]
            rfl
          · rw [upd_ne nbx, hb2]
            unfold pBox
            rw [movs_bad hbd]
            rfl
        | false =>
          refine ifN (fun h => by rw [show bad r c true = decide (insd r c = r) from rfl] at hbd; rw [hbd] at h; cases h) ?_
          have hput : (c.put : Int) % (r : Int) = ((c.put % r : Nat) : Int) := (Int.natCast_emod _ _).symm
          refine ⟨_, rfl, x, _, _, _, _, rfl, hx2, T.cl_Lane, T.na_many, fs_many, _, rfl, x, _, _, _, _, rfl, hx2, T.cl_Lane, T.na_boxes, fs_boxes, _, rfl, x, _, _, _, _, rfl, hx2, T.cl_Lane, T.na_put, fs_put, _, rfl, x, _, _, _, _, rfl, hx2, T.cl_Lane, T.na_room, fs_room, _, _, rfl, rfl, by omega, pb, bx, _, c.put % r, rfl, rfl, hb2, ?_, ?_⟩
          · rw [hput]
            exact ixN_nat (by rw [hbl]; exact Nat.mod_lt _ r1)
          have hx3 : upd H2 pb (.lst (bx.set (c.put % r) (.int (m : Int)))) x = some (.ins T.C_Lane dx (FS r pw pb c m f)) := by
            rw [upd_ne (Ne.symm nbx)]
            exact hx2
          have hw3 : upd H2 pb (.lst (bx.set (c.put % r) (.int (m : Int)))) pw = some (.lst (ws.map wv)) := by
            rw [upd_ne nwb]
            exact hw2
          have hb3 : upd H2 pb (.lst (bx.set (c.put % r) (.int (m : Int)))) pb = some (.lst (bx.set (c.put % r) (.int (m : Int)))) := upd_same
          have e3 : Ex2 x pb H (upd H2 pb (.lst (bx.set (c.put % r) (.int (m : Int))))) := (Ex2.of e12).upd2
          generalize upd H2 pb (.lst (bx.set (c.put % r) (.int (m : Int)))) = H3 at hx3 hw3 hb3 e3 ⊢
          refine ⟨_, rfl, x, _, _, _, _, rfl, hx3, T.cl_Lane, T.na_many, fs_many, _, _, rfl, rfl, _, rfl, x, _, _, _, rfl, hx3, T.cl_Lane, T.na_many, fs_len, ?_⟩
          have hx4 : upd H3 x (.ins T.C_Lane dx (putF "many" (.int ((m : Int) + 1)) (FS r pw pb c m f))) x = some (.ins T.C_Lane dx (FS r pw pb c (m + 1) f)) := by
            rw [upd_same]
            rfl
          have hw4 : upd H3 x (.ins T.C_Lane dx (putF "many" (.int ((m : Int) + 1)) (FS r pw pb c m f))) pw = some (.lst (ws.map wv)) := by
            rw [upd_ne nwx]
            exact hw3
          have hb4 : upd H3 x (.ins T.C_Lane dx (putF "many" (.int ((m : Int) + 1)) (FS r pw pb c m f))) pb = some (.lst (bx.set (c.put % r) (.int (m : Int)))) := by
            rw [upd_ne nbx]
            exact hb3
          have e4 : Ex2 x pb H (upd H3 x (.ins T.C_Lane dx (putF "many" (.int ((m : Int) + 1)) (FS r pw pb c m f)))) := e3.upd1
          generalize upd H3 x (.ins T.C_Lane dx (putF "many" (.int ((m : Int) + 1)) (FS r pw pb c m f))) = H4 at hx4 hw4 hb4 e4 ⊢
          refine ⟨_, rfl, x, dx, _, rfl, hx4, rfl, _, rfl, x, _, _, _, _, rfl, hx4, T.cl_Lane, T.na_put, fs_put, x, r, pw, pb, c, _, f, c.put, rfl, ⟨dx, hx4⟩, r1, fun H5 e5 => ?_⟩
          refine ⟨_, rfl, x, _, _, _, rfl, e5 _ _ hx4, T.cl_Lane, T.na_put, fs_len, ?_⟩
          refine ⟨adv r c true, m + 1, bx.set (c.put % r) (.int (m : Int)), .int (m : Int), rfl, (e4.trans (Ex2.of e5)).upd1, ?_, ?_, ?_, (cst_go hg hbd).symm, ?_, ?_, ?_, ?_⟩
          · rw [upd_same, fp_put]
            rfl
          · rw [upd_ne nwx]
            exact e5 _ _ hw4
          · rw [upd_ne nbx]
            exact e5 _ _ hb4
          · unfold pMany
            rw [movs_go hg hbd]
            rfl
          · unfold pBox
            rw [movs_go hg hbd]
            rfl
          · unfold pAns
            rw [movs_go hg hbd]
          · unfold pFlt
            rw [flt_go hbd]
    · rintro σ H1 ⟨c1, m1, bx1, fv, rfl, e1, hx1, hw1, hb1, hc1, rfl, rfl, rfl, hf⟩
      refine ⟨fun σ H' => ∃ fv, σ = [some (.ref x), some (oV o), some fv] ∧ fv = pAns r c m bx (.tp true o) ∧ Ex2 x pb H H' ∧ Ln T.C_Lane r pw pb H' x (cst r ws c (.tp true o)) (pMany r c m (.tp true o)) (pFlt r c f (.tp true o)) ∧ H' pb = some (.lst (pBox r c m bx (.tp true o))), ?_, ?_⟩
      · cases o with
        | none =>
          refine ⟨_, rfl, rfl, _, rfl, ifN (by decide) ⟨_, rfl, rfl, e1, ⟨dx, ?_⟩, hb1⟩⟩
          rw [← hc1, ← hf]
          exact hx1
        | some u =>
          refine ⟨_, rfl, rfl, _, rfl, ifP (by simp [oV]) ?_⟩
          refine ⟨_, rfl, x, dx, _, rfl, hx1, rfl, _, rfl, _, rfl, x, _, _, _, _, rfl, hx1, T.cl_Lane, T.na_seen_put, fs_sp, x, r, pw, pb, c1, _, f, ws, u, c1.sp, rfl, ⟨dx, hx1⟩, hw1, fun H2 e2 => ?_⟩
          refine ⟨_, rfl, x, _, _, _, rfl, e2 _ _ hx1, T.cl_Lane, T.na_seen_put, fs_len, _, rfl, rfl, (e1.trans (Ex2.of e2)).upd1, ⟨dx, ?_⟩, ?_⟩
          · rw [upd_same, fp_sp, ← hc1, ← hf]
            congr 2
            unfold sees
            by_cases hm : u ∈ ws
            · simp only [if_pos hm]
            · simp only [if_neg hm]
          · rw [upd_ne nbx]
            exact e2 _ _ hb1
      · rintro σ H2 ⟨fv, rfl, rfl, e2, hl, hb2⟩
        exact ⟨_, rfl, q _ e2 hl hb2⟩
def sp_Lane_do_get (C : Addr) : Sp := fun vs H Q _ => ∃ (x : Addr) (r : Nat) (pw pb : Addr) (c : Co) (m : Nat) (f : V) (ws : List (List Bool)) (n : Nat) (bx : List V) (o : Option (List Bool)), vs = [.ref x, oV o] ∧ Ln C r pw pb H x c m f ∧ H pw = some (.lst (ws.map wv)) ∧ H pb = some (.lst bx) ∧ bx.length = r ∧ pw ≠ pb ∧ WW ws n r ∧ CoOk r c ∧ PDo C r pw pb x ws c m f bx (.tp false o) H Q
theorem ok_Lane_do_get (T : TX K mg) : FnOk P w K mg base CX0 2 T.f_Lane_do_get T.fd_Lane_do_get ["self", "seen"] (sp_Lane_do_get T.C_Lane) := by
  refine T.F_Lane_do_get.ok sc_Lane_do_get (fun vs H Q E h => ?_) (fun cdv A outer s H vs Q E hr h => ?_)
  · obtain ⟨_, _, _, _, _, _, _, _, _, _, _, rfl, _⟩ := h
    rfl
  · obtain ⟨x, r, pw, pb, c, m, f, ws, n, bx, o, rfl, ⟨dx, hx⟩, hw, hb, hbl, nwb, hW, hc, q⟩ := h
    have nwx : pw ≠ x := by
      rintro rfl
      rw [hw] at hx
      cases hx
    have nbx : pb ≠ x := by
      rintro rfl
      rw [hb] at hx
      cases hx
    have r1 := hW.r1
    refine ⟨_, (pss_cons (ps_set (i := 2) sc_Lane_do_get.nd rfl (by first | exact Or.inl rfl | exact Or.inr rfl) pe_non)
 (pss_cut (ps_if (pt_val (pe_meth0 (pv 0) T.cl_Lane T.m_Lane_can_get (ok_Lane_can_get T) (hr.mono (by decide)) T.b_Lane_can_get .nil pass0))
 (pss_cons (ps_if (pt_cmpR op_eq (pe_meth0 (pv 0) T.cl_Lane T.m_Lane_inside (ok_Lane_inside T) (hr.mono (by decide)) T.b_Lane_inside .nil pass0) pe_int (nomark _))
 (pss_cons (ps_fld (pv 0) (pe_glob (v := .str "under") (by rfl) T.c_UNDER ⟨_, rfl⟩) rfl)
 (pss_one (ps_ret (pe_glob (v := .str "under") (by rfl) T.c_UNDER ⟨_, rfl⟩))))
 pss_nil)
 (pss_cons (ps_set (i := 2) sc_Lane_do_get.nd rfl (by first | exact Or.inl rfl | exact Or.inr rfl) (pe_ix ix_list (pe_fld (pv 0) rfl) (pe_op op_mod (pe_fld (pv 0) rfl) (pe_fld (pv 0) rfl)) (fun _ _ => rfl)))
 (pss_one (ps_fld (pv 0) (pe_meth (pv 0) T.cl_Lane T.m_Lane_behind (ok_Lane_behind T) (hr.mono (by decide)) T.b_Lane_behind .nil pass0 (pa_cons (pe_fld (pv 0) rfl) pa_nil)) rfl))))
 pss_nil)
 (pss_cut (ps_if (pt_cmpR op_notN (pv 1) pe_non (nomark _))
 (pss_one (ps_fld (pv 0) (pe_meth (pv 0) T.cl_Lane T.m_Lane_place_of (ok_Lane_place_of T) (hr.mono (by decide)) T.b_Lane_place_of .nil pass0 (pa_cons (pv 1) (pa_cons (pe_fld (pv 0) rfl) pa_nil))) rfl))
 pss_nil)
 (pss_one (ps_ret (pv 2)))))), ?_⟩
    refine ⟨fun σ H' => ∃ c1 m1 bx1 fv, σ = [some (.ref x), some (oV o), some fv] ∧ Ex2 x pb H H' ∧ H' x = some (.ins T.C_Lane dx (FS r pw pb c1 m1 f)) ∧ H' pw = some (.lst (ws.map wv)) ∧ H' pb = some (.lst bx1) ∧ sees ws false o c1 = cst r ws c (.tp false o) ∧ m1 = pMany r c m (.tp false o) ∧ bx1 = pBox r c m bx (.tp false o) ∧ fv = pAns r c m bx (.tp false o) ∧ f = pFlt r c f (.tp false o), ?_, ?_⟩
    · refine ⟨_, rfl, x, dx, _, rfl, hx, rfl, x, r, pw, pb, c, m, f, rfl, ⟨dx, hx⟩, r1, fun H1 e1 => ⟨_, rfl, ?_⟩⟩
      have hx1 := e1 _ _ hx
      have hw1 := e1 _ _ hw
      have hb1 := e1 _ _ hb
      cases hg : goes r c false with
      | false =>
        refine ifN (by simp) ⟨c, m, bx, .non, rfl, Ex2.of e1, hx1, hw1, hb1, (cst_stay hg).symm, ?_, ?_, ?_, ?_⟩
        · unfold pMany
          rw [movs_stay hg]
          rfl
        · unfold pBox
          rw [movs_stay hg]
          rfl
        · unfold pAns
          rw [movs_stay hg, flt_stay hg]
          rfl
        · unfold pFlt
          rw [flt_stay hg]
      | true =>
        refine ifP rfl ?_
        refine ⟨_, rfl, x, dx, _, rfl, hx1, rfl, x, r, pw, pb, c, m, f, rfl, ⟨dx, hx1⟩, r1, fun H2 e2 => ?_⟩
        have hx2 := e2 _ _ hx1
        have hw2 := e2 _ _ hw1
        have hb2 := e2 _ _ hb1
        have e12 := e1.trans e2
        refine ⟨rfl, _, rfl, ?_⟩
        rw [int_dec]
        cases hbd : bad r c false with
        | true =>
          refine ifP hbd ?_
          have hA : pAns r c m bx (.tp false o) = .str "under" := by
            unfold pAns
            rw [movs_bad hbd, flt_bad hg hbd]
            rfl
          unfold PDo at q
          rw [hA] at q
          refine ⟨_, rfl, x, _, _, _, rfl, hx2, T.cl_Lane, T.na_fault, fs_len, q _ (Ex2.of e12).upd1 ⟨dx, ?_⟩ ?_⟩
          · rw [upd_same, fp_fault, cst_bad hg hbd]
            unfold pMany pFlt
            rw [movs_bad hbd, flt_bad hg hbd]
            rfl
          · rw [upd_ne nbx, hb2]
            unfold pBox
            rw [movs_bad hbd]
            rfl
        | false =>
          refine ifN (fun h => by rw [show bad r c false = decide (insd r c = 0) from rfl] at hbd; rw [hbd] at h; cases h) ?_
          have hgot : (c.got : Int) % (r : Int) = ((c.got % r : Nat) : Int) := (Int.natCast_emod _ _).symm
          have hlt : c.got % r < bx.length := by
            rw [hbl]
            exact Nat.mod_lt _ r1
          refine ⟨_, rfl, x, _, _, _, _, rfl, hx2, T.cl_Lane, T.na_boxes, fs_boxes, _, rfl, x, _, _, _, _, rfl, hx2, T.cl_Lane, T.na_got, fs_got, _, rfl, x, _, _, _, _, rfl, hx2, T.cl_Lane, T.na_room, fs_room, _, _, rfl, rfl, by omega, pb, bx, _, bx.getD (c.got % r) .non, rfl, rfl, SqL.of hb2, ?_, ?_⟩
          · rw [hgot]
            refine atI_nat ?_
            rw [List.getD_eq_getElem?_getD, List.getElem?_eq_getElem hlt]
            rfl
          refine ⟨_, rfl, x, dx, _, rfl, hx2, rfl, _, rfl, x, _, _, _, _, rfl, hx2, T.cl_Lane, T.na_got, fs_got, x, r, pw, pb, c, _, f, c.got, rfl, ⟨dx, hx2⟩, r1, fun H5 e5 => ?_⟩
          refine ⟨_, rfl, x, _, _, _, rfl, e5 _ _ hx2, T.cl_Lane, T.na_got, fs_len, ?_⟩
          refine ⟨adv r c false, m, bx, bx.getD (c.got % r) .non, rfl, (Ex2.of (e12.trans e5)).upd1, ?_, ?_, ?_, (cst_go hg hbd).symm, ?_, ?_, ?_, ?_⟩
          · rw [upd_same, fp_got]
            rfl
          · rw [upd_ne nwx]
            exact e5 _ _ hw2
          · rw [upd_ne nbx]
            exact e5 _ _ hb2
          · unfold pMany
            rw [movs_go hg hbd]
            rfl
          · unfold pBox
            rw [movs_go hg hbd]
            rfl
          · unfold pAns
            rw [movs_go hg hbd]
          · unfold pFlt
            rw [flt_go hbd]
    · rintro σ H1 ⟨c1, m1, bx1, fv, rfl, e1, hx1, hw1, hb1, hc1, rfl, rfl, rfl, hf⟩
      refine ⟨fun σ H' => ∃ fv, σ = [some (.ref x), some (oV o), some fv] ∧ fv = pAns r c m bx (.tp false o) ∧ Ex2 x pb H H' ∧ Ln T.C_Lane r pw pb H' x (cst r ws c (.tp false o)) (pMany r c m (.tp false o)) (pFlt r c f (.tp false o)) ∧ H' pb = some (.lst (pBox r c m bx (.tp false o))), ?_, ?_⟩
      · cases o with
        | none =>
          refine ⟨_, rfl, rfl, _, rfl, ifN (by decide) ⟨_, rfl, rfl, e1, ⟨dx, ?_⟩, hb1⟩⟩
          rw [← hc1, ← hf]
          exact hx1
        | some u =>
          refine ⟨_, rfl, rfl, _, rfl, ifP (by simp [oV]) ?_⟩
          refine ⟨_, rfl, x, dx, _, rfl, hx1, rfl, _, rfl, _, rfl, x, _, _, _, _, rfl, hx1, T.cl_Lane, T.na_seen_got, fs_sg, x, r, pw, pb, c1, _, f, ws, u, c1.sg, rfl, ⟨dx, hx1⟩, hw1, fun H2 e2 => ?_⟩
          refine ⟨_, rfl, x, _, _, _, rfl, e2 _ _ hx1, T.cl_Lane, T.na_seen_got, fs_len, _, rfl, rfl, (e1.trans (Ex2.of e2)).upd1, ⟨dx, ?_⟩, ?_⟩
          · rw [upd_same, fp_sg, ← hc1, ← hf]
            congr 2
            unfold sees
            by_cases hm : u ∈ ws
            · simp only [if_pos hm]
            · simp only [if_neg hm]
          · rw [upd_ne nbx]
            exact e2 _ _ hb1
      · rintro σ H2 ⟨fv, rfl, rfl, e2, hl, hb2⟩
        exact ⟨_, rfl, q _ e2 hl hb2⟩
def sp_Lane_do (K : PySem.W.Frag) (C : Addr) : Sp := fun vs H Q _ => ∃ (x : Addr) (r : Nat) (pw pb : Addr) (c : Co) (m : Nat) (f : V) (ws : List (List Bool)) (n : Nat) (bx : List V) (t : Addr) (e : Ev), vs = [.ref x, .ref t] ∧ H t = some (.tup (evV e)) ∧ Ln C r pw pb H x c m f ∧ H pw = some (.lst (ws.map wv)) ∧ H pb = some (.lst bx) ∧ bx.length = r ∧ pw ≠ pb ∧ WW ws n r ∧ CoOk r c ∧ PDo C r pw pb x ws c m f bx e H Q
theorem ok_Lane_do (T : TX K mg) : FnOk P w K mg base CX0 3 T.f_Lane_do T.fd_Lane_do ["self", "event"] (sp_Lane_do K T.C_Lane) := by
  refine T.F_Lane_do.ok sc_Lane_do (fun vs H Q E h => ?_) (fun cdv A outer s H vs Q E hr h => ?_)
  · obtain ⟨_, _, _, _, _, _, _, _, _, _, _, _, rfl, _⟩ := h
    rfl
  · obtain ⟨x, r, pw, pb, c, m, f, ws, n, bx, t, e, rfl, ht, ⟨dx, hx⟩, hw, hb, hbl, nwb, hW, hc, q⟩ := h
    have nbx : pb ≠ x := by
      rintro rfl
      rw [hb] at hx
      cases hx
    refine ⟨_, (pss_cons (ps_if (pt_cmpR op_eq (pe_ix ix_seq (pv 1) pe_int (fun _ _ => rfl)) pe_str (nomark _))
 (pss_one (ps_ret (pe_meth (pv 0) T.cl_Lane T.m_Lane_do_put (ok_Lane_do_put T) (hr.mono (by decide)) T.b_Lane_do_put .nil pass0 (pa_cons (pe_ix ix_seq (pv 1) pe_int (fun _ _ => rfl)) pa_nil))))
 pss_nil)
 (pss_cons (ps_if (pt_cmpR op_eq (pe_ix ix_seq (pv 1) pe_int (fun _ _ => rfl)) pe_str (nomark _))
 (pss_one (ps_ret (pe_meth (pv 0) T.cl_Lane T.m_Lane_do_get (ok_Lane_do_get T) (hr.mono (by decide)) T.b_Lane_do_get .nil pass0 (pa_cons (pe_ix ix_seq (pv 1) pe_int (fun _ _ => rfl)) pa_nil))))
 pss_nil)
 (pss_cut (ps_if (pt_cmpR op_eq (pe_ix ix_seq (pv 1) pe_int (fun _ _ => rfl)) pe_str (nomark _))
 (pss_one (ps_fld (pv 0) (pe_fld (pv 0) rfl) rfl))
 (pss_one (ps_fld (pv 0) (pe_fld (pv 0) rfl) rfl)))
 (pss_one (ps_ret pe_non))))), ?_⟩
    cases e with
    | tp p o =>
      cases p with
      | true =>
        refine ⟨_, rfl, .inr (.inl ⟨t, _, _, _, rfl, rfl, SqT.of ht, rfl, rfl, _, rfl, ifP (by decide +kernel) ?_⟩)⟩
        exact ⟨_, rfl, x, dx, _, rfl, hx, rfl, _, rfl, .inr (.inl ⟨t, _, _, _, rfl, rfl, SqT.of ht, rfl, x, r, pw, pb, c, m, f, ws, n, bx, o, rfl, ⟨dx, hx⟩, hw, hb, hbl, nwb, hW, hc, q⟩)⟩
      | false =>
        refine ⟨_, rfl, .inr (.inl ⟨t, _, _, _, rfl, rfl, SqT.of ht, rfl, rfl, _, rfl, ifN (by decide +kernel) ?_⟩)⟩
        refine ⟨_, rfl, .inr (.inl ⟨t, _, _, _, rfl, rfl, SqT.of ht, rfl, rfl, _, rfl, ifP (by decide +kernel) ?_⟩)⟩
        exact ⟨_, rfl, x, dx, _, rfl, hx, rfl, _, rfl, .inr (.inl ⟨t, _, _, _, rfl, rfl, SqT.of ht, rfl, x, r, pw, pb, c, m, f, ws, n, bx, o, rfl, ⟨dx, hx⟩, hw, hb, hbl, nwb, hW, hc, q⟩)⟩
    | look b =>
      refine ⟨_, rfl, .inr (.inl ⟨t, _, _, _, rfl, rfl, SqT.of ht, rfl, rfl, _, rfl, ifN (by decide +kernel) ?_⟩)⟩
      refine ⟨_, rfl, .inr (.inl ⟨t, _, _, _, rfl, rfl, SqT.of ht, rfl, rfl, _, rfl, ifN (by decide +kernel) ?_⟩)⟩
      refine ⟨fun σ H' => σ = [some (.ref x), some (.ref t)] ∧ Ex2 x pb H H' ∧ Ln T.C_Lane r pw pb H' x (cst r ws c (.look b)) m f ∧ H' pb = some (.lst bx), ?_, ?_⟩
      · cases b with
        | true =>
          refine ⟨_, rfl, .inr (.inl ⟨t, _, _, _, rfl, rfl, SqT.of ht, rfl, rfl, _, rfl, ifP (by decide +kernel) ?_⟩)⟩
          refine ⟨_, rfl, x, _, _, _, _, rfl, hx, T.cl_Lane, T.na_got, fs_got, _, rfl, x, _, _, _, rfl, hx, T.cl_Lane, T.na_seen_got, fs_len, rfl, (Ex2.refl x pb H).upd1, ⟨dx, ?_⟩, ?_⟩
          · rw [upd_same, fp_sg]
            rfl
          · rw [upd_ne nbx]
            exact hb
        | false =>
          refine ⟨_, rfl, .inr (.inl ⟨t, _, _, _, rfl, rfl, SqT.of ht, rfl, rfl, _, rfl, ifN (by decide +kernel) ?_⟩)⟩
          refine ⟨_, rfl, x, _, _, _, _, rfl, hx, T.cl_Lane, T.na_put, fs_put, _, rfl, x, _, _, _, rfl, hx, T.cl_Lane, T.na_seen_put, fs_len, rfl, (Ex2.refl x pb H).upd1, ⟨dx, ?_⟩, ?_⟩
          · rw [upd_same, fp_sp]
            rfl
          · rw [upd_ne nbx]
            exact hb
      · rintro σ H1 ⟨rfl, e1, hl, hb1⟩
        exact q _ e1 hl hb1
/-! ### what may happen next -/
def mayB (r : Nat) (ws : List (List Bool)) (c : Co) : List V → Bool
  | [a, b] => if decide (a = .str "look") then inV b [.str "writer", .str "reader"] else if !inV a [.str "put", .str "get"] then false else decide (b = .non) || inV b ((mayW r ws c (decide (a = .str "put"))).map wv)
  | _ => false
/-- a text or None -/
def Sn (v : V) : Prop := v = .non ∨ ∃ z, v = .str z
theorem Sn.flat {v : V} (h : Sn v) : flatV v = true := by
  rcases h with rfl | ⟨z, rfl⟩ <;> rfl
theorem Sn.scal {v : V} (h : Sn v) (z : Str) : scal v (.str z) = true := by
  rcases h with rfl | ⟨z, rfl⟩ <;> rfl
theorem sn_ev (e : Ev) : ∀ v ∈ evV e, Sn v := by
  cases e with
  | look w =>
    intro v hv
    rcases List.mem_cons.mp hv with rfl | hv
    · exact .inr ⟨_, rfl⟩
    · rw [List.mem_singleton.mp hv]
      exact .inr ⟨_, rfl⟩
  | tp p o =>
    intro v hv
    rcases List.mem_cons.mp hv with rfl | hv
    · exact .inr ⟨_, rfl⟩
    · rw [List.mem_singleton.mp hv]
      cases o
      · exact .inl rfl
      · exact .inr ⟨_, rfl⟩
theorem inV_pg {a : V} (h : inV a [.str "put", .str "get"] = true) : a = .str (pS (decide (a = .str "put"))) := by
  unfold inV at h
  rw [List.any_cons, List.any_cons, List.any_nil, Bool.or_false, Bool.or_eq_true] at h
  have k : ∀ z : Str, eqV (.str z) a = true → a = .str z := by
    intro z hz
    cases a with
    | str y =>
      have : z = y := by simpa [eqV] using hz
      rw [this]
    | _ => cases hz
  rcases h with h | h
  · rw [k _ h]
    decide +kernel
  · rw [k _ h]
    decide +kernel
theorem mayB_look {r : Nat} {ws : List (List Bool)} {c : Co} (b : V) : mayB r ws c [.str "look", b] = inV b [.str "writer", .str "reader"] := by
  rw [mayB, if_pos (by decide +kernel)]
theorem mayB_tp {r : Nat} {ws : List (List Bool)} {c : Co} (p : Bool) (b : V) : mayB r ws c [.str (pS p), b] = (decide (b = .non) || inV b ((mayW r ws c p).map wv)) := by
  cases p
  · rw [mayB, if_neg (by decide +kernel), if_neg (by decide +kernel), show decide (V.str (pS false) = .str "put") = false by decide +kernel]
  · rw [mayB, if_neg (by decide +kernel), if_neg (by decide +kernel), show decide (V.str (pS true) = .str "put") = true by decide +kernel]
theorem mayB_can {r : Nat} {ws : List (List Bool)} {c : Co} {e : Ev} (h : e ∈ canE r ws c) : mayB r ws c (evV e) = true := by
  have hp : ∀ p, e ∈ canP r ws c p → mayB r ws c (evV e) = true := by
    intro p hp
    rcases List.mem_cons.mp hp with rfl | hp
    · exact (mayB_tp p _).trans rfl
    · obtain ⟨u, hu, rfl⟩ := List.mem_map.mp hp
      refine (mayB_tp p _).trans ?_
      show (_ || inV (wv u) _) = true
      rw [inV_wv, decide_eq_true hu, Bool.or_true]
  rcases List.mem_append.mp h with h | h
  · rcases List.mem_append.mp h with h | h
    · rcases List.mem_cons.mp h with rfl | h
      · exact (mayB_look _).trans (by decide +kernel)
      · rw [List.mem_singleton.mp h]
        exact (mayB_look _).trans (by decide +kernel)
    · exact hp _ h
  · exact hp _ h
/-! ### a run of events -/
structure PS where
  c : Co
  m : Nat
  bx : List V
  f : V
def pstep (r : Nat) (ws : List (List Bool)) (s : PS) (e : Ev) : PS := ⟨cst r ws s.c e, pMany r s.c s.m e, pBox r s.c s.m s.bx e, pFlt r s.c s.f e⟩
def pans (r : Nat) (s : PS) (e : Ev) : V := pAns r s.c s.m s.bx e
def pEnd (r : Nat) (ws : List (List Bool)) : PS → List Ev → PS
  | s, [] => s
  | s, e :: es => pEnd r ws (pstep r ws s e) es
def pTold (r : Nat) (ws : List (List Bool)) : PS → List Ev → List V
  | _, [] => []
  | s, e :: es => pans r s e :: pTold r ws (pstep r ws s e) es
def ps0 (r : Nat) : PS := ⟨⟨0, 0, 0, 0⟩, 0, List.replicate r .non, .non⟩
/-- every event may happen, and nothing happens behind a fault -/
def VRun (r : Nat) (ws : List (List Bool)) : Co → List Ev → Prop
  | _, [] => True
  | c, e :: es => e ∈ canE r ws c ∧ (flt r c e ≠ none → es = []) ∧ VRun r ws (cst r ws c e) es
def fEnd (r : Nat) (ws : List (List Bool)) : Co → List Ev → Bool
  | _, [] => false
  | c, e :: es => (flt r c e).isSome || fEnd r ws (cst r ws c e) es
theorem pTold_len (r : Nat) (ws : List (List Bool)) : ∀ (es : List Ev) (s : PS), (pTold r ws s es).length = es.length
  | [], _ => rfl
  | e :: es, s => congrArg (· + 1) (pTold_len r ws es (pstep r ws s e))
theorem pTold_app (r : Nat) (ws : List (List Bool)) : ∀ (es fs : List Ev) (s : PS), pTold r ws s (es ++ fs) = pTold r ws s es ++ pTold r ws (pEnd r ws s es) fs
  | [], _, _ => rfl
  | e :: es, fs, s => congrArg (pans r s e :: ·) (pTold_app r ws es fs (pstep r ws s e))
theorem pEnd_app (r : Nat) (ws : List (List Bool)) : ∀ (es fs : List Ev) (s : PS), pEnd r ws s (es ++ fs) = pEnd r ws (pEnd r ws s es) fs
  | [], _, _ => rfl
  | e :: es, fs, s => pEnd_app r ws es fs (pstep r ws s e)
theorem ex_of2 {d e : Addr} {H H1 H2 : Hp} (a : Ex H H1) (b : Ex2 d e H1 H2) (nd : H d = none) (ne : H e = none) : Ex H H2 := fun x o h => b x o (a x o h) (fun z => by rw [z, nd] at h; cases h) (fun z => by rw [z, ne] at h; cases h)
theorem pFlt_none {r : Nat} {c : Co} {f : V} {e : Ev} (h : flt r c e = none) : pFlt r c f e = f := by
  unfold pFlt
  rw [h]
theorem pFlt_some {r : Nat} {c : Co} {f : V} {e : Ev} {p : Bool} (h : flt r c e = some p) : pFlt r c f e = fltV (some p) := by
  unfold pFlt
  rw [h]
theorem fltV_some (p : Bool) : fltV (some p) ≠ .non := by cases p <;> simp [fltV]
/-- the list of events in a heap: its first ones are evs -/
def EvsAt (H : Hp) (vs : List V) (evs : List Ev) : Prop := evs.length ≤ vs.length ∧ ∀ (i : Nat) (e : Ev), evs[i]? = some e → ∃ t, vs[i]? = some (.ref t) ∧ H t = some (.tup (evV e))
theorem EvsAt.mono {H H' : Hp} {vs : List V} {evs : List Ev} (x : Ex H H') (h : EvsAt H vs evs) : EvsAt H' vs evs := ⟨h.1, fun i e he => by
  obtain ⟨t, h1, h2⟩ := h.2 i e he
  exact ⟨t, h1, x _ _ h2⟩⟩
def isGet : Ev → Bool
  | .tp false _ => true
  | _ => false
def isIntV : V → Bool
  | .int _ => true
  | _ => false
def gotP (evs : List Ev) (told : List V) (i : Nat) : Bool := isGet (evs.getD i (.look true)) && isIntV (told.getD i .non)
def gotL (evs : List Ev) (told : List V) : List V := ((List.range evs.length).filter (gotP evs told)).map fun i => told.getD i .non
/-- what a get may answer -/
def GetOk (evs : List Ev) (told : List V) : Prop := ∀ i, i < evs.length → isGet (evs.getD i (.look true)) = true → told.getD i .non = .non ∨ told.getD i .non = .str "under" ∨ ∃ k : Int, told.getD i .non = .int k
theorem ev_word (e : Ev) : ∃ a b, evV e = [.str a, b] ∧ decide (V.str a = .str "get") = isGet e := by
  cases e with
  | look w => exact ⟨_, _, rfl, show decide (V.str "look" = .str "get") = false by decide +kernel⟩
  | tp p o =>
    cases p
    · exact ⟨_, _, rfl, show decide (V.str (pS false) = .str "get") = true by decide +kernel⟩
    · exact ⟨_, _, rfl, show decide (V.str (pS true) = .str "get") = false by decide +kernel⟩
/-! ### the search for a fault -/
abbrev Mt := List (Co × List Ev)
def mGet : Mt → Co → Option (List Ev)
  | [], _ => none
  | (d, p) :: m, c => if d = c then some p else mGet m c
abbrev FR := Sum (List Ev × Bool) (Mt × List Co)
def evStep (r : Nat) (ws : List (List Bool)) (c : Co) (path : List Ev) (acc : Mt × List Co) (e : Ev) : FR :=
  match flt r c e with
  | some p => .inl (path ++ [e], p)
  | none => if mGet acc.1 (cst r ws c e) = none then .inr (acc.1 ++ [(cst r ws c e, path ++ [e])], acc.2 ++ [cst r ws c e]) else .inr acc
def evsRun (r : Nat) (ws : List (List Bool)) (c : Co) (path : List Ev) : List Ev → Mt × List Co → FR
  | [], acc => .inr acc
  | e :: es, acc => match evStep r ws c path acc e with
    | .inl x => .inl x
    | .inr a => evsRun r ws c path es a
def levRun (r : Nat) (ws : List (List Bool)) : List Co → Mt × List Co → FR
  | [], acc => .inr acc
  | c :: cs, acc => match evsRun r ws c ((mGet acc.1 c).getD []) (canE r ws c) acc with
    | .inl x => .inl x
    | .inr a => levRun r ws cs a
def bfs (r : Nat) (ws : List (List Bool)) : Nat → Mt → List Co → Option (List Ev × Bool)
  | _, _, [] => none
  | 0, _, _ :: _ => none
  | n + 1, met, c :: cs => match levRun r ws (c :: cs) (met, []) with
    | .inl x => some x
    | .inr a => bfs r ws n a.1 a.2
def c00 : Co := ⟨0, 0, 0, 0⟩
def faultF (r : Nat) (ws : List (List Bool)) : Option (List Ev × Bool) := bfs r ws 20737 [(c00, [])] [c00]
/-! sound -/
def cEnd (r : Nat) (ws : List (List Bool)) : Co → List Ev → Co
  | c, [] => c
  | c, e :: es => cEnd r ws (cst r ws c e) es
theorem cEnd_app (r : Nat) (ws : List (List Bool)) : ∀ (es fs : List Ev) (c : Co), cEnd r ws c (es ++ fs) = cEnd r ws (cEnd r ws c es) fs
  | [], _, _ => rfl
  | e :: es, fs, c => cEnd_app r ws es fs (cst r ws c e)
/-- a run without a fault that ends at c -/
def Way (r : Nat) (ws : List (List Bool)) (p : List Ev) (c : Co) : Prop := VRun r ws c00 p ∧ fEnd r ws c00 p = false ∧ cEnd r ws c00 p = c
theorem vrun_app {r : Nat} {ws : List (List Bool)} : ∀ {es : List Ev} {c : Co} {e : Ev}, VRun r ws c es → fEnd r ws c es = false → e ∈ canE r ws (cEnd r ws c es) → VRun r ws c (es ++ [e]) ∧ fEnd r ws c (es ++ [e]) = (flt r (cEnd r ws c es) e).isSome
  | [], c, e, _, _, h => by
    refine ⟨⟨h, fun _ => rfl, trivial⟩, ?_⟩
    show (_ || false) = _
    rw [Bool.or_false]
    rfl
  | x :: es, c, e, hv, hf, h => by
    have hf : ((flt r c x).isSome || fEnd r ws (cst r ws c x) es) = false := hf
    rw [Bool.or_eq_false_iff] at hf
    obtain ⟨g1, g2⟩ := vrun_app hv.2.2 hf.2 h
    refine ⟨⟨hv.1, fun hn => ?_, g1⟩, ?_⟩
    · have := hf.1
      cases hx : flt r c x with
      | none => exact absurd hx hn
      | some y => rw [hx] at this; cases this
    · show ((flt r c x).isSome || fEnd r ws (cst r ws c x) (es ++ [e])) = _
      rw [hf.1, Bool.false_or]
      exact g2
theorem Way.step {r : Nat} {ws : List (List Bool)} {p : List Ev} {c : Co} {e : Ev} (h : Way r ws p c) (he : e ∈ canE r ws c) (hf : flt r c e = none) : Way r ws (p ++ [e]) (cst r ws c e) := by
  obtain ⟨h1, h2, rfl⟩ := h
  obtain ⟨g1, g2⟩ := vrun_app h1 h2 he
  refine ⟨g1, by rw [g2, hf]; rfl, ?_⟩
  rw [cEnd_app]
  rfl
/-- a run that ends with a fault -/
def Bad (r : Nat) (ws : List (List Bool)) (p : List Ev) (q : Bool) : Prop := ∃ p' e, p = p' ++ [e] ∧ VRun r ws c00 p ∧ fEnd r ws c00 p = true ∧ flt r (cEnd r ws c00 p') e = some q
theorem Way.bad {r : Nat} {ws : List (List Bool)} {p : List Ev} {c : Co} {e : Ev} {q : Bool} (h : Way r ws p c) (he : e ∈ canE r ws c) (hf : flt r c e = some q) : Bad r ws (p ++ [e]) q := by
  obtain ⟨h1, h2, rfl⟩ := h
  obtain ⟨g1, g2⟩ := vrun_app h1 h2 he
  exact ⟨p, e, rfl, g1, by rw [g2, hf]; rfl, hf⟩
theorem mGet_app {m : Mt} {c d : Co} {p : List Ev} : mGet (m ++ [(d, p)]) c = match mGet m c with | some x => some x | none => if d = c then some p else none := by
  induction m with
  | nil => rfl
  | cons x m ih =>
    obtain ⟨d', p'⟩ := x
    show (if d' = c then some p' else mGet (m ++ [(d, p)]) c) = match (if d' = c then some p' else mGet m c) with | some x => some x | none => if d = c then some p else none
    by_cases h : d' = c
    · rw [if_pos h, if_pos h]
    · rw [if_neg h, if_neg h]
      exact ih
theorem mGet_mem {m : Mt} {c : Co} {p : List Ev} (h : mGet m c = some p) : (c, p) ∈ m := by
  induction m with
  | nil => cases h
  | cons x m ih =>
    obtain ⟨d, q⟩ := x
    have h : (if d = c then some q else mGet m c) = some p := h
    by_cases hd : d = c
    · rw [if_pos hd] at h
      cases h
      rw [hd]
      exact List.mem_cons_self
    · rw [if_neg hd] at h
      exact List.mem_cons_of_mem _ (ih h)
theorem mGet_none {m : Mt} {c : Co} (h : mGet m c = none) : c ∉ m.map (·.1) := by
  induction m with
  | nil => simp
  | cons x m ih =>
    obtain ⟨d, q⟩ := x
    have h : (if d = c then some q else mGet m c) = none := h
    by_cases hd : d = c
    · rw [if_pos hd] at h
      cases h
    · rw [if_neg hd] at h
      simp only [List.map_cons, List.mem_cons, not_or]
      exact ⟨fun e => hd e.symm, ih h⟩
/-- the search's own order: every place that was met has a way, none is met twice, the next level was met -/
structure Srch (r : Nat) (ws : List (List Bool)) (a : Mt × List Co) : Prop where
  way : ∀ c p, (c, p) ∈ a.1 → Way r ws p c
  nd : (a.1.map (·.1)).Nodup
  ok : ∀ c ∈ a.1.map (·.1), CoOk r c
  lev : ∀ c ∈ a.2, (mGet a.1 c).isSome = true
theorem evStep_ok {r n : Nat} {ws : List (List Bool)} {c : Co} {path : List Ev} {a : Mt × List Co} {e : Ev} (hW : WW ws n r) (h : Srch r ws a) (hp : Way r ws path c) (hc : CoOk r c) (he : e ∈ canE r ws c) :
    (∀ x, evStep r ws c path a e = .inl x → Bad r ws x.1 x.2) ∧ ∀ b, evStep r ws c path a e = .inr b → Srch r ws b ∧ (∀ d q, mGet a.1 d = some q → mGet b.1 d = some q) ∧ b.1.length + a.2.length = a.1.length + b.2.length := by
  unfold evStep
  cases hf : flt r c e with
  | some q =>
    refine ⟨fun x hx => ?_, fun b hb => by cases hb⟩
    cases hx
    exact hp.bad he hf
  | none =>
    refine ⟨fun x hx => ?_, fun b hb => ?_⟩
    · dsimp only at hx
      split at hx <;> cases hx
    · dsimp only at hb
      by_cases hm : mGet a.1 (cst r ws c e) = none
      · rw [if_pos hm] at hb
        cases hb
        have hk : ∀ d q, mGet a.1 d = some q → mGet (a.1 ++ [(cst r ws c e, path ++ [e])]) d = some q := fun d q h => by rw [mGet_app, h]
        refine ⟨⟨fun d p hd => ?_, ?_, fun d hd => ?_, fun d hd => ?_⟩, hk, by simp; omega⟩
        · rcases List.mem_append.mp hd with hd | hd
          · exact h.way d p hd
          · cases List.mem_singleton.mp hd
            exact hp.step he hf
        · rw [List.map_append, List.nodup_append]
          refine ⟨h.nd, by simp, ?_⟩
          intro x hx y hy
          have hy : y = cst r ws c e := by simpa using hy
          rintro rfl
          rw [hy] at hx
          exact mGet_none hm hx
        · rw [List.map_append] at hd
          rcases List.mem_append.mp hd with hd | hd
          · exact h.ok d hd
          · have hd : d = cst r ws c e := by simpa using hd
            rw [hd]
            exact cst_ok hW.r1 hW.len hc e
        · rcases List.mem_append.mp hd with hd | hd
          · obtain ⟨q, hq⟩ := Option.isSome_iff_exists.mp (h.lev d hd)
            rw [hk d q hq]
            rfl
          · rw [List.mem_singleton.mp hd, mGet_app, hm]
            simp
      · rw [if_neg hm] at hb
        cases hb
        exact ⟨h, fun _ _ h => h, Nat.add_comm _ _ ▸ rfl⟩
/-- what one search over some events or places brings -/
def Brings (r : Nat) (ws : List (List Bool)) (a : Mt × List Co) (o : FR) : Prop := (∀ x, o = .inl x → Bad r ws x.1 x.2) ∧ ∀ b, o = .inr b → Srch r ws b ∧ (∀ d q, mGet a.1 d = some q → mGet b.1 d = some q) ∧ b.1.length + a.2.length = a.1.length + b.2.length
theorem evsRun_ok {r n : Nat} {ws : List (List Bool)} {c : Co} {path : List Ev} (hW : WW ws n r) (hp : Way r ws path c) (hc : CoOk r c) : ∀ {es : List Ev} {a : Mt × List Co}, (∀ e ∈ es, e ∈ canE r ws c) → Srch r ws a → Brings r ws a (evsRun r ws c path es a)
  | [], a, _, h => ⟨fun x hx => (by cases hx), fun b hb => (by cases hb; exact ⟨h, fun _ _ h => h, Nat.add_comm _ _ ▸ rfl⟩)⟩
  | e :: es, a, he, h => by
    have h1 := evStep_ok hW h hp hc (he e List.mem_cons_self)
    unfold evsRun
    cases hs : evStep r ws c path a e with
    | inl x => exact ⟨fun y hy => (by cases hy; exact h1.1 x hs), fun b hb => (by cases hb)⟩
    | inr b =>
      obtain ⟨g1, g2, g3⟩ := h1.2 b hs
      have ih := evsRun_ok hW hp hc (es := es) (a := b) (fun e h => he e (List.mem_cons_of_mem _ h)) g1
      refine ⟨ih.1, fun d hd => ?_⟩
      obtain ⟨k1, k2, k3⟩ := ih.2 d hd
      exact ⟨k1, fun x q hx => k2 x q (g2 x q hx), by omega⟩
theorem levRun_ok {r n : Nat} {ws : List (List Bool)} (hW : WW ws n r) : ∀ {cs : List Co} {a : Mt × List Co}, (∀ c ∈ cs, (mGet a.1 c).isSome = true) → Srch r ws a → Brings r ws a (levRun r ws cs a)
  | [], a, _, h => ⟨fun x hx => (by cases hx), fun b hb => (by cases hb; exact ⟨h, fun _ _ h => h, Nat.add_comm _ _ ▸ rfl⟩)⟩
  | c :: cs, a, hm, h => by
    obtain ⟨p, hp⟩ := Option.isSome_iff_exists.mp (hm c List.mem_cons_self)
    have hin := mGet_mem hp
    have hco := h.ok c (List.mem_map.mpr ⟨_, hin, rfl⟩)
    have h1 := evsRun_ok (es := canE r ws c) hW (h.way c p hin) hco (fun _ h => h) h
    unfold levRun
    rw [hp]
    show Brings r ws a (match evsRun r ws c p (canE r ws c) a with | .inl x => .inl x | .inr b => levRun r ws cs b)
    cases hs : evsRun r ws c p (canE r ws c) a with
    | inl x => exact ⟨fun y hy => (by cases hy; exact h1.1 x hs), fun b hb => (by cases hb)⟩
    | inr b =>
      obtain ⟨g1, g2, g3⟩ := h1.2 b hs
      have ih := levRun_ok hW (cs := cs) (a := b) (fun d hd => by
        obtain ⟨q, hq⟩ := Option.isSome_iff_exists.mp (hm d (List.mem_cons_of_mem _ hd))
        rw [g2 d q hq]
        rfl) g1
      refine ⟨ih.1, fun d hd => ?_⟩
      obtain ⟨k1, k2, k3⟩ := ih.2 d hd
      exact ⟨k1, fun x q hx => k2 x q (g2 x q hx), by omega⟩
theorem pigeon : ∀ (n : Nat) (l : List Nat), l.Nodup → (∀ x ∈ l, x < n) → l.length ≤ n
  | 0, [], _, _ => Nat.le_refl _
  | 0, x :: _, _, h => absurd (h x List.mem_cons_self) (Nat.not_lt_zero _)
  | n + 1, l, nd, h => by
    have h1 : ∀ x ∈ l.erase n, x < n := fun x hx => by
      have := (nd.mem_erase_iff).mp hx
      have := h x this.2
      omega
    have ih := pigeon n (l.erase n) (nd.erase n) h1
    by_cases hm : n ∈ l
    · rw [List.length_erase_of_mem hm] at ih
      omega
    · rw [List.erase_of_not_mem hm] at ih
      omega
def encC (c : Co) : Nat := ((c.put * 12 + c.got) * 12 + c.sp) * 12 + c.sg
theorem co_many {r : Nat} {l : List Co} (h6 : r ≤ 6) (nd : l.Nodup) (h : ∀ c ∈ l, CoOk r c) : l.length ≤ 20736 := by
  have := pigeon 20736 (l.map encC) ?_ ?_
  · rwa [List.length_map] at this
  · rw [List.nodup_iff_pairwise_ne, List.pairwise_map]
    refine List.Pairwise.imp_of_mem ?_ nd
    intro a b ha hb hne he
    obtain ⟨a1, a2, a3, a4⟩ := h a ha
    obtain ⟨b1, b2, b3, b4⟩ := h b hb
    refine hne ?_
    obtain ⟨p, g, s, t⟩ := a
    obtain ⟨p', g', s', t'⟩ := b
    unfold encC at he
    dsimp only at *
    have e1 : p = p' := by omega
    have e2 : g = g' := by omega
    have e3 : s = s' := by omega
    have e4 : t = t' := by omega
    rw [e1, e2, e3, e4]
  · intro x hx
    obtain ⟨c, hc, rfl⟩ := List.mem_map.mp hx
    obtain ⟨a1, a2, a3, a4⟩ := h c hc
    unfold encC
    omega
theorem bfs_sound {r n : Nat} {ws : List (List Bool)} (hW : WW ws n r) : ∀ {f : Nat} {met : Mt} {lev : List Co} {x : List Ev × Bool}, Srch r ws (met, []) → (∀ c ∈ lev, (mGet met c).isSome = true) → bfs r ws f met lev = some x → Bad r ws x.1 x.2
  | _, _, [], _, _, _, h => by
    rw [bfs] at h
    cases h
  | 0, _, _ :: _, _, _, _, h => by
    rw [bfs] at h
    cases h
  | f + 1, met, c :: cs, x, hs, hl, h => by
    have h1 := levRun_ok (cs := c :: cs) hW (a := (met, [])) hl hs
    rw [bfs] at h
    cases hr : levRun r ws (c :: cs) (met, []) with
    | inl y =>
      rw [hr] at h
      cases h
      exact h1.1 _ hr
    | inr b =>
      rw [hr] at h
      obtain ⟨g1, g2, g3⟩ := h1.2 b hr
      exact bfs_sound hW (f := f) ⟨g1.way, g1.nd, g1.ok, by simp⟩ g1.lev h
theorem srch0 {r : Nat} {ws : List (List Bool)} (h : 1 ≤ r) : Srch r ws ([(c00, [])], []) := by
  refine ⟨fun c p hc => ?_, by simp, fun c hc => ?_, by simp⟩
  · cases List.mem_singleton.mp hc
    exact ⟨trivial, rfl, rfl⟩
  · have : c = c00 := by simpa using hc
    rw [this]
    exact coOk_zero h
theorem faultF_sound {r n : Nat} {ws : List (List Bool)} (hW : WW ws n r) {x : List Ev × Bool} (h : faultF r ws = some x) : Bad r ws x.1 x.2 :=
  bfs_sound hW (srch0 hW.r1) (fun c hc => by rw [List.mem_singleton.mp hc]; rfl) h
def stV (c : Co) : List V := [.int (c.put : Int), .int (c.got : Int), .int (c.sg : Int), .int (c.sp : Int)]
def stK (c : Co) : List Key := [.inl (c.put : Int), .inl (c.got : Int), .inl (c.sg : Int), .inl (c.sp : Int)]
theorem stK_V (c : Co) : (stK c).map kV = stV c := rfl
def sp_Lane_state (C : Addr) : Sp := fun vs H Q _ => ∃ (x : Addr) (r : Nat) (pw pb : Addr) (c : Co) (m : Nat) (f : V), vs = [.ref x] ∧ Ln C r pw pb H x c m f ∧ RetU (stV c) H Q
theorem ok_Lane_state (T : TX K mg) : FnOk P w K mg base CX0 1 T.f_Lane_state T.fd_Lane_state ["self"] (sp_Lane_state T.C_Lane) := by
  refine T.F_Lane_state.ok sc_Lane_state (fun vs H Q E h => ?_) (fun cdv A outer s H vs Q E hr h => ?_)
  · obtain ⟨_, _, _, _, _, _, _, rfl, _⟩ := h
    rfl
  · obtain ⟨x, r, pw, pb, c, m, f, rfl, ⟨dx, hx⟩, q⟩ := h
    refine ⟨_, (pss_one (ps_ret (pe_tup (pa_cons (pe_fld (pv 0) rfl) (pa_cons (pe_fld (pv 0) rfl) (pa_cons (pe_fld (pv 0) rfl) (pa_cons (pe_fld (pv 0) rfl) pa_nil))))))), ?_⟩
    exact ⟨_, rfl, x, _, _, _, _, rfl, hx, T.cl_Lane, T.na_put, fs_put, _, rfl, x, _, _, _, _, rfl, hx, T.cl_Lane, T.na_got, fs_got, _, rfl, x, _, _, _, _, rfl, hx, T.cl_Lane, T.na_seen_got, fs_sg, _, rfl, x, _, _, _, _, rfl, hx, T.cl_Lane, T.na_seen_put, fs_sp, small9 (by simp), fun p np => q p _ np (Ex.new np) upd_same⟩
def sp_Lane_stand (C : Addr) : Sp := fun vs H Q _ => ∃ (x : Addr) (r : Nat) (pw pb : Addr) (c c' : Co) (m : Nat) (f : V) (t : Addr), vs = [.ref x, .ref t] ∧ Ln C r pw pb H x c m f ∧ H t = some (.tup (stV c')) ∧ ∀ H', Exd x H H' → Ln C r pw pb H' x c' m .non → Q .non H'
theorem ok_Lane_stand (T : TX K mg) : FnOk P w K mg base CX0 1 T.f_Lane_stand T.fd_Lane_stand ["self", "state"] (sp_Lane_stand T.C_Lane) := by
  refine T.F_Lane_stand.ok sc_Lane_stand (fun vs H Q E h => ?_) (fun cdv A outer s H vs Q E hr h => ?_)
  · obtain ⟨_, _, _, _, _, _, _, _, _, rfl, _⟩ := h
    rfl
  · obtain ⟨x, r, pw, pb, c, c', m, f, t, rfl, ⟨dx, hx⟩, ht, q⟩ := h
    refine ⟨_, (pss_cons (ps_asg (pv 1) (pg_tup (by rfl) (pgs_cons (pg_fld (pv 0)) (pgs_cons (pg_fld (pv 0)) (pgs_cons (pg_fld (pv 0)) (pgs_cons (pg_fld (pv 0)) pgs_nil))))))
 (pss_one (ps_fld (pv 0) pe_non rfl))), ?_⟩
    refine ⟨_, rfl, t, _, rfl, SqT.of ht, rfl, _, _, rfl, _, rfl, x, _, _, _, rfl, hx, T.cl_Lane, T.na_put, fs_len, _, _, rfl, _, rfl, x, _, _, _, rfl, upd_same, T.cl_Lane, T.na_got, (by show 9 < 1000; decide), _, _, rfl, _, rfl, x, _, _, _, rfl, upd_same, T.cl_Lane, T.na_seen_got, (by show 9 < 1000; decide), _, _, rfl, _, rfl, x, _, _, _, rfl, upd_same, T.cl_Lane, T.na_seen_put, (by show 9 < 1000; decide), rfl, _, rfl, x, _, _, _, rfl, upd_same, T.cl_Lane, T.na_fault, (by show 9 < 1000; decide), ?_⟩
    refine q _ (Exd.refl x H).upd.upd.upd.upd.upd ⟨dx, ?_⟩
    rw [upd_same]
    rfl
def sp_Lane___init__ (C : Addr) : Sp := fun vs H Q _ => ∃ (x dx : Addr) (r : Nat) (pw : Addr), vs = [.ref x, .int (r : Int), .ref pw] ∧ H x = some (.ins C dx []) ∧ r ≤ 6 ∧ ∀ H' pb, H pb = none → Exd x H H' → H' x = some (.ins C dx (FS r pw pb ⟨0, 0, 0, 0⟩ 0 .non)) → H' pb = some (.lst (List.replicate r .non)) → Q .non H'
theorem ok_Lane___init__ (T : TX K mg) : FnOk P w K mg base CX0 1 T.f_Lane___init__ T.fd_Lane___init__ ["self", "room", "words"] (sp_Lane___init__ T.C_Lane) := by
  refine T.F_Lane___init__.ok sc_Lane___init__ (fun vs H Q E h => ?_) (fun cdv A outer s H vs Q E hr h => ?_)
  · obtain ⟨_, _, _, _, rfl, _⟩ := h
    rfl
  · obtain ⟨x, dx, r, pw, rfl, hx, r6, q⟩ := h
    refine ⟨_, (pss_cons (ps_fld (pv 0) (pv 1) rfl)
 (pss_cons (ps_fld (pv 0) (pv 2) rfl)
 (pss_cons (ps_fld (pv 0) pe_int rfl)
 (pss_cons (ps_fld (pv 0) pe_int rfl)
 (pss_cons (ps_fld (pv 0) pe_int rfl)
 (pss_cons (ps_fld (pv 0) pe_int rfl)
 (pss_cons (ps_fld (pv 0) (pe_lc (own := [("box", 3)]) (g := gName 3) (by rfl) sc_Lane___init__.nd (pi_range1 (by rfl) T.z_range (pa_cons (pv 1) pa_nil)) (blkOk_by (own := [("box", 3)]) (N := ["self", "room", "words", "box"]) (sc := defScope s_Lane___init__) (by decide +kernel)) (fun _ _ _ _ _ => pg_name (i := 3) sc_Lane___init__.nd rfl (Or.inl rfl)) (fun _ _ _ _ _ => pts_nil) (fun _ _ _ _ _ => pe_non)) rfl)
 (pss_cons (ps_fld (pv 0) pe_int rfl)
 (pss_one (ps_fld (pv 0) pe_non rfl)))))))))), ?_⟩
    refine ⟨_, rfl, _, rfl, x, _, dx, _, rfl, hx, T.cl_Lane, T.na_room, by decide, _, rfl, _, rfl, x, _, dx, _, rfl, upd_same, T.cl_Lane, T.na_words, by show 1 < 1000; decide, _, rfl, x, _, dx, _, rfl, upd_same, T.cl_Lane, T.na_put, by show 2 < 1000; decide, _, rfl, x, _, dx, _, rfl, upd_same, T.cl_Lane, T.na_got, by show 3 < 1000; decide, _, rfl, x, _, dx, _, rfl, upd_same, T.cl_Lane, T.na_seen_got, by show 4 < 1000; decide, _, rfl, x, _, dx, _, rfl, upd_same, T.cl_Lane, T.na_seen_put, by show 5 < 1000; decide, ?_⟩
    have e1 := (((((((Exd.refl x H).upd (o := .ins T.C_Lane dx (putF "room" (.int (r : Int)) []))).upd (o := .ins T.C_Lane dx (putF "words" (.ref pw) (putF "room" (.int (r : Int)) [])))).upd (o := .ins T.C_Lane dx (putF "put" (.int 0) (putF "words" (.ref pw) (putF "room" (.int (r : Int)) []))))).upd (o := .ins T.C_Lane dx (putF "got" (.int 0) (putF "put" (.int 0) (putF "words" (.ref pw) (putF "room" (.int (r : Int)) [])))))).upd (o := .ins T.C_Lane dx (putF "seen_got" (.int 0) (putF "got" (.int 0) (putF "put" (.int 0) (putF "words" (.ref pw) (putF "room" (.int (r : Int)) []))))))).upd (o := .ins T.C_Lane dx (putF "seen_put" (.int 0) (putF "seen_got" (.int 0) (putF "got" (.int 0) (putF "put" (.int 0) (putF "words" (.ref pw) (putF "room" (.int (r : Int)) []))))))))
    refine ⟨_, rfl, _, rfl, lo62 _, hi62 (by omega), fun D nD => lcR r (fun _ => .non) rfl (by omega) nD (fun _ => rfl) (fun i hi H3 e3 Y hY => hY _ (Ex.refl _)) (fun H3 e3 h3 => ?_)⟩
    have hx3 := e3 _ _ upd_same
    have nD0 : H D = none := e1.fresh nD ((ne_of_none upd_same nD).symm)
    have e13 := e1.trans (Exd.of e3)
    have nDx : D ≠ x := (ne_of_none upd_same nD).symm
    refine ⟨_, rfl, x, _, dx, _, rfl, hx3, T.cl_Lane, T.na_boxes, by show 6 < 1000; decide, _, rfl, x, _, dx, _, rfl, upd_same, T.cl_Lane, T.na_many, by show 7 < 1000; decide, _, rfl, x, _, dx, _, rfl, upd_same, T.cl_Lane, T.na_fault, by show 8 < 1000; decide, ?_⟩
    refine q _ D nD0 e13.upd.upd.upd ?_ ?_
    · rw [upd_same]
      rfl
    · rw [upd_ne nDx, upd_ne nDx, upd_ne nDx, h3]
      congr 2
      rw [List.map_const', List.length_range]
def sp_need_lane (K : PySem.W.Frag) : Sp := fun vs H Q _ => ∃ (l pw : Addr) (r n : Nat) (ws : List (List Bool)), vs = [.ref l] ∧ H l = some (.tup [.int (r : Int), .ref pw]) ∧ SqL K H pw (ws.map wv) ∧ WW ws n r ∧ ws.Nodup ∧ RetV .non H Q
theorem WW.round {ws : List (List Bool)} {n r : Nat} (h : WW ws n r) (nd : ws.Nodup) : Round ws n := ⟨fun e => by have := h.len; have := h.r1; rw [e] at *; simp at *; omega, h.wide, h.n1, h.n4, nd, by rw [h.len]; have := h.r6; omega⟩
theorem ok_need_lane (T : TX K mg) : FnOk P w K mg base CX0 3 T.f_need_lane T.fd_need_lane ["lane"] (sp_need_lane K) := by
  refine T.F_need_lane.ok sc_need_lane (fun vs H Q E h => ?_) (fun cdv A outer s H vs Q E hr h => ?_)
  · obtain ⟨_, _, _, _, _, rfl, _⟩ := h
    rfl
  · obtain ⟨l, pw, r, n, ws, rfl, hl, hw, hW, nd, q⟩ := h
    refine ⟨_, (pss_cons (ps_asg (pv 0) (pg_tup (by rfl) (pgs_cons (pg_name (i := 1) sc_need_lane.nd rfl (by first | exact Or.inl rfl | exact Or.inr rfl)) (pgs_cons (pg_name (i := 2) sc_need_lane.nd rfl (by first | exact Or.inl rfl | exact Or.inr rfl)) pgs_nil))))
 (pss_cons (ps_if (pt_not (pt_chain op_le op_le pe_int (pv 1) (pe_glob (v := .int 6) (by rfl) T.c_MOST_ROOM ⟨_, rfl⟩)))
 (pss_one ps_never)
 pss_nil)
 (pss_cons (ps_expr (pe_call (ok_need_words T) (hr.mono (by decide)) (by rfl) T.g_need_words T.F_need_words.kp T.b_need_words .nil pass0 (pa_cons (pv 2) pa_nil)))
 (pss_one (ps_if (pt_cmpR op_ne (pe_callB call_len (by rfl) T.z_len PySem.boot_len (pa_cons (pv 2) pa_nil)) (pe_op op_mul pe_int (pv 1)) (nomark _))
 (pss_one ps_never)
 pss_nil))))), ?_⟩
    have r1 := hW.r1
    have r6 := hW.r6
    refine ⟨_, rfl, l, _, rfl, SqT.of hl, rfl, _, _, rfl, _, _, rfl, rfl, ?_⟩
    refine ⟨_, rfl, _, _, rfl, rfl, _, rfl, ?_⟩
    refine ifP (decide_eq_true (by omega)) ⟨_, _, rfl, rfl, _, rfl, ?_⟩
    refine ifN (by simp; omega) ?_
    refine ⟨_, rfl, pw, ws, n, rfl, hw, hW.round nd, fun H1 e1 => ?_⟩
    refine ⟨_, rfl, _, _, rfl, .inl ⟨_, ex_l e1 hw, rfl⟩, _, rfl, _, _, rfl, rfl, .inl ⟨by decide, by decide⟩, rfl, _, rfl, ifN ?_ (q _ e1)⟩
    rw [List.length_map, hW.len]
    simp
def sp_Lane_may (C : Addr) : Sp := fun vs H Q _ => ∃ (x : Addr) (r : Nat) (pw pb : Addr) (c : Co) (m : Nat) (f : V) (ws : List (List Bool)) (n : Nat) (t : Addr) (xs : List V), vs = [.ref x, .ref t] ∧ H t = some (.tup xs) ∧ (∀ v ∈ xs, Sn v) ∧ Ln C r pw pb H x c m f ∧ H pw = some (.lst (ws.map wv)) ∧ WW ws n r ∧ CoOk r c ∧ RetV (.bl (mayB r ws c xs)) H Q
theorem ok_Lane_may (T : TX K mg) : FnOk P w K mg base CX0 3 T.f_Lane_may T.fd_Lane_may ["self", "event"] (sp_Lane_may T.C_Lane) := by
  refine T.F_Lane_may.ok sc_Lane_may (fun vs H Q E h => ?_) (fun cdv A outer s H vs Q E hr h => ?_)
  · obtain ⟨_, _, _, _, _, _, _, _, _, _, _, rfl, _⟩ := h
    rfl
  · obtain ⟨x, r, pw, pb, c, m, f, ws, n, t, xs, rfl, ht, hsn, ⟨dx, hx⟩, hw, hW, hc, q⟩ := h
    refine ⟨_, (pss_cons (ps_if (pt_cmpR op_ne (pe_callB call_len (by rfl) T.z_len PySem.boot_len (pa_cons (pv 1) pa_nil)) pe_int (nomark _))
 (pss_one (ps_ret pe_bl))
 pss_nil)
 (pss_cons (ps_if (pt_cmpR op_eq (pe_ix ix_seq (pv 1) pe_int (fun _ _ => rfl)) pe_str (nomark _))
 (pss_one (ps_ret (pe_cmpR op_in_seq (pe_ix ix_seq (pv 1) pe_int (fun _ _ => rfl)) (pe_tup (pa_cons pe_str (pa_cons pe_str pa_nil))) (by rfl))))
 pss_nil)
 (pss_cons (ps_if (pt_cmpR op_notIn_seq (pe_ix ix_seq (pv 1) pe_int (fun _ _ => rfl)) (pe_tup (pa_cons pe_str (pa_cons pe_str pa_nil))) (by rfl))
 (pss_one (ps_ret pe_bl))
 pss_nil)
 (pss_cons (ps_asg (pe_meth (pv 0) T.cl_Lane T.m_Lane_turns (ok_Lane_turns T) (hr.mono (by decide)) T.b_Lane_turns .nil pass0 (pa_cons (pe_ix ix_seq (pv 1) pe_int (fun _ _ => rfl)) pa_nil)) (pg_tup (by rfl) (pgs_cons (pg_name (i := 2) sc_Lane_may.nd rfl (by first | exact Or.inl rfl | exact Or.inr rfl)) (pgs_cons (pg_name (i := 3) sc_Lane_may.nd rfl (by first | exact Or.inl rfl | exact Or.inr rfl)) pgs_nil))))
 (pss_one (ps_ret (pe_or (pe_cmpR op_isN (pe_ix ix_seq (pv 1) pe_int (fun _ _ => rfl)) pe_non (nomark _)) (pe_one (pe_cmpR op_in_seq (pe_ix ix_seq (pv 1) pe_int (fun _ _ => rfl)) (pe_call (ok_seen_of T) (hr.mono (by decide)) (by rfl) T.g_seen_of T.F_seen_of.kp T.b_seen_of .nil pass0 (pa_cons (pv 2) (pa_cons (pv 3) pa_nil))) (by rfl)))))))))), ?_⟩
    refine ⟨_, rfl, _, _, rfl, .inr ⟨_, SqT.of ht, rfl⟩, rfl, _, rfl, ?_⟩
    by_cases h2 : xs.length = 2
    · match xs, h2 with
      | [a, b], _ =>
        have ha := hsn a (by simp)
        have hb := hsn b (by simp)
        refine ifN (by simp) ?_
        refine ⟨_, rfl, .inr (.inl ⟨t, _, _, _, rfl, rfl, SqT.of ht, rfl, ha.scal _, _, rfl, ?_⟩)⟩
        cases hl : decide (a = .str "look") with
        | true =>
          refine ifP rfl ⟨_, rfl, .inr (.inl ⟨t, _, _, _, rfl, rfl, SqT.of ht, rfl, small9 (by simp), fun p np => ⟨p, _, rfl, .inr (SqT.of upd_same), hb.flat, rfl, ?_⟩⟩)⟩
          have e : mayB r ws c [a, b] = inV b [.str "writer", .str "reader"] := by
            rw [mayB, hl, if_pos rfl]
          rw [e] at q
          exact q _ (Ex.new np)
        | false =>
          refine ifN (by simp) ?_
          refine ⟨_, rfl, .inr (.inl ⟨t, _, _, _, rfl, rfl, SqT.of ht, rfl, small9 (by simp), fun p np => ⟨p, _, rfl, .inr (SqT.of upd_same), ha.flat, rfl, _, rfl, ?_⟩⟩)⟩
          have e1 := Ex.new (o := HO.tup [.str "put", .str "get"]) np
          have hx1 := e1 _ _ hx
          have hw1 := e1 _ _ hw
          have ht1 := e1 _ _ ht
          cases hi : inV a [.str "put", .str "get"] with
          | false =>
            refine ifP rfl ?_
            have e : mayB r ws c [a, b] = false := by
              rw [mayB, hl, hi]
              rfl
            rw [e] at q
            exact q _ e1
          | true =>
            refine ifN (by simp) ?_
            have hp := inV_pg hi
            have e : mayB r ws c [a, b] = (decide (b = .non) || inV b ((mayW r ws c (decide (a = .str "put"))).map wv)) := by
              rw [mayB, hl, hi]
              rfl
            rw [e] at q
            generalize decide (a = .str "put") = pp at hp q
            subst hp
            generalize upd H p (.tup [.str "put", .str "get"]) = H1 at e1 hx1 hw1 ht1 ⊢
            refine ⟨_, rfl, x, dx, _, rfl, hx1, rfl, _, rfl, .inr (.inl ⟨t, _, _, _, rfl, rfl, SqT.of ht1, rfl, x, r, pw, pb, c, m, f, ws, n, pp, rfl, ⟨dx, hx1⟩, hw1, hW, hc, fun o H2 no e2 ho => ?_⟩)⟩
            refine ⟨o, _, rfl, SqT.of ho, rfl, _, _, rfl, _, _, rfl, rfl, ?_⟩
            have ht2 := e2 _ _ ht1
            refine ⟨_, rfl, .inr (.inl ⟨t, _, _, _, rfl, rfl, SqT.of ht2, rfl, rfl, _, rfl, ?_⟩)⟩
            by_cases hbn : b = .non
            · refine ifP (by simpa using hbn) ?_
              rw [decide_eq_true hbn] at q
              exact q _ (e1.trans e2)
            · refine ifN (by simpa using hbn) ?_
              rw [decide_eq_false hbn, Bool.false_or] at q
              refine ⟨_, rfl, .inr (.inl ⟨t, _, _, _, rfl, rfl, SqT.of ht2, rfl, _, rfl, _, rfl, _, _, n, rfl, hW.wat (here_lt hc pp), hW.wat (other_lt hW.r1 hc pp), hW.n4, fun l H3 nl e3 hl3 => ?_⟩)⟩
              exact ⟨l, _, rfl, .inl (SqL.of hl3), hb.flat, flatW _, q _ ((e1.trans e2).trans e3)⟩
    · refine ifP (by simp; omega) ?_
      have e : mayB r ws c xs = false := by
        unfold mayB
        split
        · exact absurd rfl h2
        · rfl
      rw [e] at q
      exact q _ (Ex.refl _)
def sp_played (K : PySem.W.Frag) : Sp := fun vs H Q _ => ∃ (l pw pe : Addr) (r n : Nat) (ws : List (List Bool)) (es : List V) (evs : List Ev), vs = [.ref l, .ref pe] ∧ H l = some (.tup [.int (r : Int), .ref pw]) ∧ H pw = some (.lst (ws.map wv)) ∧ WW ws n r ∧ ws.Nodup ∧ H pe = some (.lst es) ∧ es.length ≤ 100 ∧ EvsAt H es evs ∧ VRun r ws ⟨0, 0, 0, 0⟩ evs ∧ (fEnd r ws ⟨0, 0, 0, 0⟩ evs = false → evs.length = es.length) ∧ RetL (pTold r ws (ps0 r) evs) H Q
theorem ok_played (T : TX K mg) : FnOk P w K mg base CX0 4 T.f_played T.fd_played ["lane", "events"] (sp_played K) := by
  refine T.F_played.ok sc_played (fun vs H Q E h => ?_) (fun cdv A outer s H vs Q E hr h => ?_)
  · obtain ⟨_, _, _, _, _, _, _, _, rfl, _⟩ := h
    rfl
  · obtain ⟨l, pw, pe, r, n, ws, es, evs, rfl, hl, hw, hW, nd, he, h100, hE, hV, hF, q⟩ := h
    refine ⟨_, (pss_cons (ps_expr (pe_call (ok_need_lane T) (hr.mono (by decide)) (by rfl) T.g_need_lane T.F_need_lane.kp T.b_need_lane .nil pass0 (pa_cons (pv 0) pa_nil)))
 (pss_cons (ps_set (i := 2) sc_played.nd rfl (by first | exact Or.inl rfl | exact Or.inr rfl) (pe_make T.mk_Lane (ok_Lane___init__ T) (hr.mono (by decide)) (by rfl) T.g_Lane T.b_Lane___init__ .nil pass0 (pa_cons (pe_ix ix_tup (pv 0) pe_int (fun _ _ => rfl)) (pa_cons (pe_ix ix_tup (pv 0) pe_int (fun _ _ => rfl)) pa_nil))))
 (pss_cons (ps_set (i := 3) sc_played.nd rfl (by first | exact Or.inl rfl | exact Or.inr rfl) (pe_lst pa_nil))
 (pss_cons (ps_for PassesOwn.never rfl (pi_enum (by rfl) T.z_enumerate (pa_cons (pv 1) pa_nil)) (pg_tup (by rfl) (pgs_cons (pg_name (i := 4) sc_played.nd rfl (by first | exact Or.inl rfl | exact Or.inr rfl)) (pgs_cons (pg_name (i := 5) sc_played.nd rfl (by first | exact Or.inl rfl | exact Or.inr rfl)) pgs_nil)))
 (pss_cons (ps_if (PW.pt (pw_or (pt_cmpR op_ge (pv 4) (pe_glob (v := .int 100) (by rfl) T.c_MOST_EVENTS ⟨_, rfl⟩) (nomark _)) (pw_or1 (pt_not (pt_val (pe_meth (pv 2) T.cl_Lane T.m_Lane_may (ok_Lane_may T) (hr.mono (by decide)) T.b_Lane_may .nil pass0 (pa_cons (pv 5) pa_nil)))))))
 (pss_one ps_never)
 pss_nil)
 (pss_cons (ps_expr (pe_bm PySem.F.plainAttrs_list PySem.F.slot_list_append PySem.F.type_list_append mt_append (pv 3) (pa_cons (pe_meth (pv 2) T.cl_Lane T.m_Lane_do (ok_Lane_do T) (hr.mono (by decide)) T.b_Lane_do .nil pass0 (pa_cons (pv 5) pa_nil)) pa_nil)))
 (pss_one (ps_if (pt_cmpR op_notN (pe_fld (pv 2) rfl) pe_non (nomark _))
 (pss_one (ps_ret (pv 3)))
 pss_nil)))))
 (pss_one (ps_ret (pv 3))))))), ?_⟩
    have r1 := hW.r1
    have r6 := hW.r6
    refine ⟨_, rfl, l, pw, r, n, ws, rfl, hl, SqL.of hw, hW, nd, fun H1 e1 => ?_⟩
    refine ⟨_, rfl, l, _, _, _, rfl, rfl, SqT.of (e1 _ _ hl), rfl, _, rfl, l, _, _, _, rfl, rfl, SqT.of (e1 _ _ hl), rfl, fun x dx nx ndx ne => ?_⟩
    have e2 : Ex H1 (upd (upd H1 dx (.own x)) x (.ins T.C_Lane dx [])) := (Ex.new ndx).trans (Ex.new (by rw [upd_ne ne.symm]; exact nx))
    refine ⟨x, dx, r, pw, rfl, upd_same, r6, fun H3 pb npb e3 hx3 hb3 => ⟨rfl, ?_⟩⟩
    have npb1 : H1 pb = none := fresh_back e2 npb
    have e13 : Ex H1 H3 := fun a o h => e3 a o (e2 a o h) (ne_of_none h nx)
    have nxH : H x = none := fresh_back e1 nx
    have npbH : H pb = none := fresh_back e1 npb1
    have eH3 := e1.trans e13
    clear e2 e3 npb
    refine ⟨small9 (by simp), fun pf npf => ?_⟩
    have npfH : H pf = none := fresh_back eH3 npf
    have nfx : x ≠ pf := ne_of_none hx3 npf
    have nfb : pb ≠ pf := ne_of_none hb3 npf
    have nwb : pw ≠ pb := ne_of_none hw npbH
    refine ⟨_, rfl, pe, _, rfl, SqL.of (((eH3.trans (Ex.new npf))) _ _ he), ?_⟩
    refine for_it (walk_enum (K := K) (a := pe) (xs := es)) (fun i σ H' => ∃ y4 y5 dn rest, σ = [some (.ref l), some (.ref pe), some (.ref x), some (.ref pf), y4, y5] ∧ Ex H H' ∧ evs = dn ++ rest ∧ dn.length = i ∧ H' pf = some (.lst (pTold r ws (ps0 r) dn)) ∧ Ln T.C_Lane r pw pb H' x (pEnd r ws (ps0 r) dn).c (pEnd r ws (ps0 r) dn).m .non ∧ (pEnd r ws (ps0 r) dn).f = .non ∧ H' pb = some (.lst (pEnd r ws (ps0 r) dn).bx) ∧ (pEnd r ws (ps0 r) dn).bx.length = r ∧ CoOk r (pEnd r ws (ps0 r) dn).c ∧ VRun r ws (pEnd r ws (ps0 r) dn).c rest ∧ (fEnd r ws (pEnd r ws (ps0 r) dn).c rest = false → evs.length = es.length)) ?_ ?_ ?_ ?_
    · refine ⟨_, _, [], evs, rfl, eH3.trans (Ex.new npf), rfl, rfl, upd_same, ?_, rfl, ?_, List.length_replicate, coOk_zero r1, hV, hF⟩
      · refine ⟨dx, ?_⟩
        rw [upd_ne nfx]
        exact hx3
      · rw [upd_ne nfb]
        exact hb3
    · rintro i σ H4 _ ⟨_, _, _, _, _, e4, _⟩
      exact SqL.of (e4 _ _ he)
    · rintro i v σ H4 H5 hi ⟨y4, y5, dn, rest, rfl, e4, hev, hdn, hf4, ⟨dx, hx4⟩, hno, hb4, hbl, hco, hvr, hfe⟩ ⟨t, a, b, rfl, nt, rfl, ha, hb⟩
      have ha := Option.some.inj ha
      subst ha
      have e5 := Ex.new (o := HO.tup [.int ((i : Nat) : Int), b]) nt
      have e45 := e4.trans e5
      have hf5 := e5 _ _ hf4
      have hx5 := e5 _ _ hx4
      have hb5 := e5 _ _ hb4
      refine ⟨t, _, rfl, SqT.of upd_same, rfl, _, _, rfl, _, _, rfl, rfl, ?_⟩
      generalize upd H4 t (.tup [.int ((i : Nat) : Int), b]) = H5 at e5 e45 hf5 hx5 hb5 ⊢
      clear hf4 hx4 hb4 e4 e5
      cases rest with
      | nil =>
        have h1 : evs.length = es.length := hfe rfl
        rw [hev, List.append_nil] at h1
        omega
      | cons e rest =>
        obtain ⟨hcan, hstop, hvr2⟩ := hvr
        obtain ⟨te, hte, hte2⟩ := hE.2 i e (by rw [hev, ← hdn]; simp)
        have hb' : b = .ref te := by
          have hb : es[i]? = some b := hb
          rw [hte] at hb
          exact (Option.some.inj hb).symm
        subst hb'
        have hte5 := e45 _ _ hte2
        have hw5 := e45 _ _ hw
        refine ⟨_, rfl, _, _, rfl, rfl, _, rfl, ifN (by simp; omega) ?_⟩
        generalize hS : pEnd r ws (ps0 r) dn = S at *
        refine ⟨_, rfl, x, dx, _, rfl, hx5, rfl, _, rfl, x, r, pw, pb, S.c, S.m, .non, ws, n, te, evV e, rfl, hte5, sn_ev e, ⟨dx, hx5⟩, hw5, hW, hco, fun H6 e6 => ⟨_, rfl, ifN (by rw [mayB_can hcan]; simp) ?_⟩⟩
        have e46 := e45.trans e6
        have hx6 := e6 _ _ hx5
        have hb6 := e6 _ _ hb5
        have hf6 := e6 _ _ hf5
        refine ⟨_, rfl, .inl ⟨rfl, _, SqL.of hf6⟩, _, rfl, x, dx, _, rfl, hx6, rfl, _, rfl, x, r, pw, pb, S.c, S.m, .non, ws, n, S.bx, te, e, rfl, e6 _ _ hte5, ⟨dx, hx6⟩, e6 _ _ hw5, hb6, hbl, nwb, hW, hco, fun H7 e7 ⟨dx7, hx7⟩ hb7 => ?_⟩
        have hf7 := e7 _ _ hf6 nfx.symm nfb.symm
        have e47 := ex_of2 e46 e7 nxH npbH
        have hdn100 : dn.length < 100 := by omega
        refine ⟨pf, _, _, rfl, rfl, hf7, by rw [pTold_len]; exact small1000 (by omega), ?_⟩
        have hx8 : upd H7 pf (.lst (pTold r ws (ps0 r) dn ++ [pAns r S.c S.m S.bx e])) x = some (.ins T.C_Lane dx7 (FS r pw pb (cst r ws S.c e) (pMany r S.c S.m e) (pFlt r S.c .non e))) := by
          rw [upd_ne nfx]
          exact hx7
        have hb8 : upd H7 pf (.lst (pTold r ws (ps0 r) dn ++ [pAns r S.c S.m S.bx e])) pb = some (.lst (pBox r S.c S.m S.bx e)) := by
          rw [upd_ne nfb]
          exact hb7
        have hT : pTold r ws (ps0 r) dn ++ [pAns r S.c S.m S.bx e] = pTold r ws (ps0 r) (dn ++ [e]) := by
          rw [pTold_app, hS]
          rfl
        have hS2 : pEnd r ws (ps0 r) (dn ++ [e]) = pstep r ws S e := by
          rw [pEnd_app, hS]
          rfl
        have hf8 : upd H7 pf (.lst (pTold r ws (ps0 r) dn ++ [pAns r S.c S.m S.bx e])) pf = some (.lst (pTold r ws (ps0 r) (dn ++ [e]))) := by
          rw [upd_same, hT]
        have e48 : Ex H (upd H7 pf (.lst (pTold r ws (ps0 r) dn ++ [pAns r S.c S.m S.bx e]))) := e47.mut npfH
        generalize upd H7 pf (.lst (pTold r ws (ps0 r) dn ++ [pAns r S.c S.m S.bx e])) = H8 at hx8 hb8 hf8 e48 ⊢
        refine ⟨_, rfl, x, _, _, _, _, rfl, hx8, T.cl_Lane, T.na_fault, fs_fault, rfl, _, rfl, ?_⟩
        cases hfl : flt r S.c e with
        | some p =>
          have hrest := hstop (by rw [hfl]; simp)
          subst hrest
          rw [pFlt_some hfl]
          refine ifP (by simp [fltV_some]) ⟨_, rfl, q pf _ npfH e48 ?_⟩
          rw [hf8, hev]
        | none =>
          rw [pFlt_none hfl] at hx8 ⊢
          refine ifN (by simp) ⟨_, _, dn ++ [e], rest, rfl, e48, by rw [hev]; simp, by simp [hdn], hf8, ?_, ?_, ?_, ?_, ?_, ?_, ?_⟩
          · rw [hS2]
            exact ⟨dx7, hx8⟩
          · rw [hS2]
            exact (pFlt_none hfl).trans hno
          · rw [hS2]
            exact hb8
          · rw [hS2]
            exact pBox_len hbl
          · rw [hS2]
            exact cst_ok r1 hW.len hco e
          · rw [hS2]
            exact hvr2
          · rw [hS2]
            intro h
            refine hfe ?_
            show ((flt r S.c e).isSome || _) = false
            rw [hfl]
            exact h
    · rintro σ H4 ⟨y4, y5, dn, rest, rfl, e4, hev, hdn, hf4, _⟩
      have : rest = [] := by
        have h1 := hE.1
        rw [hev, List.length_append] at h1
        exact List.length_eq_zero_iff.mp (by omega)
      subst this
      refine ⟨_, rfl, q pf _ npfH e4 ?_⟩
      rw [hf4, hev, List.append_nil]
def sp_got (K : PySem.W.Frag) : Sp := fun vs H Q _ => ∃ (l pw pe : Addr) (r n : Nat) (ws : List (List Bool)) (es : List V) (evs : List Ev), vs = [.ref l, .ref pe] ∧ H l = some (.tup [.int (r : Int), .ref pw]) ∧ H pw = some (.lst (ws.map wv)) ∧ WW ws n r ∧ ws.Nodup ∧ H pe = some (.lst es) ∧ es.length ≤ 100 ∧ EvsAt H es evs ∧ VRun r ws ⟨0, 0, 0, 0⟩ evs ∧ (fEnd r ws ⟨0, 0, 0, 0⟩ evs = false → evs.length = es.length) ∧ GetOk evs (pTold r ws (ps0 r) evs) ∧ RetL (gotL evs (pTold r ws (ps0 r) evs)) H Q
theorem ok_got (T : TX K mg) : FnOk P w K mg base CX0 5 T.f_got T.fd_got ["lane", "events"] (sp_got K) := by
  refine T.F_got.ok sc_got (fun vs H Q E h => ?_) (fun cdv A outer s H vs Q E hr h => ?_)
  · obtain ⟨_, _, _, _, _, _, _, _, rfl, _⟩ := h
    rfl
  · obtain ⟨l, pw, pe, r, n, ws, es, evs, rfl, hl, hw, hW, nd, he, h100, hE, hV, hF, hG, q⟩ := h
    refine ⟨_, (pss_cons (ps_set (i := 2) sc_got.nd rfl (by first | exact Or.inl rfl | exact Or.inr rfl) (pe_call (ok_played T) (hr.mono (by decide)) (by rfl) T.g_played T.F_played.kp T.b_played .nil pass0 (pa_cons (pv 0) (pa_cons (pv 1) pa_nil))))
 (pss_one (ps_ret (pe_lc (own := [("at", 3)]) (g := gName 3) (by rfl) sc_got.nd (pi_range1 (by rfl) T.z_range (pa_cons (pe_callB call_len_seq (by rfl) T.z_len PySem.boot_len (pa_cons (pv 2) pa_nil)) pa_nil)) (blkOk_by (own := [("at", 3)]) (N := ["lane", "events", "told", "at"]) (sc := defScope s_got) (by decide +kernel)) (fun _ _ _ _ _ => pg_name (i := 3) sc_got.nd rfl (Or.inl rfl)) (fun _ _ _ _ _ => (pts_one (PW.pt (pw_and (pt_cmpR op_eq (pe_ix (r := rIx K) ix_seq (pe_ix (r := rIxL K) ix_list (pv 1) (pv 3) (fun _ _ => rfl)) pe_int (fun _ _ => rfl)) pe_str (nomark _)) (pw_and1 (pt_cmpR (r := rIn K true) op_notIn_seq (pe_ix (r := rIxL K) ix_list (pv 2) (pv 3) (fun _ _ => rfl)) (pe_tup (pa_cons pe_non (pa_cons (pe_glob (v := .str "under") (by rfl) T.c_UNDER ⟨_, rfl⟩) pa_nil))) (by rfl))))))) (fun _ _ _ _ _ => (pe_ix (r := rIxL K) ix_list (pv 2) (pv 3) (fun _ _ => rfl))))))), ?_⟩
    refine ⟨_, rfl, _, rfl, l, pw, pe, r, n, ws, es, evs, rfl, hl, hw, hW, nd, he, h100, hE, hV, hF, fun pt H1 npt e1 hpt => ?_⟩
    have hlen := pTold_len r ws evs (ps0 r)
    generalize pTold r ws (ps0 r) evs = told at *
    have h1 := hE.1
    refine ⟨_, rfl, pt, _, rfl, .inl (SqL.of hpt), _, rfl, lo62 _, hi62 (by omega), fun D nD => lcRF evs.length (gotP evs told) (fun i => told.getD i .non) (by rw [hlen]) (by omega) nD (fun _ => rfl) (fun i hi H3 e3 Y N hY => ?_) (fun H3 e3 h3 => q D _ (fresh_back e1 nD) (e1.trans e3) h3)⟩
    have e13 := e1.trans e3
    have hev : evs[i]? = some (evs.getD i (.look true)) := by
      rw [List.getD_eq_getElem?_getD, List.getElem?_eq_getElem hi]
      rfl
    obtain ⟨t, ht1, ht2⟩ := hE.2 i _ hev
    obtain ⟨a, b, hab, hdec⟩ := ev_word (evs.getD i (.look true))
    rw [hab] at ht2
    have htold : told[i]? = some (told.getD i .non) := by
      rw [List.getD_eq_getElem?_getD, List.getElem?_eq_getElem (by omega)]
      rfl
    refine ⟨_, rfl, _, rfl, pe, _, _, _, rfl, rfl, SqL.of (e13 _ _ he), atI_nat ht1, .inr (.inl ⟨t, _, _, _, rfl, rfl, SqT.of (e13 _ _ ht2), rfl, rfl, _, rfl, ?_⟩)⟩
    rw [hdec]
    cases hg : isGet (evs.getD i (.look true)) with
    | false =>
      refine ifN (by simp) (ifN (by simp) ?_)
      have hp : gotP evs told i = false := by
        unfold gotP
        rw [hg]
        rfl
      have := hY _ (Ex.refl _)
      rw [hp] at this
      simpa using this
    | true =>
      have hp : gotP evs told i = isIntV (told.getD i .non) := by
        unfold gotP
        rw [hg]
        rfl
      refine ifP rfl ?_
      refine ⟨_, rfl, _, rfl, pt, _, _, _, rfl, rfl, SqL.of (e3 _ _ hpt), atI_nat htold, small9 (by simp), fun p np => ⟨p, _, rfl, .inr (SqT.of upd_same), ?_, rfl, _, rfl, ?_⟩⟩
      · rcases hG i hi hg with h | h | ⟨k, h⟩ <;> rw [h] <;> rfl
      · have hY := hY _ (Ex.new (o := HO.tup [.non, .str "under"]) np)
        rw [hp] at hY
        rcases hG i hi hg with h | h | ⟨k, h⟩
        · refine ifN (by rw [h]; decide +kernel) ?_
          rw [h] at hY
          simpa [isIntV] using hY
        · refine ifN (by rw [h]; decide +kernel) ?_
          rw [h] at hY
          simpa [isIntV] using hY
        · refine ifP (by rw [h]; rfl) ?_
          refine ⟨_, rfl, _, rfl, pt, _, _, _, rfl, rfl, SqL.of ((e3.trans (Ex.new np)) _ _ hpt), atI_nat htold, ?_⟩
          rw [h] at hY
          rw [h]
          simpa [isIntV] using hY
/-! ### the law's own lane -/
def LK (pl : Addr) (c : Co) (n : Nat) (f : V) : List (Key × V) :=
  [(.inr "put", .int (c.put : Int)), (.inr "got", .int (c.got : Int)), (.inr "seen_put", .int (c.sp : Int)), (.inr "seen_got", .int (c.sg : Int)), (.inr "letters", .ref pl), (.inr "next", .int (n : Int)), (.inr "over", f)]
section
variable {H : Hp} {d : Addr} {pl : Addr} {c : Co} {n : Nat} {f : V}
theorem lk_put (h : H d = some (.dK (LK pl c n f))) : DGet H d (.str "put") (some (.int (c.put : Int))) := DGet.k (k := .inr "put") h
theorem lk_got (h : H d = some (.dK (LK pl c n f))) : DGet H d (.str "got") (some (.int (c.got : Int))) := DGet.k (k := .inr "got") h
theorem lk_sp (h : H d = some (.dK (LK pl c n f))) : DGet H d (.str "seen_put") (some (.int (c.sp : Int))) := DGet.k (k := .inr "seen_put") h
theorem lk_sg (h : H d = some (.dK (LK pl c n f))) : DGet H d (.str "seen_got") (some (.int (c.sg : Int))) := DGet.k (k := .inr "seen_got") h
theorem lk_letters (h : H d = some (.dK (LK pl c n f))) : DGet H d (.str "letters") (some (.ref pl)) := DGet.k (k := .inr "letters") h
theorem lk_next (h : H d = some (.dK (LK pl c n f))) : DGet H d (.str "next") (some (.int (n : Int))) := DGet.k (k := .inr "next") h
theorem lk_over (h : H d = some (.dK (LK pl c n f))) : DGet H d (.str "over") (some f) := DGet.k (k := .inr "over") h
theorem lk_len : (LK pl c n f).length < sizeLine := small1000 (by simp [LK])
theorem ls_put {z : Nat} (h : H d = some (.dK (LK pl c n f))) : DPut H d (.str "put") (.int (z : Int)) (upd H d (.dK (LK pl { c with put := z } n f))) := DPut.k (k := .inr "put") h lk_len
theorem ls_got {z : Nat} (h : H d = some (.dK (LK pl c n f))) : DPut H d (.str "got") (.int (z : Int)) (upd H d (.dK (LK pl { c with got := z } n f))) := DPut.k (k := .inr "got") h lk_len
theorem ls_sp {z : Nat} (h : H d = some (.dK (LK pl c n f))) : DPut H d (.str "seen_put") (.int (z : Int)) (upd H d (.dK (LK pl { c with sp := z } n f))) := DPut.k (k := .inr "seen_put") h lk_len
theorem ls_sg {z : Nat} (h : H d = some (.dK (LK pl c n f))) : DPut H d (.str "seen_got") (.int (z : Int)) (upd H d (.dK (LK pl { c with sg := z } n f))) := DPut.k (k := .inr "seen_got") h lk_len
theorem ls_letters {z : Addr} (h : H d = some (.dK (LK pl c n f))) : DPut H d (.str "letters") (.ref z) (upd H d (.dK (LK z c n f))) := DPut.k (k := .inr "letters") h lk_len
theorem ls_next {z : Nat} (h : H d = some (.dK (LK pl c n f))) : DPut H d (.str "next") (.int (z : Int)) (upd H d (.dK (LK pl c z f))) := DPut.k (k := .inr "next") h lk_len
theorem ls_over {z : V} (h : H d = some (.dK (LK pl c n f))) : DPut H d (.str "over") z (upd H d (.dK (LK pl c n z))) := DPut.k (k := .inr "over") h lk_len
end
structure LS where
  c : Co
  n : Nat
  ls : List Nat
  f : V
def lLet (r : Nat) (c : Co) (n : Nat) (ls : List Nat) (e : Ev) : List Nat :=
  match movs r c e with
  | some true => ls ++ [n]
  | some false => ls.tail
  | none => ls
def lAns (r : Nat) (c : Co) (n : Nat) (ls : List Nat) (e : Ev) : V :=
  match movs r c e with
  | some true => .int (n : Int)
  | some false => .int ((ls.headD 0 : Nat) : Int)
  | none => fltV (flt r c e)
def lstep (r : Nat) (ws : List (List Bool)) (s : LS) (e : Ev) : LS := ⟨cst r ws s.c e, pMany r s.c s.n e, lLet r s.c s.n s.ls e, pFlt r s.c s.f e⟩
def lans (r : Nat) (s : LS) (e : Ev) : V := lAns r s.c s.n s.ls e
def lEnd (r : Nat) (ws : List (List Bool)) : LS → List Ev → LS
  | s, [] => s
  | s, e :: es => lEnd r ws (lstep r ws s e) es
def lTold (r : Nat) (ws : List (List Bool)) : LS → List Ev → List V
  | _, [] => []
  | s, e :: es => lans r s e :: lTold r ws (lstep r ws s e) es
def ls0 : LS := ⟨⟨0, 0, 0, 0⟩, 0, [], .non⟩
theorem lTold_len (r : Nat) (ws : List (List Bool)) : ∀ (es : List Ev) (s : LS), (lTold r ws s es).length = es.length
  | [], _ => rfl
  | e :: es, s => congrArg (· + 1) (lTold_len r ws es (lstep r ws s e))
theorem lTold_app (r : Nat) (ws : List (List Bool)) : ∀ (es fs : List Ev) (s : LS), lTold r ws s (es ++ fs) = lTold r ws s es ++ lTold r ws (lEnd r ws s es) fs
  | [], _, _ => rfl
  | e :: es, fs, s => congrArg (lans r s e :: ·) (lTold_app r ws es fs (lstep r ws s e))
theorem lEnd_app (r : Nat) (ws : List (List Bool)) : ∀ (es fs : List Ev) (s : LS), lEnd r ws s (es ++ fs) = lEnd r ws (lEnd r ws s es) fs
  | [], _, _ => rfl
  | e :: es, fs, s => lEnd_app r ws es fs (lstep r ws s e)
/-- as many letters as stand inside -/
def Ins (r : Nat) (c : Co) (k : Nat) : Prop := insd r c = (k : Int) ∧ k ≤ r
theorem ins_sees {r : Nat} {ws : List (List Bool)} {c : Co} {p : Bool} {o : Option (List Bool)} {k : Nat} (h : Ins r c k) : Ins r (sees ws p o c) k := by
  have h1 : (sees ws p o c).put = c.put ∧ (sees ws p o c).got = c.got := by
    unfold sees
    cases o with
    | none => exact ⟨rfl, rfl⟩
    | some w =>
      by_cases hm : w ∈ ws
      · simp only [if_pos hm]
        cases p <;> exact ⟨rfl, rfl⟩
      · simp only [if_neg hm]
        exact ⟨trivial, trivial⟩
  unfold Ins insd at *
  rw [h1.1, h1.2]
  exact h
theorem r_cases {r : Nat} (h1 : 1 ≤ r) (h6 : r ≤ 6) : r = 1 ∨ r = 2 ∨ r = 3 ∨ r = 4 ∨ r = 5 ∨ r = 6 := by omega
theorem ins_put {r : Nat} {c : Co} {k : Nat} (h1 : 1 ≤ r) (h6 : r ≤ 6) (h : Ins r c k) (hb : bad r c true = false) : Ins r (adv r c true) (k + 1) := by
  have hb : ¬ insd r c = r := by simpa [bad] using hb
  unfold Ins insd at *
  show (((nxt r c.put : Nat) : Int) - (c.got : Int)) % (2 * r) = _ ∧ _
  unfold nxt
  rcases r_cases h1 h6 with rfl | rfl | rfl | rfl | rfl | rfl <;> omega
theorem ins_get {r : Nat} {c : Co} {k : Nat} (h1 : 1 ≤ r) (h6 : r ≤ 6) (h : Ins r c k) (hb : bad r c false = false) : Ins r (adv r c false) (k - 1) ∧ 1 ≤ k := by
  have hb : ¬ insd r c = 0 := by simpa [bad] using hb
  unfold Ins insd at *
  show ((((c.put : Nat) : Int) - ((nxt r c.got : Nat) : Int)) % (2 * r) = _ ∧ _) ∧ _
  unfold nxt
  rcases r_cases h1 h6 with rfl | rfl | rfl | rfl | rfl | rfl <;> omega
theorem ins_step {r : Nat} {ws : List (List Bool)} {c : Co} {n : Nat} {ls : List Nat} (h1 : 1 ≤ r) (h6 : r ≤ 6) (h : Ins r c ls.length) (e : Ev) : Ins r (cst r ws c e) (lLet r c n ls e).length := by
  unfold lLet
  cases e with
  | look w => cases w <;> exact h
  | tp p o =>
    cases hg : goes r c p with
    | false =>
      rw [cst_stay hg, movs_stay hg]
      exact ins_sees h
    | true =>
      cases hb : bad r c p with
      | true =>
        rw [cst_bad hg hb, movs_bad hb]
        exact h
      | false =>
        rw [cst_go hg hb, movs_go hg hb]
        refine ins_sees ?_
        cases p with
        | true =>
          rw [List.length_append]
          exact ins_put h1 h6 h hb
        | false =>
          rw [List.length_tail]
          exact (ins_get h1 h6 h hb).1
def Rel (r : Nat) (s : LS) (p : PS) : Prop := s.c = p.c ∧ s.n = p.m ∧ s.f = p.f ∧ p.bx.length = r ∧ ∀ i, i < s.ls.length → p.bx[(s.c.got + i) % r]? = some (.int ((s.ls.getD i 0 : Nat) : Int))
theorem sees_got {ws : List (List Bool)} {c : Co} {p : Bool} {o : Option (List Bool)} : (sees ws p o c).got = c.got := by
  unfold sees
  cases o with
  | none => rfl
  | some w =>
    by_cases hm : w ∈ ws
    · simp only [if_pos hm]
      cases p <;> rfl
    · simp only [if_neg hm]
theorem rel_step {r : Nat} {ws : List (List Bool)} {s : LS} {p : PS} (h1 : 1 ≤ r) (h6 : r ≤ 6) (hi : Ins r s.c s.ls.length) (h : Rel r s p) (e : Ev) : Rel r (lstep r ws s e) (pstep r ws p e) ∧ lans r s e = pans r p e := by
  obtain ⟨sc, sn, sl, sf⟩ := s
  obtain ⟨pc, pm, pb, pf⟩ := p
  obtain ⟨e1, e2, e3, hl, hb⟩ := h
  dsimp only at e1 e2 e3 hl hb hi
  subst e1 e2 e3
  unfold lstep pstep lans pans Rel lLet lAns pAns pBox
  dsimp only
  cases e with
  | look w =>
    cases w <;> exact ⟨⟨rfl, rfl, rfl, hl, hb⟩, rfl⟩
  | tp q o =>
    cases hg : goes r sc q with
    | false =>
      rw [cst_stay hg, movs_stay hg]
      refine ⟨⟨rfl, rfl, rfl, hl, ?_⟩, rfl⟩
      rw [sees_got]
      exact hb
    | true =>
      cases hbd : bad r sc q with
      | true =>
        rw [cst_bad hg hbd, movs_bad hbd]
        exact ⟨⟨rfl, rfl, rfl, hl, hb⟩, rfl⟩
      | false =>
        rw [cst_go hg hbd, movs_go hg hbd]
        cases q with
        | true =>
          refine ⟨⟨rfl, rfl, rfl, by rw [if_pos rfl, List.length_set]; exact hl, fun i hi2 => ?_⟩, rfl⟩
          have hi2 : i < (sl ++ [sn]).length := hi2
          show (if some true = some true then pb.set (sc.put % r) (.int (sn : Int)) else pb)[((sees ws true o (adv r sc true)).got + i) % r]? = some (.int (((sl ++ [sn]).getD i 0 : Nat) : Int))
          rw [sees_got, if_pos rfl]
          show (pb.set (sc.put % r) (.int (sn : Int)))[(sc.got + i) % r]? = _
          rw [List.length_append] at hi2
          have hi2 : i < sl.length + 1 := hi2
          have hbd' : ¬ insd r sc = r := by simpa [bad] using hbd
          unfold Ins insd at hi
          unfold insd at hbd'
          by_cases hlast : i = sl.length
          · have hpos : (sc.got + i) % r = sc.put % r := by
              subst hlast
              generalize sl.length = k at *
              rcases r_cases h1 h6 with h | h | h | h | h | h <;> subst h <;> omega
            rw [hpos, List.getElem?_set_self (by rw [hl]; exact Nat.mod_lt _ h1), hlast]
            simp
          · have hne : ¬ (sc.put % r = (sc.got + i) % r) := by
              have : i < sl.length := by omega
              generalize sl.length = k at *
              rcases r_cases h1 h6 with h | h | h | h | h | h <;> subst h <;> omega
            rw [List.getElem?_set_ne hne, hb i (by omega)]
            simp [List.getD_eq_getElem?_getD, List.getElem?_append_left (show i < sl.length by omega)]
        | false =>
          obtain ⟨_, hk⟩ := ins_get h1 h6 hi hbd
          match sl, hk with
          | y :: ys, _ =>
            refine ⟨⟨rfl, rfl, rfl, hl, fun i hi2 => ?_⟩, ?_⟩
            · have hi2 : i < ys.length := hi2
              show (if some false = some true then _ else pb)[((sees ws false o (adv r sc false)).got + i) % r]? = some (.int ((ys.getD i 0 : Nat) : Int))
              rw [sees_got, if_neg (by decide)]
              show pb[(nxt r sc.got + i) % r]? = _
              have hpos : (nxt r sc.got + i) % r = (sc.got + (i + 1)) % r := by
                unfold nxt
                rcases r_cases h1 h6 with h | h | h | h | h | h <;> subst h <;> omega
              rw [hpos, hb (i + 1) (by simpa using hi2)]
              simp
            · show V.int (y : Int) = pb.getD (sc.got % r) .non
              have := hb 0 (by simp)
              rw [Nat.add_zero] at this
              rw [List.getD_eq_getElem?_getD, this]
              simp
theorem told_eq {r : Nat} {ws : List (List Bool)} (h1 : 1 ≤ r) (h6 : r ≤ 6) : ∀ (es : List Ev) (s : LS) (p : PS), Ins r s.c s.ls.length → Rel r s p → lTold r ws s es = pTold r ws p es
  | [], _, _, _, _ => rfl
  | e :: es, s, p, hi, hr => by
    obtain ⟨h2, h3⟩ := rel_step (ws := ws) h1 h6 hi hr e
    show lans r s e :: lTold r ws (lstep r ws s e) es = pans r p e :: pTold r ws (pstep r ws p e) es
    rw [h3, told_eq h1 h6 es _ _ (ins_step h1 h6 hi e) h2]
theorem rel0 (r : Nat) : Rel r ls0 (ps0 r) := ⟨rfl, rfl, rfl, List.length_replicate, fun i h => absurd h (Nat.not_lt_zero _)⟩
theorem ins0 (r : Nat) : Ins r ls0.c ls0.ls.length := ⟨by show ((0 : Int) - 0) % (2 * r) = 0; simp, Nat.zero_le _⟩
theorem told0 {r : Nat} {ws : List (List Bool)} (h1 : 1 ≤ r) (h6 : r ≤ 6) (es : List Ev) : lTold r ws ls0 es = pTold r ws (ps0 r) es := told_eq h1 h6 es _ _ (ins0 r) (rel0 r)
/-- what the law tells of a get -/
theorem lans_ok (r : Nat) (s : LS) (e : Ev) : (lans r s e = .non ∨ lans r s e = fltV (flt r s.c e) ∨ ∃ k : Int, lans r s e = .int k) := by
  unfold lans lAns
  cases movs r s.c e with
  | none => exact .inr (.inl rfl)
  | some p => cases p <;> exact .inr (.inr ⟨_, rfl⟩)
theorem flt_get {r : Nat} {c : Co} {e : Ev} (h : isGet e = true) : flt r c e = none ∨ flt r c e = some false := by
  cases e with
  | look w => cases h
  | tp p o =>
    cases p with
    | true => cases h
    | false =>
      show (if _ then some false else none) = none ∨ (if _ then some false else none) = some false
      split
      · exact .inr rfl
      · exact .inl rfl
theorem getOk_told (r : Nat) (ws : List (List Bool)) : ∀ (es : List Ev) (s : LS), GetOk es (lTold r ws s es)
  | [], _, i, hi, _ => absurd hi (Nat.not_lt_zero _)
  | e :: es, s, 0, _, hg => by
    show lans r s e = .non ∨ lans r s e = .str "under" ∨ ∃ k : Int, lans r s e = .int k
    rcases lans_ok r s e with h | h | h
    · exact .inl h
    · rcases flt_get (r := r) (c := s.c) (e := e) hg with h2 | h2
      · exact .inl (by rw [h, h2]; rfl)
      · exact .inr (.inl (by rw [h, h2]; rfl))
    · exact .inr (.inr h)
  | e :: es, s, i + 1, hi, hg => getOk_told r ws es (lstep r ws s e) i (Nat.lt_of_succ_lt_succ hi) hg
theorem vrun_snoc {r : Nat} {ws : List (List Bool)} : ∀ {es : List Ev} {c : Co} {s : LS} {e : Ev}, s.c = c → VRun r ws c es → fEnd r ws c es = false → e ∈ canE r ws (lEnd r ws s es).c → VRun r ws c (es ++ [e]) ∧ fEnd r ws c (es ++ [e]) = (flt r (lEnd r ws s es).c e).isSome
  | [], c, s, e, hs, _, _, h => by
    subst hs
    refine ⟨⟨h, fun _ => rfl, trivial⟩, ?_⟩
    show (_ || false) = _
    rw [Bool.or_false]
    rfl
  | x :: es, c, s, e, hs, hv, hf, h => by
    subst hs
    have hf : ((flt r s.c x).isSome || fEnd r ws (cst r ws s.c x) es) = false := hf
    rw [Bool.or_eq_false_iff] at hf
    obtain ⟨g1, g2⟩ := vrun_snoc (s := lstep r ws s x) rfl hv.2.2 hf.2 h
    refine ⟨⟨hv.1, fun hn => ?_, g1⟩, ?_⟩
    · have := hf.1
      cases hx : flt r s.c x with
      | none => exact absurd hx hn
      | some y => rw [hx] at this; cases this
    · show ((flt r s.c x).isSome || fEnd r ws (cst r ws s.c x) (es ++ [e])) = _
      rw [hf.1, Bool.false_or]
      exact g2
/-- the events as they stand in a heap -/
def EvL (H : Hp) (vs : List V) (evs : List Ev) : Prop := Paired (fun v e => ∃ t, v = .ref t ∧ H t = some (.tup (evV e))) vs evs
theorem EvL.mono {H H' : Hp} {vs : List V} {evs : List Ev} (x : Ex H H') (h : EvL H vs evs) : EvL H' vs evs := paired_imp (fun v e ⟨t, h1, h2⟩ => ⟨t, h1, x _ _ h2⟩) h
theorem paired_app {α β : Type} {R : α → β → Prop} : ∀ {xs : List α} {ys : List β} {as : List α} {bs : List β}, Paired R xs ys → Paired R as bs → Paired R (xs ++ as) (ys ++ bs)
  | _, _, _, _, .nil, h => h
  | _, _, _, _, .cons r t, h => .cons r (paired_app t h)
theorem EvL.len {H : Hp} {vs : List V} {evs : List Ev} (h : EvL H vs evs) : vs.length = evs.length := paired_len h
/-- a list is changed: the tuples stay -/
theorem EvL.upd {H : Hp} {vs : List V} {evs : List Ev} {p : Addr} {ys : List V} {o : HO} (hp : H p = some (.lst ys)) (h : EvL H vs evs) : EvL (L2.upd H p o) vs evs := paired_imp (fun v e ⟨t, h1, h2⟩ => ⟨t, h1, by
  rw [upd_ne (by rintro rfl; rw [hp] at h2; cases h2)]
  exact h2⟩) h
/-- a dict or the dice are changed -/
theorem EvL.updD {H H' : Hp} {vs : List V} {evs : List Ev} {d : Addr} (hd : ∀ xs, H d ≠ some (.tup xs)) (e : Exd d H H') (h : EvL H vs evs) : EvL H' vs evs := paired_imp (fun v x ⟨t, h1, h2⟩ => ⟨t, h1, e _ _ h2 (by rintro rfl; exact hd _ h2)⟩) h
theorem EvL.at {H : Hp} {vs : List V} {evs : List Ev} {i : Nat} (h : EvL H vs evs) (hi : i < evs.length) : ∃ t e, vs[i]? = some (.ref t) ∧ evs[i]? = some e ∧ H t = some (.tup (evV e)) := by
  obtain ⟨x, y, h1, h2, t, rfl, h3⟩ := paired_at h hi
  exact ⟨t, y, h1, h2, h3⟩
section
variable {K : PySem.W.Frag}
/-- a comprehension that makes events -/
theorem lcE {α : Type} {a : Addr} (l : List α) (ev : α → V) (g : α → Ev) {j : Nat} {te : TE} {vs : List Nat} {σ : L2.St} {H1 : Hp} {D : Addr} {Qd : Hp → Prop}
    (hx : SqL K H1 a (l.map ev)) (hz : l.length ≤ 1000) (hD : H1 D = none) (hw : ∀ x, wipe ((wipe σ vs).set j (some x)) vs = wipe σ vs)
    (hs : ∀ x ∈ l, ∀ H, Ex H1 H → ∀ (Y : VK), (∀ t H2, H t = none → Ex H H2 → H2 t = some (.tup (evV (g x))) → Y (.ref t) H2) → te ((wipe σ vs).set j (some (ev x))) H Y)
    (hd : ∀ H2 ys, Ex H1 H2 → H2 D = some (.lst ys) → EvL H2 ys (l.map g) → Qd H2) :
    ∃ W : Nat → Nat → Hp → Prop, (∃ m, W 0 m (upd H1 D (.lst []))) ∧ ∀ i m H, W i m H →
      ((Itl K a).stop i H ∧ Qd H) ∨ ((Itl K a).go i H ∧ ∃ Nx : Hp → Prop, (∀ H', Nx H' → ∃ m', m' < m ∧ W (i + 1) m' H') ∧ ∀ x H', (Itl K a).yld i H x H' → (gName j) x (wipe σ vs) H' fun σ2 H2 => wipe σ2 vs = wipe σ vs ∧ tYes σ2 H2 fun b H3 =>
        if b = true then te σ2 H3 fun y H4 => ∃ acc, H4 D = some (.lst acc) ∧ acc.length < sizeLine ∧ Nx (upd H4 D (.lst (acc ++ [y]))) else Nx H3) := by
  refine lc_list (xs := l.map ev) (fun i H => Ex H1 H ∧ ∃ ys, H D = some (.lst ys) ∧ EvL H ys ((l.take i).map g)) ⟨Ex.new hD, [], upd_same, .nil⟩ (fun i H _ h => ex_l h.1 hx) (fun i x H hi h => ?_) (fun H h => ?_)
  · obtain ⟨e1, ys, hy, hp⟩ := h
    obtain ⟨y, hy2, rfl⟩ : ∃ y, l[i]? = some y ∧ ev y = x := by
      rw [List.getElem?_map] at hi
      cases e : l[i]? with
      | none => rw [e] at hi; cases hi
      | some y => rw [e] at hi; exact ⟨y, rfl, Option.some.inj hi⟩
    have hm : y ∈ l := List.mem_of_getElem? hy2
    have ht : l.take (i + 1) = l.take i ++ [y] := by rw [List.take_add_one, hy2]; rfl
    refine ⟨hw _, ?_⟩
    refine iteT (B := Ex H1 H ∧ ∃ ys, H D = some (HO.lst ys) ∧ EvL H ys (List.map g (List.take (i + 1) l))) ?_
    refine hs y hm H e1 _ fun t H2 nt e2 h2 => ?_
    have hy3 := e2 _ _ hy
    have hlen : ys.length < sizeLine := by
      rw [hp.len, List.length_map, List.length_take]
      exact small1000 (by omega)
    refine ⟨ys, hy3, hlen, Ex.mut (e1.trans e2) hD, _, upd_same, ?_⟩
    rw [ht, List.map_append]
    refine paired_app ((hp.mono e2).upd hy3) (.cons ⟨t, rfl, ?_⟩ .nil)
    rw [upd_ne (by rintro rfl; rw [hy3] at h2; cases h2)]
    exact h2
  · obtain ⟨e1, ys, hy, hp⟩ := h
    rw [List.length_map, List.take_length] at hp
    exact hd H ys e1 hy hp
end
def bitsN (k : Nat) : Nat → List Bool
  | 0 => []
  | m + 1 => (k / 2 ^ m % 2 == 1) :: bitsN k m
theorem bitsN_len (k : Nat) : ∀ m, (bitsN k m).length = m
  | 0 => rfl
  | m + 1 => by simp [bitsN, bitsN_len k m]
theorem bits_plain {n : Nat} (h : n ≤ 4) : (List.range (2 ^ n)).map (fun k => bitsN k n) = plainW n := by
  have : n = 0 ∨ n = 1 ∨ n = 2 ∨ n = 3 ∨ n = 4 := by omega
  rcases this with rfl | rfl | rfl | rfl | rfl <;> decide
theorem tab5 {n : Nat} (h : n ≤ 4) : atI ([.int 1, .int 2, .int 4, .int 8, .int 16] : List V) (n : Int) = some (.int ((2 ^ n : Nat) : Int)) := by
  have : n = 0 ∨ n = 1 ∨ n = 2 ∨ n = 3 ∨ n = 4 := by omega
  rcases this with rfl | rfl | rfl | rfl | rfl <;> rfl
theorem tab4 {n : Nat} (h : n < 4) : atI ([.int 1, .int 2, .int 4, .int 8] : List V) (n : Int) = some (.int ((2 ^ n : Nat) : Int)) := by
  have : n = 0 ∨ n = 1 ∨ n = 2 ∨ n = 3 := by omega
  rcases this with rfl | rfl | rfl | rfl <;> rfl
theorem at01 (b : Bool) : atI (("01" : Str)).cps.toList (if b then 1 else 0) = some (bit b) := by
  cases b <;> decide +kernel
theorem modBit (k m : Nat) : (k : Int) / ((2 ^ m : Nat) : Int) % 2 = if (k / 2 ^ m % 2 == 1) then 1 else 0 := by
  have h : (k : Int) / ((2 ^ m : Nat) : Int) % 2 = ((k / 2 ^ m % 2 : Nat) : Int) := by simp
  rw [h]
  have h2 : k / 2 ^ m % 2 < 2 := Nat.mod_lt _ (by decide)
  have : k / 2 ^ m % 2 = 0 ∨ k / 2 ^ m % 2 = 1 := by omega
  rcases this with e | e <;> rw [e] <;> rfl
def sp_l_plain : Sp := fun vs H Q _ => ∃ n : Nat, vs = [.int (n : Int)] ∧ n ≤ 4 ∧ RetL ((plainW n).map wv) H Q
theorem ok_l_plain (T : TX K mg) : FnOk P w K mg base CX0 1 T.f_l_plain T.fd_l_plain ["_law_wide"] sp_l_plain := by
  refine T.F_l_plain.ok sc_l_plain (fun vs H Q E h => ?_) (fun cdv A outer s H vs Q E hr h => ?_)
  · obtain ⟨n, rfl, _⟩ := h
    rfl
  · obtain ⟨n, rfl, hn, q⟩ := h
    have h16 := pow16 hn
    refine ⟨_, (pss_cons (ps_set (i := 1) sc_l_plain.nd rfl (by first | exact Or.inl rfl | exact Or.inr rfl) (pe_lst pa_nil))
 (pss_cons (ps_for PassesOwn.never rfl (pi_range1 (by rfl) T.z_range (pa_cons (pe_ix ix_list (pe_lst (pa_cons pe_int (pa_cons pe_int (pa_cons pe_int (pa_cons pe_int (pa_cons pe_int pa_nil)))))) (pv 0) (fun _ _ => rfl)) pa_nil)) (pg_name (i := 2) sc_l_plain.nd rfl (by first | exact Or.inl rfl | exact Or.inr rfl))
 (pss_cons (ps_set (i := 3) sc_l_plain.nd rfl (by first | exact Or.inl rfl | exact Or.inr rfl) pe_str)
 (pss_cons (ps_for PassesOwn.never rfl (pi_range1 (by rfl) T.z_range (pa_cons (pv 0) pa_nil)) (pg_name (i := 4) sc_l_plain.nd rfl (by first | exact Or.inl rfl | exact Or.inr rfl))
 (pss_one (ps_set (i := 3) sc_l_plain.nd rfl (by first | exact Or.inl rfl | exact Or.inr rfl) (pe_op op_add_str (pe_ix ix_str pe_str (pe_op op_mod (pe_op op_fdiv (pv 2) (pe_ix ix_list (pe_lst (pa_cons pe_int (pa_cons pe_int (pa_cons pe_int (pa_cons pe_int pa_nil))))) (pv 4) (fun _ _ => rfl))) pe_int) (fun _ _ => rfl)) (pv 3)))))
 (pss_one (ps_expr (pe_bm PySem.F.plainAttrs_list PySem.F.slot_list_append PySem.F.type_list_append mt_append (pv 1) (pa_cons (pv 3) pa_nil)))))))
 (pss_one (ps_ret (pv 1))))), ?_⟩
    refine ⟨small9 (by simp), fun p np => ⟨small9 (by simp), fun l nl => ⟨_, rfl, l, _, (n : Int), _, rfl, rfl, SqL.of upd_same, tab5 hn, _, rfl, lo62 _, hi62 (by omega), ?_⟩⟩⟩
    have e0 := (Ex.new (o := HO.lst []) np).trans (Ex.new (o := HO.lst [.int 1, .int 2, .int 4, .int 8, .int 16]) nl)
    refine for_range (fun i σ H' => i ≤ 2 ^ n ∧ ∃ y z u, σ = [some (.int (n : Int)), some (.ref p), y, z, u] ∧ Ex H H' ∧ H' p = some (.lst ((List.range i).map fun k => wv (bitsN k n))))
      ⟨Nat.zero_le _, none, none, none, rfl, e0, (Ex.new nl) _ _ upd_same⟩ ?_ ?_
    · rintro i σ H' hi ⟨_, y, z, u, rfl, e1, hp⟩
      refine ⟨_, rfl, n, rfl, by omega, by omega, for_range (lo := 0) (fun m σ H2 => m ≤ n ∧ ∃ u, σ = [some (.int (n : Int)), some (.ref p), some (.int (0 + (i : Int))), some (wv (bitsN i m)), u] ∧ Ex H' H2) ⟨Nat.zero_le _, u, by rw [strE]; rfl, Ex.refl _⟩ ?_ ?_⟩
      · rintro m σ H2 hm ⟨_, u, rfl, e2⟩
        refine ⟨_, rfl, small9 (by simp), fun l nl => ⟨_, rfl, l, _, (m : Int), _, rfl, by rw [Int.zero_add], SqL.of upd_same, tab4 (by omega), _, _, rfl, rfl, ?_, _, _, rfl, rfl, (by decide : (0 : Int) < 2), ?_⟩⟩
        · have : 2 ^ m ≤ 16 := pow16 (by omega)
          have : 0 < 2 ^ m := Nat.two_pow_pos m
          exact ⟨by omega, by omega⟩
        · refine ⟨"01", _, bit (i / 2 ^ m % 2 == 1), rfl, rfl, by decide +kernel, ?_, _, rfl, _, _, rfl, rfl, ?_, ?_⟩
          · rw [Int.zero_add, modBit]
            exact at01 _
          · rw [sgn, wd_len, wd_len, bitsN_len]
            exact small9 (by simp; omega)
          · refine ⟨by omega, some (.int (0 + (m : Int))), ?_, e2.trans (Ex.new nl)⟩
            rw [sgn, wd_app]
            rfl
      · rintro σ H2 ⟨_, u, rfl, e2⟩
        refine ⟨_, rfl, .inl ⟨rfl, _, SqL.of (e2 _ _ hp)⟩, _, rfl, p, _, _, rfl, rfl, e2 _ _ hp, ?_, by omega, some (.int (0 + (i : Int))), some (wv (bitsN i n)), u, rfl, (e1.trans e2).mut np, ?_⟩
        · rw [List.length_map, List.length_range]
          exact small1000 (by omega)
        · rw [upd_same, List.range_succ, List.map_append]
          rfl
    · rintro σ H' ⟨_, y, z, u, rfl, e1, hp⟩
      refine ⟨_, rfl, q p H' np e1 ?_⟩
      rw [hp, ← bits_plain hn, List.map_map]
      rfl
def grayOf (w : List Bool) : List Bool := (List.range w.length).map fun i => ((false :: w).getD i false != w.getD i false)
theorem gray_of {n : Nat} (h : n ≤ 4) : (plainW n).map grayOf = grayW n := by
  have : n = 0 ∨ n = 1 ∨ n = 2 ∨ n = 3 ∨ n = 4 := by omega
  rcases this with rfl | rfl | rfl | rfl | rfl <;> decide
theorem joinB : ∀ bs : List Bool, Txt.join (wd []) (bs.map fun b => wd [b]) = wd bs := by
  intro bs
  refine TL.ext_tl ?_
  rw [TL.join_eq, TL.tl_join, List.map_map]
  show TL.joinL [] (bs.map fun b => [bit b]) = bs.map bit
  induction bs with
  | nil => rfl
  | cons a r ih =>
    cases r with
    | nil => rfl
    | cons b r =>
      show [bit a] ++ ([] ++ TL.joinL [] ((b :: r).map fun b => [bit b])) = bit a :: (b :: r).map bit
      rw [ih]
      rfl
theorem sz_words {l : List (List Bool)} {n : Nat} (h : ∀ w ∈ l, w.length ≤ n) : (l.map fun w => (wd w).length).sum ≤ l.length * n := by
  induction l with
  | nil => simp
  | cons a r ih =>
    have h1 := h a (List.mem_cons_self)
    have h2 := ih fun w hw => h w (List.mem_cons_of_mem _ hw)
    simp only [List.map_cons, List.sum_cons, List.length_cons, wd_len, Nat.add_mul] at *
    omega
def sp_l_gray : Sp := fun vs H Q _ => ∃ n : Nat, vs = [.int (n : Int)] ∧ n ≤ 4 ∧ RetL ((grayW n).map wv) H Q
theorem ok_l_gray (T : TX K mg) : FnOk P w K mg base CX0 2 T.f_l_gray T.fd_l_gray ["_law_wide"] sp_l_gray := by
  refine T.F_l_gray.ok sc_l_gray (fun vs H Q E h => ?_) (fun cdv A outer s H vs Q E hr h => ?_)
  · obtain ⟨n, rfl, _⟩ := h
    rfl
  · obtain ⟨n, rfl, hn, q⟩ := h
    have h16 := pow16 hn
    refine ⟨_, (pss_cons (ps_set (i := 1) sc_l_gray.nd rfl (by first | exact Or.inl rfl | exact Or.inr rfl) (pe_lst pa_nil))
 (pss_cons (ps_for PassesOwn.never rfl (pi_list (pe_call (ok_l_plain T) (hr.mono (by decide)) (by rfl) T.g_l_plain T.F_l_plain.kp T.b_l_plain .nil pass0 (pa_cons (pv 0) pa_nil))) (pg_name (i := 2) sc_l_gray.nd rfl (by first | exact Or.inl rfl | exact Or.inr rfl))
 (pss_cons (ps_set (i := 3) sc_l_gray.nd rfl (by first | exact Or.inl rfl | exact Or.inr rfl) (pe_op op_add_str pe_str (pv 2)))
 (pss_one (ps_expr (pe_bm PySem.F.plainAttrs_list PySem.F.slot_list_append PySem.F.type_list_append mt_append (pv 1) (pa_cons (pe_join pe_str (pe_lc (own := [("_law_at", 4)]) (g := gName 4) (by rfl) sc_l_gray.nd (pi_range1 (by rfl) T.z_range (pa_cons (pv 0) pa_nil)) (blkOk_by (own := [("_law_at", 4)]) (N := ["_law_wide", "_law_found", "_law_word", "_law_marks", "_law_at"]) (sc := defScope s_l_gray) (by decide +kernel)) (fun _ _ _ _ _ => pg_name (i := 4) sc_l_gray.nd rfl (Or.inl rfl)) (fun _ _ _ _ _ => pts_nil) (fun _ _ _ _ _ => (pe_ix ix_str pe_str (pe_callTy call_int1 (by rfl) T.z_int (by decide +kernel) (pa_cons (pe_cmpR op_ne (pe_ix ix_str (pv 3) (pv 4) (fun _ _ => rfl)) (pe_ix ix_str (pv 3) (pe_op op_add (pv 4) pe_int) (fun _ _ => rfl)) (nomark _)) pa_nil)) (fun _ _ => rfl))))) pa_nil))))))
 (pss_one (ps_ret (pv 1))))), ?_⟩
    refine ⟨small9 (by simp), fun p np => ⟨_, rfl, n, rfl, hn, fun l H1 nl e1 hl => ⟨l, rfl, ⟨_, SqL.of hl⟩, ?_⟩⟩⟩
    have e0 := (Ex.new (o := HO.lst []) np).trans e1
    refine for_list (K := K) (a := l) (xs := (plainW n).map wv) (fun i σ H' => ∃ y z u, σ = [some (.int (n : Int)), some (.ref p), y, z, u] ∧ H' l = some (.lst ((plainW n).map wv)) ∧ Ex H H' ∧ H' p = some (.lst (((plainW n).take i).map fun w => wv (grayOf w))))
      ⟨none, none, none, rfl, hl, e0, e1 _ _ upd_same⟩ (fun i σ H' _ ⟨_, _, _, _, e, _⟩ => SqL.of e) ?_ ?_
    · rintro i x σ H' hi ⟨y, z, u, rfl, eL, e2, hp⟩
      obtain ⟨w, hw, rfl⟩ : ∃ w, (plainW n)[i]? = some w ∧ wv w = x := by
        rw [List.getElem?_map] at hi
        cases e : (plainW n)[i]? with
        | none => rw [e] at hi; cases hi
        | some y => rw [e] at hi; exact ⟨y, rfl, Option.some.inj hi⟩
      have hwl : w.length = n := plainW_wide n w (List.mem_of_getElem? hw)
      refine ⟨_, rfl, "0", wd w, rfl, rfl, ?_, ?_⟩
      · rw [str0, wd_len, wd_len]
        exact small9 (by simp; omega)
      rw [str0, wd_app]
      refine ⟨_, rfl, .inl ⟨rfl, _, SqL.of hp⟩, ⟨_, rfl⟩, _, rfl, n, rfl, by omega, by omega, fun D nD => lcR n (fun i => wv [((false :: w).getD i false != w.getD i false)]) rfl (by omega) nD (fun _ => rfl) (fun k hk H3 e3 Y hY => ?_) (fun H3 e3 h3 => ?_)⟩
      · refine ⟨_, rfl, _, rfl, _, _, bit ((false :: w).getD k false), rfl, rfl, ?_, atW (w := false :: w) rfl (by simp; omega), _, rfl, _, rfl, _, _, rfl, rfl, _, _, bit (w.getD k false), rfl, rfl, ?_, ?_, rfl, .inr ⟨_, rfl, "01", _, _, rfl, rfl, by decide +kernel, ?_, hY _ (Ex.refl _)⟩⟩
        · show (wd (false :: w)).length ≤ sizeLine
          rw [wd_len]
          exact small9 (by simp; omega)
        · show (wd (false :: w)).length ≤ sizeLine
          rw [wd_len]
          exact small9 (by simp; omega)
        · exact atW (w := false :: w) (i := k + 1) rfl (by simp; omega)
        · rw [dec_sgn]
          exact at01 _
      · refine ⟨"", D, (grayOf w).map (fun b => wd [b]), rfl, rfl, .inl (SqL.of ?_), ?_, ?_⟩
        · rw [h3, grayOf, List.map_map, List.map_map, hwl]
          rfl
        · have h1 := sz_words (l := (grayOf w).map fun b => [b]) (n := 1) (fun w hw => by obtain ⟨b, _, rfl⟩ := List.mem_map.mp hw; exact Nat.le_refl _)
          simp only [List.map_map, List.length_map, Function.comp_def] at *
          have : (grayOf w).length = n := by simp [grayOf, hwl]
          rw [strE, wd_len]
          simp at *
          omega
        · rw [strE, joinB]
          refine ⟨p, _, _, rfl, rfl, e3 _ _ hp, ?_, some (wv w), some (wv ([false] ++ w)), u, rfl, ?_, (e2.trans e3).mut np, ?_⟩
          · rw [List.length_map, List.length_take]
            have := plainW_len n
            exact small1000 (by omega)
          · rw [upd_ne (ne_of_none upd_same nl).symm]
            exact e3 _ _ eL
          · rw [upd_same, List.take_add_one, hw, List.map_append]
            rfl
    · rintro σ H' ⟨y, z, u, rfl, eL, e1, hp⟩
      refine ⟨_, rfl, q p H' np e1 ?_⟩
      rw [hp, ← gray_of hn, List.length_map, List.take_length, List.map_map]
      rfl
def okS (a b w : List Bool) : Bool := (List.range a.length).all fun k => w.getD k false == a.getD k false || w.getD k false == b.getD k false
theorem okS_cons (x y z : Bool) (a b w : List Bool) : okS (x :: a) (y :: b) (z :: w) = ((z == x || z == y) && okS a b w) := by
  unfold okS
  rw [List.length_cons, List.range_succ_eq_map, List.all_cons, List.all_map]
  rfl
theorem seen_filter : ∀ {n : Nat} {a b : List Bool}, a.length = n → b.length = n → (plainW n).filter (okS a b) = seenW a b
  | 0, [], [], _, _ => rfl
  | n + 1, x :: a, y :: b, ha, hb => by
    have ih := seen_filter (n := n) (a := a) (b := b) (by simpa using ha) (by simpa using hb)
    have h1 : ∀ z : Bool, ((plainW n).map (z :: ·)).filter (okS (x :: a) (y :: b)) = if (z == x || z == y) = true then (seenW a b).map (z :: ·) else [] := fun z => by
      rw [List.filter_map]
      by_cases hz : (z == x || z == y) = true
      · rw [if_pos hz, ← ih]
        congr 1
        refine List.filter_congr fun w _ => ?_
        show okS (x :: a) (y :: b) (z :: w) = _
        rw [okS_cons, hz, Bool.true_and]
      · rw [if_neg hz]
        have : ((plainW n).filter ((okS (x :: a) (y :: b)) ∘ (z :: ·))) = [] := by
          rw [List.filter_eq_nil_iff]
          intro w _
          show ¬ okS (x :: a) (y :: b) (z :: w) = true
          rw [okS_cons]
          simp only [Bool.not_eq_true] at hz
          rw [hz]
          simp
        rw [this]
        rfl
    show ((plainW n).map (false :: ·) ++ (plainW n).map (true :: ·)).filter _ = (mk2 x y).flatMap fun m => (seenZ (a.zip b)).map (m :: ·)
    rw [List.filter_append, h1, h1]
    cases x <;> cases y <;> simp [mk2, seenW]
def sp_l_seen : Sp := fun vs H Q _ => ∃ (a b : List Bool) (n : Nat), vs = [wv a, wv b] ∧ a.length = n ∧ b.length = n ∧ n ≤ 4 ∧ RetL ((seenW a b).map wv) H Q
theorem ok_l_seen (T : TX K mg) : FnOk P w K mg base CX0 2 T.f_l_seen T.fd_l_seen ["_law_one", "_law_other"] sp_l_seen := by
  refine T.F_l_seen.ok sc_l_seen (fun vs H Q E h => ?_) (fun cdv A outer s H vs Q E hr h => ?_)
  · obtain ⟨_, _, _, rfl, _⟩ := h
    rfl
  · obtain ⟨a, b, n, rfl, ha, hb, hn, q⟩ := h
    have h16 := pow16 hn
    refine ⟨_, (pss_cons (ps_set (i := 2) sc_l_seen.nd rfl (by first | exact Or.inl rfl | exact Or.inr rfl) (pe_lst pa_nil))
 (pss_cons (ps_for PassesOwn.never rfl (pi_list (pe_call (ok_l_plain T) (hr.mono (by decide)) (by rfl) T.g_l_plain T.F_l_plain.kp T.b_l_plain .nil pass0 (pa_cons (pe_callB call_len_str (by rfl) T.z_len PySem.boot_len (pa_cons (pv 0) pa_nil)) pa_nil))) (pg_name (i := 3) sc_l_seen.nd rfl (by first | exact Or.inl rfl | exact Or.inr rfl))
 (pss_one (ps_if (pt_cmpR (op_eqD hr.units) (pe_lc (own := [("_law_at", 4)]) (g := gName 4) (by rfl) sc_l_seen.nd (pi_range1 (by rfl) T.z_range (pa_cons (pe_callB call_len_str (by rfl) T.z_len PySem.boot_len (pa_cons (pv 0) pa_nil)) pa_nil)) (blkOk_by (own := [("_law_at", 4)]) (N := ["_law_one", "_law_other", "_law_found", "_law_word", "_law_at"]) (sc := defScope s_l_seen) (by decide +kernel)) (fun _ _ _ _ _ => pg_name (i := 4) sc_l_seen.nd rfl (Or.inl rfl)) (fun _ _ _ _ _ => (pts_one (pt_cmpR (r := rIn K true) op_notIn_seq (pe_ix ix_str (pv 3) (pv 4) (fun _ _ => rfl)) (pe_tup (pa_cons (pe_ix ix_str (pv 0) (pv 4) (fun _ _ => rfl)) (pa_cons (pe_ix ix_str (pv 1) (pv 4) (fun _ _ => rfl)) pa_nil))) (by rfl)))) (fun _ _ _ _ _ => (pv 4))) (pe_lst pa_nil) (nomark _))
 (pss_one (ps_expr (pe_bm PySem.F.plainAttrs_list PySem.F.slot_list_append PySem.F.type_list_append mt_append (pv 2) (pa_cons (pv 3) pa_nil))))
 pss_nil)))
 (pss_one (ps_ret (pv 2))))), ?_⟩
    refine ⟨small9 (by simp), fun p np => ?_⟩
    refine ⟨_, rfl, wd a, rfl, small9 (by rw [wd_len]; omega), n, ?_, hn, fun l H1 nl e1 hl => ⟨l, rfl, ⟨_, SqL.of hl⟩, ?_⟩⟩
    · show [V.int ((wd a).length : Int)] = _
      rw [wd_len, ha]
    have e01 := (Ex.new (o := HO.lst []) np).trans e1
    have npl : l ≠ p := (ne_of_none upd_same nl).symm
    refine for_list (K := K) (a := l) (xs := (plainW n).map wv) (fun i σ H' => ∃ y3 y4, σ = [some (wv a), some (wv b), some (.ref p), y3, y4] ∧ Ex H H' ∧ H' l = some (.lst ((plainW n).map wv)) ∧ H' p = some (.lst ((((plainW n).take i).filter (okS a b)).map wv)))
      ⟨_, _, rfl, e01, hl, e1 _ _ upd_same⟩ (fun i σ H' _ ⟨_, _, _, _, h, _⟩ => SqL.of h) ?_ ?_
    · rintro i x σ H2 hi ⟨y3, y4, rfl, e2, hl2, hp2⟩
      obtain ⟨u, hu, rfl⟩ : ∃ u, (plainW n)[i]? = some u ∧ wv u = x := by
        rw [List.getElem?_map] at hi
        cases e : (plainW n)[i]? with
        | none => rw [e] at hi; cases hi
        | some y => rw [e] at hi; exact ⟨y, rfl, Option.some.inj hi⟩
      have hul : u.length = n := plainW_wide n u (List.mem_of_getElem? hu)
      have ht : (plainW n).take (i + 1) = (plainW n).take i ++ [u] := by rw [List.take_add_one, hu]; rfl
      have hlen : (((plainW n).take i).filter (okS a b)).length ≤ 16 := by
        refine Nat.le_trans (List.length_filter_le _ _) ?_
        rw [List.length_take, plainW_len]
        omega
      refine ⟨_, rfl, wd a, rfl, small9 (by rw [wd_len]; omega), _, rfl, lo62 _, hi62 (by rw [wd_len]; omega), fun D nD => lcRF a.length (fun k => !(u.getD k false == a.getD k false || u.getD k false == b.getD k false)) (fun k => .int (k : Int)) (by rw [wd_len]) (by omega) nD (fun _ => rfl) (fun k hk H3 e3 Y N hY => ?_) (fun H3 e3 h3 => ?_)⟩
      · refine ⟨_, rfl, _, rfl, wd u, _, bit (u.getD k false), rfl, rfl, small9 (by rw [wd_len]; omega), atW rfl (by omega), _, rfl, _, rfl, wd a, _, bit (a.getD k false), rfl, rfl, small9 (by rw [wd_len]; omega), atW rfl hk, _, rfl, _, rfl, wd b, _, bit (b.getD k false), rfl, rfl, small9 (by rw [wd_len]; omega), atW rfl (by omega), small9 (by simp), fun t nt => ?_⟩
        refine ⟨t, _, rfl, .inr (SqT.of upd_same), rfl, rfl, _, rfl, ?_⟩
        have hY := hY _ (Ex.new (o := HO.tup [.str ⟨#[bit (a.getD k false)]⟩, .str ⟨#[bit (b.getD k false)]⟩]) nt)
        have ein : inV (.str ⟨#[bit (u.getD k false)]⟩) [.str ⟨#[bit (a.getD k false)]⟩, .str ⟨#[bit (b.getD k false)]⟩] = (u.getD k false == a.getD k false || u.getD k false == b.getD k false) := by
          cases u.getD k false <;> cases a.getD k false <;> cases b.getD k false <;> decide
        show if (!inV _ _) = true then _ else _
        rw [ein]
        cases hd : (u.getD k false == a.getD k false || u.getD k false == b.getD k false) with
        | true =>
          rw [hd] at hY
          exact hY
        | false =>
          rw [hd] at hY
          exact ⟨_, rfl, hY⟩
      · have lf : ∀ x ∈ ((List.range a.length).filter fun k => !(u.getD k false == a.getD k false || u.getD k false == b.getD k false)).map (fun k : Nat => V.int (k : Int)), LeafV x := fun x hx => by
          obtain ⟨k, _, rfl⟩ := List.mem_map.mp hx
          trivial
        refine ⟨small9 (by simp), fun o no => ?_⟩
        have eo := Ex.new (o := HO.lst []) no
        refine ⟨.list _, .list [], .lst (SqL.of (eo _ _ h3)) (dp_leaves lf), .lst (SqL.of upd_same) .nil, (sd_leaves (n := 0) lf).shaped (by decide), (sd_leaves (n := 0) (xs := []) (by simp)).shaped (by decide), _, rfl, ?_⟩
        rw [eqv_nil]
        have eok : ((((List.range a.length).filter fun k => !(u.getD k false == a.getD k false || u.getD k false == b.getD k false)).map (fun k : Nat => V.int (k : Int))).map datOf).isEmpty = okS a b u := by
          rw [Bool.eq_iff_iff, List.isEmpty_iff, List.map_eq_nil_iff, List.map_eq_nil_iff, List.filter_eq_nil_iff]
          unfold okS
          rw [List.all_eq_true]
          simp only [Bool.not_eq_true', Bool.not_eq_false]
        rw [eok]
        have e23 := e3.trans eo
        cases hok : okS a b u with
        | true =>
          refine ifP rfl ⟨_, rfl, .inl ⟨rfl, _, SqL.of (e23 _ _ hp2)⟩, _, rfl, p, _, _, rfl, rfl, e23 _ _ hp2, by rw [List.length_map]; exact small1000 (by omega), _, _, rfl, (e2.trans e23).mut np, ?_, ?_⟩
          · rw [upd_ne npl]
            exact e23 _ _ hl2
          · rw [upd_same, ht, List.filter_append, List.map_append]
            simp [hok]
        | false =>
          refine ifN (by simp) ⟨_, _, rfl, e2.trans e23, e23 _ _ hl2, ?_⟩
          rw [e23 _ _ hp2, ht, List.filter_append, List.map_append]
          simp [hok]
    · rintro σ H2 ⟨y3, y4, rfl, e2, hl2, hp2⟩
      rw [List.length_map, List.take_length, seen_filter ha hb] at hp2
      exact ⟨_, rfl, q p H2 np e2 hp2⟩
def sp_l_begun : Sp := fun vs H Q _ => vs = [] ∧ ∀ (d pl : Addr) (H' : Hp), H d = none → H pl = none → d ≠ pl → Ex H H' → H' d = some (.dK (LK pl ⟨0, 0, 0, 0⟩ 0 .non)) → H' pl = some (.lst []) → Q (.ref d) H'
theorem ok_l_begun (T : TX K mg) : FnOk P w K mg base CX0 1 T.f_l_begun T.fd_l_begun [] sp_l_begun := by
  refine T.F_l_begun.ok sc_l_begun (fun vs H Q E h => ?_) (fun cdv A outer s H vs Q E hr h => ?_)
  · obtain ⟨rfl, _⟩ := h
    rfl
  · obtain ⟨rfl, q⟩ := h
    refine ⟨_, (pss_one (ps_ret (pe_disp (pps_cons pe_str pe_int (pps_cons pe_str pe_int (pps_cons pe_str pe_int (pps_cons pe_str pe_int (pps_cons pe_str (pe_lst pa_nil) (pps_cons pe_str pe_int (pps_cons pe_str pe_non pps_nil))))))) (by rfl) (by rfl) (fun z => by cases z) (by decide)))), ?_⟩
    refine fun d nd => ⟨small9 (by simp), fun pl npl => ?_⟩
    have ndl : d ≠ pl := ne_of_none upd_same npl
    have npl0 : H pl = none := by
      rw [upd_ne ndl.symm] at npl
      exact npl
    refine ⟨by rw [upd_ne ndl]; exact upd_same, LK pl ⟨0, 0, 0, 0⟩ 0 .non, rfl, by simp [LK], ?_⟩
    refine q d pl _ nd npl0 ndl (Ex.mut ((Ex.new nd).trans (Ex.new npl)) nd) ?_ ?_
    · rw [upd_same]
      rfl
    · rw [upd_ne ndl.symm]
      exact upd_same
def sp_l_turn : Sp := fun vs H Q _ => ∃ (l d pw pl : Addr) (r n : Nat) (ws : List (List Bool)) (c : Co) (nx : Nat) (f : V) (p : Bool), vs = [.ref l, .ref d, .str (pS p)] ∧ H l = some (.tup [.int (r : Int), .ref pw]) ∧ H pw = some (.lst (ws.map wv)) ∧ WW ws n r ∧ H d = some (.dK (LK pl c nx f)) ∧ CoOk r c ∧ ∀ (t q : Addr) (H' : Hp), H t = none → H q = none → Ex H H' → H' t = some (.tup [.bl (goes r c p), .ref q]) → H' q = some (.lst ((mayW r ws c p).map wv)) → Q (.ref t) H'
theorem turn_other {r : Nat} {c : Co} (h : CoOk r c) (p : Bool) : ((here c p : Int) + (if goes r c p then 1 else 0)) % (2 * (r : Int)) = ((other r c p : Nat) : Int) := by
  unfold other
  cases hg : goes r c p with
  | true =>
    simp only [if_pos]
    exact (nxt_int _ _).symm
  | false =>
    have := here_lt h p
    simp only [Bool.false_eq_true, if_false]
    rw [Int.add_zero]
    exact Int.emod_eq_of_lt (by omega) (by omega)
theorem ok_l_turn (T : TX K mg) : FnOk P w K mg base CX0 3 T.f_l_turn T.fd_l_turn ["_law_lane_here", "_law_s", "_law_word"] sp_l_turn := by
  refine T.F_l_turn.ok sc_l_turn (fun vs H Q E h => ?_) (fun cdv A outer s H vs Q E hr h => ?_)
  · obtain ⟨_, _, _, _, _, _, _, _, _, _, _, rfl, _⟩ := h
    rfl
  · obtain ⟨l, d, pw, pl, r, n, ws, c, nx, f, p, rfl, hl, hw, hW, hd, hc, q⟩ := h
    have r1 := hW.r1
    refine ⟨_, (pss_cons (ps_asg (pv 0) (pg_tup (by rfl) (pgs_cons (pg_name (i := 3) sc_l_turn.nd rfl (by first | exact Or.inl rfl | exact Or.inr rfl)) (pgs_cons (pg_name (i := 4) sc_l_turn.nd rfl (by first | exact Or.inl rfl | exact Or.inr rfl)) pgs_nil))))
 (pss_cons (ps_set (i := 5) sc_l_turn.nd rfl (by first | exact Or.inl rfl | exact Or.inr rfl) (pe_op op_mul pe_int (pv 3)))
 (pss_cut (ps_if (pt_cmpR op_eq (pv 2) pe_str (nomark _))
 (pss_cons (ps_set (i := 6) sc_l_turn.nd rfl (by first | exact Or.inl rfl | exact Or.inr rfl) (pe_dget (hu_of hr) (pv 1) pe_str (fun _ _ => rfl)))
 (pss_one (ps_set (i := 7) sc_l_turn.nd rfl (by first | exact Or.inl rfl | exact Or.inr rfl) (pe_cmpR op_lt (pe_op op_mod (pe_op op_sub (pv 6) (pe_dget (hu_of hr) (pv 1) pe_str (fun _ _ => rfl))) (pv 5)) (pv 3) (nomark _)))))
 (pss_cons (ps_set (i := 6) sc_l_turn.nd rfl (by first | exact Or.inl rfl | exact Or.inr rfl) (pe_dget (hu_of hr) (pv 1) pe_str (fun _ _ => rfl)))
 (pss_one (ps_set (i := 7) sc_l_turn.nd rfl (by first | exact Or.inl rfl | exact Or.inr rfl) (pe_cmpR op_ne (pv 6) (pe_dget (hu_of hr) (pv 1) pe_str (fun _ _ => rfl)) (nomark _))))))
 (pss_cons (ps_set (i := 8) sc_l_turn.nd rfl (by first | exact Or.inl rfl | exact Or.inr rfl) (pe_op op_mod (pe_op op_add (pv 6) (pe_callTy call_int1 (by rfl) T.z_int (by decide +kernel) (pa_cons (pv 7) pa_nil))) (pv 5)))
 (pss_one (ps_ret (pe_tup (pa_cons (pv 7) (pa_cons (pe_call (ok_l_seen T) (hr.mono (by decide)) (by rfl) T.g_l_seen T.F_l_seen.kp T.b_l_seen .nil pass0 (pa_cons (pe_ix ix_seq (pv 4) (pv 6) (fun _ _ => rfl)) (pa_cons (pe_ix ix_seq (pv 4) (pv 8) (fun _ _ => rfl)) pa_nil))) pa_nil))))))))), ?_⟩
    refine ⟨_, rfl, l, _, rfl, SqT.of hl, rfl, _, _, rfl, _, _, rfl, rfl, ?_⟩
    refine ⟨_, rfl, _, _, rfl, rfl, .inl ⟨by decide, by decide⟩, ?_⟩
    refine ⟨fun σ H' => σ = [some (.ref l), some (.ref d), some (.str (pS p)), some (.int (r : Int)), some (.ref pw), some (.int (2 * (r : Int))), some (.int (here c p : Int)), some (.bl (goes r c p)), none] ∧ H' = H, ?_, ?_⟩
    · cases p with
      | true =>
        refine ⟨_, rfl, rfl, _, rfl, ifP (by decide +kernel) ?_⟩
        exact ⟨_, rfl, d, _, rfl, lk_put hd, _, rfl, _, rfl, d, _, rfl, lk_sg hd, _, _, rfl, rfl, _, rfl, _, _, rfl, rfl, by omega, _, rfl, _, _, rfl, rfl, rfl, rfl⟩
      | false =>
        refine ⟨_, rfl, rfl, _, rfl, ifN (by decide +kernel) ?_⟩
        refine ⟨_, rfl, d, _, rfl, lk_got hd, _, rfl, _, rfl, d, _, rfl, lk_sp hd, rfl, ?_, rfl⟩
        rw [goes_get, show decide (V.int (c.sp : Int) = V.int (c.got : Int)) = decide (V.int (c.got : Int) = V.int (c.sp : Int)) from decide_eq_decide.mpr ⟨Eq.symm, Eq.symm⟩]
        rfl
    · rintro σ H1 ⟨rfl, rfl⟩
      refine ⟨_, rfl, _, rfl, .inr ⟨_, rfl, _, _, rfl, rfl, _, rfl, _, _, rfl, rfl, by omega, ?_⟩⟩
      dsimp only
      rw [turn_other hc p]
      refine ⟨_, rfl, _, rfl, _, rfl, .inl ⟨pw, _, _, _, rfl, rfl, SqL.of hw, atI_nat (hW.at (here_lt hc p)), _, rfl, _, rfl, .inl ⟨pw, _, _, _, rfl, rfl, SqL.of hw, atI_nat (hW.at (other_lt r1 hc p)), _, _, n, rfl, hW.wat (here_lt hc p), hW.wat (other_lt r1 hc p), hW.n4, fun q1 H2 nq e2 hq => ⟨small9 (by simp), fun t nt => ?_⟩⟩⟩⟩
      exact q t q1 _ (fresh_back e2 nt) nq (e2.trans (Ex.new nt)) upd_same ((Ex.new nt) _ _ hq)
def sp_l_can : Sp := fun vs H Q _ => ∃ (l d pw pl : Addr) (r n : Nat) (ws : List (List Bool)) (c : Co) (nx : Nat) (f : V), vs = [.ref l, .ref d] ∧ H l = some (.tup [.int (r : Int), .ref pw]) ∧ H pw = some (.lst (ws.map wv)) ∧ WW ws n r ∧ H d = some (.dK (LK pl c nx f)) ∧ CoOk r c ∧ ∀ (q : Addr) (es : List V) (H' : Hp), H q = none → Ex H H' → H' q = some (.lst es) → EvL H' es (canE r ws c) → Q (.ref q) H'
theorem canP_len {ws : List (List Bool)} {n r : Nat} {c : Co} (h : WW ws n r) (hc : CoOk r c) (p : Bool) : (canP r ws c p).length ≤ 17 := by
  have := mayW_len h hc p
  unfold canP
  simp
  omega
def canUp (r : Nat) (ws : List (List Bool)) (c : Co) : Nat → List Ev
  | 0 => [.look true, .look false]
  | 1 => [.look true, .look false] ++ canP r ws c true
  | _ => canE r ws c
theorem canUp_len {ws : List (List Bool)} {n r : Nat} {c : Co} (h : WW ws n r) (hc : CoOk r c) (i : Nat) : (canUp r ws c i).length ≤ 36 := by
  have h1 := canP_len h hc true
  have h2 := canP_len h hc false
  match i with
  | 0 => simp [canUp]
  | 1 => simp [canUp]; omega
  | _ + 2 => simp [canUp, canE]; omega
theorem ok_l_can (T : TX K mg) : FnOk P w K mg base CX0 4 T.f_l_can T.fd_l_can ["_law_lane_here", "_law_s"] sp_l_can := by
  refine T.F_l_can.ok sc_l_can (fun vs H Q E h => ?_) (fun cdv A outer s H vs Q E hr h => ?_)
  · obtain ⟨_, _, _, _, _, _, _, _, _, _, rfl, _⟩ := h
    rfl
  · obtain ⟨l, d, pw, pl, r, n, ws, c, nx, f, rfl, hl, hw, hW, hd, hc, q⟩ := h
    refine ⟨_, (pss_cons (ps_set (i := 2) sc_l_can.nd rfl (by first | exact Or.inl rfl | exact Or.inr rfl) (pe_lst (pa_cons (pe_tup (pa_cons pe_str (pa_cons pe_str pa_nil))) (pa_cons (pe_tup (pa_cons pe_str (pa_cons pe_str pa_nil))) pa_nil))))
 (pss_cons (ps_for PassesOwn.never rfl (pi_list (pe_lst (pa_cons pe_str (pa_cons pe_str pa_nil)))) (pg_name (i := 3) sc_l_can.nd rfl (by first | exact Or.inl rfl | exact Or.inr rfl))
 (pss_one (ps_set (i := 2) sc_l_can.nd rfl (by first | exact Or.inl rfl | exact Or.inr rfl) (pe_op op_cat (pe_op op_cat (pv 2) (pe_lst (pa_cons (pe_tup (pa_cons (pv 3) (pa_cons pe_non pa_nil))) pa_nil))) (pe_lc (own := [("_law_seen_here", 4)]) (g := gName 4) (by rfl) sc_l_can.nd (pi_list (pe_ix ix_tup (pe_call (ok_l_turn T) (hr.mono (by decide)) (by rfl) T.g_l_turn T.F_l_turn.kp T.b_l_turn .nil pass0 (pa_cons (pv 0) (pa_cons (pv 1) (pa_cons (pv 3) pa_nil)))) pe_int (fun _ _ => rfl))) (blkOk_by (own := [("_law_seen_here", 4)]) (N := ["_law_lane_here", "_law_s", "_law_found", "_law_word", "_law_seen_here"]) (sc := defScope s_l_can) (by decide +kernel)) (fun _ _ _ _ _ => pg_name (i := 4) sc_l_can.nd rfl (Or.inl rfl)) (fun _ _ _ _ _ => pts_nil) (fun _ _ _ _ _ => (pe_tup (pa_cons (pv 3) (pa_cons (pv 4) pa_nil)))))))))
 (pss_one (ps_ret (pv 2))))), ?_⟩
    refine ⟨small9 (by simp), fun t1 n1 => ⟨small9 (by simp), fun t2 n2 => ⟨small9 (by simp), fun q0 nq0 => ?_⟩⟩⟩
    have x1 := Ex.new (o := HO.tup [.str "look", .str "writer"]) n1
    have x2 := Ex.new (o := HO.tup [.str "look", .str "reader"]) n2
    have x3 := Ex.new (o := HO.lst [.ref t1, .ref t2]) nq0
    have e1 := (x1.trans x2).trans x3
    have nq0H := fresh_back (x1.trans x2) nq0
    have hq0 := upd_same (H := upd (upd H t1 (.tup [.str "look", .str "writer"])) t2 (.tup [.str "look", .str "reader"])) (a := q0) (o := HO.lst [.ref t1, .ref t2])
    have hE0 : EvL (upd (upd (upd H t1 (.tup [.str "look", .str "writer"])) t2 (.tup [.str "look", .str "reader"])) q0 (.lst [.ref t1, .ref t2])) [.ref t1, .ref t2] [.look true, .look false] := .cons ⟨t1, rfl, x3 _ _ (x2 _ _ upd_same)⟩ (.cons ⟨t2, rfl, x3 _ _ upd_same⟩ .nil)
    generalize upd (upd (upd H t1 (.tup [.str "look", .str "writer"])) t2 (.tup [.str "look", .str "reader"])) q0 (.lst [.ref t1, .ref t2]) = H1 at e1 hq0 hE0 ⊢
    clear x1 x2 x3
    refine ⟨small9 (by simp), fun wl nwl => ⟨wl, rfl, ⟨_, SqL.of upd_same⟩, ?_⟩⟩
    have ewl := Ex.new (o := HO.lst [.str "put", .str "get"]) nwl
    have nwlH := fresh_back e1 nwl
    refine for_it (walk_list (K := K) (a := wl) (xs := [.str "put", .str "get"])) (fun i σ H' => ∃ q1 es y3, σ = [some (.ref l), some (.ref d), some (.ref q1), y3, none] ∧ Ex H H' ∧ H' wl = some (.lst [.str "put", .str "get"]) ∧ H q1 = none ∧ H' q1 = some (.lst es) ∧ EvL H' es (canUp r ws c i)) ?_ ?_ ?_ ?_
    · exact ⟨q0, _, _, rfl, e1.trans ewl, upd_same, nq0H, ewl _ _ hq0, hE0.mono ewl⟩
    · rintro i σ H2 _ ⟨_, _, _, _, _, h, _⟩
      exact SqL.of h
    · rintro i v σ H2 H3 hi ⟨q1, es, y3, rfl, e2, hwl, nq1, hq1, hE⟩ ⟨rfl, hv⟩
      obtain ⟨p, rfl, hp⟩ : ∃ p, v = .str (pS p) ∧ canUp r ws c (i + 1) = canUp r ws c i ++ canP r ws c p := by
        match i, hi with
        | 0, _ => exact ⟨true, (Option.some.inj hv).symm, rfl⟩
        | 1, _ => exact ⟨false, (Option.some.inj hv).symm, rfl⟩
      refine ⟨_, rfl, _, rfl, small9 (by simp), fun t nt => ⟨small9 (by simp), fun b nb => ?_⟩⟩
      have x1 := Ex.new (o := HO.tup [.str (pS p), .non]) nt
      have x2 := Ex.new (o := HO.lst [.ref t]) nb
      have e12 := x1.trans x2
      have lb : es.length + 1 ≤ sizeLine := by
        rw [hE.len]
        have := canUp_len hW hc i
        exact small9 (by omega)
      refine ⟨q1, b, _, _, rfl, rfl, e12 _ _ hq1, upd_same, lb, fun o no => ?_⟩
      have e3 := (e2.trans e12).trans (Ex.new (o := HO.lst (es ++ [.ref t])) no)
      have ho := upd_same (H := upd (upd H3 t (.tup [.str (pS p), .non])) b (.lst [.ref t])) (a := o) (o := HO.lst (es ++ [.ref t]))
      have hEo : EvL (upd (upd (upd H3 t (.tup [.str (pS p), .non])) b (.lst [.ref t])) o (.lst (es ++ [.ref t]))) (es ++ [.ref t]) (canUp r ws c i ++ [.tp p none]) := paired_app (hE.mono (e12.trans (Ex.new no))) (.cons ⟨t, rfl, (Ex.new no) _ _ (x2 _ _ upd_same)⟩ .nil)
      have hwl3 := (e12.trans (Ex.new (o := HO.lst (es ++ [.ref t])) no)) _ _ hwl
      generalize upd (upd (upd H3 t (.tup [.str (pS p), .non])) b (.lst [.ref t])) o (.lst (es ++ [.ref t])) = H4 at e3 ho hEo hwl3 ⊢
      refine ⟨_, rfl, _, rfl, _, rfl, l, d, pw, pl, r, n, ws, c, nx, f, p, rfl, e3 _ _ hl, e3 _ _ hw, hW, e3 _ _ hd, hc, fun tt sq H5 ntt nsq e5 htt hsq => ?_⟩
      have hml := mayW_len hW hc p
      refine ⟨tt, _, _, _, rfl, rfl, SqT.of htt, rfl, sq, rfl, ⟨_, SqL.of hsq⟩, fun D nD => lcE (mayW r ws c p) wv (fun u => .tp p (some u)) (SqL.of hsq) (by omega) nD (fun _ => rfl) (fun u hu H6 e6 Y hY => ?_) (fun H6 ys e6 h6 hys => ?_)⟩
      · exact ⟨_, rfl, _, rfl, small9 (by simp), fun t6 n6 => hY _ _ n6 (Ex.new n6) upd_same⟩
      · have e36 := (e3.trans e5).trans e6
        have e46 := e5.trans e6
        have hcl := canUp_len hW hc i
        have l1 := hEo.len
        have l2 := hys.len
        rw [List.length_map] at l2
        refine ⟨o, D, _, _, rfl, rfl, e46 _ _ ho, h6, small9 (by rw [l1, l2]; simp; omega), fun o2 no2 => ?_⟩
        refine ⟨o2, _, _, rfl, e36.trans (Ex.new no2), (Ex.new no2) _ _ (e46 _ _ hwl3), fresh_back e36 no2, upd_same, ?_⟩
        rw [hp, show canUp r ws c i ++ canP r ws c p = (canUp r ws c i ++ [.tp p none]) ++ (mayW r ws c p).map fun u => .tp p (some u) by simp [canP]]
        exact paired_app (hEo.mono (e46.trans (Ex.new no2))) (hys.mono (Ex.new no2))
    · rintro σ H2 ⟨q1, es, y3, rfl, e2, hwl, nq1, hq1, hE⟩
      exact ⟨_, rfl, q q1 es H2 nq1 e2 hq1 hE⟩
def lV (ls : List Nat) : List V := ls.map fun k : Nat => V.int (k : Int)
def sp_l_do : Sp := fun vs H Q _ => ∃ (l d t pw pl : Addr) (r n : Nat) (ws : List (List Bool)) (c : Co) (nx : Nat) (f : V) (ls : List Nat) (e : Ev), vs = [.ref l, .ref d, .ref t] ∧ H l = some (.tup [.int (r : Int), .ref pw]) ∧ H pw = some (.lst (ws.map wv)) ∧ WW ws n r ∧ H d = some (.dK (LK pl c nx f)) ∧ H pl = some (.lst (lV ls)) ∧ ls.length ≤ 1000 ∧ CoOk r c ∧ Ins r c ls.length ∧ H t = some (.tup (evV e)) ∧
  ∀ (pl' : Addr) (H' : Hp), (pl' = pl ∨ H pl' = none) → Exd d H H' → H' d = some (.dK (LK pl' (cst r ws c e) (pMany r c nx e) (pFlt r c f e))) → H' pl' = some (.lst (lV (lLet r c nx ls e))) → Q (lAns r c nx ls e) H'
theorem oV_in (ws : List (List Bool)) (o : Option (List Bool)) : inV (oV o) (ws.map wv) = (match o with | none => false | some u => decide (u ∈ ws)) := by
  cases o with
  | some u => exact inV_wv u ws
  | none =>
    show inV .non (ws.map wv) = false
    unfold inV
    rw [List.any_map, List.any_eq_false]
    intro x _ h
    cases h
theorem oV_flat (o : Option (List Bool)) : flatV (oV o) = true := by cases o <;> rfl
def lM2 (l d t pw pl : Addr) (r : Nat) (ws : List (List Bool)) (c : Co) (nx : Nat) (f : V) (ls : List Nat) (p : Bool) (o : Option (List Bool)) (H : Hp) (σ : L2.St) (H' : Hp) : Prop :=
  ∃ (pl' : Addr) (c1 : Co), (pl' = pl ∨ H pl' = none) ∧ σ = [some (.ref l), some (.ref d), some (.ref t), some (.int (r : Int)), some (.ref pw), some (.bl (goes r c p)), some (.int (insd r c)), some (lAns r c nx ls (.tp p o)), none] ∧ Exd d H H' ∧ H' d = some (.dK (LK pl' c1 (pMany r c nx (.tp p o)) f)) ∧ H' pl' = some (.lst (lV (lLet r c nx ls (.tp p o)))) ∧ sees ws p o c1 = cst r ws c (.tp p o)
theorem ok_l_do (T : TX K mg) : FnOk P w K mg base CX0 4 T.f_l_do T.fd_l_do ["_law_lane_here", "_law_s", "_law_event"] sp_l_do := by
  refine T.F_l_do.ok sc_l_do (fun vs H Q E h => ?_) (fun cdv A outer s H vs Q E hr h => ?_)
  · obtain ⟨_, _, _, _, _, _, _, _, _, _, _, _, _, rfl, _⟩ := h
    rfl
  · obtain ⟨l, d, t, pw, pl, r, n, ws, c, nx, f, ls, e, rfl, hl, hw, hW, hd, hpl, hll, hc, hI, ht, q⟩ := h
    have r1 := hW.r1
    have npl : pl ≠ d := by
      rintro rfl
      rw [hd] at hpl
      cases hpl
    have nw : pw ≠ d := by
      rintro rfl
      rw [hd] at hw
      cases hw
    have nt : t ≠ d := by
      rintro rfl
      rw [hd] at ht
      cases ht
    have nl : l ≠ d := by
      rintro rfl
      rw [hd] at hl
      cases hl
    refine ⟨_, (pss_cons (ps_asg (pv 0) (pg_tup (by rfl) (pgs_cons (pg_name (i := 3) sc_l_do.nd rfl (by first | exact Or.inl rfl | exact Or.inr rfl)) (pgs_cons (pg_name (i := 4) sc_l_do.nd rfl (by first | exact Or.inl rfl | exact Or.inr rfl)) pgs_nil))))
 (pss_cons (ps_if (pt_cmpR op_eq (pe_ix ix_tup (pv 2) pe_int (fun _ _ => rfl)) pe_str (nomark _))
 (pss_cut (ps_if (pt_cmpR op_eq (pe_ix ix_tup (pv 2) pe_int (fun _ _ => rfl)) pe_str (nomark _))
 (pss_one (ps_dput (hu_of hr) (pv 1) pe_str (pe_dget (hu_of hr) (pv 1) pe_str (fun _ _ => rfl)) rfl))
 (pss_one (ps_dput (hu_of hr) (pv 1) pe_str (pe_dget (hu_of hr) (pv 1) pe_str (fun _ _ => rfl)) rfl)))
 (pss_one (ps_ret pe_non)))
 pss_nil)
 (pss_cons (ps_set (i := 5) sc_l_do.nd rfl (by first | exact Or.inl rfl | exact Or.inr rfl) (pe_ix ix_tup (pe_call (ok_l_turn T) (hr.mono (by decide)) (by rfl) T.g_l_turn T.F_l_turn.kp T.b_l_turn .nil pass0 (pa_cons (pv 0) (pa_cons (pv 1) (pa_cons (pe_ix ix_tup (pv 2) pe_int (fun _ _ => rfl)) pa_nil)))) pe_int (fun _ _ => rfl)))
 (pss_cons (ps_set (i := 6) sc_l_do.nd rfl (by first | exact Or.inl rfl | exact Or.inr rfl) (pe_op op_mod (pe_op op_sub (pe_dget (hu_of hr) (pv 1) pe_str (fun _ _ => rfl)) (pe_dget (hu_of hr) (pv 1) pe_str (fun _ _ => rfl))) (pe_op op_mul pe_int (pv 3))))
 (pss_cut (ps_if (PW.pt (pw_and (pt_val (pv 5)) (pw_and1 (pt_cmpR op_eq (pv 6) (pe_ix ix_list (pe_lst (pa_cons pe_int (pa_cons (pv 3) pa_nil))) (pe_callTy call_int1 (by rfl) T.z_int (by decide +kernel) (pa_cons (pe_cmpR op_eq (pe_ix ix_tup (pv 2) pe_int (fun _ _ => rfl)) pe_str (nomark _)) pa_nil)) (fun _ _ => rfl)) (nomark _)))))
 (pss_cons (ps_dput (hu_of hr) (pv 1) pe_str (pe_ix ix_list (pe_lst (pa_cons pe_str (pa_cons pe_str pa_nil))) (pe_callTy call_int1 (by rfl) T.z_int (by decide +kernel) (pa_cons (pe_cmpR op_eq (pe_ix ix_tup (pv 2) pe_int (fun _ _ => rfl)) pe_str (nomark _)) pa_nil)) (fun _ _ => rfl)) rfl)
 (pss_one (ps_ret (pe_dget (hu_of hr) (pv 1) pe_str (fun _ _ => rfl)))))
 pss_nil)
 (pss_cons (ps_set (i := 7) sc_l_do.nd rfl (by first | exact Or.inl rfl | exact Or.inr rfl) pe_non)
 (pss_cut (ps_if (PW.pt (pw_and (pt_val (pv 5)) (pw_and1 (pt_cmpR op_eq (pe_ix ix_tup (pv 2) pe_int (fun _ _ => rfl)) pe_str (nomark _)))))
 (pss_cons (ps_set (i := 7) sc_l_do.nd rfl (by first | exact Or.inl rfl | exact Or.inr rfl) (pe_dget (hu_of hr) (pv 1) pe_str (fun _ _ => rfl)))
 (pss_cons (ps_dput (hu_of hr) (pv 1) pe_str (pe_op op_add (pv 7) pe_int) rfl)
 (pss_cons (ps_dput (hu_of hr) (pv 1) pe_str (pe_op op_cat (pe_dget (hu_of hr) (pv 1) pe_str (fun _ _ => rfl)) (pe_lst (pa_cons (pv 7) pa_nil))) rfl)
 (pss_one (ps_dput (hu_of hr) (pv 1) pe_str (pe_op op_mod (pe_op op_add (pe_dget (hu_of hr) (pv 1) pe_str (fun _ _ => rfl)) pe_int) (pe_op op_mul pe_int (pv 3))) rfl)))))
 pss_nil)
 (pss_cut (ps_if (PW.pt (pw_and (pt_val (pv 5)) (pw_and1 (pt_cmpR op_eq (pe_ix ix_tup (pv 2) pe_int (fun _ _ => rfl)) pe_str (nomark _)))))
 (pss_cons (ps_set (i := 7) sc_l_do.nd rfl (by first | exact Or.inl rfl | exact Or.inr rfl) (pe_ix ix_list (pe_dget (hu_of hr) (pv 1) pe_str (fun _ _ => rfl)) pe_int (fun _ _ => rfl)))
 (pss_cons (ps_dput (hu_of hr) (pv 1) pe_str (pe_slice sl_list (pe_dget (hu_of hr) (pv 1) pe_str (fun _ _ => rfl)) (po_some pe_int) po_none) rfl)
 (pss_one (ps_dput (hu_of hr) (pv 1) pe_str (pe_op op_mod (pe_op op_add (pe_dget (hu_of hr) (pv 1) pe_str (fun _ _ => rfl)) pe_int) (pe_op op_mul pe_int (pv 3))) rfl))))
 pss_nil)
 (pss_cut (ps_if (pt_cmpR op_in_seq (pe_ix ix_tup (pv 2) pe_int (fun _ _ => rfl)) (pv 4) (by rfl))
 (pss_cons (ps_set (i := 8) sc_l_do.nd rfl (by first | exact Or.inl rfl | exact Or.inr rfl) (pe_ix ix_list (pe_lst (pa_cons pe_str (pa_cons pe_str pa_nil))) (pe_callTy call_int1 (by rfl) T.z_int (by decide +kernel) (pa_cons (pe_cmpR op_eq (pe_ix ix_tup (pv 2) pe_int (fun _ _ => rfl)) pe_str (nomark _)) pa_nil)) (fun _ _ => rfl)))
 (pss_one (ps_dput (hu_of hr) (pv 1) (pv 8) (pe_bm PySem.F.plainAttrs_list PySem.F.slot_list_index PySem.F.type_list_index mt_index (pv 4) (pa_cons (pe_ix ix_tup (pv 2) pe_int (fun _ _ => rfl)) pa_nil)) rfl)))
 pss_nil)
 (pss_one (ps_ret (pv 7)))))))))))), ?_⟩
    refine ⟨_, rfl, l, _, rfl, SqT.of hl, rfl, _, _, rfl, _, _, rfl, rfl, ?_⟩
    cases e with
    | look b =>
      refine ⟨_, rfl, t, _, _, _, rfl, rfl, SqT.of ht, rfl, rfl, _, rfl, ifP (by decide +kernel) ?_⟩
      refine ⟨fun σ H' => Exd d H H' ∧ H' d = some (.dK (LK pl (cst r ws c (.look b)) nx f)) ∧ H' pl = some (.lst (lV ls)), ?_, ?_⟩
      · cases b with
        | true =>
          refine ⟨_, rfl, t, _, _, _, rfl, rfl, SqT.of ht, rfl, rfl, _, rfl, ifP (by decide +kernel) ?_⟩
          refine ⟨_, rfl, d, _, rfl, lk_got hd, _, rfl, d, _, rfl, ls_sg hd, (Exd.refl d H).upd, upd_same, ?_⟩
          rw [upd_ne npl]
          exact hpl
        | false =>
          refine ⟨_, rfl, t, _, _, _, rfl, rfl, SqT.of ht, rfl, rfl, _, rfl, ifN (by decide +kernel) ?_⟩
          refine ⟨_, rfl, d, _, rfl, lk_put hd, _, rfl, d, _, rfl, ls_sp hd, (Exd.refl d H).upd, upd_same, ?_⟩
          rw [upd_ne npl]
          exact hpl
      · rintro σ H1 ⟨e1, hd1, hp1⟩
        exact q pl H1 (.inl rfl) e1 hd1 hp1
    | tp p o =>
      refine ⟨_, rfl, t, _, _, _, rfl, rfl, SqT.of ht, rfl, rfl, _, rfl, ifN (by cases p <;> decide +kernel) ?_⟩
      refine ⟨_, rfl, _, rfl, _, rfl, t, _, _, _, rfl, rfl, SqT.of ht, rfl, l, d, pw, pl, r, n, ws, c, nx, f, p, rfl, hl, hw, hW, hd, hc, fun tt sq H1 ntt nsq e1 htt hsq => ?_⟩
      refine ⟨tt, _, _, _, rfl, rfl, SqT.of htt, rfl, ?_⟩
      have hd1 := e1 _ _ hd
      have ht1 := e1 _ _ ht
      have hw1 := e1 _ _ hw
      have hpl1 := e1 _ _ hpl
      refine ⟨_, rfl, d, _, rfl, lk_put hd1, _, rfl, d, _, rfl, lk_got hd1, _, _, rfl, rfl, _, rfl, _, _, rfl, rfl, .inl ⟨by decide, by decide⟩, _, _, rfl, rfl, by omega, ?_⟩
      have hpd : decide (V.str (pS p) = V.str "put") = p := by cases p <;> decide +kernel
      have hgd : decide (V.str (pS p) = V.str "get") = !p := by cases p <;> decide +kernel
      have hz : atI [V.int 0, V.int (r : Int)] (if p = true then 1 else 0) = some (.int (if p = true then (r : Int) else 0)) := by cases p <;> rfl
      refine ⟨fun σ H' => σ = [some (.ref l), some (.ref d), some (.ref t), some (.int (r : Int)), some (.ref pw), some (.bl (goes r c p)), some (.int (insd r c)), none, none] ∧ Ex H H' ∧ (goes r c p = true → bad r c p = false), ?_, ?_⟩
      · refine ⟨_, rfl, _, rfl, ?_⟩
        cases hg : goes r c p with
        | false => exact ifN (by simp) (ifN (by simp) ⟨rfl, e1, fun h => by cases h⟩)
        | true =>
          refine ifP rfl ⟨_, rfl, _, rfl, small9 (by simp), fun p2 n2 => ?_⟩
          have x2 := Ex.new (o := HO.lst [.int 0, .int (r : Int)]) n2
          refine ⟨_, rfl, t, _, _, _, rfl, rfl, SqT.of (x2 _ _ ht1), rfl, rfl, .inr ⟨_, rfl, p2, _, _, .int (if p = true then (r : Int) else 0), rfl, rfl, SqL.of upd_same, ?_, rfl, _, rfl, ?_⟩⟩
          · rw [hpd]
            exact hz
          rw [int_dec]
          have hbd : decide (((c.put : Int) - (c.got : Int)) % (2 * (r : Int)) = (if p = true then (r : Int) else 0)) = bad r c p := by
            cases p <;> rfl
          rw [hbd]
          cases hb : bad r c p with
          | false => exact ifN (by simp) ⟨rfl, e1.trans x2, fun _ => rfl⟩
          | true =>
            refine ifP rfl ⟨small9 (by simp), fun p3 n3 => ?_⟩
            have x3 := Ex.new (o := HO.lst [.str "under", .str "over"]) n3
            have e13 := (e1.trans x2).trans x3
            have hz3 : atI [V.str "under", V.str "over"] (if p = true then 1 else 0) = some (fltV (some p)) := by cases p <;> rfl
            refine ⟨_, rfl, t, _, _, _, rfl, rfl, SqT.of (e13 _ _ ht), rfl, rfl, .inr ⟨_, rfl, p3, _, _, fltV (some p), rfl, rfl, SqL.of upd_same, ?_, ?_⟩⟩
            · rw [hpd]
              exact hz3
            refine ⟨_, rfl, d, _, rfl, ls_over (e13 _ _ hd), ?_⟩
            refine ⟨_, rfl, d, _, rfl, lk_over upd_same, ?_⟩
            have hA : lAns r c nx ls (.tp p o) = fltV (some p) := by
              unfold lAns
              rw [movs_bad hb, flt_bad hg hb]
            rw [hA] at q
            refine q pl _ (.inl rfl) (Exd.of e13).upd ?_ ?_
            · rw [upd_same, cst_bad hg hb, pFlt_some (flt_bad hg hb)]
              unfold pMany
              rw [movs_bad hb]
              rfl
            · rw [upd_ne npl, e13 _ _ hpl]
              unfold lLet
              rw [movs_bad hb]
      · rintro σ H2 ⟨rfl, e2, hgb⟩
        have hd2 := e2 _ _ hd
        have ht2 := e2 _ _ ht
        have hw2 := e2 _ _ hw
        have hpl2 := e2 _ _ hpl
        refine ⟨fun σ H' => (p = true ∧ lM2 l d t pw pl r ws c nx f ls p o H σ H') ∨ (p = false ∧ σ = [some (.ref l), some (.ref d), some (.ref t), some (.int (r : Int)), some (.ref pw), some (.bl (goes r c p)), some (.int (insd r c)), some .non, none] ∧ H' = H2), ?_, ?_⟩
        · refine ⟨_, rfl, _, rfl, ?_⟩
          cases hg : goes r c p with
          | false =>
            refine ifN (by simp) (ifN (by simp) ?_)
            cases p with
            | true =>
              refine .inl ⟨rfl, pl, c, .inl rfl, ?_, Exd.of e2, ?_, ?_, (cst_stay hg).symm⟩
              · unfold lAns
                rw [movs_stay hg, flt_stay hg, hg]
                rfl
              · unfold pMany
                rw [movs_stay hg]
                exact hd2
              · unfold lLet
                rw [movs_stay hg]
                exact hpl2
            | false => exact .inr ⟨rfl, rfl, rfl⟩
          | true =>
            have hb := hgb hg
            refine ifP rfl ⟨_, rfl, t, _, _, _, rfl, rfl, SqT.of ht2, rfl, rfl, _, rfl, ?_⟩
            cases p with
            | false => exact ifN (by decide +kernel) (.inr ⟨rfl, rfl, rfl⟩)
            | true =>
              refine ifP (by decide +kernel) ⟨_, rfl, d, _, rfl, lk_next hd2, ?_⟩
              refine ⟨_, rfl, _, _, rfl, rfl, _, rfl, d, _, rfl, ls_next (z := nx + 1) hd2, ?_⟩
              have hd3 := upd_same (H := H2) (a := d) (o := HO.dK (LK pl c (nx + 1) f))
              have e3 := (Exd.of (d := d) e2).upd (o := HO.dK (LK pl c (nx + 1) f))
              generalize upd H2 d (.dK (LK pl c (nx + 1) f)) = H3 at hd3 e3 ⊢
              refine ⟨_, rfl, d, _, rfl, lk_letters hd3, _, rfl, small9 (by simp), fun b nb => ⟨pl, b, lV ls, _, rfl, rfl, ?_, upd_same, ?_, fun o2 no2 => ?_⟩⟩
              · exact (Ex.new nb) _ _ (e3 _ _ hpl npl)
              · simp [lV]
                exact small9 (by have := hI.2; have := hW.r6; omega)
              have x4 := (Ex.new (o := HO.lst [.int (nx : Int)]) nb).trans (Ex.new (o := HO.lst (lV ls ++ [.int (nx : Int)])) no2)
              have ho2 := upd_same (H := upd H3 b (.lst [.int (nx : Int)])) (a := o2) (o := HO.lst (lV ls ++ [.int (nx : Int)]))
              have hd4 := x4 _ _ hd3
              have e4 := e3.trans (Exd.of x4)
              generalize upd (upd H3 b (.lst [.int (nx : Int)])) o2 (.lst (lV ls ++ [.int (nx : Int)])) = H4 at ho2 hd4 e4 ⊢
              have nod : o2 ≠ d := by
                rintro rfl
                rw [hd4] at ho2
                cases ho2
              refine ⟨_, rfl, d, _, rfl, ls_letters hd4, ?_⟩
              refine ⟨_, rfl, d, _, rfl, lk_put upd_same, _, _, rfl, rfl, _, rfl, _, _, rfl, rfl, .inl ⟨by decide, by decide⟩, _, _, rfl, rfl, by omega, ?_⟩
              dsimp only
              rw [← nxt_int]
              refine ⟨_, rfl, d, _, rfl, ls_put upd_same, .inl ⟨rfl, o2, adv r c true, .inr (e3.fresh (fresh_back (Ex.new nb) no2) nod), ?_, e4.upd.upd, ?_, ?_, (cst_go hg hb).symm⟩⟩
              · unfold lAns
                rw [movs_go hg hb, hg]
                rfl
              · rw [upd_same]
                unfold pMany
                rw [movs_go hg hb]
                rfl
              · rw [upd_ne nod, upd_ne nod, ho2]
                unfold lLet
                rw [movs_go hg hb]
                simp [lV]
        · rintro σ H3 h3
          refine ⟨fun σ H' => lM2 l d t pw pl r ws c nx f ls p o H σ H', ?_, ?_⟩
          · rcases h3 with ⟨rfl, pl', c1, hor, rfl, h4⟩ | ⟨rfl, rfl, rfl⟩
            · obtain ⟨e3, hd3, hp3, hs3⟩ := h4
              refine ⟨_, rfl, _, rfl, ?_⟩
              have fin : lM2 l d t pw pl r ws c nx f ls true o H [some (.ref l), some (.ref d), some (.ref t), some (.int (r : Int)), some (.ref pw), some (.bl (goes r c true)), some (.int (insd r c)), some (lAns r c nx ls (.tp true o)), none] H3 := ⟨pl', c1, hor, rfl, e3, hd3, hp3, hs3⟩
              refine ite2 (fun _ => ?_) (fun _ => ifN (by simp) fin)
              exact ⟨_, rfl, t, _, _, _, rfl, rfl, SqT.of (e3 _ _ ht nt), rfl, rfl, _, rfl, ifN (by decide +kernel) fin⟩
            · refine ⟨_, rfl, _, rfl, ?_⟩
              cases hg : goes r c false with
              | false =>
                refine ifN (by simp) (ifN (by simp) ?_)
                refine ⟨pl, c, .inl rfl, ?_, Exd.of e2, ?_, ?_, (cst_stay hg).symm⟩
                · unfold lAns
                  rw [movs_stay hg, flt_stay hg, hg]
                  rfl
                · unfold pMany
                  rw [movs_stay hg]
                  exact hd2
                · unfold lLet
                  rw [movs_stay hg]
                  exact hpl2
              | true =>
                have hb := hgb hg
                refine ifP rfl ⟨_, rfl, t, _, _, _, rfl, rfl, SqT.of ht2, rfl, rfl, _, rfl, ifP (by decide +kernel) ?_⟩
                obtain ⟨_, hk⟩ := ins_get r1 hW.r6 hI hb
                match ls, hk, hll, hI, hpl, hpl2, q with
                | y :: ys, _, hll, hI, hpl, hpl2, q =>
                  refine ⟨_, rfl, d, _, rfl, lk_letters hd2, pl, _, _, .int (y : Int), rfl, rfl, SqL.of hpl2, atI_nat (j := 0) rfl, ?_⟩
                  refine ⟨_, rfl, d, _, rfl, lk_letters hd2, _, rfl, pl, _, rfl, SqL.of hpl2, fun o2 no2 => ?_⟩
                  have hcut : cutV (lV (y :: ys)) (some 1) none = lV ys := (cutDrop (n := 1)).trans rfl
                  have x4 := Ex.new (o := HO.lst (cutV (lV (y :: ys)) (some 1) none)) no2
                  have ho2 := upd_same (H := H3) (a := o2) (o := HO.lst (cutV (lV (y :: ys)) (some 1) none))
                  have hd4 := x4 _ _ hd2
                  have e4 := Exd.of (d := d) (e2.trans x4)
                  generalize upd H3 o2 (.lst (cutV (lV (y :: ys)) (some 1) none)) = H4 at ho2 hd4 e4 ⊢
                  rw [hcut] at ho2
                  have nod : o2 ≠ d := by
                    rintro rfl
                    rw [hd4] at ho2
                    cases ho2
                  refine ⟨_, rfl, d, _, rfl, ls_letters hd4, ?_⟩
                  refine ⟨_, rfl, d, _, rfl, lk_got upd_same, _, _, rfl, rfl, _, rfl, _, _, rfl, rfl, .inl ⟨by decide, by decide⟩, _, _, rfl, rfl, by omega, ?_⟩
                  dsimp only
                  rw [← nxt_int]
                  refine ⟨_, rfl, d, _, rfl, ls_got upd_same, o2, adv r c false, .inr (fresh_back e2 no2), ?_, e4.upd.upd, ?_, ?_, (cst_go hg hb).symm⟩
                  · unfold lAns
                    rw [movs_go hg hb, hg]
                    rfl
                  · rw [upd_same]
                    unfold pMany
                    rw [movs_go hg hb]
                    rfl
                  · rw [upd_ne nod, upd_ne nod, ho2]
                    unfold lLet
                    rw [movs_go hg hb]
                    rfl
          · rintro σ H4 ⟨pl', c1, hor, rfl, e4, hd4, hp4, hs4⟩
            have hw4 := e4 _ _ hw nw
            have ht4 := e4 _ _ ht nt
            have hfl : flt r c (.tp p o) = none := by
              cases hg : goes r c p with
              | false => exact flt_stay hg
              | true => exact flt_go (hgb hg)
            rw [pFlt_none hfl] at q
            refine ⟨fun σ H' => ∃ y8, σ = [some (.ref l), some (.ref d), some (.ref t), some (.int (r : Int)), some (.ref pw), some (.bl (goes r c p)), some (.int (insd r c)), some (lAns r c nx ls (.tp p o)), y8] ∧ Exd d H H' ∧ H' d = some (.dK (LK pl' (cst r ws c (.tp p o)) (pMany r c nx (.tp p o)) f)) ∧ H' pl' = some (.lst (lV (lLet r c nx ls (.tp p o)))), ?_, ?_⟩
            · refine ⟨_, rfl, t, _, _, _, rfl, rfl, SqT.of ht4, rfl, _, rfl, pw, _, rfl, .inl (SqL.of hw4), oV_flat o, flatW _, _, rfl, ?_⟩
              show if inV (oV o) (ws.map wv) = true then _ else _
              rw [oV_in]
              rw [← hs4]
              have npd : pl' ≠ d := by
                rintro rfl
                rw [hd4] at hp4
                cases hp4
              cases o with
              | none => exact ifN (by simp) ⟨_, rfl, e4, hd4, hp4⟩
              | some u =>
                by_cases hm : u ∈ ws
                · refine ifP (decide_eq_true hm) ⟨small9 (by simp), fun p3 n3 => ?_⟩
                  have x3 := Ex.new (o := HO.lst [.str "seen_got", .str "seen_put"]) n3
                  have hz3 : atI [V.str "seen_got", V.str "seen_put"] (if p = true then 1 else 0) = some (.str (if p = true then "seen_put" else "seen_got")) := by cases p <;> rfl
                  refine ⟨_, rfl, t, _, _, _, rfl, rfl, SqT.of (x3 _ _ ht4), rfl, rfl, .inr ⟨_, rfl, p3, _, _, .str (if p = true then "seen_put" else "seen_got"), rfl, rfl, SqL.of upd_same, ?_, ?_⟩⟩
                  · rw [hpd]
                    exact hz3
                  have hd5 := x3 _ _ hd4
                  have hp5 := x3 _ _ hp4
                  have ht5 := x3 _ _ ht4
                  have hw5 := x3 _ _ hw4
                  have e5 := e4.trans (Exd.of x3)
                  generalize upd H4 p3 (.lst [.str "seen_got", .str "seen_put"]) = H5 at hd5 hp5 ht5 hw5 e5 ⊢
                  obtain ⟨g1, g2⟩ := idx_spec hm
                  refine ⟨_, rfl, .inl ⟨rfl, _, SqL.of hw5⟩, _, rfl, t, _, _, _, rfl, rfl, SqT.of ht5, rfl, pw, _, _, _, _, rfl, rfl, SqL.of hw5, rfl, flatW _, g1, by simp [eqV, oV], g2, _, rfl, _, rfl, ?_⟩
                  cases p with
                  | true =>
                    refine ⟨d, _, rfl, ls_sp hd5, _, rfl, e5.upd, ?_, ?_⟩
                    · rw [upd_same]
                      unfold sees
                      simp only [if_pos hm]
                    · rw [upd_ne npd]
                      exact hp5
                  | false =>
                    refine ⟨d, _, rfl, ls_sg hd5, _, rfl, e5.upd, ?_, ?_⟩
                    · rw [upd_same]
                      unfold sees
                      simp only [if_pos hm]
                    · rw [upd_ne npd]
                      exact hp5
                · refine ifN (by simpa using hm) ⟨_, rfl, e4, ?_, hp4⟩
                  rw [hd4]
                  unfold sees
                  simp only [if_neg hm]
            · rintro σ H6 ⟨y8, rfl, e6, hd6, hp6⟩
              exact ⟨_, rfl, q pl' H6 hor e6 hd6 hp6⟩
def sp_Lane_events (C : Addr) : Sp := fun vs H Q _ => ∃ (x : Addr) (r : Nat) (pw pb : Addr) (c : Co) (m : Nat) (f : V) (ws : List (List Bool)) (n : Nat), vs = [.ref x] ∧ Ln C r pw pb H x c m f ∧ H pw = some (.lst (ws.map wv)) ∧ WW ws n r ∧ CoOk r c ∧ ∀ (q : Addr) (es : List V) (H' : Hp), H q = none → Ex H H' → H' q = some (.lst es) → EvL H' es (canE r ws c) → Q (.ref q) H'
theorem ok_Lane_events (T : TX K mg) : FnOk P w K mg base CX0 3 T.f_Lane_events T.fd_Lane_events ["self"] (sp_Lane_events T.C_Lane) := by
  refine T.F_Lane_events.ok sc_Lane_events (fun vs H Q E h => ?_) (fun cdv A outer s H vs Q E hr h => ?_)
  · obtain ⟨_, _, _, _, _, _, _, _, _, rfl, _⟩ := h
    rfl
  · obtain ⟨x, r, pw, pb, c, m, f, ws, n, rfl, ⟨dx, hx⟩, hw, hW, hc, q⟩ := h
    refine ⟨_, (pss_cons (ps_set (i := 1) sc_Lane_events.nd rfl (by first | exact Or.inl rfl | exact Or.inr rfl) (pe_lst (pa_cons (pe_tup (pa_cons pe_str (pa_cons pe_str pa_nil))) (pa_cons (pe_tup (pa_cons pe_str (pa_cons pe_str pa_nil))) pa_nil))))
 (pss_cons (ps_for PassesOwn.never rfl (pi_tup (pe_tup (pa_cons pe_str (pa_cons pe_str pa_nil)))) (pg_name (i := 2) sc_Lane_events.nd rfl (by first | exact Or.inl rfl | exact Or.inr rfl))
 (pss_cons (ps_asg (pe_meth (pv 0) T.cl_Lane T.m_Lane_turns (ok_Lane_turns T) (hr.mono (by decide)) T.b_Lane_turns .nil pass0 (pa_cons (pv 2) pa_nil)) (pg_tup (by rfl) (pgs_cons (pg_name (i := 3) sc_Lane_events.nd rfl (by first | exact Or.inl rfl | exact Or.inr rfl)) (pgs_cons (pg_name (i := 4) sc_Lane_events.nd rfl (by first | exact Or.inl rfl | exact Or.inr rfl)) pgs_nil))))
 (pss_one (ps_expr (pe_bm PySem.F.plainAttrs_list PySem.F.slot_list_extend PySem.F.type_list_extend mt_extend (pv 1) (pa_cons (pe_op op_cat (pe_lst (pa_cons (pe_tup (pa_cons (pv 2) (pa_cons pe_non pa_nil))) pa_nil)) (pe_lc (own := [("seen", 5)]) (g := gName 5) (by rfl) sc_Lane_events.nd (pi_list (pe_call (ok_seen_of T) (hr.mono (by decide)) (by rfl) T.g_seen_of T.F_seen_of.kp T.b_seen_of .nil pass0 (pa_cons (pv 3) (pa_cons (pv 4) pa_nil)))) (blkOk_by (own := [("seen", 5)]) (N := ["self", "found", "word", "one", "other", "seen"]) (sc := defScope s_Lane_events) (by decide +kernel)) (fun _ _ _ _ _ => pg_name (i := 5) sc_Lane_events.nd rfl (Or.inl rfl)) (fun _ _ _ _ _ => pts_nil) (fun _ _ _ _ _ => (pe_tup (pa_cons (pv 2) (pa_cons (pv 5) pa_nil)))))) pa_nil))))))
 (pss_one (ps_ret (pv 1))))), ?_⟩
    refine ⟨small9 (by simp), fun t1 n1 => ⟨small9 (by simp), fun t2 n2 => ⟨small9 (by simp), fun q0 nq0 => ?_⟩⟩⟩
    have x1 := Ex.new (o := HO.tup [.str "look", .str "writer"]) n1
    have x2 := Ex.new (o := HO.tup [.str "look", .str "reader"]) n2
    have x3 := Ex.new (o := HO.lst [.ref t1, .ref t2]) nq0
    have e1 := (x1.trans x2).trans x3
    have nq0H := fresh_back (x1.trans x2) nq0
    have hq0 := upd_same (H := upd (upd H t1 (.tup [.str "look", .str "writer"])) t2 (.tup [.str "look", .str "reader"])) (a := q0) (o := HO.lst [.ref t1, .ref t2])
    have hE0 : EvL (upd (upd (upd H t1 (.tup [.str "look", .str "writer"])) t2 (.tup [.str "look", .str "reader"])) q0 (.lst [.ref t1, .ref t2])) [.ref t1, .ref t2] [.look true, .look false] := .cons ⟨t1, rfl, x3 _ _ (x2 _ _ upd_same)⟩ (.cons ⟨t2, rfl, x3 _ _ upd_same⟩ .nil)
    generalize upd (upd (upd H t1 (.tup [.str "look", .str "writer"])) t2 (.tup [.str "look", .str "reader"])) q0 (.lst [.ref t1, .ref t2]) = H1 at e1 hq0 hE0 ⊢
    clear x1 x2 x3
    refine ⟨small9 (by simp), fun wl nwl => ⟨wl, rfl, ⟨_, SqT.of upd_same⟩, ?_⟩⟩
    have ewl := Ex.new (o := HO.tup [.str "put", .str "get"]) nwl
    refine for_it (walk_tup (K := K) (a := wl) (xs := [.str "put", .str "get"])) (fun i σ H' => ∃ es y2 y3 y4, σ = [some (.ref x), some (.ref q0), y2, y3, y4, none] ∧ Ex H H' ∧ H' wl = some (.tup [.str "put", .str "get"]) ∧ H' q0 = some (.lst es) ∧ EvL H' es (canUp r ws c i)) ?_ ?_ ?_ ?_
    · exact ⟨_, _, _, _, rfl, e1.trans ewl, upd_same, ewl _ _ hq0, hE0.mono ewl⟩
    · rintro i σ H2 _ ⟨_, _, _, _, _, _, h, _⟩
      exact SqT.of h
    · rintro i v σ H2 H3 hi ⟨es, y2, y3, y4, rfl, e2, hwl, hq1, hE⟩ ⟨rfl, hv⟩
      obtain ⟨p, rfl, hp⟩ : ∃ p, v = .str (pS p) ∧ canUp r ws c (i + 1) = canUp r ws c i ++ canP r ws c p := by
        match i, hi with
        | 0, _ => exact ⟨true, (Option.some.inj hv).symm, rfl⟩
        | 1, _ => exact ⟨false, (Option.some.inj hv).symm, rfl⟩
      have hx2 := e2 _ _ hx
      have hw2 := e2 _ _ hw
      refine ⟨_, rfl, x, dx, _, rfl, hx2, rfl, _, rfl, x, r, pw, pb, c, m, f, ws, n, p, rfl, ⟨dx, hx2⟩, hw2, hW, hc, fun tt H4 ntt e4 htt => ?_⟩
      refine ⟨tt, _, rfl, SqT.of htt, rfl, _, _, rfl, _, _, rfl, rfl, ?_⟩
      have hq4 := e4 _ _ hq1
      refine ⟨_, rfl, .inl ⟨rfl, _, SqL.of hq4⟩, ?_⟩
      refine ⟨_, rfl, small9 (by simp), fun t nt => ⟨small9 (by simp), fun b nb => ?_⟩⟩
      have y1 := Ex.new (o := HO.tup [.str (pS p), .non]) nt
      have y2' := Ex.new (o := HO.lst [.ref t]) nb
      have e5 := (e2.trans e4).trans (y1.trans y2')
      have hb5 := upd_same (H := upd H4 t (.tup [.str (pS p), .non])) (a := b) (o := HO.lst [.ref t])
      have ht5 := y2' _ _ (upd_same (H := H4) (a := t) (o := HO.tup [.str (pS p), .non]))
      have hq5 := (y1.trans y2') _ _ hq4
      have hE5 := (hE.mono e4).mono (y1.trans y2')
      have hwl5 := (e4.trans (y1.trans y2')) _ _ hwl
      generalize upd (upd H4 t (.tup [.str (pS p), .non])) b (.lst [.ref t]) = H5 at e5 hb5 ht5 hq5 hE5 hwl5 ⊢
      refine ⟨_, rfl, _, rfl, _, _, n, rfl, hW.wat (here_lt hc p), hW.wat (other_lt hW.r1 hc p), hW.n4, fun sq H6 nsq e6 hsq => ?_⟩
      have hml := mayW_len hW hc p
      refine ⟨sq, rfl, ⟨_, SqL.of hsq⟩, fun D nD => lcE (mayW r ws c p) wv (fun u => .tp p (some u)) (SqL.of hsq) (by omega) nD (fun _ => rfl) (fun u hu H7 e7 Y hY => ?_) (fun H7 ys e7 h7 hys => ?_)⟩
      · exact ⟨_, rfl, _, rfl, small9 (by simp), fun t6 n6 => hY _ _ n6 (Ex.new n6) upd_same⟩
      · have e57 := e6.trans e7
        have hcl := canUp_len hW hc i
        have l1 := hE5.len
        have l2 := hys.len
        rw [List.length_map] at l2
        refine ⟨b, D, _, _, rfl, rfl, e57 _ _ hb5, h7, small9 (by rw [l2]; simp; omega), fun o no => ?_⟩
        have y8 := Ex.new (o := HO.lst ([.ref t] ++ ys)) no
        refine ⟨q0, o, _, _, rfl, rfl, y8 _ _ (e57 _ _ hq5), upd_same, small9 (by rw [l1, List.length_append, l2]; simp; omega), ?_⟩
        have hq8 := y8 _ _ (e57 _ _ hq5)
        refine ⟨_, _, _, _, rfl, ((e5.trans e57).trans y8).mut nq0H, ?_, upd_same, ?_⟩
        · rw [upd_ne (by rintro rfl; rw [hq5] at hwl5; cases hwl5)]
          exact y8 _ _ (e57 _ _ hwl5)
        · rw [hp]
          refine EvL.upd hq8 ?_
          exact paired_app (hE5.mono (e57.trans y8)) (.cons ⟨t, rfl, (e57.trans y8) _ _ ht5⟩ (hys.mono y8))
    · rintro σ H2 ⟨es, y2, y3, y4, rfl, e2, hwl, hq1, hE⟩
      exact ⟨_, rfl, q q0 es H2 nq0H e2 hq1 hE⟩
/-! ### the search in a heap -/
def LevAt (H : Hp) (vs : List V) (lev : List Co) : Prop := Paired (fun v c => ∃ t, v = .ref t ∧ H t = some (.tup (stV c))) vs lev
def MetAt (H : Hp) (pb bh : Addr) (kvs : List (List Key × V)) (met : Mt) : Prop := Paired (fun (kv : List Key × V) (m : Co × List Ev) => kv.1 = stK m.1 ∧ ∃ p es, kv.2 = .ref p ∧ H p = some (.lst es) ∧ EvL H es m.2 ∧ p ≠ pb ∧ p ≠ bh) kvs met
theorem stK_inj {c d : Co} (h : stK c = stK d) : c = d := by
  obtain ⟨a1, a2, a3, a4⟩ := c
  obtain ⟨b1, b2, b3, b4⟩ := d
  unfold stK at h
  simp at h
  obtain ⟨h1, h2, h3, h4⟩ := h
  have e1 : a1 = b1 := by omega
  have e2 : a2 = b2 := by omega
  have e3 : a3 = b3 := by omega
  have e4 : a4 = b4 := by omega
  rw [e1, e2, e3, e4]
theorem MetAt.get {H : Hp} {pb bh : Addr} {c : Co} : ∀ {kvs : List (List Key × V)} {met : Mt}, MetAt H pb bh kvs met → match mGet met c with
    | none => valV kvs (stK c) = none
    | some q => ∃ p es, valV kvs (stK c) = some (.ref p) ∧ H p = some (.lst es) ∧ EvL H es q ∧ p ≠ pb ∧ p ≠ bh
  | _, _, .nil => rfl
  | kv :: kvs, (d, q) :: ms, .cons ⟨h1, p, es, h2, h3⟩ t => by
    have ih := MetAt.get (c := c) (kvs := kvs) (met := ms) t
    show match (if d = c then some q else mGet ms c) with | none => _ | some q => _
    by_cases hd : d = c
    · rw [if_pos hd]
      refine ⟨p, es, ?_, h3⟩
      rw [valV_pos (by rw [h1, hd]), h2]
    · rw [if_neg hd]
      have hk : ¬ kv.1 = stK c := fun e => hd (stK_inj (h1.symm.trans e))
      rw [valV_neg hk]
      exact ih
/-- frames -/
def ExP (S : Addr → Prop) (H H' : Hp) : Prop := ∀ a o, H a = some o → ¬ S a → H' a = some o
theorem LevAt.exp {S : Addr → Prop} {H H' : Hp} {vs : List V} {lev : List Co} (e : ExP S H H') (hS : ∀ a, S a → ∀ xs, H a ≠ some (.tup xs)) (h : LevAt H vs lev) : LevAt H' vs lev :=
  paired_imp (fun _ _ ⟨t, h1, h2⟩ => ⟨t, h1, e _ _ h2 fun hs => hS t hs _ h2⟩) h
theorem EvL.exp {S : Addr → Prop} {H H' : Hp} {vs : List V} {evs : List Ev} (e : ExP S H H') (hS : ∀ a, S a → ∀ xs, H a ≠ some (.tup xs)) (h : EvL H vs evs) : EvL H' vs evs :=
  paired_imp (fun _ _ ⟨t, h1, h2⟩ => ⟨t, h1, e _ _ h2 fun hs => hS t hs _ h2⟩) h
theorem MetAt.exp {S : Addr → Prop} {H H' : Hp} {pb bh : Addr} {kvs : List (List Key × V)} {met : Mt} (e : ExP S H H') (hS : ∀ a, S a → ∀ xs, H a ≠ some (.tup xs)) (hL : ∀ a, S a → a = pb ∨ a = bh ∨ ∀ xs, H a ≠ some (.lst xs)) (h : MetAt H pb bh kvs met) : MetAt H' pb bh kvs met :=
  paired_imp (fun _ _ ⟨k1, p, es, k2, k3, k4, k5, k6⟩ => ⟨k1, p, es, k2, e _ _ k3 (fun hs => by
    rcases hL p hs with h | h | h
    · exact k5 h
    · exact k6 h
    · exact h _ k3), k4.exp e hS, k5, k6⟩) h
theorem MetAt.re {H : Hp} {pb bh bh' : Addr} {kvs : List (List Key × V)} {met : Mt} (n : H bh' = none) (h : MetAt H pb bh kvs met) : MetAt H pb bh' kvs met :=
  paired_imp (fun _ _ ⟨k1, p, es, k2, k3, k4, k5, k6⟩ => ⟨k1, p, es, k2, k3, k4, k5, ne_of_none k3 n⟩) h
def Lens (met : Mt) : Prop := ∀ c p, (c, p) ∈ met → p.length < met.length
theorem lens_step {met : Mt} {c d : Co} {p : List Ev} {e : Ev} (h : Lens met) (hp : (c, p) ∈ met) : Lens (met ++ [(d, p ++ [e])]) := by
  intro c' p' hm
  rw [List.length_append]
  rcases List.mem_append.mp hm with hm | hm
  · have := h _ _ hm
    simp
    omega
  · cases List.mem_singleton.mp hm
    have := h _ _ hp
    simp
    omega
/-- the search as it stands in a heap -/
structure FI (C : Addr) (r : Nat) (pw pb x pm bh : Addr) (H0 H : Hp) (met : Mt) (beh : List Co) : Prop where
  ex : Ex H0 H
  lane : ∃ c m f bx, Ln C r pw pb H x c m f ∧ H pb = some (.lst bx) ∧ bx.length = r
  met : ∃ kvs, H pm = some (.dT kvs) ∧ MetAt H pb bh kvs met
  beh : ∃ vs, H bh = some (.lst vs) ∧ LevAt H vs beh
  nx : H0 x = none
  nb : H0 pb = none
  nm : H0 pm = none
  nh : H0 bh = none
  hb : bh ≠ pb
theorem FI.mono {C : Addr} {r : Nat} {pw pb x pm bh : Addr} {H0 H H' : Hp} {met : Mt} {beh : List Co} (e : Ex H H') (h : FI C r pw pb x pm bh H0 H met beh) : FI C r pw pb x pm bh H0 H' met beh := by
  obtain ⟨h1, ⟨c, m, f, bx, l1, l2, l3⟩, ⟨kvs, m1, m2⟩, ⟨vs, b1, b2⟩, n1, n2, n3, n4, n5⟩ := h
  have ep : ExP (fun _ => False) H H' := fun a o h _ => e a o h
  exact ⟨h1.trans e, ⟨c, m, f, bx, l1.mono e, e _ _ l2, l3⟩, ⟨kvs, e _ _ m1, m2.exp ep (fun _ h => h.elim) (fun _ h => h.elim)⟩, ⟨vs, e _ _ b1, b2.exp ep (fun _ h => h.elim)⟩, n1, n2, n3, n4, n5⟩
/-- the lane alone has changed -/
theorem FI.lane2 {C : Addr} {r : Nat} {pw pb x pm bh : Addr} {H0 H H' : Hp} {met : Mt} {beh : List Co} (e : Ex2 x pb H H') (h : FI C r pw pb x pm bh H0 H met beh) (hl : ∃ c m f bx, Ln C r pw pb H' x c m f ∧ H' pb = some (.lst bx) ∧ bx.length = r) : FI C r pw pb x pm bh H0 H' met beh := by
  obtain ⟨h1, ⟨c, m, f, bx, ⟨dx, l1⟩, l2, l3⟩, ⟨kvs, m1, m2⟩, ⟨vs, b1, b2⟩, n1, n2, n3, n4, n5⟩ := h
  have ep : ExP (fun a => a = x ∨ a = pb) H H' := fun a o h n => e a o h (fun z => n (.inl z)) (fun z => n (.inr z))
  have hS : ∀ a, (a = x ∨ a = pb) → ∀ xs, H a ≠ some (.tup xs) := by
    rintro a (rfl | rfl) xs hx
    · rw [l1] at hx
      cases hx
    · rw [l2] at hx
      cases hx
  refine ⟨ex_of2 h1 e n1 n2, hl, ⟨kvs, ep _ _ m1 ?_, m2.exp ep hS ?_⟩, ⟨vs, ep _ _ b1 ?_, b2.exp ep hS⟩, n1, n2, n3, n4, n5⟩
  · rintro (rfl | rfl)
    · rw [l1] at m1
      cases m1
    · rw [l2] at m1
      cases m1
  · rintro a (rfl | rfl)
    · exact .inr (.inr fun xs hx => by rw [l1] at hx; cases hx)
    · exact .inl rfl
  · rintro (rfl | h)
    · rw [l1] at b1
      cases b1
    · exact n5 h
/-- things that the lane's changes leave alone: the level, one of its places, the events -/
structure LI (pb bh : Addr) (H : Hp) (pl : Addr) (vs : List V) (lev : List Co) : Prop where
  list : H pl = some (.lst vs)
  at' : LevAt H vs lev
  nb : pl ≠ pb
  nh : pl ≠ bh
theorem lane_tup {C : Addr} {r : Nat} {pw pb x pm bh : Addr} {H0 H : Hp} {met : Mt} {beh : List Co} (h : FI C r pw pb x pm bh H0 H met beh) : ∀ a, (a = x ∨ a = pb) → ∀ xs, H a ≠ some (.tup xs) := by
  obtain ⟨h1, ⟨c, m, f, bx, ⟨dx, l1⟩, l2, l3⟩, _⟩ := h
  rintro a (rfl | rfl) xs hx
  · rw [l1] at hx
    cases hx
  · rw [l2] at hx
    cases hx
theorem lane_lst {C : Addr} {r : Nat} {pw pb x pm bh : Addr} {H0 H : Hp} {met : Mt} {beh : List Co} (h : FI C r pw pb x pm bh H0 H met beh) {a : Addr} {xs : List V} (ha : H a = some (.lst xs)) (n : a ≠ pb) : ¬ (a = x ∨ a = pb) := by
  obtain ⟨h1, ⟨c, m, f, bx, ⟨dx, l1⟩, l2, l3⟩, _⟩ := h
  rintro (rfl | h)
  · rw [l1] at ha
    cases ha
  · exact n h
theorem LI.lane2 {C : Addr} {r : Nat} {pw pb x pm bh pl : Addr} {H0 H H' : Hp} {met : Mt} {beh lev : List Co} {vs : List V} (e : Ex2 x pb H H') (h : FI C r pw pb x pm bh H0 H met beh) (l : LI pb bh H pl vs lev) : LI pb bh H' pl vs lev :=
  have ep : ExP (fun a => a = x ∨ a = pb) H H' := fun a o h n => e a o h (fun z => n (.inl z)) (fun z => n (.inr z))
  ⟨ep _ _ l.list (lane_lst h l.list l.nb), l.at'.exp ep (lane_tup h), l.nb, l.nh⟩
theorem LI.mono {pb bh pl : Addr} {H H' : Hp} {lev : List Co} {vs : List V} (e : Ex H H') (l : LI pb bh H pl vs lev) : LI pb bh H' pl vs lev :=
  ⟨e _ _ l.list, l.at'.exp (S := fun _ => False) (fun a o h _ => e a o h) (fun _ h => h.elim), l.nb, l.nh⟩
/-- a dict or the next level changes -/
theorem LI.updM {C : Addr} {r : Nat} {pw pb x pm bh pl : Addr} {H0 H : Hp} {met : Mt} {beh lev : List Co} {vs : List V} {o : HO} (h : FI C r pw pb x pm bh H0 H met beh) (l : LI pb bh H pl vs lev) : LI pb bh (L2.upd H pm o) pl vs lev := by
  obtain ⟨kvs, m1, _⟩ := h.met
  have hS : ∀ a, a = pm → ∀ xs, H a ≠ some (.tup xs) := by
    rintro a rfl xs hx
    rw [m1] at hx
    cases hx
  refine ⟨?_, l.at'.exp (S := fun a => a = pm) (fun a o h n => by rw [upd_ne n]; exact h) hS, l.nb, l.nh⟩
  rw [upd_ne (by rintro rfl; have := l.list; rw [m1] at this; cases this)]
  exact l.list
theorem LI.updH {C : Addr} {r : Nat} {pw pb x pm bh pl : Addr} {H0 H : Hp} {met : Mt} {beh lev : List Co} {vs : List V} {o : HO} (h : FI C r pw pb x pm bh H0 H met beh) (l : LI pb bh H pl vs lev) : LI pb bh (L2.upd H bh o) pl vs lev := by
  obtain ⟨us, m1, _⟩ := h.beh
  have hS : ∀ a, a = bh → ∀ xs, H a ≠ some (.tup xs) := by
    rintro a rfl xs hx
    rw [m1] at hx
    cases hx
  refine ⟨?_, l.at'.exp (S := fun a => a = bh) (fun a o h n => by rw [upd_ne n]; exact h) hS, l.nb, l.nh⟩
  rw [upd_ne l.nh]
  exact l.list
/-- a new place: the dict and the next level grow -/
theorem FI.grow {C : Addr} {r : Nat} {pw pb x pm bh : Addr} {H0 H : Hp} {met : Mt} {beh : List Co} {kvs : List (List Key × V)} {us : List V} {c : Co} {p t : Addr} {es : List V} {path : List Ev} (h : FI C r pw pb x pm bh H0 H met beh) (hk : H pm = some (.dT kvs)) (hkm : MetAt H pb bh kvs met) (hp : H p = some (.lst es)) (hE : EvL H es path) (n1 : p ≠ pb) (n2 : p ≠ bh) :
    FI C r pw pb x pm bh H0 (L2.upd H pm (.dT (kvs ++ [(stK c, .ref p)]))) (met ++ [(c, path)]) beh := by
  obtain ⟨h1, ⟨c', m, f, bx, ⟨dx, l1⟩, l2, l3⟩, _, ⟨vs, b1, b2⟩, k1, k2, k3, k4, k5⟩ := h
  have ep : ExP (fun a => a = pm) H (L2.upd H pm (.dT (kvs ++ [(stK c, .ref p)]))) := fun a o h n => by rw [upd_ne n]; exact h
  have hS : ∀ a, a = pm → ∀ xs, H a ≠ some (.tup xs) := by
    rintro a rfl xs hx
    rw [hk] at hx
    cases hx
  have hL : ∀ a, a = pm → a = pb ∨ a = bh ∨ ∀ xs, H a ≠ some (.lst xs) := by
    rintro a rfl
    exact .inr (.inr fun xs hx => by rw [hk] at hx; cases hx)
  refine ⟨h1.mut k3, ⟨c', m, f, bx, ⟨dx, ep _ _ l1 (by rintro rfl; rw [hk] at l1; cases l1)⟩, ep _ _ l2 (by rintro rfl; rw [hk] at l2; cases l2), l3⟩, ⟨_, upd_same, ?_⟩, ⟨vs, ep _ _ b1 (by rintro rfl; rw [hk] at b1; cases b1), b2.exp ep hS⟩, k1, k2, k3, k4, k5⟩
  exact paired_app (hkm.exp ep hS hL) (.cons ⟨rfl, p, es, rfl, ep _ _ hp (by rintro rfl; rw [hk] at hp; cases hp), hE.exp ep hS, n1, n2⟩ .nil)
theorem FI.next {C : Addr} {r : Nat} {pw pb x pm bh : Addr} {H0 H : Hp} {met : Mt} {beh : List Co} {us : List V} {c : Co} {t : Addr} (h : FI C r pw pb x pm bh H0 H met beh) (hb : H bh = some (.lst us)) (hl : LevAt H us beh) (ht : H t = some (.tup (stV c))) :
    FI C r pw pb x pm bh H0 (L2.upd H bh (.lst (us ++ [.ref t]))) met (beh ++ [c]) := by
  obtain ⟨h1, ⟨c', m, f, bx, ⟨dx, l1⟩, l2, l3⟩, ⟨kvs, m1, m2⟩, _, k1, k2, k3, k4, k5⟩ := h
  have ep : ExP (fun a => a = bh) H (L2.upd H bh (.lst (us ++ [.ref t]))) := fun a o h n => by rw [upd_ne n]; exact h
  have hS : ∀ a, a = bh → ∀ xs, H a ≠ some (.tup xs) := by
    rintro a rfl xs hx
    rw [hb] at hx
    cases hx
  refine ⟨h1.mut k4, ⟨c', m, f, bx, ⟨dx, ep _ _ l1 (by rintro rfl; rw [hb] at l1; cases l1)⟩, ep _ _ l2 k5.symm, l3⟩, ⟨kvs, ep _ _ m1 (by rintro rfl; rw [hb] at m1; cases m1), m2.exp ep hS (fun a h => .inr (.inl h))⟩, ⟨_, upd_same, ?_⟩, k1, k2, k3, k4, k5⟩
  exact paired_app (hl.exp ep hS) (.cons ⟨t, rfl, ep _ _ ht (by rintro rfl; rw [hb] at ht; cases ht)⟩ .nil)
theorem exd_mut {d p : Addr} {H H1 : Hp} {o : HO} (a : Exd d H H1) (h : H p = none) : Exd d H (L2.upd H1 p o) := fun x o h1 n => by
  rw [upd_ne (ne_of_none h1 h)]
  exact a x o h1 n
theorem exd_sub {d p : Addr} {H H1 H2 : Hp} (a : Exd d H H1) (b : Exd p H1 H2) (h : H p = none) : Exd d H H2 := fun x o h1 n => b x o (a x o h1 n) (ne_of_none h1 h)
theorem Dice.exd {d p : Addr} {H H' : Hp} (h : Dice H d) (e : Exd p H H') (n : d ≠ p) : Dice H' d := by
  obtain ⟨s, c, r, h, h1⟩ := h
  exact ⟨s, c, r, e _ _ h n, h1⟩
theorem Dice.notTup {d : Addr} {H : Hp} (h : Dice H d) (xs : List V) : H d ≠ some (.tup xs) := by
  obtain ⟨s, c, r, h, _⟩ := h
  rw [h]
  intro h
  cases h
theorem Dice.notD {d p : Addr} {H : Hp} {kvs : List (Key × V)} (h : Dice H d) (hp : H p = some (.dK kvs)) : d ≠ p := by
  rintro rfl
  obtain ⟨s, c, r, h, _⟩ := h
  rw [hp] at h
  cases h
theorem can_non (r : Nat) (ws : List (List Bool)) (c : Co) (p : Bool) : Ev.tp p none ∈ canE r ws c := by
  unfold canE
  cases p
  · exact List.mem_append_right _ List.mem_cons_self
  · exact List.mem_append_left _ (List.mem_append_right _ List.mem_cons_self)
theorem ls_ok {r : Nat} {ws : List (List Bool)} {n : Nat} (hW : WW ws n r) : ∀ (evs : List Ev) (s : LS), CoOk r s.c → Ins r s.c s.ls.length → CoOk r (lEnd r ws s evs).c ∧ Ins r (lEnd r ws s evs).c (lEnd r ws s evs).ls.length
  | [], _, h1, h2 => ⟨h1, h2⟩
  | e :: es, s, h1, h2 => ls_ok hW es (lstep r ws s e) (cst_ok hW.r1 hW.len h1 e) (ins_step hW.r1 hW.r6 h2 e)
/-- no fault yet, or one just now -/
def FOk (r : Nat) (ws : List (List Bool)) (evs : List Ev) : Prop := ((lEnd r ws ls0 evs).f = .non ∧ fEnd r ws ⟨0, 0, 0, 0⟩ evs = false) ∨ ((lEnd r ws ls0 evs).f ≠ .non ∧ fEnd r ws ⟨0, 0, 0, 0⟩ evs = true)
/-! ### answers and events as data -/
def AnsV (v : V) : Prop := v = .non ∨ (∃ i : Int, v = .int i) ∨ v = .str "over" ∨ v = .str "under"
def ansD : V → PyData
  | .int i => .int i
  | .str x => .str x
  | _ => .none
theorem AnsV.leaf {v : V} (h : AnsV v) : Leaf v (ansD v) := by
  rcases h with rfl | ⟨i, rfl⟩ | rfl | rfl
  · exact .inl ⟨rfl, rfl⟩
  · exact .inr (.inl ⟨i, rfl, rfl⟩)
  · exact .inr (.inr ⟨_, rfl, rfl⟩)
  · exact .inr (.inr ⟨_, rfl, rfl⟩)
theorem AnsV.sd {v : V} {n : Nat} (h : AnsV v) : Sd n (ansD v) := by
  rcases h with rfl | ⟨i, rfl⟩ | rfl | rfl
  · cases n <;> exact trivial
  · cases n <;> exact trivial
  · cases n <;> exact (show PyData.strOk "over" = true by decide +kernel)
  · cases n <;> exact (show PyData.strOk "under" = true by decide +kernel)
theorem AnsV.flat {v : V} (h : AnsV v) : flatV v = true := by
  rcases h with rfl | ⟨i, rfl⟩ | rfl | rfl <;> rfl
theorem fltV_ans (o : Option Bool) : AnsV (fltV o) := by
  cases o with
  | none => exact .inl rfl
  | some p =>
    cases p
    · exact .inr (.inr (.inr rfl))
    · exact .inr (.inr (.inl rfl))
theorem lans_ans (r : Nat) (s : LS) (e : Ev) : AnsV (lans r s e) := by
  rcases lans_ok r s e with h | h | ⟨k, h⟩
  · rw [h]
    exact .inl rfl
  · rw [h]
    exact fltV_ans _
  · rw [h]
    exact .inr (.inl ⟨k, rfl⟩)
theorem told_ans (r : Nat) (ws : List (List Bool)) : ∀ (es : List Ev) (s : LS), ∀ v ∈ lTold r ws s es, AnsV v
  | e :: es, s, v, hv => by
    rcases List.mem_cons.mp hv with rfl | hv
    · exact lans_ans r s e
    · exact told_ans r ws es _ v hv
theorem told_flt (r : Nat) (ws : List (List Bool)) : ∀ (es : List Ev) (s : LS), ∀ v ∈ lTold r ws s es, (v = .str "over" ∨ v = .str "under") → fEnd r ws s.c es = true
  | e :: es, s, v, hv, h => by
    show ((flt r s.c e).isSome || fEnd r ws (cst r ws s.c e) es) = true
    rcases List.mem_cons.mp hv with rfl | hv
    · cases hf : flt r s.c e with
      | some p => rfl
      | none =>
        rcases lans_ok r s e with h2 | h2 | ⟨k, h2⟩
        · rw [h2] at h
          rcases h with h | h <;> cases h
        · rw [h2, hf] at h
          rcases h with h | h <;> cases h
        · rw [h2] at h
          rcases h with h | h <;> cases h
    · have := told_flt r ws es (lstep r ws s e) v hv h
      rw [show fEnd r ws (cst r ws s.c e) es = true from this, Bool.or_true]
theorem ans_list {H : Hp} {n : Nat} {p : Addr} {vs : List V} (h : H p = some (.lst vs)) (hl : vs.length ≤ 1000) (hv : ∀ v ∈ vs, AnsV v) : Da H (n + 1) (.ref p) (.list (vs.map ansD)) :=
  Da.lst h hl (by
    have := paired_map (R := Da H n) (fun v : V => v) ansD vs fun v h => Da.leaf (hv v h).leaf
    rwa [List.map_id'] at this)
theorem ans_sd {n : Nat} {vs : List V} (hv : ∀ v ∈ vs, AnsV v) : Sd (n + 1) (.list (vs.map ansD)) := fun d hd => by
  obtain ⟨v, h, rfl⟩ := List.mem_map.mp hd
  exact (hv v h).sd
theorem eqv_rfl {n : Nat} {d : PyData} (h : Sd n d) : PyData.eqv d d = true := PySem.SeqAt.eqv_refl d h.ok.1
/-- texts and None as data -/
theorem Sn.leaf {v : V} (h : Sn v) : Leaf v (ansD v) := by
  rcases h with rfl | ⟨z, rfl⟩
  · exact .inl ⟨rfl, rfl⟩
  · exact .inr (.inr ⟨_, rfl, rfl⟩)
/-- a tuple of texts and Nones, each text fit -/
def TupD (H : Hp) (v : V) (d : PyData) : Prop := ∃ t xs, v = .ref t ∧ H t = some (.tup xs) ∧ xs.length ≤ 1000 ∧ (∀ x ∈ xs, Sn x ∧ Sd 0 (ansD x)) ∧ d = .tuple (xs.map ansD)
theorem TupD.mono {H H' : Hp} {v : V} {d : PyData} (e : Ex H H') (h : TupD H v d) : TupD H' v d := by
  obtain ⟨t, xs, h1, h2, h3⟩ := h
  exact ⟨t, xs, h1, e _ _ h2, h3⟩
theorem TupD.da {H : Hp} {v : V} {d : PyData} (h : TupD H v d) : Da H 1 v d := by
  obtain ⟨t, xs, rfl, h2, h3, h4, rfl⟩ := h
  refine Da.tup h2 h3 ?_
  have := paired_map (R := Da H 0) (fun v : V => v) ansD xs fun v h => (h4 v h).1.leaf
  rwa [List.map_id'] at this
theorem TupD.sd {H : Hp} {v : V} {d : PyData} (h : TupD H v d) : Sd 1 d := by
  obtain ⟨t, xs, rfl, h2, h3, h4, rfl⟩ := h
  intro d hd
  obtain ⟨x, hx, rfl⟩ := List.mem_map.mp hd
  exact (h4 x hx).2
def evWide (n : Nat) : Ev → Prop
  | .tp _ (some u) => u.length = n
  | _ => True
theorem sd_ev (e : Ev) : ∀ x ∈ evV e, Sn x ∧ Sd 0 (ansD x) := by
  intro x hx
  refine ⟨sn_ev e x hx, ?_⟩
  cases e with
  | look w =>
    rcases List.mem_cons.mp hx with rfl | hx
    · exact (show PyData.strOk "look" = true by decide +kernel)
    · rw [List.mem_singleton.mp hx]
      cases w
      · exact (show PyData.strOk "reader" = true by decide +kernel)
      · exact (show PyData.strOk "writer" = true by decide +kernel)
  | tp p o =>
    rcases List.mem_cons.mp hx with rfl | hx
    · cases p
      · exact (show PyData.strOk "get" = true by decide +kernel)
      · exact (show PyData.strOk "put" = true by decide +kernel)
    · rw [List.mem_singleton.mp hx]
      cases o with
      | none => exact trivial
      | some u => exact strOk_wd u
theorem ev_tupD {H : Hp} {t : Addr} {e : Ev} (h : H t = some (.tup (evV e))) : TupD H (.ref t) (.tuple ((evV e).map ansD)) := ⟨t, _, rfl, h, by cases e <;> simp [evV], sd_ev e, rfl⟩
theorem EvL.dat {H : Hp} : ∀ {vs : List V} {evs : List Ev}, EvL H vs evs → Paired (TupD H) vs (evs.map fun e => .tuple ((evV e).map ansD))
  | _, _, .nil => .nil
  | _, _, .cons ⟨_, h1, h2⟩ t => .cons (by rw [h1]; exact ev_tupD h2) (EvL.dat t)
theorem EvL.evsAt {H : Hp} {vs : List V} {evs : List Ev} (h : EvL H vs evs) : EvsAt H vs evs := ⟨by rw [h.len]; exact Nat.le_refl _, fun i e he => by
  obtain ⟨hi, _⟩ := List.getElem?_eq_some_iff.mp he
  obtain ⟨t, e', h1, h2, h3⟩ := h.at hi
  rw [he] at h2
  cases h2
  exact ⟨t, h1, h3⟩⟩
/-- the list of tuples as data -/
theorem tups_da {H : Hp} {p : Addr} {vs : List V} {ds : List PyData} (h : H p = some (.lst vs)) (hl : vs.length ≤ 1000) (hp : Paired (TupD H) vs ds) : Da H 2 (.ref p) (.list ds) := Da.lst h hl (paired_imp (fun _ _ => TupD.da) hp)
theorem tups_sd {H : Hp} : ∀ {vs : List V} {ds : List PyData}, Paired (TupD H) vs ds → ∀ d ∈ ds, Sd 1 d
  | _, _, .cons h t, d, hd => by
    rcases List.mem_cons.mp hd with rfl | hd
    · exact h.sd
    · exact tups_sd t d hd
theorem wds_da {H : Hp} {p : Addr} {ws : List (List Bool)} (h : H p = some (.lst (ws.map wv))) (hl : ws.length ≤ 1000) : Da H 2 (.ref p) (.list (ws.map fun w => .str (wd w))) := Da.strs h hl
theorem wds_sd {n : Nat} (ws : List (List Bool)) : Sd (n + 1) (.list (ws.map fun w => PyData.str (wd w))) := fun d hd => by
  obtain ⟨w, _, rfl⟩ := List.mem_map.mp hd
  cases n <;> exact strOk_wd w
theorem paired_take {α β : Type} {R : α → β → Prop} : ∀ {xs : List α} {ys : List β} (n : Nat), Paired R xs ys → Paired R (xs.take n) (ys.take n)
  | _, _, 0, _ => by
    rw [List.take_zero, List.take_zero]
    exact .nil
  | _, _, n + 1, .nil => .nil
  | _, _, n + 1, .cons r t => .cons r (paired_take n t)
theorem kb_ni : kitB "NoneType" "int" = some false := by decide +kernel
/-- the answer as it stands in a heap -/
def FaultAt (H H' : Hp) (v : V) : Option (List Ev × Bool) → Prop
  | none => v = .non
  | some (path, p) => ∃ t pl es, v = .ref t ∧ H' t = some (.tup [.ref pl, fltV (some p)]) ∧ H' pl = some (.lst es) ∧ EvL H' es path ∧ H pl = none
def sp_fault : Sp := fun vs H Q _ => ∃ (l pw : Addr) (r n : Nat) (ws : List (List Bool)), vs = [.ref l] ∧ H l = some (.tup [.int (r : Int), .ref pw]) ∧ H pw = some (.lst (ws.map wv)) ∧ WW ws n r ∧ ws.Nodup ∧ ∀ v H', Ex H H' → FaultAt H H' v (faultF r ws) → Q v H'
def kLev (r : Nat) (ws : List (List Bool)) (f : Nat) : FR → Option (List Ev × Bool)
  | .inl x => some x
  | .inr a => bfs r ws f a.1 a.2
def kEvs (r : Nat) (ws : List (List Bool)) (f : Nat) (rest : List Co) : FR → Option (List Ev × Bool)
  | .inl x => some x
  | .inr a => kLev r ws f (levRun r ws rest a)
theorem kLev_cons (r : Nat) (ws : List (List Bool)) (f : Nat) (c : Co) (rest : List Co) (a : Mt × List Co) {path : List Ev} (h : mGet a.1 c = some path) : kLev r ws f (levRun r ws (c :: rest) a) = kEvs r ws f rest (evsRun r ws c path (canE r ws c) a) := by
  rw [levRun, h]
  show kLev r ws f (match evsRun r ws c path (canE r ws c) a with | .inl x => .inl x | .inr a => levRun r ws rest a) = _
  cases evsRun r ws c path (canE r ws c) a <;> rfl
theorem kEvs_cons (r : Nat) (ws : List (List Bool)) (f : Nat) (rest : List Co) (c : Co) (path : List Ev) (e : Ev) (es : List Ev) (a : Mt × List Co) : kEvs r ws f rest (evsRun r ws c path (e :: es) a) = (match evStep r ws c path a e with | .inl x => some x | .inr b => kEvs r ws f rest (evsRun r ws c path es b)) := by
  rw [evsRun]
  cases evStep r ws c path a e <;> rfl
theorem sl24 {n : Nat} (h : n ≤ 30000) : n < sizeLine := by
  rw [sizeLine_eq]
  omega
theorem lev_at {H : Hp} {vs : List V} {lev : List Co} {i : Nat} {v : V} (h : LevAt H vs lev) (hi : vs[i]? = some v) : ∃ t c, v = .ref t ∧ lev[i]? = some c ∧ H t = some (.tup (stV c)) := by
  have hl : i < lev.length := by
    rw [← paired_len h]
    exact (List.getElem?_eq_some_iff.mp hi).1
  obtain ⟨x, y, h1, h2, t, rfl, h3⟩ := paired_at h hl
  rw [hi] at h1
  cases h1
  exact ⟨t, y, rfl, h2, h3⟩
theorem lev_dp {K : PySem.W.Frag} {H : Hp} : ∀ {vs : List V} {lev : List Co}, LevAt H vs lev → DpAll K H vs (lev.map fun c => .tuple ((stV c).map ansD))
  | _, _, .nil => .nil
  | _, _, .cons ⟨t, h1, h2⟩ r => .cons (by rw [h1]; exact .tup (SqT.of h2) (.cons (.int _) (.cons (.int _) (.cons (.int _) (.cons (.int _) .nil))))) (lev_dp r)
theorem lev_sd (lev : List Co) : Sd 2 (.list (lev.map fun c => .tuple ((stV c).map ansD))) := by
  intro d hd
  obtain ⟨c, _, rfl⟩ := List.mem_map.mp hd
  intro d hd
  obtain ⟨v, hv, rfl⟩ := List.mem_map.mp hd
  simp [stV] at hv
  rcases hv with rfl | rfl | rfl | rfl <;> exact trivial
theorem ok_fault (T : TX K mg) : FnOk P w K mg base CX0 4 T.f_fault T.fd_fault ["lane"] sp_fault := by
  refine T.F_fault.ok sc_fault (fun vs H Q E h => ?_) (fun cdv A outer s H vs Q E hr h => ?_)
  · obtain ⟨_, _, _, _, _, rfl, _⟩ := h
    rfl
  · obtain ⟨l, pw, r, n, ws, rfl, hl, hw, hW, nd, q⟩ := h
    refine ⟨_, (pss_cons (ps_expr (pe_call (ok_need_lane T) (hr.mono (by decide)) (by rfl) T.g_need_lane T.F_need_lane.kp T.b_need_lane .nil pass0 (pa_cons (pv 0) pa_nil)))
 (pss_cons (ps_set (i := 1) sc_fault.nd rfl (by first | exact Or.inl rfl | exact Or.inr rfl) (pe_make T.mk_Lane (ok_Lane___init__ T) (hr.mono (by decide)) (by rfl) T.g_Lane T.b_Lane___init__ .nil pass0 (pa_cons (pe_ix ix_tup (pv 0) pe_int (fun _ _ => rfl)) (pa_cons (pe_ix ix_tup (pv 0) pe_int (fun _ _ => rfl)) pa_nil))))
 (pss_cons (ps_set (i := 2) sc_fault.nd rfl (by first | exact Or.inl rfl | exact Or.inr rfl) (pe_dispT (hu_of hr) (pps_cons (pe_meth0 (pv 1) T.cl_Lane T.m_Lane_state (ok_Lane_state T) (hr.mono (by decide)) T.b_Lane_state .nil pass0) (pe_lst pa_nil) pps_nil) (by rfl) (by rfl) (fun z => by cases z) (by decide)))
 (pss_cons (ps_set (i := 3) sc_fault.nd rfl (by first | exact Or.inl rfl | exact Or.inr rfl) (pe_lst (pa_cons (pe_meth0 (pv 1) T.cl_Lane T.m_Lane_state (ok_Lane_state T) (hr.mono (by decide)) T.b_Lane_state .nil pass0) pa_nil)))
 (pss_cons (ps_while PassesOwn.never (pt_cmpR (op_neD hr.units) (pv 3) (pe_lst pa_nil) (nomark _))
 (pss_cons (ps_set (i := 4) sc_fault.nd rfl (by first | exact Or.inl rfl | exact Or.inr rfl) (pe_lst pa_nil))
 (pss_cons (ps_for PassesOwn.never rfl (pi_list (pv 3)) (pg_name (i := 5) sc_fault.nd rfl (by first | exact Or.inl rfl | exact Or.inr rfl))
 (pss_cons (ps_expr (pe_meth (pv 1) T.cl_Lane T.m_Lane_stand (ok_Lane_stand T) (hr.mono (by decide)) T.b_Lane_stand .nil pass0 (pa_cons (pv 5) pa_nil)))
 (pss_one (ps_for PassesOwn.never rfl (pi_list (pe_meth0 (pv 1) T.cl_Lane T.m_Lane_events (ok_Lane_events T) (hr.mono (by decide)) T.b_Lane_events .nil pass0)) (pg_name (i := 6) sc_fault.nd rfl (by first | exact Or.inl rfl | exact Or.inr rfl))
 (pss_cons (ps_expr (pe_meth (pv 1) T.cl_Lane T.m_Lane_stand (ok_Lane_stand T) (hr.mono (by decide)) T.b_Lane_stand .nil pass0 (pa_cons (pv 5) pa_nil)))
 (pss_cons (ps_expr (pe_meth (pv 1) T.cl_Lane T.m_Lane_do (ok_Lane_do T) (hr.mono (by decide)) T.b_Lane_do .nil pass0 (pa_cons (pv 6) pa_nil)))
 (pss_cons (ps_if (pt_cmpR op_notN (pe_fld (pv 1) rfl) pe_non (nomark _))
 (pss_one (ps_ret (pe_tup (pa_cons (pe_op op_cat (pe_dget (hu_of hr) (pv 2) (pv 5) (fun _ _ => rfl)) (pe_lst (pa_cons (pv 6) pa_nil))) (pa_cons (pe_fld (pv 1) rfl) pa_nil)))))
 pss_nil)
 (pss_one (ps_if (pt_cmp (pc_dnotin (hu_of hr) (pe_meth0 (pv 1) T.cl_Lane T.m_Lane_state (ok_Lane_state T) (hr.mono (by decide)) T.b_Lane_state .nil pass0) (pv 2)))
 (pss_cons (ps_dput (hu_of hr) (pv 2) (pe_meth0 (pv 1) T.cl_Lane T.m_Lane_state (ok_Lane_state T) (hr.mono (by decide)) T.b_Lane_state .nil pass0) (pe_op op_cat (pe_dget (hu_of hr) (pv 2) (pv 5) (fun _ _ => rfl)) (pe_lst (pa_cons (pv 6) pa_nil))) rfl)
 (pss_one (ps_expr (pe_bm PySem.F.plainAttrs_list PySem.F.slot_list_append PySem.F.type_list_append mt_append (pv 4) (pa_cons (pe_meth0 (pv 1) T.cl_Lane T.m_Lane_state (ok_Lane_state T) (hr.mono (by decide)) T.b_Lane_state .nil pass0) pa_nil)))))
 pss_nil)))))))))
 (pss_one (ps_set (i := 3) sc_fault.nd rfl (by first | exact Or.inl rfl | exact Or.inr rfl) (pv 4))))))
 (pss_one (ps_ret pe_non))))))), ?_⟩
    have r1 := hW.r1
    have r6 := hW.r6
    refine ⟨_, rfl, l, pw, r, n, ws, rfl, hl, SqL.of hw, hW, nd, fun H1 e1 => ?_⟩
    refine ⟨_, rfl, l, _, _, _, rfl, rfl, SqT.of (e1 _ _ hl), rfl, _, rfl, l, _, _, _, rfl, rfl, SqT.of (e1 _ _ hl), rfl, fun x dx nx ndx ne => ?_⟩
    have e2 : Ex H1 (upd (upd H1 dx (.own x)) x (.ins T.C_Lane dx [])) := (Ex.new ndx).trans (Ex.new (by rw [upd_ne ne.symm]; exact nx))
    refine ⟨x, dx, r, pw, rfl, upd_same, r6, fun H3 pb npb e3 hx3 hb3 => ⟨rfl, ?_⟩⟩
    have npb1 : H1 pb = none := fresh_back e2 npb
    have e13 : Ex H1 H3 := fun a o h => e3 a o (e2 a o h) (ne_of_none h nx)
    have nxH : H x = none := fresh_back e1 nx
    have npbH : H pb = none := fresh_back e1 npb1
    have eH3 := e1.trans e13
    have nwb : pw ≠ pb := ne_of_none hw npbH
    clear e2 e3 npb
    refine fun pm npm => ?_
    have x4 := Ex.new (o := HO.dT []) npm
    refine ⟨_, rfl, x, dx, _, rfl, x4 _ _ hx3, rfl, x, r, pw, pb, ⟨0, 0, 0, 0⟩, 0, .non, rfl, ⟨dx, x4 _ _ hx3⟩, fun t0 H4 nt0 e4 ht0 => ⟨small9 (by simp), fun p0 np0 => ?_⟩⟩
    have hpm4 := e4 _ _ (upd_same (H := H3) (a := pm) (o := HO.dT []))
    have x5 := Ex.new (o := HO.lst []) np0
    refine ⟨x5 _ _ hpm4, stK c00, t0, .ref p0, rfl, x5 _ _ ht0, ?_⟩
    have npmx : pm ≠ x := (ne_of_none hx3 npm).symm
    have npmb : pm ≠ pb := (ne_of_none hb3 npm).symm
    have npmH : H pm = none := fresh_back eH3 npm
    have np0m : p0 ≠ pm := (ne_of_none hpm4 np0).symm
    have np0b : p0 ≠ pb := (ne_of_none (e4 _ _ (x4 _ _ hb3)) np0).symm
    have e05 : Ex H (upd (upd H4 p0 (.lst [])) pm (.dT [(stK c00, .ref p0)])) := Ex.mut (eH3.trans (x4.trans (e4.trans x5))) npmH
    have hx5 : upd (upd H4 p0 (.lst [])) pm (.dT [(stK c00, .ref p0)]) x = some (.ins T.C_Lane dx (FS r pw pb c00 0 .non)) := by
      rw [upd_ne npmx.symm]
      exact x5 _ _ (e4 _ _ (x4 _ _ hx3))
    have hb5 : upd (upd H4 p0 (.lst [])) pm (.dT [(stK c00, .ref p0)]) pb = some (.lst (List.replicate r .non)) := by
      rw [upd_ne npmb.symm]
      exact x5 _ _ (e4 _ _ (x4 _ _ hb3))
    have hp05 : upd (upd H4 p0 (.lst [])) pm (.dT [(stK c00, .ref p0)]) p0 = some (.lst []) := by
      rw [upd_ne np0m]
      exact upd_same
    have hpm5 := upd_same (H := upd H4 p0 (.lst [])) (a := pm) (o := HO.dT [(stK c00, .ref p0)])
    generalize upd (upd H4 p0 (.lst [])) pm (.dT [(stK c00, .ref p0)]) = H5 at e05 hx5 hb5 hp05 hpm5 ⊢
    refine ⟨_, rfl, x, dx, _, rfl, hx5, rfl, x, r, pw, pb, c00, 0, .non, rfl, ⟨dx, hx5⟩, fun t1 H6 nt1 e6 ht1 => ⟨small9 (by simp), fun pl npl => ?_⟩⟩
    have x7 := Ex.new (o := HO.lst [.ref t1]) npl
    have e67 := e6.trans x7
    have hfi : FI T.C_Lane r pw pb x pm pl H (upd H6 pl (.lst [.ref t1])) [(c00, [])] [c00] := ⟨e05.trans e67, ⟨_, _, _, _, ⟨dx, e67 _ _ hx5⟩, e67 _ _ hb5, List.length_replicate⟩, ⟨_, e67 _ _ hpm5, .cons ⟨rfl, p0, [], rfl, e67 _ _ hp05, .nil, np0b, ne_of_none (e6 _ _ hp05) npl⟩ .nil⟩, ⟨_, upd_same, .cons ⟨t1, rfl, x7 _ _ ht1⟩ .nil⟩, nxH, npbH, npmH, fresh_back (e05.trans e6) npl, (ne_of_none (e6 _ _ hb5) npl).symm⟩
    generalize upd H6 pl (.lst [.ref t1]) = H7 at hfi ⊢
    clear hp05 hpm5 hb5 hx5 e05 x5 x4 hpm4 hb3 hx3 e13 e67 x7 ht1 e6 ht0 e4 nt1 npl np0 npm nt0
    refine ⟨fun f σ H' => ∃ met lev pl y4 y5 y6, σ = [some (.ref l), some (.ref x), some (.ref pm), some (.ref pl), y4, y5, y6] ∧ FI T.C_Lane r pw pb x pm pl H H' met lev ∧ Srch r ws (met, lev) ∧ Lens met ∧ (lev ≠ [] → 20737 ≤ f + met.length) ∧ bfs r ws f met lev = faultF r ws, ⟨20737, _, _, pl, _, _, _, rfl, hfi, ⟨(srch0 (ws := ws) r1).way, (srch0 (ws := ws) r1).nd, (srch0 (ws := ws) r1).ok, fun c hc => ?_⟩, fun c p hcp => ?_, fun _ => by simp, rfl⟩, ?_⟩
    · rw [List.mem_singleton.mp hc]
      rfl
    · cases List.mem_singleton.mp hcp
      simp
    clear hfi
    rintro f σ H8 ⟨met, lev, pl, y4, y5, y6, rfl, hfi, hsr, hlen, hfuel, hans⟩
    obtain ⟨vs, hpl, hlv⟩ := hfi.beh
    refine ⟨_, rfl, small9 (by simp), fun o no => ?_⟩
    have xo := Ex.new (o := HO.lst []) no
    have hlo : LevAt (upd H8 o (.lst [])) vs lev := hlv.exp (S := fun _ => False) (fun a ob h _ => xo a ob h) (fun _ h => h.elim)
    refine ⟨_, .list (([] : List Co).map fun c => .tuple ((stV c).map ansD)), .lst (SqL.of (xo _ _ hpl)) (lev_dp hlo), .lst (SqL.of upd_same) .nil, (lev_sd lev).shaped (by decide), (lev_sd []).shaped (by decide), _, rfl, ?_⟩
    have hfi := hfi.mono xo
    have hpl := xo _ _ hpl
    generalize upd H8 o (.lst []) = H9 at hfi hlo hpl ⊢
    cases lev with
    | nil =>
      refine ifN (by decide) (q _ _ hfi.ex ?_)
      have : faultF r ws = none := by
        rw [← hans, bfs]
      rw [this]
      rfl
    | cons c0 cs =>
      refine ifP (by simp [PyData.eqv, PyData.eqvAll]) ?_
      have hmet : met.length ≤ 20736 := by
        have := co_many r6 hsr.nd hsr.ok
        rwa [List.length_map] at this
      have hf := hfuel (by simp)
      obtain ⟨f, rfl⟩ : ∃ g, f = g + 1 := ⟨f - 1, by omega⟩
      have hans : kLev r ws f (levRun r ws (c0 :: cs) (met, [])) = faultF r ws := by
        rw [← hans, bfs]
        cases levRun r ws (c0 :: cs) (met, []) <;> rfl
      refine ⟨fun σ' H' => ∃ met' beh' bh y4 y5 y6, σ' = [some (.ref l), some (.ref x), some (.ref pm), some (.ref bh), y4, y5, y6] ∧ FI T.C_Lane r pw pb x pm bh H H' met' beh' ∧ Srch r ws (met', beh') ∧ Lens met' ∧ met'.length = met.length + beh'.length ∧ bfs r ws f met' beh' = faultF r ws, fun σ' H' ⟨met', beh', bh, y4, y5, y6, a1, a2, a3, a4, a5, a6⟩ => ⟨f, by omega, met', beh', bh, y4, y5, y6, a1, a2, a3, a4, fun hne => ?_, a6⟩, ?_⟩
      · have : 0 < beh'.length := List.length_pos_iff.mpr hne
        omega
      refine ⟨small9 (by simp), fun bh nbh => ?_⟩
      have xb := Ex.new (o := HO.lst []) nbh
      have nbhH : H bh = none := fresh_back hfi.ex nbh
      obtain ⟨kvs0, hpm0, hmt0⟩ := hfi.met
      obtain ⟨c9, m9, f9, bx9, l9, b9, b9l⟩ := hfi.lane
      have nplb : pl ≠ pb := hfi.hb
      have nplh : pl ≠ bh := ne_of_none hpl nbh
      have nbhb : bh ≠ pb := (ne_of_none b9 nbh).symm
      have hfi' : FI T.C_Lane r pw pb x pm bh H (upd H9 bh (.lst [])) met [] := ⟨hfi.ex.trans xb, ⟨c9, m9, f9, bx9, l9.mono xb, xb _ _ b9, b9l⟩, ⟨kvs0, xb _ _ hpm0, (hmt0.re nbh).exp (S := fun _ => False) (fun a ob h _ => xb a ob h) (fun _ h => h.elim) (fun _ h => h.elim)⟩, ⟨[], upd_same, .nil⟩, nxH, npbH, npmH, nbhH, nbhb⟩
      have hlo : LevAt (upd H9 bh (.lst [])) vs (c0 :: cs) := hlo.exp (S := fun _ => False) (fun a ob h _ => xb a ob h) (fun _ h => h.elim)
      have hpl := xb _ _ hpl
      generalize upd H9 bh (.lst []) = H10 at hfi' hlo hpl ⊢
      clear hpm0 hmt0 l9 b9 hfi xb nbh hlv xo no
      generalize hlev : c0 :: cs = lev at *
      refine ⟨_, rfl, pl, rfl, ⟨_, SqL.of hpl⟩, for_list (K := K) (a := pl) (xs := vs) (fun i σ H' => ∃ met' beh' y5 y6, σ = [some (.ref l), some (.ref x), some (.ref pm), some (.ref pl), some (.ref bh), y5, y6] ∧ FI T.C_Lane r pw pb x pm bh H H' met' beh' ∧ LI pb bh H' pl vs lev ∧ Srch r ws (met', beh') ∧ Lens met' ∧ (∀ c ∈ lev, (mGet met' c).isSome = true) ∧ met'.length = met.length + beh'.length ∧ kLev r ws f (levRun r ws (lev.drop i) (met', beh')) = faultF r ws) ⟨met, [], _, _, rfl, hfi', ⟨hpl, hlo, nplb, nplh⟩, ⟨hsr.way, hsr.nd, hsr.ok, by simp⟩, hlen, hsr.lev, rfl, hans⟩ (fun i σ H' _ ⟨_, _, _, _, _, _, h, _⟩ => SqL.of h.list) ?_ ?_⟩
      · rintro i v σ H11 hi ⟨met1, beh1, y5, y6, rfl, hfi1, hli1, hsr1, hlen1, hin1, hml1, hans1⟩
        obtain ⟨ts, c, rfl, hc, hts⟩ := lev_at hli1.at' hi
        have hcm : c ∈ lev := List.mem_of_getElem? hc
        obtain ⟨path, hpath⟩ := Option.isSome_iff_exists.mp (hin1 c hcm)
        have hco := hsr1.ok c (List.mem_map.mpr ⟨_, mGet_mem hpath, rfl⟩)
        have hdrop : lev.drop i = c :: lev.drop (i + 1) := by
          obtain ⟨hi', he⟩ := List.getElem?_eq_some_iff.mp hc
          rw [List.drop_eq_getElem_cons hi', he]
        rw [hdrop, kLev_cons r ws f c _ _ hpath] at hans1
        obtain ⟨c9, m9, f9, bx9, ⟨dx9, l9⟩, b9, b9l⟩ := hfi1.lane
        refine ⟨_, rfl, x, dx9, _, rfl, l9, rfl, _, rfl, x, r, pw, pb, c9, c, m9, f9, ts, rfl, ⟨dx9, l9⟩, hts, fun H12 e12 hl12 => ?_⟩
        have nbx : pb ≠ x := by
          rintro rfl
          rw [b9] at l9
          cases l9
        have ntsx : ts ≠ x := by
          rintro rfl
          rw [hts] at l9
          cases l9
        have hfi2 := hfi1.lane2 (fun a o h n _ => e12 a o h n) ⟨c, m9, .non, bx9, hl12, e12 _ _ b9 nbx, b9l⟩
        have hli2 := LI.lane2 (fun a o h n _ => e12 a o h n) hfi1 hli1
        have hts2 := e12 _ _ hts ntsx
        obtain ⟨dx12, hx12⟩ := hl12
        refine ⟨_, rfl, x, dx12, _, rfl, hx12, rfl, x, r, pw, pb, c, m9, .non, ws, n, rfl, ⟨dx12, hx12⟩, hfi2.ex _ _ hw, hW, hco, fun pq es H13 npq e13 hpq hE => ?_⟩
        have npqb : pq ≠ pb := (ne_of_none (e12 _ _ b9 nbx) npq).symm
        obtain ⟨us2, hbh2, _⟩ := hfi2.beh
        have npqh : pq ≠ bh := (ne_of_none hbh2 npq).symm
        refine ⟨pq, rfl, ⟨_, SqL.of hpq⟩, for_list (K := K) (a := pq) (xs := es) (fun j σ H' => ∃ met2 beh2 y6, σ = [some (.ref l), some (.ref x), some (.ref pm), some (.ref pl), some (.ref bh), some (.ref ts), y6] ∧ FI T.C_Lane r pw pb x pm bh H H' met2 beh2 ∧ LI pb bh H' pl vs lev ∧ H' ts = some (.tup (stV c)) ∧ H' pq = some (.lst es) ∧ EvL H' es (canE r ws c) ∧ Srch r ws (met2, beh2) ∧ Lens met2 ∧ (∀ c ∈ lev, (mGet met2 c).isSome = true) ∧ met2.length = met.length + beh2.length ∧ mGet met2 c = some path ∧ kEvs r ws f (lev.drop (i + 1)) (evsRun r ws c path ((canE r ws c).drop j) (met2, beh2)) = faultF r ws) ⟨met1, beh1, _, rfl, hfi2.mono e13, hli2.mono e13, e13 _ _ hts2, hpq, hE, hsr1, hlen1, hin1, hml1, hpath, hans1⟩ (fun j σ H' _ ⟨_, _, _, _, _, _, _, h, _⟩ => SqL.of h) ?_ ?_⟩
        · rintro j v σ H14 hj ⟨met2, beh2, y6, rfl, hfi3, hli3, hts3, hpq3, hE3, hsr3, hlen3, hin3, hml3, hpath3, hans3⟩
          clear hfi2 hli2 hts2 hx12 e13 hpq hE hsr1 hlen1 hin1 hml1 hpath hans1 hfi1 hli1 hts l9 b9 e12 hbh2 npq ntsx
          have hjl : j < (canE r ws c).length := by
            rw [← hE3.len]
            exact (List.getElem?_eq_some_iff.mp hj).1
          obtain ⟨te, e, hte1, hev, hte⟩ := hE3.at hjl
          rw [hj] at hte1
          cases hte1
          have hem : e ∈ canE r ws c := List.mem_of_getElem? hev
          have hdrop2 : (canE r ws c).drop j = e :: (canE r ws c).drop (j + 1) := by
            obtain ⟨hi', he⟩ := List.getElem?_eq_some_iff.mp hev
            rw [List.drop_eq_getElem_cons hi', he]
          rw [hdrop2, kEvs_cons] at hans3
          obtain ⟨c4, m4, f4, bx4, ⟨dx4, l4⟩, b4, b4l⟩ := hfi3.lane
          have ntx := fun (z : ts = x ∨ ts = pb) => lane_tup hfi3 ts z _ hts3
          have ntex := fun (z : te = x ∨ te = pb) => lane_tup hfi3 te z _ hte
          refine ⟨_, rfl, x, dx4, _, rfl, l4, rfl, _, rfl, x, r, pw, pb, c4, c, m4, f4, ts, rfl, ⟨dx4, l4⟩, hts3, fun H15 e15 hl15 => ?_⟩
          have e15' : Ex2 x pb H14 H15 := fun a o h n _ => e15 a o h n
          have hfi4 := hfi3.lane2 e15' ⟨c, m4, .non, bx4, hl15, e15 _ _ b4 nbx, b4l⟩
          have b15 := e15 _ _ b4 nbx
          obtain ⟨dx15, hx15⟩ := hl15
          have hte15 := e15 _ _ hte (fun z => ntex (.inl z))
          refine ⟨_, rfl, x, dx15, _, rfl, hx15, rfl, _, rfl, x, r, pw, pb, c, m4, .non, ws, n, bx4, te, e, rfl, hte15, ⟨dx15, hx15⟩, hfi4.ex _ _ hw, b15, b4l, nwb, hW, hco, fun H16 e16 hl16 hb16 => ?_⟩
          have e146 : Ex2 x pb H14 H16 := e15'.trans e16
          have hfi5 := hfi3.lane2 e146 ⟨_, _, _, _, hl16, hb16, pBox_len b4l⟩
          have hli5 := LI.lane2 e146 hfi3 hli3
          have hts5 := e146 _ _ hts3 (fun z => ntx (.inl z)) (fun z => ntx (.inr z))
          have hte5 := e146 _ _ hte (fun z => ntex (.inl z)) (fun z => ntex (.inr z))
          have hq5 := fun (z : pq = x ∨ pq = pb) => lane_lst hfi3 hpq3 npqb z
          have hpq5 := e146 _ _ hpq3 (fun z => hq5 (.inl z)) (fun z => hq5 (.inr z))
          have hE5 : EvL H16 es (canE r ws c) := hE3.exp (S := fun a => a = x ∨ a = pb) (fun a o h n => e146 a o h (fun z => n (.inl z)) (fun z => n (.inr z))) (lane_tup hfi3)
          obtain ⟨dx16, hx16⟩ := hl16
          obtain ⟨kvs5, hpm5, hmt5⟩ := hfi5.met
          have hget := hmt5.get (c := c)
          rw [hpath3] at hget
          obtain ⟨pp, ps, hval, hpp, hps, npp1, npp2⟩ := hget
          have hmem3 := mGet_mem hpath3
          have hmet3 : met2.length ≤ 20736 := by
            have := co_many r6 hsr3.nd hsr3.ok
            rwa [List.length_map] at this
          have hpl3 : ps.length < met2.length := by
            rw [hps.len]
            exact hlen3 _ _ hmem3
          have hdg : DGet H16 pm (.ref ts) (some (.ref pp)) := by
            rw [← hval]
            exact DGet.t hpm5 hts5
          refine ⟨_, rfl, x, _, _, _, _, rfl, hx16, T.cl_Lane, T.na_fault, fs_fault, rfl, _, rfl, ?_⟩
          cases hfl : flt r c e with
          | some pf =>
            rw [pFlt_some hfl] at hx16 ⊢
            refine ifP (by simp [fltV_some]) ?_
            have hF : faultF r ws = some (path ++ [e], pf) := by
              rw [← hans3]
              unfold evStep
              rw [hfl]
            refine ⟨_, rfl, _, rfl, pm, .ref pp, rfl, hdg, _, rfl, small9 (by simp), fun b nb => ⟨pp, b, _, _, rfl, rfl, (Ex.new nb) _ _ hpp, upd_same, ?_, fun o no => ?_⟩⟩
            · have := sl24 (n := ps.length + 1) (by omega)
              simp
              omega
            have y1 := Ex.new (o := HO.lst [.ref te]) nb
            have y2 := Ex.new (o := HO.lst (ps ++ [.ref te])) no
            refine ⟨_, rfl, x, _, _, _, _, rfl, (y1.trans y2) _ _ hx16, T.cl_Lane, T.na_fault, fs_fault, small9 (by simp), fun t nt => ?_⟩
            have y3 := Ex.new (o := HO.tup [.ref o, fltV (some pf)]) nt
            have eA := hfi5.ex.trans ((y1.trans y2).trans y3)
            refine q _ _ eA ?_
            rw [hF]
            exact ⟨t, o, ps ++ [.ref te], rfl, upd_same, y3 _ _ upd_same, paired_app (hps.mono ((y1.trans y2).trans y3)) (.cons ⟨te, rfl, ((y1.trans y2).trans y3) _ _ hte5⟩ .nil), fresh_back (hfi5.ex.trans y1) no⟩
          | none =>
            rw [pFlt_none hfl] at hx16 ⊢
            refine ifN (by simp) ?_
            have hst : evStep r ws c path (met2, beh2) e = if mGet met2 (cst r ws c e) = none then .inr (met2 ++ [(cst r ws c e, path ++ [e])], beh2 ++ [cst r ws c e]) else .inr (met2, beh2) := by
              unfold evStep
              rw [hfl]
            have hsok := evStep_ok (a := (met2, beh2)) hW hsr3 (hsr3.way _ _ hmem3) hco hem
            refine ⟨_, rfl, x, dx16, _, rfl, hx16, rfl, x, r, pw, pb, cst r ws c e, _, _, rfl, ⟨dx16, hx16⟩, fun t2 H17 nt2 e17 ht2 => ?_⟩
            have hgetn := hmt5.get (c := cst r ws c e)
            have hpm17 := e17 _ _ hpm5
            refine ⟨_, rfl, pm, _, rfl, DGet.t (k := stK (cst r ws c e)) hpm17 ht2, _, rfl, ?_⟩
            by_cases hnew : mGet met2 (cst r ws c e) = none
            · rw [hnew] at hgetn
              rw [if_pos hnew] at hst
              rw [hst] at hans3
              obtain ⟨hsr4, hkeep, hml4⟩ := hsok.2 _ hst
              have hgetn : valV kvs5 (stK (cst r ws c e)) = none := hgetn
              rw [hgetn]
              refine ifP rfl ?_
              have hdg17 : DGet H17 pm (.ref ts) (some (.ref pp)) := by
                rw [← hval]
                exact DGet.t hpm17 (e17 _ _ hts5)
              refine ⟨_, rfl, _, rfl, pm, .ref pp, rfl, hdg17, _, rfl, small9 (by simp), fun b nb => ⟨pp, b, _, _, rfl, rfl, (e17.trans (Ex.new nb)) _ _ hpp, upd_same, ?_, fun o no => ?_⟩⟩
              · have := sl24 (n := ps.length + 1) (by omega)
                simp
                omega
              have y1 := Ex.new (o := HO.lst [.ref te]) nb
              have y2 := Ex.new (o := HO.lst (ps ++ [.ref te])) no
              have e20 := e17.trans (y1.trans y2)
              have ho := upd_same (H := upd H17 b (.lst [.ref te])) (a := o) (o := HO.lst (ps ++ [.ref te]))
              have nob : o ≠ pb := (ne_of_none ((e17.trans y1) _ _ hb16) no).symm
              obtain ⟨us5, hbh5, hlb5⟩ := hfi5.beh
              have noh : o ≠ bh := (ne_of_none ((e17.trans y1) _ _ hbh5) no).symm
              have hEo : EvL (upd (upd H17 b (.lst [.ref te])) o (.lst (ps ++ [.ref te]))) (ps ++ [.ref te]) (path ++ [e]) := paired_app (hps.mono e20) (.cons ⟨te, rfl, e20 _ _ hte5⟩ .nil)
              generalize upd (upd H17 b (.lst [.ref te])) o (.lst (ps ++ [.ref te])) = H20 at e20 ho hEo ⊢
              refine ⟨_, rfl, _, rfl, x, dx16, _, rfl, e20 _ _ hx16, rfl, x, r, pw, pb, cst r ws c e, _, _, rfl, ⟨dx16, e20 _ _ hx16⟩, fun t3 H21 nt3 e21 ht3 => ?_⟩
              have e521 := e20.trans e21
              have hfi6 := hfi5.mono e521
              have hli6 := hli5.mono e521
              have hmt6 : MetAt H21 pb bh kvs5 met2 := hmt5.exp (S := fun _ => False) (fun a o h _ => e521 a o h) (fun _ h => h.elim) (fun _ h => h.elim)
              have hkl : kvs5.length = met2.length := paired_len hmt5
              refine ⟨pm, _, rfl, DPut.t (k := stK (cst r ws c e)) (e521 _ _ hpm5) ht3 (sl24 (by omega)), ?_⟩
              rw [putK_new _ hgetn]
              have hfi7 := hfi6.grow (us := us5) (c := cst r ws c e) (t := t3) (e521 _ _ hpm5) hmt6 (e21 _ _ ho) (hEo.mono e21) nob noh
              have hli7 := LI.updM (o := .dT (kvs5 ++ [(stK (cst r ws c e), .ref o)])) hfi6 hli6
              have ntm : ∀ {a : Addr} {xs : List V}, H21 a = some (.tup xs) → a ≠ pm := by
                rintro a xs ha rfl
                rw [e521 _ _ hpm5] at ha
                cases ha
              have nlm : ∀ {a : Addr} {xs : List V}, H21 a = some (.lst xs) → a ≠ pm := by
                rintro a xs ha rfl
                rw [e521 _ _ hpm5] at ha
                cases ha
              have hts7 : upd H21 pm (.dT (kvs5 ++ [(stK (cst r ws c e), .ref o)])) ts = _ := (upd_ne (ntm (e521 _ _ hts5))).trans (e521 _ _ hts5)
              have hpq7 : upd H21 pm (.dT (kvs5 ++ [(stK (cst r ws c e), .ref o)])) pq = _ := (upd_ne (nlm (e521 _ _ hpq5))).trans (e521 _ _ hpq5)
              have hE7 : EvL (upd H21 pm (.dT (kvs5 ++ [(stK (cst r ws c e), .ref o)]))) es (canE r ws c) := (hE5.mono e521).exp (S := fun a => a = pm) (fun a o h n => by rw [upd_ne n]; exact h) (by rintro a rfl xs ha; exact ntm ha rfl)
              have hx7 : upd H21 pm (.dT (kvs5 ++ [(stK (cst r ws c e), .ref o)])) x = _ := (upd_ne (by rintro rfl; have := e521 _ _ hpm5; rw [e521 _ _ hx16] at this; cases this)).trans (e521 _ _ hx16)
              generalize upd H21 pm (.dT (kvs5 ++ [(stK (cst r ws c e), .ref o)])) = H22 at hfi7 hli7 hts7 hpq7 hE7 hx7 ⊢
              obtain ⟨us7, hbh7, hlb7⟩ := hfi7.beh
              refine ⟨_, rfl, .inl ⟨rfl, _, SqL.of hbh7⟩, _, rfl, x, dx16, _, rfl, hx7, rfl, x, r, pw, pb, cst r ws c e, _, _, rfl, ⟨dx16, hx7⟩, fun t4 H23 nt4 e23 ht4 => ?_⟩
              have hlb8 : LevAt H23 us7 beh2 := hlb7.exp (S := fun _ => False) (fun a o h _ => e23 a o h) (fun _ h => h.elim)
              refine ⟨bh, _, _, rfl, rfl, e23 _ _ hbh7, sl24 (by rw [paired_len hlb7]; omega), ?_⟩
              have hfi8 := (hfi7.mono e23).next (e23 _ _ hbh7) hlb8 ht4
              have hli8 := LI.updH (o := .lst (us7 ++ [.ref t4])) (hfi7.mono e23) (hli7.mono e23)
              have nth : ∀ {a : Addr} {xs : List V}, H23 a = some (.tup xs) → a ≠ bh := by
                rintro a xs ha rfl
                rw [e23 _ _ hbh7] at ha
                cases ha
              refine ⟨met2 ++ [(cst r ws c e, path ++ [e])], beh2 ++ [cst r ws c e], _, rfl, hfi8, hli8, (upd_ne (nth (e23 _ _ hts7))).trans (e23 _ _ hts7), (upd_ne npqh).trans (e23 _ _ hpq7), (hE7.mono e23).exp (S := fun a => a = bh) (fun a o h n => by rw [upd_ne n]; exact h) (by rintro a rfl xs ha; exact nth ha rfl), hsr4, lens_step hlen3 hmem3, fun d hd => ?_, ?_, hkeep _ _ hpath3, hans3⟩
              · obtain ⟨z, hz⟩ := Option.isSome_iff_exists.mp (hin3 d hd)
                rw [hkeep _ _ hz]
                rfl
              · rw [List.length_append, List.length_append]
                simp
                omega
            · rw [if_neg hnew] at hst
              rw [hst] at hans3
              have hsome : (valV kvs5 (stK (cst r ws c e))).isSome = true := by
                cases hg2 : mGet met2 (cst r ws c e) with
                | none => exact absurd hg2 hnew
                | some z =>
                  rw [hg2] at hgetn
                  obtain ⟨_, _, h, _⟩ := hgetn
                  rw [h]
                  rfl
              refine ifN (by rw [hsome]; simp) ?_
              exact ⟨met2, beh2, _, rfl, hfi5.mono e17, hli5.mono e17, e17 _ _ hts5, e17 _ _ hpq5, hE5.mono e17, hsr3, hlen3, hin3, hml3, hpath3, hans3⟩
        · rintro σ H14 ⟨met2, beh2, y6, rfl, hfi3, hli3, hts3, hpq3, hE3, hsr3, hlen3, hin3, hml3, hpath3, hans3⟩
          rw [hE3.len, List.drop_length] at hans3
          exact ⟨met2, beh2, _, _, rfl, hfi3, hli3, hsr3, hlen3, hin3, hml3, hans3⟩
      · rintro σ H11 ⟨met1, beh1, y5, y6, rfl, hfi1, hli1, hsr1, hlen1, hin1, hml1, hans1⟩
        rw [paired_len hli1.at', List.drop_length] at hans1
        exact ⟨_, rfl, met1, beh1, bh, _, _, _, rfl, hfi1, hsr1, hlen1, hml1, hans1⟩
def sp_need_wide : Sp := fun vs H Q _ => ∃ n : Nat, vs = [.int (n : Int)] ∧ 1 ≤ n ∧ n ≤ 4 ∧ Q .non H
theorem ok_need_wide (T : TX K mg) : FnOk P w K mg base CX0 1 T.f_need_wide T.fd_need_wide ["wide"] sp_need_wide := by
  refine T.F_need_wide.ok sc_need_wide (fun vs H Q E h => ?_) (fun cdv A outer s H vs Q E hr h => ?_)
  · obtain ⟨n, rfl, _⟩ := h
    rfl
  · obtain ⟨n, rfl, h1, h4, q⟩ := h
    refine ⟨_, (pss_one (ps_if (pt_not (pt_chain op_le op_le pe_int (pv 0) (pe_glob (v := .int 4) (by rfl) T.c_MOST_WIDE ⟨_, rfl⟩)))
 (pss_one ps_never)
 pss_nil)), ?_⟩
    refine ⟨_, rfl, _, _, rfl, rfl, _, rfl, ?_⟩
    refine ifP (decide_eq_true (by omega)) ⟨_, _, rfl, rfl, _, rfl, ?_⟩
    refine ifN ?_ q
    simp
    omega
def sp_gray : Sp := fun vs H Q _ => ∃ n : Nat, vs = [.int (n : Int)] ∧ 1 ≤ n ∧ n ≤ 4 ∧ RetL ((grayW n).map wv) H Q
theorem ok_gray (T : TX K mg) : FnOk P w K mg base CX0 2 T.f_gray T.fd_gray ["wide"] sp_gray := by
  refine T.F_gray.ok sc_gray (fun vs H Q E h => ?_) (fun cdv A outer s H vs Q E hr h => ?_)
  · obtain ⟨n, rfl, _⟩ := h
    rfl
  · obtain ⟨n, rfl, h1, h4, q⟩ := h
    refine ⟨_, (pss_cons (ps_expr (pe_call (ok_need_wide T) (hr.mono (by decide)) (by rfl) T.g_need_wide T.F_need_wide.kp T.b_need_wide .nil pass0 (pa_cons (pv 0) pa_nil)))
 (pss_one (ps_ret (pe_call (ok_mirrored T) (hr.mono (by decide)) (by rfl) T.g_mirrored T.F_mirrored.kp T.b_mirrored .nil pass0 (pa_cons (pv 0) pa_nil))))), ?_⟩
    exact ⟨_, rfl, n, rfl, h1, h4, _, rfl, n, rfl, h4, q⟩
def sp_all_words : Sp := fun vs H Q _ => ∃ n : Nat, vs = [.int (n : Int)] ∧ n ≤ 4 ∧ RetL ((plainW n).map wv) H Q
theorem ok_all_words (T : TX K mg) : FnOk P w K mg base CX0 1 T.f_all_words T.fd_all_words ["wide"] sp_all_words := by
  refine T.F_all_words.ok sc_all_words (fun vs H Q E h => ?_) (fun cdv A outer s H vs Q E hr h => ?_)
  · obtain ⟨n, rfl, _⟩ := h
    rfl
  · obtain ⟨n, rfl, hn, q⟩ := h
    refine ⟨_, (pss_cons (ps_set (i := 1) sc_all_words.nd rfl (by first | exact Or.inl rfl | exact Or.inr rfl) (pe_lst (pa_cons pe_str pa_nil)))
 (pss_cons (ps_for PassesOwn.never rfl (pi_range1 (by rfl) T.z_range (pa_cons (pv 0) pa_nil)) (pg_name (i := 2) sc_all_words.nd rfl (by first | exact Or.inl rfl | exact Or.inr rfl))
 (pss_one (ps_set (i := 1) sc_all_words.nd rfl (by first | exact Or.inl rfl | exact Or.inr rfl) (pe_op op_cat (pe_lc (own := [("word", 3)]) (g := gName 3) (by rfl) sc_all_words.nd (pi_list (pv 1)) (blkOk_by (own := [("word", 3)]) (N := ["wide", "found", "turn", "word"]) (sc := defScope s_all_words) (by decide +kernel)) (fun _ _ _ _ _ => pg_name (i := 3) sc_all_words.nd rfl (Or.inl rfl)) (fun _ _ _ _ _ => pts_nil) (fun _ _ _ _ _ => (pe_op op_add_str pe_str (pv 3)))) (pe_lc (own := [("word", 3)]) (g := gName 3) (by rfl) sc_all_words.nd (pi_list (pv 1)) (blkOk_by (own := [("word", 3)]) (N := ["wide", "found", "turn", "word"]) (sc := defScope s_all_words) (by decide +kernel)) (fun _ _ _ _ _ => pg_name (i := 3) sc_all_words.nd rfl (Or.inl rfl)) (fun _ _ _ _ _ => pts_nil) (fun _ _ _ _ _ => (pe_op op_add_str pe_str (pv 3))))))))
 (pss_one (ps_ret (pv 1))))), ?_⟩
    refine ⟨small9 (by decide), fun p np => ?_⟩
    refine q_forR1 (ea_cons (ev_var rfl) ea_nil) ⟨by omega, by omega⟩ (fun i σ H' => i ≤ n ∧ ∃ p y z, σ = [some (.int (n : Int)), some (.ref p), y, z] ∧ Ex H H' ∧ H p = none ∧ H' p = some (.lst ((plainW i).map wv))) (fun H1 e1 => ⟨Nat.zero_le _, p, _, _, rfl, (Ex.new np).trans e1, np, ?_⟩) ?_ ?_
    · rw [e1 _ _ upd_same, strE]
      rfl
    · rintro i σ H' hi ⟨_, p, y, z, rfl, e1, np, hp⟩
      have hw : (plainW i).length ≤ 1000 := by
        rw [plainW_len]
        exact Nat.le_trans (pow16 (by omega)) (by decide)
      refine ⟨.ref p, rfl, p, rfl, ⟨_, SqL.of hp⟩, fun D1 n1 => lcM (plainW i) wv (fun w => wv (false :: w)) (SqL.of hp) hw n1 (fun _ => rfl) (fun x hx H2 e2 Y hY => ?_) (fun H2 e2 h2 => ?_)⟩
      · refine ⟨_, rfl, _, _, rfl, rfl, ?_, ?_⟩
        · rw [str0, wd_len, wd_len, plainW_wide i x hx]
          exact small9 (by simp; omega)
        · rw [str0, wd_app]
          exact hY _ (Ex.refl _)
      · refine ⟨.ref p, rfl, p, rfl, ⟨_, SqL.of (e2 _ _ hp)⟩, fun D2 n2 => lcM (plainW i) wv (fun w => wv (true :: w)) (SqL.of (e2 _ _ hp)) hw n2 (fun _ => rfl) (fun x hx H2 e2 Y hY => ?_) (fun H3 e3 h3 => ?_)⟩
        · refine ⟨_, rfl, _, _, rfl, rfl, ?_, ?_⟩
          · rw [str1, wd_len, wd_len, plainW_wide i x hx]
            exact small9 (by simp; omega)
          · rw [str1, wd_app]
            exact hY _ (Ex.refl _)
        · refine ⟨D1, D2, _, _, rfl, rfl, e3 _ _ h2, h3, ?_, fun o no => ?_⟩
          · simp only [List.length_map, plainW_len]
            have := pow16 (n := i) (by omega)
            exact small9 (by omega)
          · refine ⟨by omega, o, _, _, rfl, ((e1.trans e2).trans e3).trans (Ex.new no), fresh_back ((e1.trans e2).trans e3) no, ?_⟩
            rw [upd_same]
            show some (HO.lst _) = some (HO.lst _)
            simp [plainW, Function.comp_def]
    · rintro σ H' ⟨_, p, y, z, rfl, e1, np, hp⟩
      exact ⟨_, rfl, q p H' np e1 hp⟩
def sp_plain : Sp := fun vs H Q _ => ∃ n : Nat, vs = [.int (n : Int)] ∧ 1 ≤ n ∧ n ≤ 4 ∧ RetL ((plainW n).map wv) H Q
theorem ok_plain (T : TX K mg) : FnOk P w K mg base CX0 2 T.f_plain T.fd_plain ["wide"] sp_plain := by
  refine T.F_plain.ok sc_plain (fun vs H Q E h => ?_) (fun cdv A outer s H vs Q E hr h => ?_)
  · obtain ⟨n, rfl, _⟩ := h
    rfl
  · obtain ⟨n, rfl, h1, h4, q⟩ := h
    refine ⟨_, (pss_cons (ps_expr (pe_call (ok_need_wide T) (hr.mono (by decide)) (by rfl) T.g_need_wide T.F_need_wide.kp T.b_need_wide .nil pass0 (pa_cons (pv 0) pa_nil)))
 (pss_one (ps_ret (pe_call (ok_all_words T) (hr.mono (by decide)) (by rfl) T.g_all_words T.F_all_words.kp T.b_all_words .nil pass0 (pa_cons (pv 0) pa_nil))))), ?_⟩
    exact ⟨_, rfl, n, rfl, h1, h4, _, rfl, n, rfl, h4, q⟩
def sp_need_late : Sp := fun vs H Q _ => ∃ a b : Nat, vs = [nv a, nv b] ∧ a ≤ 6 ∧ b ≤ 6 ∧ Q .non H
theorem ok_need_late (T : TX K mg) : FnOk P w K mg base CX0 1 T.f_need_late T.fd_need_late ["one", "other"] sp_need_late := by
  refine T.F_need_late.ok sc_need_late (fun vs H Q E h => ?_) (fun cdv A outer s H vs Q E hr h => ?_)
  · obtain ⟨_, _, rfl, _⟩ := h
    rfl
  · obtain ⟨a, b, rfl, ha, hb, q⟩ := h
    refine ⟨_, (pss_one (ps_if (PW.pt (pw_or (pt_not (pt_chain op_le op_le pe_int (pv 0) (pe_glob (v := .int 6) (by rfl) T.c_MOST_LATE ⟨_, rfl⟩))) (pw_or1 (pt_not (pt_chain op_le op_le pe_int (pv 1) (pe_glob (v := .int 6) (by rfl) T.c_MOST_LATE ⟨_, rfl⟩))))))
 (pss_one ps_never)
 pss_nil)), ?_⟩
    refine ⟨_, rfl, _, _, rfl, rfl, _, rfl, ifP (decide_eq_true (by omega)) ⟨_, _, rfl, rfl, _, rfl, ifN (by simp; omega) ?_⟩⟩
    refine ⟨_, rfl, _, _, rfl, rfl, _, rfl, ifP (decide_eq_true (by omega)) ⟨_, _, rfl, rfl, _, rfl, ifN (by simp; omega) q⟩⟩
def FT (H : Hp) (j q : Nat) (v : V) : Prop := ∃ τ, v = .ref τ ∧ H τ = some (.tup [nv j, nv q])
theorem ok_gone_through (T : TX K mg) : FnOk P w K mg base CX0 1 T.f_gone_through T.fd_gone_through ["room", "one", "other"] sp_gone_through := by
  refine T.F_gone_through.ok sc_gone_through (fun vs H Q E h => ?_) (fun cdv A outer s H vs Q E hr h => ?_)
  · obtain ⟨_, _, _, _, _, _, rfl, _⟩ := h
    rfl
  · obtain ⟨r, a, b, s0, p0, q0, rfl, hr1, ha, hb, hres, q⟩ := h
    obtain ⟨m, hm⟩ : ∃ m, m = max a b + 1 := ⟨_, rfl⟩
    have hm0 : 0 < m := by omega
    have hm1 : m ≤ 101 := by omega
    refine ⟨_, (pss_cons (ps_set (i := 3) sc_gone_through.nd rfl (by first | exact Or.inl rfl | exact Or.inr rfl) (pe_op op_add (pe_callB (call_max2 rfl) (by rfl) T.z_max (by decide +kernel) (pa_cons (pv 1) (pa_cons (pv 2) pa_nil))) pe_int))
 (pss_cons (ps_set (i := 4) sc_gone_through.nd rfl (by first | exact Or.inl rfl | exact Or.inr rfl) (pe_op op_rep (pe_lst (pa_cons pe_int pa_nil)) (pv 3)))
 (pss_cons (ps_set (i := 5) sc_gone_through.nd rfl (by first | exact Or.inl rfl | exact Or.inr rfl) (pe_op op_rep (pe_lst (pa_cons pe_int pa_nil)) (pv 3)))
 (pss_cons (ps_set (i := 6) sc_gone_through.nd rfl (by first | exact Or.inl rfl | exact Or.inr rfl) pe_dnewT)
 (pss_cons (ps_set (i := 7) sc_gone_through.nd rfl (by first | exact Or.inl rfl | exact Or.inr rfl) pe_int)
 (pss_one (ps_while PassesOwn.never (pt_val pe_bl)
 (pss_cons (ps_set (i := 8) sc_gone_through.nd rfl (by first | exact Or.inl rfl | exact Or.inr rfl) (pe_ix ix_list (pv 5) pe_int (fun _ _ => rfl)))
 (pss_cons (ps_set (i := 9) sc_gone_through.nd rfl (by first | exact Or.inl rfl | exact Or.inr rfl) (pe_callTy call_tuple_of (by rfl) T.z_tuple (by decide +kernel) (pa_cons (pe_lc (own := [("number", 10)]) (g := gName 10) (by rfl) sc_gone_through.nd (pi_list (pe_op op_cat (pv 4) (pv 5))) (blkOk_by (own := [("number", 10)]) (N := ["room", "one", "other", "many", "puts", "gets", "met", "moment", "base", "key", "number", "begin", "put", "goes_in", "goes_out"]) (sc := defScope s_gone_through) (by decide +kernel)) (fun _ _ _ _ _ => pg_name (i := 10) sc_gone_through.nd rfl (Or.inl rfl)) (fun _ _ _ _ _ => pts_nil) (fun _ _ _ _ _ => (pe_op op_sub (pv 10) (pv 8)))) pa_nil)))
 (pss_cons (ps_if (pt_cmp (pc_din (hu_of hr) (pv 9) (pv 6)))
 (pss_cons (ps_asg (pe_dget (hu_of hr) (pv 6) (pv 9) (fun _ _ => rfl)) (pg_tup (by rfl) (pgs_cons (pg_name (i := 11) sc_gone_through.nd rfl (by first | exact Or.inl rfl | exact Or.inr rfl)) (pgs_cons (pg_name (i := 12) sc_gone_through.nd rfl (by first | exact Or.inl rfl | exact Or.inr rfl)) pgs_nil))))
 (pss_one (ps_ret (pe_tup (pa_cons (pv 11) (pa_cons (pe_op op_sub (pv 7) (pv 11)) (pa_cons (pe_op op_sub (pe_ix ix_list (pv 4) (pe_un un_neg pe_int) (fun _ _ => rfl)) (pv 12)) pa_nil)))))))
 pss_nil)
 (pss_cons (ps_dput (hu_of hr) (pv 6) (pv 9) (pe_tup (pa_cons (pv 7) (pa_cons (pe_ix ix_list (pv 4) (pe_un un_neg pe_int) (fun _ _ => rfl)) pa_nil))) rfl)
 (pss_cons (ps_set (i := 13) sc_gone_through.nd rfl (by first | exact Or.inl rfl | exact Or.inr rfl) (pe_cmpR op_lt (pe_op op_sub (pe_ix ix_list (pv 4) (pe_un un_neg pe_int) (fun _ _ => rfl)) (pe_ix ix_list (pv 5) (pe_op op_sub (pe_op op_sub (pv 3) pe_int) (pv 1)) (fun _ _ => rfl))) (pv 0) (nomark _)))
 (pss_cons (ps_set (i := 14) sc_gone_through.nd rfl (by first | exact Or.inl rfl | exact Or.inr rfl) (pe_cmpR op_gt (pe_ix ix_list (pv 4) (pe_op op_sub (pe_op op_sub (pv 3) pe_int) (pv 2)) (fun _ _ => rfl)) (pe_ix ix_list (pv 5) (pe_un un_neg pe_int) (fun _ _ => rfl)) (nomark _)))
 (pss_cons (ps_set (i := 4) sc_gone_through.nd rfl (by first | exact Or.inl rfl | exact Or.inr rfl) (pe_op op_cat (pe_slice sl_list (pv 4) (po_some pe_int) po_none) (pe_lst (pa_cons (pe_op op_add (pe_ix ix_list (pv 4) (pe_un un_neg pe_int) (fun _ _ => rfl)) (pe_callTy call_int1 (by rfl) T.z_int (by decide +kernel) (pa_cons (pv 13) pa_nil))) pa_nil))))
 (pss_cons (ps_set (i := 5) sc_gone_through.nd rfl (by first | exact Or.inl rfl | exact Or.inr rfl) (pe_op op_cat (pe_slice sl_list (pv 5) (po_some pe_int) po_none) (pe_lst (pa_cons (pe_op op_add (pe_ix ix_list (pv 5) (pe_un un_neg pe_int) (fun _ _ => rfl)) (pe_callTy call_int1 (by rfl) T.z_int (by decide +kernel) (pa_cons (pv 14) pa_nil))) pa_nil))))
 (pss_one (ps_set (i := 7) sc_gone_through.nd rfl (by first | exact Or.inl rfl | exact Or.inr rfl) (pe_op op_add (pv 7) pe_int)))))))))))))))))), ?_⟩
    refine ⟨_, rfl, _, rfl, _, _, rfl, _, _, rfl, rfl, ?_⟩
    have em : ((if (b : Int) > (a : Int) then (b : Int) else (a : Int)) + 1) = (m : Int) := by rw [int_max]; omega
    refine ⟨small9 (by simp), fun l1 n1 => ⟨_, rfl, l1, (m : Int), _, rfl, by rw [← em], upd_same, by omega, by omega, small9 (by simp; omega), fun pp np => ?_⟩⟩
    refine ⟨small9 (by simp), fun l2 n2 => ⟨_, rfl, l2, (m : Int), _, rfl, by rw [← em], upd_same, by omega, by omega, small9 (by simp; omega), fun pg ng => ?_⟩⟩
    intro d nd
    have e1 := Ex.new (o := HO.lst [.int 0]) n1
    have e2 := Ex.new (o := HO.lst (List.replicate (m : Int).toNat [V.int 0]).flatten) np
    have e3 := Ex.new (o := HO.lst [.int 0]) n2
    have e4 := Ex.new (o := HO.lst (List.replicate (m : Int).toNat [V.int 0]).flatten) ng
    have e5 := Ex.new (o := HO.dT []) nd
    have eall := (((e1.trans e2).trans e3).trans e4).trans e5
    have z0 : (List.replicate (m : Int).toNat [V.int 0]).flatten = (nwin m [0]).map nv := by
      rw [rep_flat, nwin_zero, List.map_replicate]
      rfl
    refine ⟨fun f σ H' => ∃ (t : Nat) (ps gs : List Nat) (ks : List (List Nat)) (kvs : List (List Key × V)) (pp pg d : Addr) (y8 y9 y10 y11 y12 y13 y14 : Option V),
      σ = [some (nv r), some (nv a), some (nv b), some (nv m), some (.ref pp), some (.ref pg), some (.ref d), some (nv t), y8, y9, y10, y11, y12, y13, y14] ∧ Ex H H' ∧ H d = none ∧
      H' pp = some (.lst ((nwin m ps).map nv)) ∧ H' pg = some (.lst ((nwin m gs).map nv)) ∧ H' d = some (.dT kvs) ∧ Met FT H' ks ps.tail kvs ∧ t = ks.length ∧ t + f = 40 ∧ sgo r a b m f t ps gs ks = some (s0, p0, q0) ∧ SInv ps gs,
      ⟨40, 0, [0], [0], [], [], pp, pg, d, none, none, none, none, none, none, none, ?_, eall, fresh_back (((e1.trans e2).trans e3).trans e4) nd, ?_, ?_, upd_same, rfl, rfl, rfl, by rw [hm]; exact hres, SInv.start⟩, ?_⟩
    · exact congrArg (fun z => [some (nv r), some (nv a), some (nv b), some (V.int z), some (.ref pp), some (.ref pg), some (.ref d), some (nv 0), none, none, none, none, none, none, none]) em
    · rw [((e3.trans e4).trans e5) _ _ upd_same, z0]
    · rw [e5 _ _ upd_same, z0]
    rintro f σ H' ⟨t, ps, gs, ks, kvs, pp, pg, d, y8, y9, y10, y11, y12, y13, y14, rfl, e0, nd, hpp, hpg, hd, hM, ht, htf, hgo, hI⟩
    obtain ⟨f, rfl⟩ := sgo_pos hgo
    refine ⟨true, rfl, iteT ⟨fun σ' H' => ∃ (t : Nat) (ps gs : List Nat) (ks : List (List Nat)) (kvs : List (List Key × V)) (pp pg d : Addr) (y8 y9 y10 y11 y12 y13 y14 : Option V),
      σ' = [some (nv r), some (nv a), some (nv b), some (nv m), some (.ref pp), some (.ref pg), some (.ref d), some (nv t), y8, y9, y10, y11, y12, y13, y14] ∧ Ex H H' ∧ H d = none ∧
      H' pp = some (.lst ((nwin m ps).map nv)) ∧ H' pg = some (.lst ((nwin m gs).map nv)) ∧ H' d = some (.dT kvs) ∧ Met FT H' ks ps.tail kvs ∧ t = ks.length ∧ t + f = 40 ∧ sgo r a b m f t ps gs ks = some (s0, p0, q0) ∧ SInv ps gs, fun σ' H' h => ⟨f, Nat.lt_succ_self f, h⟩, ?_⟩⟩
    have lp : ((nwin m ps).map nv).length = m := by rw [List.length_map, nwin_len]
    have lg : ((nwin m gs).map nv).length = m := by rw [List.length_map, nwin_len]
    -- base = gets[0]
    refine ⟨_, rfl, pg, _, 0, _, rfl, rfl, SqL.of hpg, atI_nat (j := 0) (nwin_at gs hm0), ?_⟩
    -- key
    refine ⟨_, rfl, _, rfl, pp, pg, _, _, rfl, rfl, hpp, hpg, small9 (by rw [lp, lg]; omega), fun o no => ?_⟩
    have eo := Ex.new (o := HO.lst ((nwin m ps).map nv ++ (nwin m gs).map nv)) no
    have so : SqL K (upd H' o (.lst ((nwin m ps).map nv ++ (nwin m gs).map nv))) o ((nwin m ps ++ nwin m gs).map nv) := SqL.of (by rw [upd_same, List.map_append])
    refine ⟨o, rfl, ⟨_, so⟩, fun D nD => lcM (nwin m ps ++ nwin m gs) nv (fun x => nv (x - gs.getD (m - 1) 0)) so (by rw [List.length_append, nwin_len, nwin_len]; omega) nD (fun _ => rfl) (fun x hx H2 e2 Y hY => ?_) (fun H2 e2 h2 => ?_)⟩
    · refine ⟨_, rfl, _, rfl, _, _, rfl, rfl, ?_⟩
      have := hI.base m x hx
      have e : (x : Int) - (gs.getD (m - 1) 0 : Int) = ((x - gs.getD (m - 1) 0 : Nat) : Int) := by omega
      show Y (V.int ((x : Int) - (gs.getD (m - 1 - 0) 0 : Int))) H2
      rw [Nat.sub_zero, e]
      exact hY _ (Ex.refl _)
    refine ⟨D, _, rfl, .inl ⟨SqL.of h2, fun kk nk => ?_⟩⟩
    have h2k : (upd H2 kk (.tup ((nwin m ps ++ nwin m gs).map fun x => nv (x - gs.getD (m - 1) 0)))) kk = some (.tup ((skk (skey m ps gs)).map kV)) := by
      rw [upd_same, skk_kV, skey, List.map_map]
      rfl
    have e3 := (eo.trans e2).trans (Ex.new (o := HO.tup ((nwin m ps ++ nwin m gs).map fun x => nv (x - gs.getD (m - 1) 0))) nk)
    have e03 := e0.trans e3
    have hpp := e3 _ _ hpp
    have hpg := e3 _ _ hpg
    have hd := e3 _ _ hd
    have hM := hM.imp (H' := upd H2 kk (.tup ((nwin m ps ++ nwin m gs).map fun x => nv (x - gs.getD (m - 1) 0)))) (fun j q v ⟨τ, h1, h2⟩ => ⟨τ, h1, e3 _ _ h2⟩)
    generalize upd H2 kk (.tup ((nwin m ps ++ nwin m gs).map fun x => nv (x - gs.getD (m - 1) 0))) = H3 at *
    -- key in met
    refine ⟨_, rfl, _, rfl, d, _, rfl, DGet.t hd h2k, _, rfl, ?_⟩
    cases hi : ixOf (skey m ps gs) ks with
    | some i =>
      obtain ⟨v, hv, τ, rfl, hτ⟩ := hM.some hi
      have hx := sgo_hit hgo hi
      have hlt := (ixOf_some hi).1
      rw [hv]
      refine iteT ?_
      refine ⟨_, rfl, _, rfl, d, .ref τ, rfl, ?_, τ, _, rfl, SqT.of hτ, rfl, _, _, rfl, _, _, rfl, rfl, ?_⟩
      · rw [← hv]
        exact DGet.t hd h2k
      refine ⟨_, rfl, _, rfl, _, rfl, _, _, rfl, rfl, _, rfl, 1, rfl, pp, _, -1, _, rfl, rfl, SqL.of hpp, nwin_last ps hm0, _, rfl, _, _, rfl, rfl, small9 (by simp), fun o' no' => ?_⟩
      refine q o' _ (fresh_back e03 no') (e03.trans (Ex.new no')) ?_
      rw [upd_same]
      have hx1 : s0 = t - 1 - i := congrArg (·.1) hx
      have hx2 : p0 = i + 1 := congrArg (·.2.1) hx
      have hx3 : q0 = ps.getD 0 0 - ps.getD (i + 1) 0 := congrArg (·.2.2) hx
      have hle := mono_getD hI.p 0 (i + 1)
      rw [Nat.zero_add] at hle
      have eq1 : ps.tail.getD i 0 = ps.getD (i + 1) 0 := by cases ps <;> simp
      show some (HO.tup [V.int ((ks.length - 1 - i : Nat) : Int), V.int ((t : Int) - ((ks.length - 1 - i : Nat) : Int)), V.int ((ps.getD 0 0 : Int) - (ps.tail.getD i 0 : Int))]) = some (HO.tup [V.int (s0 : Int), V.int (p0 : Int), V.int (q0 : Int)])
      rw [eq1, hx1, hx2, hx3, show ks.length - 1 - i = t - 1 - i by omega, show (t : Int) - ((t - 1 - i : Nat) : Int) = ((i + 1 : Nat) : Int) by omega, show (ps.getD 0 0 : Int) - (ps.getD (i + 1) 0 : Int) = ((ps.getD 0 0 - ps.getD (i + 1) 0 : Nat) : Int) by omega]
    | none =>
      have hn := ixOf_none hi
      have hgo := sgo_miss hgo hi
      rw [hM.none hn]
      refine iteF ?_
      -- met[key] = (moment, puts[-1])
      refine ⟨_, rfl, _, rfl, 1, rfl, pp, _, -1, _, rfl, rfl, SqL.of hpp, nwin_last ps hm0, small9 (by simp), fun τ nτ => ?_⟩
      have eτ := Ex.new (o := HO.tup [nv t, nv (ps.getD 0 0)]) nτ
      refine ⟨_, rfl, _, rfl, d, _, rfl, DPut.t (eτ _ _ hd) (eτ _ _ h2k) (small1000 (by rw [hM.len]; omega)), ?_⟩
      have ndp : pp ≠ d := ne_of hpp hd (by intro z; cases z)
      have ndg : pg ≠ d := ne_of hpg hd (by intro z; cases z)
      have ndτ : τ ≠ d := (ne_of_none hd nτ).symm
      have hpp5 : (upd (upd H3 τ (.tup [nv t, nv (ps.getD 0 0)])) d (.dT (putK kvs (skk (skey m ps gs)) (.ref τ)))) pp = some (.lst ((nwin m ps).map nv)) := by
        rw [upd_ne ndp]
        exact eτ _ _ hpp
      have hpg5 : (upd (upd H3 τ (.tup [nv t, nv (ps.getD 0 0)])) d (.dT (putK kvs (skk (skey m ps gs)) (.ref τ)))) pg = some (.lst ((nwin m gs).map nv)) := by
        rw [upd_ne ndg]
        exact eτ _ _ hpg
      have hM5 : Met FT (upd (upd H3 τ (.tup [nv t, nv (ps.getD 0 0)])) d (.dT (putK kvs (skk (skey m ps gs)) (.ref τ)))) (skey m ps gs :: ks) ps (putK kvs (skk (skey m ps gs)) (.ref τ)) := by
        have hMi : Met FT (upd (upd H3 τ (.tup [nv t, nv (ps.getD 0 0)])) d (.dT (putK kvs (skk (skey m ps gs)) (.ref τ)))) ks ps.tail kvs := hM.imp fun j q v hv => by
          obtain ⟨τ', h1, h9⟩ := hv
          exact ⟨τ', h1, by rw [upd_ne (ne_of h9 hd (by intro z; cases z))]; exact eτ _ _ h9⟩
        exact hMi.add hn ⟨τ, rfl, by rw [upd_ne ndτ, upd_same, ht]⟩
      have hd5 : (upd (upd H3 τ (.tup [nv t, nv (ps.getD 0 0)])) d (.dT (putK kvs (skk (skey m ps gs)) (.ref τ)))) d = some (.dT (putK kvs (skk (skey m ps gs)) (.ref τ))) := upd_same
      have e05 : Ex H (upd (upd H3 τ (.tup [nv t, nv (ps.getD 0 0)])) d (.dT (putK kvs (skk (skey m ps gs)) (.ref τ)))) := (e03.trans eτ).mut nd
      generalize upd (upd H3 τ (.tup [nv t, nv (ps.getD 0 0)])) d (.dT (putK kvs (skk (skey m ps gs)) (.ref τ))) = H5 at *
      have ea : (m : Int) - 1 - (a : Int) = ((m - 1 - a : Nat) : Int) := by omega
      have eb : (m : Int) - 1 - (b : Int) = ((m - 1 - b : Nat) : Int) := by omega
      have ia : m - 1 - (m - 1 - a) = a := by omega
      have ib : m - 1 - (m - 1 - b) = b := by omega
      -- goes_in, goes_out
      refine ⟨_, rfl, 1, rfl, pp, _, -1, _, rfl, rfl, SqL.of hpp5, nwin_last ps hm0, _, rfl, _, rfl, _, _, rfl, rfl, _, rfl, _, _, rfl, rfl, pg, _, _, _, rfl, rfl, SqL.of hpg5, ats ea (nwin_at gs (by omega)), _, _, rfl, rfl, _, rfl, _, _, rfl, rfl, ?_⟩
      refine ⟨_, rfl, _, rfl, _, _, rfl, rfl, _, rfl, _, _, rfl, rfl, pp, _, _, _, rfl, rfl, SqL.of hpp5, ats eb (nwin_at ps (by omega)), _, rfl, 1, rfl, pg, _, -1, _, rfl, rfl, SqL.of hpg5, nwin_last gs hm0, _, _, rfl, rfl, ?_⟩
      rw [ia, ib]
      -- puts
      refine ⟨_, rfl, 1, rfl, pp, _, rfl, SqL.of hpp5, fun s1 ns1 => ?_⟩
      have es1 := Ex.new (o := HO.lst (cutV ((nwin m ps).map nv) (some 1) none)) ns1
      have en1 : V.int ((ps.getD 0 0 : Int) + (if decide ((ps.getD 0 0 : Int) - (gs.getD a 0 : Int) < (r : Int)) = true then (1 : Int) else 0)) = nv (newP r a ps gs) := by
        rw [b2n]
        unfold newP
        congr 3
        exact propext ⟨fun h => by have := of_decide_eq_true h; omega, fun h => decide_eq_true (by omega)⟩
      refine ⟨_, rfl, 1, rfl, pp, _, -1, _, rfl, rfl, SqL.of (es1 _ _ hpp5), nwin_last ps hm0, _, rfl, .inr ⟨_, rfl, _, _, rfl, rfl, ?_⟩⟩
      dsimp only
      rw [en1]
      refine ⟨small9 (by simp), fun s2 ns2 => ?_⟩
      have es2 := es1.trans (Ex.new (o := HO.lst [nv (newP r a ps gs)]) ns2)
      refine ⟨s1, s2, _, _, rfl, rfl, (Ex.new ns2) _ _ upd_same, upd_same, small9 (by rw [cut1]; simp [nwin_len]; omega), fun pp' npp' => ?_⟩
      have es3 := es2.trans (Ex.new (o := HO.lst (cutV ((nwin m ps).map nv) (some 1) none ++ [nv (newP r a ps gs)])) npp')
      have hpp6 := upd_same (H := (upd (upd H5 s1 (.lst (cutV ((nwin m ps).map nv) (some 1) none))) s2 (.lst [nv (newP r a ps gs)]))) (a := pp') (o := HO.lst (cutV ((nwin m ps).map nv) (some 1) none ++ [nv (newP r a ps gs)]))
      have hpg6 := es3 _ _ hpg5
      have hd6 := es3 _ _ hd5
      have hM6 : Met FT (upd (upd (upd H5 s1 (.lst (cutV ((nwin m ps).map nv) (some 1) none))) s2 (.lst [nv (newP r a ps gs)])) pp' (.lst (cutV ((nwin m ps).map nv) (some 1) none ++ [nv (newP r a ps gs)]))) (skey m ps gs :: ks) ps (putK kvs (skk (skey m ps gs)) (.ref τ)) := hM5.imp fun j q v hv => by
        obtain ⟨τ', h1, h9⟩ := hv
        exact ⟨τ', h1, es3 _ _ h9⟩
      have e06 := e05.trans es3
      generalize upd (upd (upd H5 s1 (.lst (cutV ((nwin m ps).map nv) (some 1) none))) s2 (.lst [nv (newP r a ps gs)])) pp' (.lst (cutV ((nwin m ps).map nv) (some 1) none ++ [nv (newP r a ps gs)])) = H6 at hpp6 hpg6 hd6 hM6 e06 ⊢
      rw [cut1, ← List.map_drop, show [nv (newP r a ps gs)] = [newP r a ps gs].map nv from rfl, ← List.map_append, nwin_new ps _ hm0] at hpp6
      clear es1 es2 es3 hpp5 hpg5 hd5 hM5 e05
      -- gets
      refine ⟨_, rfl, 1, rfl, pg, _, rfl, SqL.of hpg6, fun s3 ns3 => ?_⟩
      have es1 := Ex.new (o := HO.lst (cutV ((nwin m gs).map nv) (some 1) none)) ns3
      have en2 : V.int ((gs.getD 0 0 : Int) + (if decide ((gs.getD 0 0 : Int) < (ps.getD b 0 : Int)) = true then (1 : Int) else 0)) = nv (newG b ps gs) := by
        rw [b2n]
        unfold newG
        congr 3
        exact propext ⟨fun h => by have := of_decide_eq_true h; omega, fun h => decide_eq_true (by omega)⟩
      refine ⟨_, rfl, 1, rfl, pg, _, -1, _, rfl, rfl, SqL.of (es1 _ _ hpg6), nwin_last gs hm0, _, rfl, .inr ⟨_, rfl, _, _, rfl, rfl, ?_⟩⟩
      dsimp only
      rw [en2]
      refine ⟨small9 (by simp), fun s4 ns4 => ?_⟩
      have es2 := es1.trans (Ex.new (o := HO.lst [nv (newG b ps gs)]) ns4)
      refine ⟨s3, s4, _, _, rfl, rfl, (Ex.new ns4) _ _ upd_same, upd_same, small9 (by rw [cut1]; simp [nwin_len]; omega), fun pg' npg' => ?_⟩
      have es3 := es2.trans (Ex.new (o := HO.lst (cutV ((nwin m gs).map nv) (some 1) none ++ [nv (newG b ps gs)])) npg')
      refine ⟨_, rfl, _, _, rfl, rfl, ?_⟩
      refine ⟨t + 1, newP r a ps gs :: ps, newG b ps gs :: gs, skey m ps gs :: ks, _, pp', pg', d, _, _, _, _, _, _, _, rfl, e06.trans es3, nd, es3 _ _ hpp6, ?_, es3 _ _ hd6, ?_, by rw [ht]; rfl, by omega, hgo, hI.step r a b⟩
      · rw [upd_same, cut1, ← List.map_drop, show [nv (newG b ps gs)] = [newG b ps gs].map nv from rfl, ← List.map_append, nwin_new gs _ hm0]
      · exact hM6.imp fun j q v hv => by
          obtain ⟨τ', h1, h9⟩ := hv
          exact ⟨τ', h1, es3 _ _ h9⟩
def sp_steady : Sp := fun vs H Q _ => ∃ r a b s p q : Nat, vs = [nv r, nv a, nv b] ∧ 1 ≤ r ∧ r ≤ 20 ∧ a ≤ 6 ∧ b ≤ 6 ∧ sRes r a b = some (s, p, q) ∧ RetU [nv s, nv p, nv q] H Q
theorem ok_steady (T : TX K mg) : FnOk P w K mg base CX0 2 T.f_steady T.fd_steady ["room", "one", "other"] sp_steady := by
  refine T.F_steady.ok sc_steady (fun vs H Q E h => ?_) (fun cdv A outer s H vs Q E hr h => ?_)
  · obtain ⟨_, _, _, _, _, _, rfl, _⟩ := h
    rfl
  · obtain ⟨r, a, b, s0, p0, q0, rfl, hr1, hr2, ha, hb, hres, q⟩ := h
    refine ⟨_, (pss_cons (ps_if (pt_not (pt_chain op_le op_le pe_int (pv 0) (pe_glob (v := .int 20) (by rfl) T.c_MOST_STEADY ⟨_, rfl⟩)))
 (pss_one ps_never)
 pss_nil)
 (pss_cons (ps_expr (pe_call (ok_need_late T) (hr.mono (by decide)) (by rfl) T.g_need_late T.F_need_late.kp T.b_need_late .nil pass0 (pa_cons (pv 1) (pa_cons (pv 2) pa_nil))))
 (pss_one (ps_ret (pe_call (ok_gone_through T) (hr.mono (by decide)) (by rfl) T.g_gone_through T.F_gone_through.kp T.b_gone_through .nil pass0 (pa_cons (pv 0) (pa_cons (pv 1) (pa_cons (pv 2) pa_nil)))))))), ?_⟩
    refine ⟨_, rfl, _, _, rfl, rfl, _, rfl, ifP (decide_eq_true (by omega)) ⟨_, _, rfl, rfl, _, rfl, ifN (by simp; omega) ?_⟩⟩
    exact ⟨_, rfl, _, rfl, a, b, rfl, ha, hb, _, rfl, _, rfl, _, rfl, r, a, b, s0, p0, q0, rfl, by omega, by omega, by omega, hres, q⟩
def sp_least_room : Sp := fun vs H Q _ => ∃ a b : Nat, vs = [nv a, nv b] ∧ a ≤ 6 ∧ b ≤ 6 ∧ RetV (nv (a + b + 2)) H Q
theorem ok_least_room (T : TX K mg) : FnOk P w K mg base CX0 2 T.f_least_room T.fd_least_room ["one", "other"] sp_least_room := by
  refine T.F_least_room.ok sc_least_room (fun vs H Q E h => ?_) (fun cdv A outer s H vs Q E hr h => ?_)
  · obtain ⟨_, _, rfl, _⟩ := h
    rfl
  · obtain ⟨a, b, rfl, ha, hb, q⟩ := h
    refine ⟨_, (pss_cons (ps_expr (pe_call (ok_need_late T) (hr.mono (by decide)) (by rfl) T.g_need_late T.F_need_late.kp T.b_need_late .nil pass0 (pa_cons (pv 0) (pa_cons (pv 1) pa_nil))))
 (pss_cons (ps_set (i := 2) sc_least_room.nd rfl (by first | exact Or.inl rfl | exact Or.inr rfl) pe_int)
 (pss_one (ps_while PassesOwn.never (pt_val pe_bl)
 (pss_cons (ps_asg (pe_call (ok_gone_through T) (hr.mono (by decide)) (by rfl) T.g_gone_through T.F_gone_through.kp T.b_gone_through .nil pass0 (pa_cons (pv 2) (pa_cons (pv 0) (pa_cons (pv 1) pa_nil)))) (pg_tup (by rfl) (pgs_cons (pg_name (i := 3) sc_least_room.nd rfl (by first | exact Or.inl rfl | exact Or.inr rfl)) (pgs_cons (pg_name (i := 4) sc_least_room.nd rfl (by first | exact Or.inl rfl | exact Or.inr rfl)) (pgs_cons (pg_name (i := 5) sc_least_room.nd rfl (by first | exact Or.inl rfl | exact Or.inr rfl)) pgs_nil)))))
 (pss_cons (ps_if (pt_cmpR op_eq (pv 4) (pv 5) (nomark _))
 (pss_one (ps_ret (pv 2)))
 pss_nil)
 (pss_one (ps_set (i := 2) sc_least_room.nd rfl (by first | exact Or.inl rfl | exact Or.inr rfl) (pe_op op_add (pv 2) pe_int))))))))), ?_⟩
    refine ⟨_, rfl, _, rfl, a, b, rfl, ha, hb, ?_⟩
    refine ⟨fun f σ H' => ∃ (r : Nat) (y3 y4 y5 : Option V), σ = [some (nv a), some (nv b), some (nv r), y3, y4, y5] ∧ Ex H H' ∧ 1 ≤ r ∧ r + f = a + b + 2, ⟨a + b + 1, 1, none, none, none, rfl, Ex.refl _, by omega, by omega⟩, ?_⟩
    rintro f σ H' ⟨r, y3, y4, y5, rfl, e0, hr1, hrf⟩
    obtain ⟨s0, p0, q0, hres, hq, hp⟩ := sRes_ok hr1 (show r ≤ 20 by omega) ha hb
    refine ⟨true, rfl, iteT ⟨fun σ' H' => ∃ (r : Nat) (y3 y4 y5 : Option V), σ' = [some (nv a), some (nv b), some (nv r), y3, y4, y5] ∧ Ex H H' ∧ 1 ≤ r ∧ r + f = a + b + 3 ∧ 0 < f, fun σ' H' h => ?_, ?_⟩⟩
    · obtain ⟨r, y3, y4, y5, h1, h2, h3, h4, h5⟩ := h
      exact ⟨f - 1, by omega, r, y3, y4, y5, h1, h2, h3, by omega⟩
    refine ⟨_, rfl, _, rfl, _, rfl, r, a, b, s0, p0, q0, rfl, by omega, by omega, by omega, hres, fun x H2 nx e2 hx => ?_⟩
    refine ⟨x, _, rfl, SqT.of hx, rfl, _, _, rfl, _, _, rfl, _, _, rfl, rfl, ?_⟩
    refine ⟨_, rfl, _, rfl, rfl, _, rfl, ite2 (fun e => ?_) (fun e => ?_)⟩
    · have e : (p0 : Int) = (q0 : Int) := V.int.inj (of_decide_eq_true e)
      have e : p0 = q0 := by omega
      rw [← e] at hq
      have hmin : a + b + 2 = min r (a + b + 2) := Nat.eq_of_mul_eq_mul_left (by omega) hq
      have hr2 : r = a + b + 2 := by omega
      refine ⟨_, rfl, ?_⟩
      rw [hr2]
      exact q _ (e0.trans e2)
    · have hne : f ≠ 0 := fun hf => by
        have hr2 : r = a + b + 2 := by omega
        rw [hr2, Nat.min_self] at hq
        have := Nat.eq_of_mul_eq_mul_right (show 0 < a + b + 2 by omega) hq
        exact e (decide_eq_true (by rw [this]))
      refine ⟨_, rfl, _, _, rfl, rfl, ?_⟩
      exact ⟨r + 1, _, _, _, rfl, e0.trans e2, by omega, by omega, by omega⟩
/-! ### fair words: a lane never breaks -/
def Fair (ws : List (List Bool)) (r : Nat) : Prop := ∀ i, i < 2 * r → ∀ w ∈ seenW (ws.getD i []) (ws.getD (nxt r i) []), w ∈ ws → w = ws.getD i [] ∨ w = ws.getD (nxt r i) []
structure FInv (r : Nat) (c : Co) : Prop where
  ok : CoOk r c
  a : ((c.sp : Int) - c.got) % (2 * r) ≤ ((c.put : Int) - c.got) % (2 * r)
  b : ((c.got : Int) - c.sg) % (2 * r) + ((c.put : Int) - c.got) % (2 * r) ≤ r
theorem seenW_self : ∀ a : List Bool, seenW a a = [a]
  | [] => rfl
  | x :: a => by
    show ((mk2 x x).flatMap fun m => (seenW a a).map (m :: ·)) = _
    rw [seenW_self a]
    simp [mk2]
theorem idx_getD {ws : List (List Bool)} {i : Nat} (nd : ws.Nodup) (h : i < ws.length) : ws.idxOf (ws.getD i []) = i := by
  have hm := getD_mem h
  have hl := List.idxOf_lt_length_of_mem hm
  have he : ws[ws.idxOf (ws.getD i [])] = ws[i] := by
    rw [List.getElem_idxOf, List.getD_eq_getElem?_getD, List.getElem?_eq_getElem h]
    rfl
  exact (List.getElem_inj nd (h₀ := hl) (h₁ := h)).mp he
theorem mayW_idx {ws : List (List Bool)} {n r : Nat} {c : Co} {p : Bool} {w : List Bool} (hW : WW ws n r) (nd : ws.Nodup) (hf : Fair ws r) (hc : CoOk r c) (hw : w ∈ mayW r ws c p) (hm : w ∈ ws) : ws.idxOf w = here c p ∨ ws.idxOf w = other r c p := by
  have h1 : here c p < ws.length := by rw [hW.len]; exact here_lt hc p
  have h2 : other r c p < ws.length := by rw [hW.len]; exact other_lt hW.r1 hc p
  have hd : w = ws.getD (here c p) [] ∨ w = ws.getD (other r c p) [] := by
    unfold mayW at hw
    cases hg : goes r c p with
    | false =>
      have ho : other r c p = here c p := by unfold other; rw [hg]; rfl
      rw [ho, seenW_self] at hw
      exact .inl (List.mem_singleton.mp hw)
    | true =>
      have ho : other r c p = nxt r (here c p) := by unfold other; rw [hg]; rfl
      rw [ho] at hw ⊢
      exact hf _ (here_lt hc p) w hw hm
  rcases hd with h | h <;> rw [h]
  · exact .inl (idx_getD nd h1)
  · exact .inr (idx_getD nd h2)
theorem finv0 {r : Nat} (h : 1 ≤ r) : FInv r c00 := ⟨coOk_zero h, by show ((0 : Int) - 0) % (2 * r) ≤ ((0 : Int) - 0) % (2 * r); exact Int.le_refl _, by show ((0 : Int) - 0) % (2 * r) + ((0 : Int) - 0) % (2 * r) ≤ r; simp⟩
section
variable {r : Nat} {c : Co}
theorem finv_good (h1 : 1 ≤ r) (h6 : r ≤ 6) (h : FInv r c) (p : Bool) (hg : goes r c p = true) : bad r c p = false := by
  obtain ⟨⟨o1, o2, o3, o4⟩, ha, hb⟩ := h
  cases p with
  | true =>
    have hg : ((c.put : Int) - c.sg) % (2 * r) < r := by simpa [goes] using hg
    refine decide_eq_false ?_
    unfold insd
    rcases r_cases h1 h6 with rfl | rfl | rfl | rfl | rfl | rfl <;> omega
  | false =>
    have hg : ¬ c.sp = c.got := by simpa [goes] using hg
    refine decide_eq_false ?_
    unfold insd
    rcases r_cases h1 h6 with rfl | rfl | rfl | rfl | rfl | rfl <;> omega
theorem finv_adv (h1 : 1 ≤ r) (h6 : r ≤ 6) (h : FInv r c) (p : Bool) (hg : goes r c p = true) : FInv r (adv r c p) := by
  have ok := adv_ok h1 h.ok p
  obtain ⟨⟨o1, o2, o3, o4⟩, ha, hb⟩ := h
  cases p with
  | true =>
    have hg : ((c.put : Int) - c.sg) % (2 * r) < r := by simpa [goes] using hg
    refine ⟨ok, ?_, ?_⟩
    · show ((c.sp : Int) - c.got) % (2 * r) ≤ (((nxt r c.put : Nat) : Int) - c.got) % (2 * r)
      unfold nxt
      rcases r_cases h1 h6 with rfl | rfl | rfl | rfl | rfl | rfl <;> omega
    · show ((c.got : Int) - c.sg) % (2 * r) + (((nxt r c.put : Nat) : Int) - c.got) % (2 * r) ≤ r
      unfold nxt
      rcases r_cases h1 h6 with rfl | rfl | rfl | rfl | rfl | rfl <;> omega
  | false =>
    have hg : ¬ c.sp = c.got := by simpa [goes] using hg
    refine ⟨ok, ?_, ?_⟩
    · show ((c.sp : Int) - ((nxt r c.got : Nat) : Int)) % (2 * r) ≤ ((c.put : Int) - ((nxt r c.got : Nat) : Int)) % (2 * r)
      unfold nxt
      rcases r_cases h1 h6 with rfl | rfl | rfl | rfl | rfl | rfl <;> omega
    · show (((nxt r c.got : Nat) : Int) - c.sg) % (2 * r) + ((c.put : Int) - ((nxt r c.got : Nat) : Int)) % (2 * r) ≤ r
      unfold nxt
      rcases r_cases h1 h6 with rfl | rfl | rfl | rfl | rfl | rfl <;> omega
/-- the reader knows of the writer's place, or of the one ahead of it -/
theorem finv_sp {k : Nat} (h1 : 1 ≤ r) (h6 : r ≤ 6) (h : FInv r c) (hk : k = c.put ∨ (c.put = nxt r k ∧ k < 2 * r ∧ ((k : Int) - c.got) % (2 * r) ≤ ((c.put : Int) - c.got) % (2 * r))) : FInv r { c with sp := k } := by
  obtain ⟨⟨o1, o2, o3, o4⟩, ha, hb⟩ := h
  rcases hk with rfl | ⟨_, hk, h2⟩
  · exact ⟨⟨o1, o2, o1, o4⟩, Int.le_refl _, hb⟩
  · exact ⟨⟨o1, o2, hk, o4⟩, h2, hb⟩
theorem finv_sg {k : Nat} (h : FInv r c) (hk : k < 2 * r) (hb : ((c.got : Int) - k) % (2 * r) + ((c.put : Int) - c.got) % (2 * r) ≤ r) : FInv r { c with sg := k } := ⟨⟨h.ok.1, h.ok.2.1, h.ok.2.2.1, hk⟩, h.a, hb⟩
end
theorem finv_step {ws : List (List Bool)} {n r : Nat} {c : Co} {e : Ev} (hW : WW ws n r) (nd : ws.Nodup) (hf : Fair ws r) (h : FInv r c) (he : e ∈ canE r ws c) : flt r c e = none ∧ FInv r (cst r ws c e) := by
  have h1 := hW.r1
  have h6 := hW.r6
  obtain ⟨o1, o2, o3, o4⟩ := h.ok
  have ha := h.a
  have hb := h.b
  cases e with
  | look w =>
    refine ⟨rfl, ?_⟩
    cases w with
    | true =>
      refine finv_sg h o2 ?_
      rcases r_cases h1 h6 with rfl | rfl | rfl | rfl | rfl | rfl <;> omega
    | false => exact finv_sp h1 h6 h (.inl rfl)
  | tp p o =>
    have hmay : ∀ w, o = some w → w ∈ mayW r ws c p := by
      rintro w rfl
      have hp : ∀ q, Ev.tp p (some w) ∈ canP r ws c q → w ∈ mayW r ws c p := by
        intro q hq
        rcases List.mem_cons.mp hq with hq | hq
        · cases hq
        · obtain ⟨u, hu, hq⟩ := List.mem_map.mp hq
          cases hq
          exact hu
      rcases List.mem_append.mp he with he | he
      · rcases List.mem_append.mp he with he | he
        · simp at he
        · exact hp _ he
      · exact hp _ he
    cases hg : goes r c p with
    | false =>
      refine ⟨flt_stay hg, ?_⟩
      rw [cst_stay hg]
      unfold sees
      cases o with
      | none => exact h
      | some w =>
        by_cases hm : w ∈ ws
        · simp only [if_pos hm]
          have ho : other r c p = here c p := by unfold other; rw [hg]; rfl
          have hi := mayW_idx hW nd hf h.ok (hmay w rfl) hm
          rw [ho, or_self] at hi
          rw [hi]
          cases p with
          | true => exact finv_sp h1 h6 h (.inl rfl)
          | false =>
            refine finv_sg h o2 ?_
            show ((c.got : Int) - c.got) % (2 * r) + ((c.put : Int) - c.got) % (2 * r) ≤ r
            rcases r_cases h1 h6 with rfl | rfl | rfl | rfl | rfl | rfl <;> omega
        · simp only [if_neg hm]
          exact h
    | true =>
      have hbd := finv_good h1 h6 h p hg
      refine ⟨flt_go hbd, ?_⟩
      rw [cst_go hg hbd]
      have h2 := finv_adv h1 h6 h p hg
      unfold sees
      cases o with
      | none => exact h2
      | some w =>
        by_cases hm : w ∈ ws
        · simp only [if_pos hm]
          have ho : other r c p = nxt r (here c p) := by unfold other; rw [hg]; rfl
          have hi := mayW_idx hW nd hf h.ok (hmay w rfl) hm
          rw [ho] at hi
          cases p with
          | true =>
            have hg : ((c.put : Int) - c.sg) % (2 * r) < r := by simpa [goes] using hg
            rcases hi with hi | hi
            · refine finv_sp h1 h6 h2 (.inr ⟨?_, ?_, ?_⟩)
              · rw [hi]; rfl
              · rw [hi]; exact o1
              · rw [hi]
                show ((c.put : Int) - c.got) % (2 * r) ≤ (((nxt r c.put : Nat) : Int) - c.got) % (2 * r)
                unfold nxt
                rcases r_cases h1 h6 with rfl | rfl | rfl | rfl | rfl | rfl <;> omega
            · exact finv_sp h1 h6 h2 (.inl hi)
          | false =>
            have hg : ¬ c.sp = c.got := by simpa [goes] using hg
            rcases hi with hi | hi
            · rw [hi]
              refine finv_sg h2 o2 ?_
              show (((nxt r c.got : Nat) : Int) - c.got) % (2 * r) + ((c.put : Int) - ((nxt r c.got : Nat) : Int)) % (2 * r) ≤ r
              unfold nxt
              rcases r_cases h1 h6 with rfl | rfl | rfl | rfl | rfl | rfl <;> omega
            · rw [hi]
              refine finv_sg h2 (nxt_lt h1 _) ?_
              show (((nxt r c.got : Nat) : Int) - ((nxt r c.got : Nat) : Int)) % (2 * r) + ((c.put : Int) - ((nxt r c.got : Nat) : Int)) % (2 * r) ≤ r
              unfold nxt
              rcases r_cases h1 h6 with rfl | rfl | rfl | rfl | rfl | rfl <;> omega
        · simp only [if_neg hm]
          exact h2
theorem finv_run {ws : List (List Bool)} {n r : Nat} (hW : WW ws n r) (nd : ws.Nodup) (hf : Fair ws r) : ∀ {es : List Ev} {c : Co}, FInv r c → VRun r ws c es → fEnd r ws c es = false
  | [], _, _, _ => rfl
  | e :: es, c, h, hv => by
    obtain ⟨g1, g2⟩ := finv_step hW nd hf h hv.1
    show ((flt r c e).isSome || fEnd r ws (cst r ws c e) es) = false
    rw [g1, finv_run hW nd hf g2 hv.2.2]
    rfl
theorem fair_fault {ws : List (List Bool)} {n r : Nat} (hW : WW ws n r) (nd : ws.Nodup) (hf : Fair ws r) : faultF r ws = none := by
  cases h : faultF r ws with
  | none => rfl
  | some x =>
    obtain ⟨p, e, _, hv, he, _⟩ := faultF_sound hW h
    rw [finv_run hW nd hf (finv0 hW.r1) hv] at he
    cases he
/-! ### the search is complete, and what it finds is the shortest -/
def keysM (m : Mt) : List Co := m.map (·.1)
theorem mem_keys {m : Mt} {c : Co} : c ∈ keysM m ↔ (mGet m c).isSome = true := by
  constructor
  · intro h
    cases hm : mGet m c with
    | none => exact absurd h (mGet_none hm)
    | some p => rfl
  · intro h
    obtain ⟨p, hp⟩ := Option.isSome_iff_exists.mp h
    exact List.mem_map.mpr ⟨_, mGet_mem hp, rfl⟩
def Closed (r : Nat) (ws : List (List Bool)) (m : Mt) (c : Co) : Prop := ∀ e ∈ canE r ws c, flt r c e = none ∧ cst r ws c e ∈ keysM m
theorem Closed.mono {r : Nat} {ws : List (List Bool)} {m m' : Mt} {c : Co} (h : ∀ d ∈ keysM m, d ∈ keysM m') (k : Closed r ws m c) : Closed r ws m' c := fun e he => ⟨(k e he).1, h _ (k e he).2⟩
/-- what a part of the search brings: k is the length of the paths of the next level -/
structure Grows (k : Nat) (a b : Mt × List Co) : Prop where
  get : ∀ d q, mGet a.1 d = some q → mGet b.1 d = some q
  new : ∀ d ∈ keysM b.1, d ∈ keysM a.1 ∨ d ∈ b.2
  old : ∀ d ∈ a.2, d ∈ b.2
  len : (∀ d ∈ a.2, ∀ q, mGet a.1 d = some q → q.length = k) → ∀ d ∈ b.2, ∀ q, mGet b.1 d = some q → q.length = k
theorem Grows.refl (k : Nat) (a : Mt × List Co) : Grows k a a := ⟨fun _ _ h => h, fun _ h => .inl h, fun _ h => h, fun h => h⟩
theorem Grows.keys {k : Nat} {a b : Mt × List Co} (h : Grows k a b) : ∀ d ∈ keysM a.1, d ∈ keysM b.1 := by
  intro d hd
  obtain ⟨p, hp⟩ := Option.isSome_iff_exists.mp (mem_keys.mp hd)
  exact mem_keys.mpr (by rw [h.get d p hp]; rfl)
theorem Grows.trans {k : Nat} {a b c : Mt × List Co} (h : Grows k a b) (g : Grows k b c) : Grows k a c := by
  refine ⟨fun d q hd => g.get d q (h.get d q hd), fun d hd => ?_, fun d hd => g.old d (h.old d hd), fun hl => g.len (h.len hl)⟩
  rcases g.new d hd with hd | hd
  · rcases h.new d hd with hd | hd
    · exact .inl hd
    · exact .inr (g.old d hd)
  · exact .inr hd
theorem evStep_grows {r : Nat} {ws : List (List Bool)} {c : Co} {path : List Ev} {a : Mt × List Co} {e : Ev} :
    (∀ x, evStep r ws c path a e = .inl x → x.1.length = path.length + 1) ∧ ∀ b, evStep r ws c path a e = .inr b → Grows (path.length + 1) a b ∧ flt r c e = none ∧ cst r ws c e ∈ keysM b.1 := by
  unfold evStep
  cases hf : flt r c e with
  | some p =>
    refine ⟨fun x hx => ?_, fun b hb => (by cases hb)⟩
    cases hx
    simp
  | none =>
    refine ⟨fun x hx => ?_, fun b hb => ?_⟩
    · dsimp only at hx
      split at hx <;> cases hx
    · dsimp only at hb
      by_cases hm : mGet a.1 (cst r ws c e) = none
      · rw [if_pos hm] at hb
        cases hb
        refine ⟨⟨fun d q hd => ?_, fun d hd => ?_, fun d hd => List.mem_append_left _ hd, fun hl d hd q hq => ?_⟩, rfl, ?_⟩
        · rw [mGet_app, hd]
        · unfold keysM at hd
          rw [List.map_append] at hd
          rcases List.mem_append.mp hd with hd | hd
          · exact .inl hd
          · rw [List.mem_singleton.mp hd]
            exact .inr (List.mem_append_right _ List.mem_cons_self)
        · rw [mGet_app] at hq
          cases hg : mGet a.1 d with
          | some q' =>
            rw [hg] at hq
            cases hq
            rcases List.mem_append.mp hd with hd | hd
            · exact hl d hd _ hg
            · rw [List.mem_singleton.mp hd, hm] at hg
              cases hg
          | none =>
            rw [hg] at hq
            dsimp only at hq
            split at hq
            · cases hq
              simp
            · cases hq
        · unfold keysM
          rw [List.map_append]
          exact List.mem_append_right _ List.mem_cons_self
      · rw [if_neg hm] at hb
        cases hb
        refine ⟨Grows.refl _ _, rfl, mem_keys.mpr ?_⟩
        cases h : mGet a.1 (cst r ws c e) with
        | none => exact absurd h hm
        | some p => rfl
theorem evsRun_grows {r : Nat} {ws : List (List Bool)} {c : Co} {path : List Ev} : ∀ {es : List Ev} {a : Mt × List Co},
    (∀ x, evsRun r ws c path es a = .inl x → x.1.length = path.length + 1) ∧ ∀ b, evsRun r ws c path es a = .inr b → Grows (path.length + 1) a b ∧ ∀ e ∈ es, flt r c e = none ∧ cst r ws c e ∈ keysM b.1
  | [], a => ⟨fun x hx => (by cases hx), fun b hb => (by cases hb; exact ⟨Grows.refl _ _, fun e he => (by cases he)⟩)⟩
  | e :: es, a => by
    obtain ⟨h1, h2⟩ := evStep_grows (r := r) (ws := ws) (c := c) (path := path) (a := a) (e := e)
    unfold evsRun
    cases hs : evStep r ws c path a e with
    | inl x => exact ⟨fun y hy => (by cases hy; exact h1 x hs), fun b hb => (by cases hb)⟩
    | inr b =>
      obtain ⟨g1, g2, g3⟩ := h2 b hs
      obtain ⟨i1, i2⟩ := evsRun_grows (r := r) (ws := ws) (c := c) (path := path) (es := es) (a := b)
      refine ⟨i1, fun d hd => ?_⟩
      obtain ⟨k1, k2⟩ := i2 d hd
      refine ⟨g1.trans k1, fun e' he' => ?_⟩
      rcases List.mem_cons.mp he' with rfl | he'
      · exact ⟨g2, k1.keys _ g3⟩
      · exact k2 e' he'
theorem levRun_grows {r : Nat} {ws : List (List Bool)} {k : Nat} : ∀ {cs : List Co} {a : Mt × List Co}, (∀ c ∈ cs, ∃ p, mGet a.1 c = some p ∧ p.length = k) →
    (∀ x, levRun r ws cs a = .inl x → x.1.length = k + 1) ∧ ∀ b, levRun r ws cs a = .inr b → Grows (k + 1) a b ∧ ∀ c ∈ cs, Closed r ws b.1 c
  | [], a, _ => ⟨fun x hx => (by cases hx), fun b hb => (by cases hb; exact ⟨Grows.refl _ _, fun e he => (by cases he)⟩)⟩
  | c :: cs, a, hl => by
    obtain ⟨p, hp, hk⟩ := hl c List.mem_cons_self
    obtain ⟨h1, h2⟩ := evsRun_grows (r := r) (ws := ws) (c := c) (path := p) (es := canE r ws c) (a := a)
    rw [hk] at h1 h2
    unfold levRun
    rw [hp]
    show (∀ x, (match evsRun r ws c p (canE r ws c) a with | .inl x => (Sum.inl x : FR) | .inr b => levRun r ws cs b) = Sum.inl x → _) ∧ ∀ b, (match evsRun r ws c p (canE r ws c) a with | .inl x => (Sum.inl x : FR) | .inr b => levRun r ws cs b) = Sum.inr b → _
    cases hs : evsRun r ws c p (canE r ws c) a with
    | inl x => exact ⟨fun y hy => (by cases hy; exact h1 x hs), fun b hb => (by cases hb)⟩
    | inr b =>
      obtain ⟨g1, g2⟩ := h2 b hs
      obtain ⟨i1, i2⟩ := levRun_grows (r := r) (ws := ws) (k := k) (cs := cs) (a := b) (fun d hd => by
        obtain ⟨q, hq, hk⟩ := hl d (List.mem_cons_of_mem _ hd)
        exact ⟨q, g1.get d q hq, hk⟩)
      refine ⟨i1, fun d hd => ?_⟩
      obtain ⟨k1, k2⟩ := i2 d hd
      refine ⟨g1.trans k1, fun c' hc' => ?_⟩
      rcases List.mem_cons.mp hc' with rfl | hc'
      · exact fun e he => ⟨(g2 e he).1, k1.keys _ (g2 e he).2⟩
      · exact k2 c' hc'
/-- the search behind k levels -/
structure Lvl (r : Nat) (ws : List (List Bool)) (k : Nat) (met : Mt) (lev : List Co) : Prop where
  all : ∀ p c, Way r ws p c → p.length ≤ k → c ∈ keysM met
  cls : ∀ c ∈ keysM met, c ∈ lev ∨ Closed r ws met c
  len : ∀ c ∈ lev, ∃ p, mGet met c = some p ∧ p.length = k
  non : ∀ p q, Bad r ws p q → k < p.length
theorem way_split {r : Nat} {ws : List (List Bool)} : ∀ {es : List Ev} {c : Co} {e : Ev}, VRun r ws c (es ++ [e]) → VRun r ws c es ∧ (flt r (cEnd r ws c es) e = none → fEnd r ws c es = false) ∧ fEnd r ws c es = false ∧ e ∈ canE r ws (cEnd r ws c es)
  | [], c, e, h => ⟨trivial, fun _ => rfl, rfl, h.1⟩
  | x :: es, c, e, h => by
    obtain ⟨h1, h2, h3⟩ := h
    obtain ⟨g1, g2, g3, g4⟩ := way_split (es := es) h3
    have hx : flt r c x = none := by
      cases hf : flt r c x with
      | none => rfl
      | some q =>
        have := h2 (by rw [hf]; simp)
        simp at this
    refine ⟨⟨h1, fun hn => absurd hx hn, g1⟩, fun _ => ?_, ?_, g4⟩ <;>
    · show ((flt r c x).isSome || fEnd r ws (cst r ws c x) es) = false
      rw [hx, g3]
      rfl
theorem Way.last {r : Nat} {ws : List (List Bool)} {p : List Ev} {c : Co} (h : Way r ws p c) (hn : p ≠ []) : ∃ p' e c', p = p' ++ [e] ∧ Way r ws p' c' ∧ e ∈ canE r ws c' ∧ c = cst r ws c' e := by
  rcases List.eq_nil_or_concat p with rfl | ⟨p', e, he⟩
  · exact absurd rfl hn
  have he : p = p' ++ [e] := by simpa using he
  subst he
  obtain ⟨h1, h2, h3⟩ := h
  obtain ⟨g1, _, g3, g4⟩ := way_split h1
  refine ⟨p', e, _, rfl, ⟨g1, g3, rfl⟩, g4, ?_⟩
  rw [← h3, cEnd_app]
  rfl
theorem Bad.last {r : Nat} {ws : List (List Bool)} {p : List Ev} {q : Bool} (h : Bad r ws p q) : ∃ p' e c', p = p' ++ [e] ∧ Way r ws p' c' ∧ e ∈ canE r ws c' ∧ flt r c' e = some q := by
  obtain ⟨p', e, rfl, h1, h2, h3⟩ := h
  obtain ⟨g1, _, g3, g4⟩ := way_split h1
  exact ⟨p', e, _, rfl, ⟨g1, g3, rfl⟩, g4, h3⟩
theorem lvl_step {r : Nat} {ws : List (List Bool)} {k : Nat} {met : Mt} {lev : List Co} {b : Mt × List Co} (h : Lvl r ws k met lev) (hs : Srch r ws b) (hb : levRun r ws lev (met, []) = .inr b) : Lvl r ws (k + 1) b.1 b.2 := by
  obtain ⟨_, h2⟩ := levRun_grows (r := r) (ws := ws) (k := k) (cs := lev) (a := (met, [])) h.len
  obtain ⟨g, hc⟩ := h2 b hb
  have cl : ∀ c ∈ keysM met, Closed r ws b.1 c := by
    intro c hm
    rcases h.cls c hm with hl | hl
    · exact hc c hl
    · exact hl.mono g.keys
  refine ⟨fun p c hw hl => ?_, fun c hm => ?_, fun c hm => ?_, fun p q hp => ?_⟩
  · by_cases hk : p.length ≤ k
    · exact g.keys _ (h.all p c hw hk)
    · obtain ⟨p', e, c', rfl, hw', he, rfl⟩ := hw.last (by rintro rfl; simp at hk)
      rw [List.length_append] at hl
      exact (cl c' (h.all p' c' hw' (by simpa using hl)) e he).2
  · rcases g.new c hm with hm | hm
    · exact .inr (cl c hm)
    · exact .inl hm
  · obtain ⟨p, hp⟩ := Option.isSome_iff_exists.mp (hs.lev c hm)
    exact ⟨p, hp, g.len (fun d hd => by cases hd) c hm p hp⟩
  · obtain ⟨p', e, c', rfl, hw', he, hf⟩ := hp.last
    rw [List.length_append]
    refine Nat.lt_of_not_le fun hl => ?_
    have := (cl c' (h.all p' c' hw' (by simpa using hl)) e he).1
    rw [hf] at this
    cases this
theorem lvl0 {r : Nat} {ws : List (List Bool)} : Lvl r ws 0 [(c00, [])] [c00] := by
  refine ⟨fun p c hw hl => ?_, fun c hm => ?_, fun c hm => ?_, fun p q hp => ?_⟩
  · have : p = [] := List.length_eq_zero_iff.mp (by omega)
    subst this
    rw [← hw.2.2]
    exact List.mem_cons_self
  · rw [List.mem_singleton.mp hm]
    exact .inl List.mem_cons_self
  · rw [List.mem_singleton.mp hm]
    exact ⟨[], rfl, rfl⟩
  · obtain ⟨p', e, rfl, _⟩ := hp
    simp
theorem lvl_end {r : Nat} {ws : List (List Bool)} {k : Nat} {met : Mt} (h : Lvl r ws k met []) (p : List Ev) (q : Bool) : ¬ Bad r ws p q := by
  have cl : ∀ c ∈ keysM met, Closed r ws met c := fun c hm => (h.cls c hm).elim (fun hl => by cases hl) id
  have wy : ∀ (n : Nat) (p : List Ev) (c : Co), p.length = n → Way r ws p c → c ∈ keysM met := by
    intro n
    induction n with
    | zero =>
      intro p c hp hw
      exact h.all p c hw (by omega)
    | succ n ih =>
      intro p c hp hw
      obtain ⟨p', e, c', rfl, hw', he, rfl⟩ := hw.last (by rintro rfl; simp at hp)
      exact (cl c' (ih p' c' (by simpa using hp) hw') e he).2
  intro hb
  obtain ⟨p', e, c', rfl, hw', he, hf⟩ := hb.last
  have := (cl c' (wy _ p' c' rfl hw') e he).1
  rw [hf] at this
  cases this
theorem bfs_short {r n : Nat} {ws : List (List Bool)} (hW : WW ws n r) : ∀ {f k : Nat} {met : Mt} {lev : List Co}, Srch r ws (met, []) → Lvl r ws k met lev → (lev ≠ [] → 20737 ≤ f + met.length) →
    (bfs r ws f met lev = none → ∀ p q, ¬ Bad r ws p q) ∧ ∀ x, bfs r ws f met lev = some x → ∀ p q, Bad r ws p q → x.1.length ≤ p.length
  | f, k, met, [], _, hl, _ => by
    rw [bfs]
    exact ⟨fun _ => lvl_end hl, fun x hx => (by cases hx)⟩
  | 0, k, met, c :: cs, hs, _, hf => by
    have := hf (by simp)
    have := co_many hW.r6 hs.nd hs.ok
    rw [List.length_map] at this
    dsimp only at this
    omega
  | f + 1, k, met, c :: cs, hs, hl, hf => by
    have hlen := hl.len
    have h1 := levRun_ok (cs := c :: cs) hW (a := (met, [])) (fun d hd => by
      obtain ⟨p, hp, _⟩ := hlen d hd
      show (mGet met d).isSome = true
      rw [hp]
      rfl) hs
    rw [bfs]
    cases hr : levRun r ws (c :: cs) (met, []) with
    | inl y =>
      refine ⟨fun h => (by cases h), fun x hx p q hp => ?_⟩
      cases hx
      have := (levRun_grows (r := r) (ws := ws) (k := k) (cs := c :: cs) (a := (met, [])) hlen).1 _ hr
      have := hl.non p q hp
      omega
    | inr b =>
      obtain ⟨g1, g2, g3⟩ := h1.2 b hr
      refine bfs_short hW (f := f) (k := k + 1) ⟨g1.way, g1.nd, g1.ok, by simp⟩ (lvl_step hl g1 hr) (fun hne => ?_)
      have := hf (by simp)
      have h3 : b.1.length + 0 = met.length + b.2.length := g3
      have : 0 < b.2.length := List.length_pos_iff.mpr hne
      omega
theorem faultF_short {r n : Nat} {ws : List (List Bool)} (hW : WW ws n r) : (faultF r ws = none → ∀ p q, ¬ Bad r ws p q) ∧ ∀ x, faultF r ws = some x → ∀ p q, Bad r ws p q → x.1.length ≤ p.length :=
  bfs_short hW (f := 20737) (k := 0) ⟨(srch0 (ws := ws) hW.r1).way, (srch0 (ws := ws) hW.r1).nd, (srch0 (ws := ws) hW.r1).ok, by simp⟩ lvl0 (fun _ => by simp)
/-! ### words that are not fair break a lane by few events -/
theorem seenW_ends : ∀ {a b : List Bool}, a.length = b.length → a ∈ seenW a b ∧ b ∈ seenW a b
  | [], [], _ => ⟨List.mem_cons_self, List.mem_cons_self⟩
  | [], _ :: _, h => by cases h
  | _ :: _, [], h => by cases h
  | x :: a, y :: b, h => by
    obtain ⟨h1, h2⟩ := seenW_ends (a := a) (b := b) (Nat.succ.inj h)
    have hx : x ∈ mk2 x y ∧ y ∈ mk2 x y := by cases x <;> cases y <;> decide
    show x :: a ∈ ((mk2 x y).flatMap fun m => (seenW a b).map (m :: ·)) ∧ y :: b ∈ ((mk2 x y).flatMap fun m => (seenW a b).map (m :: ·))
    exact ⟨List.mem_flatMap.mpr ⟨x, hx.1, List.mem_map.mpr ⟨a, h1, rfl⟩⟩, List.mem_flatMap.mpr ⟨y, hx.2, List.mem_map.mpr ⟨b, h2, rfl⟩⟩⟩
theorem canE_tp {r : Nat} {ws : List (List Bool)} {c : Co} {p : Bool} {w : List Bool} (h : w ∈ mayW r ws c p) : Ev.tp p (some w) ∈ canE r ws c := by
  have : Ev.tp p (some w) ∈ canP r ws c p := List.mem_cons_of_mem _ (List.mem_map.mpr ⟨w, h, rfl⟩)
  unfold canE
  cases p
  · exact List.mem_append_right _ this
  · exact List.mem_append_left _ (List.mem_append_right _ this)
theorem canE_non (r : Nat) (ws : List (List Bool)) (c : Co) (p : Bool) : Ev.tp p none ∈ canE r ws c := by
  unfold canE
  cases p
  · exact List.mem_append_right _ List.mem_cons_self
  · exact List.mem_append_left _ (List.mem_append_right _ List.mem_cons_self)
section
variable {ws : List (List Bool)} {n r : Nat}
/-- the writer puts, and the reader sees the word w of place j -/
theorem step_put (hW : WW ws n r) (nd : ws.Nodup) {i j : Nat} (hi : i < 2 * r) (hj : j < 2 * r) (hs : ws.getD j [] ∈ seenW (ws.getD i []) (ws.getD (nxt r i) [])) :
    Ev.tp true (some (ws.getD j [])) ∈ canE r ws ⟨i, i, i, i⟩ ∧ flt r ⟨i, i, i, i⟩ (.tp true (some (ws.getD j []))) = none ∧ cst r ws ⟨i, i, i, i⟩ (.tp true (some (ws.getD j []))) = ⟨nxt r i, i, j, i⟩ := by
  have r1 := hW.r1
  have r6 := hW.r6
  have hg : goes r ⟨i, i, i, i⟩ true = true := by
    refine decide_eq_true ?_
    show ((i : Int) - i) % (2 * r) < r
    rcases r_cases r1 r6 with rfl | rfl | rfl | rfl | rfl | rfl <;> omega
  have hb : bad r ⟨i, i, i, i⟩ true = false := by
    refine decide_eq_false ?_
    show ¬ ((i : Int) - i) % (2 * r) = r
    rcases r_cases r1 r6 with rfl | rfl | rfl | rfl | rfl | rfl <;> omega
  refine ⟨canE_tp ?_, flt_go hb, ?_⟩
  · unfold mayW other
    rw [if_pos hg]
    exact hs
  · have hjl : j < ws.length := by rw [hW.len]; exact hj
    rw [cst_go hg hb]
    unfold sees
    simp only [if_pos (getD_mem hjl), idx_getD nd hjl]
    rfl
/-- the reader gets, and the writer sees the next word, or nothing -/
theorem step_get (hW : WW ws n r) (nd : ws.Nodup) {i j : Nat} (hi : i < 2 * r) (hj : j ≠ i) (o : Bool) :
    (.tp false (if o then some (ws.getD (nxt r i) []) else none) : Ev) ∈ canE r ws ⟨nxt r i, i, j, i⟩ ∧ flt r ⟨nxt r i, i, j, i⟩ (.tp false (if o then some (ws.getD (nxt r i) []) else none)) = none ∧ cst r ws ⟨nxt r i, i, j, i⟩ (.tp false (if o then some (ws.getD (nxt r i) []) else none)) = ⟨nxt r i, nxt r i, j, if o then nxt r i else i⟩ := by
  have r1 := hW.r1
  have r6 := hW.r6
  have hg : goes r ⟨nxt r i, i, j, i⟩ false = true := by
    show (!decide (j = i)) = true
    rw [decide_eq_false hj]
    rfl
  have hb : bad r ⟨nxt r i, i, j, i⟩ false = false := by
    refine decide_eq_false ?_
    show ¬ (((nxt r i : Nat) : Int) - i) % (2 * r) = 0
    unfold nxt
    rcases r_cases r1 r6 with rfl | rfl | rfl | rfl | rfl | rfl <;> omega
  have hil : i < ws.length := by rw [hW.len]; exact hi
  have hnl : nxt r i < ws.length := by rw [hW.len]; exact nxt_lt r1 i
  cases o with
  | false => exact ⟨canE_non _ _ _ _, flt_go hb, by rw [cst_go hg hb]; rfl⟩
  | true =>
    refine ⟨canE_tp ?_, flt_go hb, ?_⟩
    · unfold mayW other
      rw [if_pos hg]
      exact (seenW_ends (a := ws.getD i []) (b := ws.getD (nxt r i) []) (by rw [hW.wide _ (getD_mem hil), hW.wide _ (getD_mem hnl)])).2
    · rw [cst_go hg hb]
      unfold sees
      simp only [if_true, if_pos (getD_mem hnl), idx_getD nd hnl]
      rfl
theorem at_place (hW : WW ws n r) (nd : ws.Nodup) : ∀ i, i < 2 * r → ∃ p, Way r ws p ⟨i, i, i, i⟩ ∧ p.length = 2 * i
  | 0, _ => ⟨[], ⟨trivial, rfl, rfl⟩, rfl⟩
  | i + 1, h => by
    obtain ⟨p, hp, hl⟩ := at_place hW nd i (by omega)
    have hn : nxt r i = i + 1 := Nat.mod_eq_of_lt h
    have hil : i < ws.length := by rw [hW.len]; omega
    have hnl : nxt r i < ws.length := by rw [hW.len, hn]; exact h
    obtain ⟨a1, a2, a3⟩ := step_put hW nd (i := i) (j := nxt r i) (by omega) (by omega) (seenW_ends (by rw [hW.wide _ (getD_mem hil), hW.wide _ (getD_mem hnl)])).2
    obtain ⟨b1, b2, b3⟩ := step_get hW nd (i := i) (j := nxt r i) (by omega) (by omega) true
    have w1 := hp.step a1 a2
    rw [a3] at w1
    have w2 := w1.step b1 b2
    rw [b3] at w2
    rw [hn] at w2
    exact ⟨_, w2, by simp [hl]; omega⟩
theorem unfair_bad (hW : WW ws n r) (nd : ws.Nodup) (hu : ¬ Fair ws r) : ∃ p q, Bad r ws p q ∧ p.length ≤ 25 := by
  have r1 := hW.r1
  have r6 := hW.r6
  obtain ⟨i, hi⟩ := Classical.not_forall.mp hu
  obtain ⟨hi, hu⟩ := Classical.not_imp.mp hi
  obtain ⟨u, hu⟩ := Classical.not_forall.mp hu
  obtain ⟨hs, hu⟩ := Classical.not_imp.mp hu
  obtain ⟨hm, hu⟩ := Classical.not_imp.mp hu
  rw [not_or] at hu
  obtain ⟨j, hj, rfl⟩ : ∃ j, j < 2 * r ∧ ws.getD j [] = u := by
    obtain ⟨j, hj, e⟩ := List.mem_iff_getElem.mp hm
    refine ⟨j, by rw [← hW.len]; exact hj, ?_⟩
    rw [List.getD_eq_getElem?_getD, List.getElem?_eq_getElem hj, ← e]
    rfl
  have n1 : j ≠ i := by
    rintro rfl
    exact hu.1 rfl
  have n2 : j ≠ nxt r i := by
    rintro rfl
    exact hu.2 rfl
  obtain ⟨p, hp, hl⟩ := at_place hW nd i hi
  obtain ⟨a1, a2, a3⟩ := step_put hW nd hi hj hs
  obtain ⟨b1, b2, b3⟩ := step_get hW nd hi n1 false
  have w1 := hp.step a1 a2
  rw [a3] at w1
  have w2 := w1.step b1 b2
  rw [b3] at w2
  have hg : goes r ⟨nxt r i, nxt r i, j, i⟩ false = true := by
    show (!decide (j = nxt r i)) = true
    rw [decide_eq_false n2]
    rfl
  have hb : bad r ⟨nxt r i, nxt r i, j, i⟩ false = true := by
    refine decide_eq_true ?_
    show (((nxt r i : Nat) : Int) - ((nxt r i : Nat) : Int)) % (2 * r) = 0
    rw [Int.sub_self, Int.zero_emod]
  refine ⟨_, false, w2.bad (canE_non _ _ _ false) (flt_bad hg hb), ?_⟩
  simp [hl]
  omega
theorem fault_few (hW : WW ws n r) (nd : ws.Nodup) {x : List Ev × Bool} (h : faultF r ws = some x) : x.1.length ≤ 25 := by
  by_cases hf : Fair ws r
  · rw [fair_fault hW nd hf] at h
    cases h
  · obtain ⟨p, q, hp, hl⟩ := unfair_bad hW nd hf
    exact Nat.le_trans ((faultF_short hW).2 x h p q hp) hl
end
/-! ### what is asked, as data -/
def evD (e : Ev) : PyData := .tuple ((evV e).map ansD)
def wsD (ws : List (List Bool)) : PyData := .list (ws.map fun w => .str (wd w))
def tornD : Option (Nat × List Bool) → PyData
  | none => .none
  | some (i, u) => .tuple [.int (i : Int), .str (wd u)]
def askL (kind r : Nat) (ws : List (List Bool)) (evs : List Ev) : List PyData :=
  if kind = 0 then [.list ((lTold r ws ls0 evs).map ansD), .list ((gotL evs (lTold r ws ls0 evs)).map ansD)]
  else if kind = 1 then [tornD (torn1 ws), wsD (seenW (ws.getD 0 []) (ws.getD (ws.length - 1) [])), wsD (cutWs r), wsD (plainW 2), wsD (grayW 3)]
  else if kind = 2 ∧ r < 4 then (match faultF r ws with
    | none => [.none]
    | some (path, p) => [.list (path.map evD), ansD (fltV (some p))])
  else (match sRes r 1 2 with
    | none => []
    | some (s, p, q) => [.tuple [.int (s : Int), .int (p : Int), .int (q : Int)], .int ((r + 0 + 2 : Nat) : Int)])
/-- a value, or a tuple of values -/
def Dt (H : Hp) (v : V) (d : PyData) : Prop := Leaf v d ∨ ∃ t zs ds, v = .ref t ∧ d = .tuple ds ∧ H t = some (.tup zs) ∧ zs.length ≤ 1000 ∧ Paired Leaf zs ds
theorem Dt.mono {H H' : Hp} {v : V} {d : PyData} (e : Ex H H') (h : Dt H v d) : Dt H' v d := by
  rcases h with h | ⟨t, zs, ds, h1, h2, h3, h4⟩
  · exact .inl h
  · exact .inr ⟨t, zs, ds, h1, h2, e _ _ h3, h4⟩
theorem Dt.upd {H : Hp} {v : V} {d : PyData} {p : Addr} {ys : List V} {o : HO} (hp : H p = some (.lst ys)) (h : Dt H v d) : Dt (L2.upd H p o) v d := by
  rcases h with h | ⟨t, zs, ds, h1, h2, h3, h4⟩
  · exact .inl h
  · refine .inr ⟨t, zs, ds, h1, h2, ?_, h4⟩
    rw [upd_ne (by rintro rfl; rw [hp] at h3; cases h3)]
    exact h3
theorem Dt.exd {H H' : Hp} {v : V} {d : PyData} {dd : Addr} (hd : Dice H dd) (e : Exd dd H H') (h : Dt H v d) : Dt H' v d := by
  rcases h with h | ⟨t, zs, ds, h1, h2, h3, h4⟩
  · exact .inl h
  · exact .inr ⟨t, zs, ds, h1, h2, e _ _ h3 (by rintro rfl; exact hd.notTup _ h3), h4⟩
theorem Dt.da {H : Hp} {n : Nat} {v : V} {d : PyData} (h : Dt H v d) : Da H (n + 1) v d := by
  rcases h with h | ⟨t, zs, ds, rfl, rfl, h3, h4, h5⟩
  · exact Da.leaf h
  · exact Da.tup h3 h4 (paired_imp (fun _ _ h => Da.leaf h) h5)
theorem TupD.dt {H : Hp} {v : V} {d : PyData} (h : TupD H v d) : Dt H v d := by
  obtain ⟨t, xs, rfl, h2, h3, h4, rfl⟩ := h
  refine .inr ⟨t, xs, _, rfl, rfl, h2, h3, ?_⟩
  have := paired_map (R := Leaf) (fun v : V => v) ansD xs fun v h => (h4 v h).1.leaf
  rwa [List.map_id'] at this
/-- a part of an answer: a value, a tuple, or a list at none of these places -/
def PartK (H : Hp) (S : Addr → Prop) (v : V) (d : PyData) : Prop := Dt H v d ∨ ∃ a zs ds, v = .ref a ∧ d = .list ds ∧ H a = some (.lst zs) ∧ zs.length ≤ 1000 ∧ Paired (Dt H) zs ds ∧ ¬ S a
theorem PartK.mono {H H' : Hp} {S : Addr → Prop} {v : V} {d : PyData} (e : Ex H H') (h : PartK H S v d) : PartK H' S v d := by
  rcases h with h | ⟨a, zs, ds, h1, h2, h3, h4, h5, h6⟩
  · exact .inl (h.mono e)
  · exact .inr ⟨a, zs, ds, h1, h2, e _ _ h3, h4, paired_imp (fun _ _ h => h.mono e) h5, h6⟩
theorem PartK.upd {H : Hp} {S : Addr → Prop} {v : V} {d : PyData} {p : Addr} {ys : List V} {o : HO} (hs : S p) (hp : H p = some (.lst ys)) (h : PartK H S v d) : PartK (L2.upd H p o) S v d := by
  rcases h with h | ⟨a, zs, ds, h1, h2, h3, h4, h5, h6⟩
  · exact .inl (h.upd hp)
  · refine .inr ⟨a, zs, ds, h1, h2, ?_, h4, paired_imp (fun _ _ h => h.upd hp) h5, h6⟩
    rw [upd_ne (by rintro rfl; exact h6 hs)]
    exact h3
theorem PartK.exd {H H' : Hp} {S : Addr → Prop} {v : V} {d : PyData} {dd : Addr} (hs : S dd) (hd : Dice H dd) (e : Exd dd H H') (h : PartK H S v d) : PartK H' S v d := by
  rcases h with h | ⟨a, zs, ds, h1, h2, h3, h4, h5, h6⟩
  · exact .inl (h.exd hd e)
  · exact .inr ⟨a, zs, ds, h1, h2, e _ _ h3 (by rintro rfl; exact h6 hs), h4, paired_imp (fun _ _ h => h.exd hd e) h5, h6⟩
theorem PartK.sub {H : Hp} {S S' : Addr → Prop} {v : V} {d : PyData} (hs : ∀ a, S' a → S a) (h : PartK H S v d) : PartK H S' v d := by
  rcases h with h | ⟨a, zs, ds, h1, h2, h3, h4, h5, h6⟩
  · exact .inl h
  · exact .inr ⟨a, zs, ds, h1, h2, h3, h4, h5, fun h => h6 (hs _ h)⟩
theorem PartK.da {H : Hp} {S : Addr → Prop} {n : Nat} {v : V} {d : PyData} (h : PartK H S v d) : Da H (n + 2) v d := by
  rcases h with h | ⟨a, zs, ds, rfl, rfl, h3, h4, h5, h6⟩
  · exact h.da
  · exact Da.lst h3 h4 (paired_imp (fun _ _ h => h.da) h5)
theorem cut_lenN {r : Nat} (h1 : 1 ≤ r) (h6 : r ≤ 6) : (cutWs r).length ≤ 16 := by
  rcases r_cases h1 h6 with rfl | rfl | rfl | rfl | rfl | rfl <;> decide
def sp_l_asked : Sp := fun vs H Q _ => ∃ (kind r n : Nat) (pw pe : Addr) (ws : List (List Bool)) (es : List V) (evs : List Ev), vs = [.int (kind : Int), .int (r : Int), .ref pw, .ref pe] ∧ kind < 4 ∧ H pw = some (.lst (ws.map wv)) ∧ H pe = some (.lst es) ∧ EvL H es evs ∧ WW ws n r ∧ ws.Nodup ∧ VRun r ws ⟨0, 0, 0, 0⟩ evs ∧ evs.length ≤ 30 ∧
  ∀ (p : Addr) (xs : List V) (H' : Hp), H p = none → Ex H H' → H' p = some (.lst xs) → xs.length ≤ 5 → Paired (PartK H' (fun a => a = p ∨ H a ≠ none)) xs (askL kind r ws evs) → Q (.ref p) H'
theorem part_wds {H H' : Hp} {q p : Addr} {ws : List (List Bool)} (n : H p = none) (nq : p ≠ q) (h : H' p = some (.lst (ws.map wv))) (hl : ws.length ≤ 1000) : PartK H' (fun a => a = q ∨ H a ≠ none) (.ref p) (wsD ws) :=
  .inr ⟨p, _, _, rfl, rfl, h, by simpa using hl, paired_map _ _ ws fun w _ => .inl (.inr (.inr ⟨_, rfl, rfl⟩)), fun h => h.elim nq (fun h => h n)⟩
theorem part_ans {H H' : Hp} {q p : Addr} {vs : List V} (n : H p = none) (nq : p ≠ q) (h : H' p = some (.lst vs)) (hl : vs.length ≤ 1000) (hv : ∀ v ∈ vs, AnsV v) : PartK H' (fun a => a = q ∨ H a ≠ none) (.ref p) (.list (vs.map ansD)) :=
  .inr ⟨p, _, _, rfl, rfl, h, hl, by
    have := paired_map (R := Dt H') (fun v : V => v) ansD vs fun v h => .inl (hv v h).leaf
    rwa [List.map_id'] at this, fun h => h.elim nq (fun h => h n)⟩
theorem retP_of {o : Option (Nat × List Bool)} {H : Hp} {Q : VK} (h : ∀ v H', Ex H H' → Dt H' v (tornD o) → Q v H') : RetP o H Q := by
  cases o with
  | none => exact fun H' e => h .non H' e (.inl (.inl ⟨rfl, rfl⟩))
  | some x =>
    obtain ⟨i, u⟩ := x
    exact fun p H' _ e hp => h (.ref p) H' e (.inr ⟨p, _, _, rfl, rfl, hp, by simp, .cons (.inr (.inl ⟨_, rfl, rfl⟩)) (.cons (.inr (.inr ⟨_, rfl, rfl⟩)) .nil)⟩)
theorem ok_l_asked (T : TX K mg) : FnOk P w K mg base CX0 6 T.f_l_asked T.fd_l_asked ["_law_kind", "_law_room", "_law_words_here", "_law_events_here"] sp_l_asked := by
  refine T.F_l_asked.ok sc_l_asked (fun vs H Q E h => ?_) (fun cdv A outer s H vs Q E hr h => ?_)
  · obtain ⟨_, _, _, _, _, _, _, _, rfl, _⟩ := h
    rfl
  · obtain ⟨kind, r, n, pw, pe, ws, es, evs, rfl, hk, hw, he, hE, hW, hnd, hV, hle, q⟩ := h
    have r1 := hW.r1
    have r6 := hW.r6
    have hwl := hW.len
    have hel := hE.len
    refine ⟨_, (pss_cons (ps_if (pt_cmpR op_eq (pv 0) pe_int (nomark _))
 (pss_one (ps_ret (pe_lst (pa_cons (pe_call (ok_played T) (hr.mono (by decide)) (by rfl) T.g_played T.F_played.kp T.b_played .nil pass0 (pa_cons (pe_tup (pa_cons (pv 1) (pa_cons (pv 2) pa_nil))) (pa_cons (pv 3) pa_nil))) (pa_cons (pe_call (ok_got T) (hr.mono (by decide)) (by rfl) T.g_got T.F_got.kp T.b_got .nil pass0 (pa_cons (pe_tup (pa_cons (pv 1) (pa_cons (pv 2) pa_nil))) (pa_cons (pv 3) pa_nil))) pa_nil)))))
 pss_nil)
 (pss_cons (ps_if (pt_cmpR op_eq (pv 0) pe_int (nomark _))
 (pss_one (ps_ret (pe_lst (pa_cons (pe_call (ok_first_torn T) (hr.mono (by decide)) (by rfl) T.g_first_torn T.F_first_torn.kp T.b_first_torn .nil pass0 (pa_cons (pv 2) pa_nil)) (pa_cons (pe_call (ok_torn T) (hr.mono (by decide)) (by rfl) T.g_torn T.F_torn.kp T.b_torn .nil pass0 (pa_cons (pe_ix ix_list (pv 2) pe_int (fun _ _ => rfl)) (pa_cons (pe_ix ix_list (pv 2) (pe_un un_neg pe_int) (fun _ _ => rfl)) pa_nil))) (pa_cons (pe_call (ok_cut T) (hr.mono (by decide)) (by rfl) T.g_cut T.F_cut.kp T.b_cut .nil pass0 (pa_cons (pe_op op_mul pe_int (pv 1)) pa_nil)) (pa_cons (pe_call (ok_plain T) (hr.mono (by decide)) (by rfl) T.g_plain T.F_plain.kp T.b_plain .nil pass0 (pa_cons pe_int pa_nil)) (pa_cons (pe_call (ok_gray T) (hr.mono (by decide)) (by rfl) T.g_gray T.F_gray.kp T.b_gray .nil pass0 (pa_cons pe_int pa_nil)) pa_nil))))))))
 pss_nil)
 (pss_cons (ps_if (PW.pt (pw_and (pt_cmpR op_eq (pv 0) pe_int (nomark _)) (pw_and1 (pt_cmpR op_lt (pv 1) pe_int (nomark _)))))
 (pss_cons (ps_set (i := 4) sc_l_asked.nd rfl (by first | exact Or.inl rfl | exact Or.inr rfl) (pe_call (ok_fault T) (hr.mono (by decide)) (by rfl) T.g_fault T.F_fault.kp T.b_fault .nil pass0 (pa_cons (pe_tup (pa_cons (pv 1) (pa_cons (pv 2) pa_nil))) pa_nil)))
 (pss_one (ps_ret (pe_ifExp (pt_cmpR op_isN (pv 4) pe_non (nomark _)) (pe_lst (pa_cons pe_non pa_nil)) (pe_lst (pa_cons (pe_ix ix_seq (pv 4) pe_int (fun _ _ => rfl)) (pa_cons (pe_ix ix_seq (pv 4) pe_int (fun _ _ => rfl)) pa_nil)))))))
 pss_nil)
 (pss_one (ps_ret (pe_lst (pa_cons (pe_call (ok_steady T) (hr.mono (by decide)) (by rfl) T.g_steady T.F_steady.kp T.b_steady .nil pass0 (pa_cons (pv 1) (pa_cons pe_int (pa_cons pe_int pa_nil)))) (pa_cons (pe_call (ok_least_room T) (hr.mono (by decide)) (by rfl) T.g_least_room T.F_least_room.kp T.b_least_room .nil pass0 (pa_cons (pv 1) (pa_cons pe_int pa_nil))) pa_nil)))))))), ?_⟩
    refine ⟨_, rfl, rfl, _, rfl, ?_⟩
    by_cases k0 : kind = 0
    · subst k0
      have hq : askL 0 r ws evs = [.list ((lTold r ws ls0 evs).map ansD), .list ((gotL evs (lTold r ws ls0 evs)).map ansD)] := rfl
      rw [hq] at q
      have hans := told_ans r ws evs ls0
      have hlt := lTold_len r ws evs ls0
      have hgo := getOk_told r ws evs ls0
      have heq := told0 (ws := ws) r1 r6 evs
      refine ifP (by decide) ?_
      refine ⟨_, rfl, _, rfl, small9 (by simp), fun l1 n1 => ?_⟩
      have z1 := Ex.new (o := HO.tup [.int (r : Int), .ref pw]) n1
      refine ⟨_, rfl, l1, pw, pe, r, n, ws, es, evs, rfl, upd_same, z1 _ _ hw, hW, hnd, z1 _ _ he, by omega, (hE.mono z1).evsAt, hV, fun _ => hel.symm, fun p1 H1 np1 e1 hp1 => ?_⟩
      rw [← heq] at hp1
      have e01 := z1.trans e1
      refine ⟨_, rfl, _, rfl, small9 (by simp), fun l2 n2 => ?_⟩
      have z2 := Ex.new (o := HO.tup [.int (r : Int), .ref pw]) n2
      have e02 := e01.trans z2
      refine ⟨_, rfl, l2, pw, pe, r, n, ws, es, evs, rfl, upd_same, e02 _ _ hw, hW, hnd, e02 _ _ he, by omega, (hE.mono e02).evsAt, hV, fun _ => hel.symm, by rw [← heq]; exact hgo, fun p2 H2 np2 e2 hp2 => ?_⟩
      rw [← heq] at hp2
      generalize lTold r ws ls0 evs = told at *
      have hga : ∀ v ∈ gotL evs told, AnsV v := by
        intro v hv
        obtain ⟨k, _, rfl⟩ := List.mem_map.mp hv
        rw [List.getD_eq_getElem?_getD]
        cases hk : told[k]? with
        | none => exact .inl rfl
        | some u => exact hans u (List.mem_of_getElem? hk)
      have hgl : (gotL evs told).length ≤ 100 := by
        unfold gotL
        rw [List.length_map]
        have := List.length_filter_le (gotP evs told) (List.range evs.length)
        rw [List.length_range] at this
        omega
      refine ⟨small9 (by simp), fun p np => ?_⟩
      have z3 := Ex.new (o := HO.lst [.ref p1, .ref p2]) np
      have e13 := (z2.trans e2).trans z3
      have a1 := part_ans (H := H) (q := p) (fresh_back z1 np1) (ne_of_none ((z2.trans e2) _ _ hp1) np) (e13 _ _ hp1) (by omega) hans
      have b1 := part_ans (H := H) (q := p) (fresh_back e02 np2) (ne_of_none hp2 np) (z3 _ _ hp2) (by omega) hga
      exact q p _ _ (fresh_back (e02.trans e2) np) ((e02.trans e2).trans z3) upd_same (by simp) (.cons a1 (.cons b1 .nil))
    refine ifN (by simp; omega) ?_
    refine ⟨_, rfl, rfl, _, rfl, ?_⟩
    by_cases k1 : kind = 1
    · subst k1
      have hq : askL 1 r ws evs = [tornD (torn1 ws), wsD (seenW (ws.getD 0 []) (ws.getD (ws.length - 1) [])), wsD (cutWs r), wsD (plainW 2), wsD (grayW 3)] := rfl
      rw [hq] at q
      have hRd : Round ws n := ⟨by intro h; rw [h] at hwl; simp at hwl; omega, hW.wide, hW.n1, hW.n4, hnd, by omega⟩
      have h0 : 0 < ws.length := by omega
      have hlast : ws.length - 1 < ws.length := by omega
      have w1 := hW.wide _ (getD_mem h0)
      have w2 := hW.wide _ (getD_mem hlast)
      have hsl : (seenW (ws.getD 0 []) (ws.getD (ws.length - 1) [])).length ≤ 1000 := by
        have := seenW_len w1 w2
        have := pow16 hW.n4
        omega
      refine ifP (by decide) ?_
      refine ⟨_, rfl, pw, ws, n, rfl, SqL.of hw, hRd, retP_of fun v0 H1 e1 a1 => ?_⟩
      have hw1 := e1 _ _ hw
      have hatl : atI (ws.map wv) (-1) = some (wv (ws.getD (ws.length - 1) [])) := by
        rcases List.eq_nil_or_concat ws with h | ⟨ini, u, h⟩
        · rw [h] at h0
          simp at h0
        · have h : ws = ini ++ [u] := by simpa using h
          rw [h, List.map_append]
          refine (atI_last _ _).trans ?_
          simp
      refine ⟨_, rfl, pw, _, 0, _, rfl, rfl, SqL.of hw1, atI_nat (j := 0) (getDW h0), _, rfl, _, rfl, pw, _, _, _, rfl, rfl, SqL.of hw1, hatl, _, _, n, rfl, w1, w2, hW.n1, hW.n4, fun p1 H2 np1 e2 hp1 => ?_⟩
      refine ⟨_, rfl, _, _, rfl, rfl, .inl ⟨by decide, by decide⟩, r, rfl, r1, by omega, fun p2 H3 np2 e3 hp2 => ?_⟩
      refine ⟨2, rfl, by decide, by decide, fun p3 H4 np3 e4 hp3 => ⟨3, rfl, by decide, by decide, fun p4 H5 np4 e5 hp4 => ⟨small9 (by simp), fun p np => ?_⟩⟩⟩
      have z := Ex.new (o := HO.lst [v0, .ref p1, .ref p2, .ref p3, .ref p4]) np
      have e45 := e5.trans z
      have e35 := e4.trans e45
      have e25 := e3.trans e35
      have e15 := e2.trans e25
      have hcl : (cutWs r).length ≤ 1000 := by
        have := (cut_lenN r1 r6)
        omega
      have b1 := part_wds (H := H) (q := p) (fresh_back e1 np1) (ne_of_none (((e3.trans e4).trans e5) _ _ hp1) np) (e25 _ _ hp1) hsl
      have c1 := part_wds (H := H) (q := p) (fresh_back (e1.trans e2) np2) (ne_of_none ((e4.trans e5) _ _ hp2) np) (e35 _ _ hp2) hcl
      have d1 := part_wds (H := H) (q := p) (fresh_back ((e1.trans e2).trans e3) np3) (ne_of_none (e5 _ _ hp3) np) (e45 _ _ hp3) (by decide)
      have f1 := part_wds (H := H) (q := p) (fresh_back (((e1.trans e2).trans e3).trans e4) np4) (ne_of_none hp4 np) (z _ _ hp4) (by decide)
      exact q p _ _ (fresh_back ((((e1.trans e2).trans e3).trans e4).trans e5) np) (e1.trans e15) upd_same (by simp) (.cons (.inl (a1.mono e15)) (.cons b1 (.cons c1 (.cons d1 (.cons f1 .nil)))))
    refine ifN (by simp; omega) ?_
    have fin : ¬ (kind = 2 ∧ r < 4) → (tRet (tLst (tCons (tCall sp_steady [] E0 (tCons (tVar 1) (tCons (tC (V.int 1)) (tCons (tC (V.int 2)) tNil)))) (tCons (tCall sp_least_room [] E0 (tCons (tVar 1) (tCons (tC (V.int 0)) tNil))) tNil)))) { nx := fun _ H' => Q V.non H', rt := Q } [some (.int (kind : Int)), some (.int (r : Int)), some (.ref pw), some (.ref pe), none] H := by
      intro hn
      obtain ⟨s0, p0, q0, hres, _, _⟩ := sRes_ok r1 (show r ≤ 20 by omega) (show 1 ≤ 6 by decide) (show 2 ≤ 6 by decide)
      have hq : askL kind r ws evs = [.tuple [.int (s0 : Int), .int (p0 : Int), .int (q0 : Int)], .int ((r + 0 + 2 : Nat) : Int)] := by
        unfold askL
        rw [if_neg k0, if_neg k1, if_neg hn, hres]
      rw [hq] at q
      refine ⟨_, rfl, r, 1, 2, s0, p0, q0, rfl, r1, by omega, by decide, by decide, hres, fun p1 H1 np1 e1 hp1 => ?_⟩
      refine ⟨_, rfl, r, 0, rfl, r6, by decide, fun H2 e2 => ⟨small9 (by simp), fun p np => ?_⟩⟩
      have z := Ex.new (o := HO.lst [.ref p1, nv (r + 0 + 2)]) np
      have hp := (e2.trans z) _ _ hp1
      exact q p _ _ (fresh_back (e1.trans e2) np) ((e1.trans e2).trans z) upd_same (by simp) (.cons (.inl (.inr ⟨p1, _, _, rfl, rfl, hp, by simp, .cons (.inr (.inl ⟨_, rfl, rfl⟩)) (.cons (.inr (.inl ⟨_, rfl, rfl⟩)) (.cons (.inr (.inl ⟨_, rfl, rfl⟩)) .nil))⟩)) (.cons (.inl (.inl (.inr (.inl ⟨_, rfl, rfl⟩)))) .nil))
    refine ⟨_, rfl, rfl, _, rfl, ?_⟩
    by_cases k2 : kind = 2
    · subst k2
      refine ifP (by decide) ⟨_, rfl, _, _, rfl, rfl, _, rfl, ?_⟩
      by_cases r4 : r < 4
      · refine ifP (decide_eq_true (by omega)) ?_
        refine ⟨_, rfl, _, rfl, small9 (by simp), fun l1 n1 => ?_⟩
        have z1 := Ex.new (o := HO.tup [.int (r : Int), .ref pw]) n1
        refine ⟨l1, pw, r, n, ws, rfl, upd_same, z1 _ _ hw, hW, hnd, fun v H1 e1 hv => ?_⟩
        have hfew := fun x => fault_few (x := x) hW hnd
        have hq : askL 2 r ws evs = (match faultF r ws with | none => [.none] | some (path, p) => [.list (path.map evD), ansD (fltV (some p))]) := by
          unfold askL
          rw [if_neg k0, if_neg k1, if_pos ⟨rfl, r4⟩]
        rw [hq] at q
        generalize faultF r ws = F at q hv hfew
        have e01 := z1.trans e1
        cases F with
        | none =>
          cases hv
          refine ⟨_, rfl, rfl, _, rfl, ifP (by decide) ⟨small9 (by simp), fun p np => ?_⟩⟩
          exact q p _ _ (fresh_back e01 np) (e01.trans (Ex.new np)) upd_same (by simp) (.cons (.inl (.inl (.inl ⟨rfl, rfl⟩))) .nil)
        | some x =>
          obtain ⟨path, pp⟩ := x
          obtain ⟨t, pl, fs, rfl, ht, hpl, hfE, npl⟩ := hv
          have h25 : path.length ≤ 25 := hfew _ rfl
          have hfl := hfE.len
          refine ⟨_, rfl, rfl, _, rfl, ifN (by simp) ?_⟩
          refine ⟨_, rfl, .inr (.inl ⟨t, _, _, _, rfl, rfl, SqT.of ht, rfl, _, rfl, .inr (.inl ⟨t, _, _, _, rfl, rfl, SqT.of ht, rfl, small9 (by simp), fun p np => ?_⟩)⟩)⟩
          have z := Ex.new (o := HO.lst [.ref pl, fltV (some pp)]) np
          have hpl2 := z _ _ hpl
          exact q p _ _ (fresh_back e01 np) (e01.trans z) upd_same (by simp) (.cons (.inr ⟨pl, _, _, rfl, rfl, hpl2, by omega, paired_imp (fun _ _ h => h.dt) (hfE.mono z).dat, fun h => h.elim (ne_of_none hpl np) (fun h => h (fresh_back z1 npl))⟩) (.cons (.inl (.inl (fltV_ans _).leaf)) .nil))
      · exact ifN (by simp; omega) (fin (fun h => r4 h.2))
    · exact ifN (by simp; omega) (ifN (by simp) (fin (fun h => k2 h.1)))
theorem nodup_gray {n : Nat} (h : n ≤ 4) : (grayW n).Nodup ∧ (plainW n).Nodup := by
  have : n = 0 ∨ n = 1 ∨ n = 2 ∨ n = 3 ∨ n = 4 := by omega
  rcases this with rfl | rfl | rfl | rfl | rfl <;> decide
theorem perm_map_inv {α : Type} {f : α → V} {ys zs : List V} (h : ys.Perm zs) : ∀ {l : List α}, zs = l.map f → ∃ l' : List α, ys = l'.map f ∧ l'.Perm l := by
  induction h with
  | nil =>
    intro l e
    exact ⟨[], rfl, by rw [List.map_eq_nil_iff.mp e.symm]⟩
  | cons x _ ih =>
    intro l e
    cases l with
    | nil => cases e
    | cons a l =>
      have e : _ :: _ = f a :: l.map f := e
      injection e with e1 e2
      obtain ⟨l', h1, h2⟩ := ih e2
      exact ⟨a :: l', by rw [h1, e1]; rfl, List.Perm.cons a h2⟩
  | swap x y r =>
    intro l e
    match l, e with
    | a :: b :: l, e =>
      have e : _ :: _ :: _ = f a :: f b :: l.map f := e
      injection e with e1 e2
      injection e2 with e2 e3
      exact ⟨b :: a :: l, by rw [e1, e2, e3]; rfl, List.Perm.swap a b l⟩
  | trans _ _ ih1 ih2 =>
    intro l e
    obtain ⟨l2, h1, h2⟩ := ih2 e
    obtain ⟨l1, h3, h4⟩ := ih1 h1
    exact ⟨l1, h3, h4.trans h2⟩
/-- words of a lane -/
structure WOk (ws : List (List Bool)) (n r : Nat) : Prop where
  nd : ws.Nodup
  len : ws.length = 2 * r
  wide : ∀ w ∈ ws, w.length = n
theorem wok_take {l : List (List Bool)} {n r : Nat} (nd : l.Nodup) (hl : 2 * r ≤ l.length) (hw : ∀ w ∈ l, w.length = n) : WOk (l.take (2 * r)) n r :=
  ⟨(List.take_sublist _ _).nodup nd, by rw [List.length_take]; omega, fun w h => hw w (List.mem_of_mem_take h)⟩
theorem wok_ends {l : List (List Bool)} {n r : Nat} (nd : l.Nodup) (hl : 2 * r ≤ l.length) (hw : ∀ w ∈ l, w.length = n) : WOk (l.take r ++ l.drop (l.length - r)) n r := by
  refine ⟨?_, ?_, fun w h => ?_⟩
  · have h1 : (l.take r ++ l.drop (l.length - r)).Sublist l := by
      have h2 : (l.drop (l.length - r)).Sublist (l.drop r) := by
        rw [show l.length - r = r + (l.length - 2 * r) by omega, ← List.drop_drop]
        exact List.drop_sublist _ _
      have h3 := List.Sublist.append (List.Sublist.refl (l.take r)) h2
      rw [List.take_append_drop] at h3
      exact h3
    exact h1.nodup nd
  · rw [List.length_append, List.length_take, List.length_drop]
    omega
  · rcases List.mem_append.mp h with h | h
    · exact hw w (List.mem_of_mem_take h)
    · exact hw w (List.mem_of_mem_drop h)
def swapN (a b k : Nat) : Nat := if k = a then b else if k = b then a else k
theorem swapN_lt {a b k m : Nat} (ha : a < m) (hb : b < m) (hk : k < m) : swapN a b k < m := by
  unfold swapN
  split
  · exact hb
  · split
    · exact ha
    · exact hk
theorem swapN_inj {a b i j : Nat} (h : swapN a b i = swapN a b j) : i = j := by
  unfold swapN at h
  split at h <;> split at h <;> (try split at h) <;> (try split at h) <;> omega
theorem getD_inj {ws : List (List Bool)} (nd : ws.Nodup) {i j : Nat} (hi : i < ws.length) (hj : j < ws.length) (h : ws.getD i [] = ws.getD j []) : i = j := by
  rw [List.getD_eq_getElem?_getD, List.getD_eq_getElem?_getD, List.getElem?_eq_getElem hi, List.getElem?_eq_getElem hj] at h
  exact (List.getElem_inj nd).mp h
theorem nodup_map_range {m : Nat} {f : Nat → List Bool} (h : ∀ i j, i < m → j < m → f i = f j → i = j) : ((List.range m).map f).Nodup := by
  refine List.pairwise_map.mpr (List.Pairwise.imp_of_mem (fun {a b} ha hb hab e => ?_) (List.pairwise_lt_range (n := m)))
  have := h a b (List.mem_range.mp ha) (List.mem_range.mp hb) e
  omega
theorem wok_swap {ws : List (List Bool)} {n r a b : Nat} (h : WOk ws n r) (ha : a < 2 * r) (hb : b < 2 * r) : WOk ((List.range (2 * r)).map fun k => ws.getD (swapN a b k) []) n r := by
  refine ⟨nodup_map_range fun i j hi hj e => swapN_inj (getD_inj h.nd (by rw [h.len]; exact swapN_lt ha hb hi) (by rw [h.len]; exact swapN_lt ha hb hj) e), by simp, fun w hw => ?_⟩
  obtain ⟨k, hk, rfl⟩ := List.mem_map.mp hw
  exact h.wide _ (getD_mem (by rw [h.len]; exact swapN_lt ha hb (List.mem_range.mp hk)))
/-- marks exchanged and turned -/
def newW (n t : Nat) (os : List Nat) (w : List Bool) : List Bool := (List.range n).map fun k => (w.getD (os.getD k 0) false != (t / 2 ^ k % 2 == 1))
theorem newW_inj {n t : Nat} {os : List Nat} (ho : os.Perm (List.range n)) {w u : List Bool} (hw : w.length = n) (hu : u.length = n) (h : newW n t os w = newW n t os u) : w = u := by
  have hol : os.length = n := by rw [ho.length_eq, List.length_range]
  refine List.ext_getElem (by omega) fun i h1 h2 => ?_
  obtain ⟨k, hk, e⟩ := List.mem_iff_getElem.mp (ho.mem_iff.mpr (List.mem_range.mpr (show i < n by omega)))
  have q := congrArg (fun l => l.getD k false) h
  simp only [newW] at q
  rw [List.getD_eq_getElem?_getD, List.getD_eq_getElem?_getD, List.getElem?_map, List.getElem?_map, List.getElem?_range (by omega)] at q
  have e2 : os.getD k 0 = i := by rw [List.getD_eq_getElem?_getD, List.getElem?_eq_getElem hk]; exact e
  simp only [Option.map_some, Option.getD_some, e2] at q
  have e3 : w.getD i false = w[i] := by rw [List.getD_eq_getElem?_getD, List.getElem?_eq_getElem h1]; rfl
  have e4 : u.getD i false = u[i] := by rw [List.getD_eq_getElem?_getD, List.getElem?_eq_getElem h2]; rfl
  rw [e3, e4] at q
  revert q
  cases w[i] <;> cases u[i] <;> cases (t / 2 ^ k % 2 == 1) <;> decide
theorem wok_new {ws : List (List Bool)} {n r t : Nat} {os : List Nat} (h : WOk ws n r) (ho : os.Perm (List.range n)) : WOk (ws.map (newW n t os)) n r := by
  refine ⟨List.pairwise_map.mpr (List.Pairwise.imp_of_mem (fun {a b} ha hb hab e => hab (newW_inj ho (h.wide a ha) (h.wide b hb) e)) h.nd), by rw [List.length_map]; exact h.len, fun w hw => ?_⟩
  obtain ⟨u, _, rfl⟩ := List.mem_map.mp hw
  simp [newW]
theorem int_sgn (b : Bool) : PySem.intText? (wd [b]) = some (if b then 1 else 0) := by cases b <;> decide +kernel
theorem str_sgn (m : Int) : (toString (m % 2) : Str) = wd [m % 2 == 1] := by
  have : m % 2 = 0 ∨ m % 2 = 1 := by omega
  rcases this with e | e <;> rw [e] <;> decide +kernel
theorem mark_bit0 (b : Bool) (q : Nat) : (((if b then 1 else 0 : Int) + (q : Int)) % 2 == 1) = (b != (q % 2 == 1)) := by
  have : q % 2 = 0 ∨ q % 2 = 1 := by omega
  cases b with
  | false =>
    rcases this with e | e <;> rw [e]
    · rw [show ((if false = true then 1 else 0 : Int) + (q : Int)) % 2 = 0 by simp only [Bool.false_eq_true, if_false]; omega]
      rfl
    · rw [show ((if false = true then 1 else 0 : Int) + (q : Int)) % 2 = 1 by simp only [Bool.false_eq_true, if_false]; omega]
      rfl
  | true =>
    rcases this with e | e <;> rw [e]
    · rw [show ((if true = true then 1 else 0 : Int) + (q : Int)) % 2 = 1 by simp only [if_true]; omega]
      rfl
    · rw [show ((if true = true then 1 else 0 : Int) + (q : Int)) % 2 = 0 by simp only [if_true]; omega]
      rfl
theorem mark_bit (b : Bool) (t k : Nat) : (((if b then 1 else 0 : Int) + (t : Int) / ((2 ^ k : Nat) : Int)) % 2 == 1) = (b != (t / 2 ^ k % 2 == 1)) := by
  rw [show (t : Int) / ((2 ^ k : Nat) : Int) = ((t / 2 ^ k : Nat) : Int) by simp]
  exact mark_bit0 b _
theorem emod_two {x m : Int} (h0 : 0 ≤ x) (h : x < 2 * m) : x % m = if x < m then x else x - m := by
  by_cases hx : x < m
  · rw [if_pos hx, Int.emod_eq_of_lt h0 hx]
  · rw [if_neg hx, ← Int.sub_emod_right, Int.emod_eq_of_lt (by omega) (by omega)]
theorem swap_val {a b : Nat} (hab : a ≠ b) (k : Nat) : (valV (mergeK [] [((Sum.inl (a : Int) : Key), V.int (b : Int)), (Sum.inl (b : Int), V.int (a : Int))]) (Sum.inl (k : Int))).getD (.int (k : Int)) = .int ((swapN a b k : Nat) : Int) := by
  show (valV (putK (putK [] (Sum.inl (a : Int)) (V.int (b : Int))) (Sum.inl (b : Int)) (V.int (a : Int))) (Sum.inl (k : Int))).getD _ = _
  rw [valV_put, valV_put]
  unfold swapN
  by_cases h1 : k = a
  · subst h1
    have h2 : ¬ (Sum.inl (k : Int) : Key) = Sum.inl (b : Int) := fun e => hab (by have := Sum.inl.inj e; omega)
    rw [if_neg h2, if_pos rfl, if_pos rfl]
    rfl
  · have h2 : ¬ (Sum.inl (k : Int) : Key) = Sum.inl (a : Int) := fun e => h1 (by have := Sum.inl.inj e; omega)
    rw [if_neg h1]
    by_cases h3 : k = b
    · subst h3
      rw [if_pos rfl, if_pos rfl]
      rfl
    · have h4 : ¬ (Sum.inl (k : Int) : Key) = Sum.inl (b : Int) := fun e => h3 (by have := Sum.inl.inj e; omega)
      rw [if_neg h4, if_neg h2, if_neg h3]
      rfl
def sp_l_words : Sp := fun vs H Q _ => ∃ (d : Addr) (r : Nat), vs = [.ref d, .int (r : Int)] ∧ Dice H d ∧ 1 ≤ r ∧ r ≤ 6 ∧
  ∀ (p : Addr) (ws : List (List Bool)) (n : Nat) (H' : Hp), H p = none → p ≠ d → Exd d H H' → Dice H' d → WOk ws n r → 1 ≤ n → n ≤ 4 → H' p = some (.lst (ws.map wv)) → Q (.ref p) H'
theorem ok_l_words (T : TX K mg) : FnOk P w K mg base CX0 3 T.f_l_words T.fd_l_words ["_law_d", "_law_room"] sp_l_words := by
  refine T.F_l_words.ok sc_l_words (fun vs H Q E h => ?_) (fun cdv A outer s H vs Q E hr h => ?_)
  · obtain ⟨_, _, rfl, _⟩ := h
    rfl
  · obtain ⟨d, r, rfl, hd, hr1, hr6, q⟩ := h
    refine ⟨_, (pss_cons (ps_set (i := 2) sc_l_words.nd rfl (by first | exact Or.inl rfl | exact Or.inr rfl) pe_int)
 (pss_cons (ps_while PassesOwn.never (pt_cmpR op_lt (pe_ix ix_list (pe_lst (pa_cons pe_int (pa_cons pe_int (pa_cons pe_int (pa_cons pe_int (pa_cons pe_int pa_nil)))))) (pv 2) (fun _ _ => rfl)) (pe_op op_mul pe_int (pv 1)) (nomark _))
 (pss_one (ps_set (i := 2) sc_l_words.nd rfl (by first | exact Or.inl rfl | exact Or.inr rfl) (pe_op op_add (pv 2) pe_int))))
 (pss_cons (ps_set (i := 2) sc_l_words.nd rfl (by first | exact Or.inl rfl | exact Or.inr rfl) (pe_callB (call_min2 rfl) (by rfl) T.z_min (by decide +kernel) (pa_cons pe_int (pa_cons (pe_op op_add (pv 2) (pe_callTy call_int1 (by rfl) T.z_int (by decide +kernel) (pa_cons (pe_cmpR op_eq (pe_call (ok_l_off T) (hr.mono (by decide)) (by rfl) T.g_l_off T.F_l_off.kp T.b_l_off .nil pass0 (pa_cons (pv 0) (pa_cons pe_int pa_nil))) pe_int (nomark _)) pa_nil))) pa_nil))))
 (pss_cons (ps_set (i := 3) sc_l_words.nd rfl (by first | exact Or.inl rfl | exact Or.inr rfl) (pe_call (ok_l_gray T) (hr.mono (by decide)) (by rfl) T.g_l_gray T.F_l_gray.kp T.b_l_gray .nil pass0 (pa_cons (pv 2) pa_nil)))
 (pss_cons (ps_set (i := 4) sc_l_words.nd rfl (by first | exact Or.inl rfl | exact Or.inr rfl) (pe_op op_cat (pe_slice sl_list (pv 3) po_none (po_some (pv 1))) (pe_slice sl_list (pv 3) (po_some (pe_op op_sub (pe_callB call_len_seq (by rfl) T.z_len PySem.boot_len (pa_cons (pv 3) pa_nil)) (pv 1))) po_none)))
 (pss_cons (ps_set (i := 5) sc_l_words.nd rfl (by first | exact Or.inl rfl | exact Or.inr rfl) (pe_call (ok_l_off T) (hr.mono (by decide)) (by rfl) T.g_l_off T.F_l_off.kp T.b_l_off .nil pass0 (pa_cons (pv 0) (pa_cons pe_int pa_nil))))
 (pss_cut (ps_if (pt_cmpR op_eq (pv 5) pe_int (nomark _))
 (pss_one (ps_set (i := 4) sc_l_words.nd rfl (by first | exact Or.inl rfl | exact Or.inr rfl) (pe_slice sl_list (pe_call (ok_l_plain T) (hr.mono (by decide)) (by rfl) T.g_l_plain T.F_l_plain.kp T.b_l_plain .nil pass0 (pa_cons (pv 2) pa_nil)) po_none (po_some (pe_op op_mul pe_int (pv 1))))))
 pss_nil)
 (pss_cut (ps_if (pt_cmpR op_eq (pv 5) pe_int (nomark _))
 (pss_one (ps_set (i := 4) sc_l_words.nd rfl (by first | exact Or.inl rfl | exact Or.inr rfl) (pe_slice sl_list (pe_call (ok_l_mixed T) (hr.mono (by decide)) (by rfl) T.g_l_mixed T.F_l_mixed.kp T.b_l_mixed .nil pass0 (pa_cons (pv 0) (pa_cons (pv 3) pa_nil))) po_none (po_some (pe_op op_mul pe_int (pv 1))))))
 pss_nil)
 (pss_cut (ps_if (pt_cmpR op_eq (pv 5) pe_int (nomark _))
 (pss_cons (ps_set (i := 6) sc_l_words.nd rfl (by first | exact Or.inl rfl | exact Or.inr rfl) (pe_call (ok_l_off T) (hr.mono (by decide)) (by rfl) T.g_l_off T.F_l_off.kp T.b_l_off .nil pass0 (pa_cons (pv 0) (pa_cons (pe_op op_mul pe_int (pv 1)) pa_nil))))
 (pss_cons (ps_set (i := 7) sc_l_words.nd rfl (by first | exact Or.inl rfl | exact Or.inr rfl) (pe_op op_mod (pe_op op_add (pe_op op_add (pv 6) pe_int) (pe_call (ok_l_off T) (hr.mono (by decide)) (by rfl) T.g_l_off T.F_l_off.kp T.b_l_off .nil pass0 (pa_cons (pv 0) (pa_cons (pe_op op_sub (pe_op op_mul pe_int (pv 1)) pe_int) pa_nil)))) (pe_op op_mul pe_int (pv 1))))
 (pss_one (ps_set (i := 4) sc_l_words.nd rfl (by first | exact Or.inl rfl | exact Or.inr rfl) (pe_lc (own := [("_law_k", 8)]) (g := gName 8) (by rfl) sc_l_words.nd (pi_range1 (by rfl) T.z_range (pa_cons (pe_op op_mul pe_int (pv 1)) pa_nil)) (blkOk_by (own := [("_law_k", 8)]) (N := ["_law_d", "_law_room", "_law_wide", "_law_every", "_law_words_here", "_law_kind", "_law_at", "_law_by", "_law_k", "_law_order", "_law_turn_here", "_law_found", "_law_word", "_law_marks", "_law_mark"]) (sc := defScope s_l_words) (by decide +kernel)) (fun _ _ _ _ _ => pg_name (i := 8) sc_l_words.nd rfl (Or.inl rfl)) (fun _ _ _ _ _ => pts_nil) (fun _ _ _ _ _ => (pe_ix (r := rIxL K) ix_list (pv 4) (pe_dget2 (hu_of hr) (pe_disp (pps_cons (pv 6) (pv 7) (pps_cons (pv 7) (pv 6) pps_nil)) (by rfl) (by rfl) (fun z => by cases z) (by decide)) (pv 8) (pv 8) ⟨rfl, rfl, rfl, rfl⟩) (fun _ _ => rfl))))))))
 pss_nil)
 (pss_cons (ps_set (i := 9) sc_l_words.nd rfl (by first | exact Or.inl rfl | exact Or.inr rfl) (pe_call (ok_l_mixed T) (hr.mono (by decide)) (by rfl) T.g_l_mixed T.F_l_mixed.kp T.b_l_mixed .nil pass0 (pa_cons (pv 0) (pa_cons (pe_listRg rfl (by rfl) T.z_list (prg_1 (by rfl) T.z_range (pv 2))) pa_nil))))
 (pss_cons (ps_set (i := 10) sc_l_words.nd rfl (by first | exact Or.inl rfl | exact Or.inr rfl) (pe_call (ok_l_off T) (hr.mono (by decide)) (by rfl) T.g_l_off T.F_l_off.kp T.b_l_off .nil pass0 (pa_cons (pv 0) (pa_cons pe_int pa_nil))))
 (pss_cons (ps_set (i := 11) sc_l_words.nd rfl (by first | exact Or.inl rfl | exact Or.inr rfl) (pe_lst pa_nil))
 (pss_cons (ps_for PassesOwn.never rfl (pi_list (pv 4)) (pg_name (i := 12) sc_l_words.nd rfl (by first | exact Or.inl rfl | exact Or.inr rfl))
 (pss_cons (ps_setLc (i := 13) (own := [("_law_k", 8)]) (g := gName 8) (by rfl) sc_l_words.nd rfl rfl (sw_true rfl rfl rfl (by decide +kernel)) (pi_range1 (by rfl) T.z_range (pa_cons (pv 2) pa_nil)) (blkOk_by (own := [("_law_k", 8)]) (N := ["_law_d", "_law_room", "_law_wide", "_law_every", "_law_words_here", "_law_kind", "_law_at", "_law_by", "_law_k", "_law_order", "_law_turn_here", "_law_found", "_law_word", "_law_marks", "_law_mark"]) (sc := defScope s_l_words) (by decide +kernel)) (fun _ _ _ _ _ => pg_name (i := 8) sc_l_words.nd rfl (Or.inl rfl)) (fun _ _ _ _ _ => pts_nil) (fun _ _ _ _ _ => (pe_op op_add (pe_callTy call_int_str (by rfl) T.z_int (by decide +kernel) (pa_cons (pe_ix ix_str (pv 12) (pe_ix (r := rIxL K) ix_list (pv 9) (pv 8) (fun _ _ => rfl)) (fun _ _ => rfl)) pa_nil)) (pe_op op_fdiv (pv 10) (pe_ix (r := rIxL K) ix_list (pe_lst (pa_cons pe_int (pa_cons pe_int (pa_cons pe_int (pa_cons pe_int pa_nil))))) (pv 8) (fun _ _ => rfl))))))
 (pss_one (ps_expr (pe_bm PySem.F.plainAttrs_list PySem.F.slot_list_append PySem.F.type_list_append mt_append (pv 11) (pa_cons (pe_join pe_str (pe_lc (own := [("_law_mark", 14)]) (g := gName 14) (by rfl) sc_l_words.nd (pi_list (pv 13)) (blkOk_by (own := [("_law_mark", 14)]) (N := ["_law_d", "_law_room", "_law_wide", "_law_every", "_law_words_here", "_law_kind", "_law_at", "_law_by", "_law_k", "_law_order", "_law_turn_here", "_law_found", "_law_word", "_law_marks", "_law_mark"]) (sc := defScope s_l_words) (by decide +kernel)) (fun _ _ _ _ _ => pg_name (i := 14) sc_l_words.nd rfl (Or.inl rfl)) (fun _ _ _ _ _ => pts_nil) (fun _ _ _ _ _ => (pe_callTy call_str_int (by rfl) T.z_str (by decide +kernel) (pa_cons (pe_op op_mod (pv 14) pe_int) pa_nil))))) pa_nil))))))
 (pss_one (ps_ret (pv 11)))))))))))))))), ?_⟩
    refine ⟨fun f σ H' => ∃ n : Nat, σ = [some (.ref d), some (.int (r : Int)), some (.int (n : Int)), none, none, none, none, none, none, none, none, none, none, none, none] ∧ Ex H H' ∧ 1 ≤ n ∧ n + f = 4, ⟨3, 1, rfl, Ex.refl _, by omega, by omega⟩, ?_⟩
    rintro f σ H1 ⟨n, rfl, e1, n1, hnf⟩
    refine ⟨small9 (by simp), fun l nl => ?_⟩
    have el := Ex.new (o := HO.lst [.int 1, .int 2, .int 4, .int 8, .int 16]) nl
    refine ⟨_, rfl, l, _, _, _, rfl, rfl, SqL.of upd_same, tab5 (by omega), _, rfl, _, _, rfl, rfl, .inl ⟨by decide, by decide⟩, _, _, rfl, rfl, _, rfl, ?_⟩
    have e1 := e1.trans el
    generalize upd H1 l (.lst [.int 1, .int 2, .int 4, .int 8, .int 16]) = H1 at e1 ⊢
    by_cases hlt : 2 ^ n < 2 * r
    · have hn4 : n < 4 := by
        rcases Nat.lt_or_ge n 4 with h | h
        · exact h
        · have : n = 4 := by omega
          subst this
          omega
      refine ifP (decide_eq_true (by exact_mod_cast hlt)) ⟨fun σ' H' => ∃ n : Nat, σ' = [some (.ref d), some (.int (r : Int)), some (.int (n : Int)), none, none, none, none, none, none, none, none, none, none, none, none] ∧ Ex H H' ∧ 1 ≤ n ∧ n + f = 5 ∧ 0 < f, fun σ' H' ⟨n', a1, a2, a3, a4, a5⟩ => ⟨f - 1, by omega, n', a1, a2, a3, by omega⟩, ?_⟩
      exact ⟨_, rfl, _, _, rfl, rfl, n + 1, rfl, e1, by omega, by omega, by omega⟩
    refine ifN (by simp; exact_mod_cast Nat.le_of_not_lt hlt) ?_
    have hd := hd.mono e1
    have e1 := Exd.of (d := d) e1
    -- wide
    refine ⟨_, rfl, _, rfl, d, 4, rfl, hd, by decide, by decide, fun x H2 x0 x1 e2 hd2 => ⟨rfl, .inr ⟨_, rfl, _, _, rfl, rfl, _, _, rfl, ?_⟩⟩⟩
    obtain ⟨m, hm, hm1, hm4⟩ : ∃ m : Nat, (if (n : Int) + (if decide (V.int x = V.int 0) = true then (1 : Int) else 0) < 4 then (n : Int) + (if decide (V.int x = V.int 0) = true then (1 : Int) else 0) else 4) = (m : Int) ∧ n ≤ m ∧ m ≤ 4 := by
      cases decide (V.int x = V.int 0) with
      | true =>
        by_cases h : (n : Int) + 1 < 4
        · exact ⟨n + 1, by simp [h], by omega, by omega⟩
        · exact ⟨4, by simp [h], by omega, by omega⟩
      | false =>
        by_cases h : (n : Int) < 4
        · exact ⟨n, by simp [h], by omega, by omega⟩
        · exact ⟨4, by simp [h], by omega, by omega⟩
    have hpow : 2 * r ≤ 2 ^ m := Nat.le_trans (Nat.le_of_not_lt hlt) (Nat.pow_le_pow_right (by decide) hm1)
    have h16 := pow16 hm4
    have ev : V.int (if (n : Int) + (if decide (V.int x = V.int 0) = true then (1 : Int) else 0) < 4 then (n : Int) + (if decide (V.int x = V.int 0) = true then (1 : Int) else 0) else 4) = .int (m : Int) := congrArg V.int hm
    dsimp only
    rw [ev]
    obtain ⟨ndg, ndp⟩ := nodup_gray hm4
    have lg : (grayW m).length = 2 ^ m := grayW_len m
    -- every
    refine ⟨_, rfl, m, rfl, hm4, fun ey H3 ney e3 hey => ?_⟩
    have hd := hd2.mono e3
    have neyH : H ey = none := e1.fresh (e2.fresh ney (hd2.neN ney)) (hd2.neN ney)
    have neyd := hd2.neN ney
    have e13 := (e1.trans e2).trans (Exd.of e3)
    -- words_here
    refine ⟨_, rfl, _, rfl, _, rfl, ey, _, rfl, SqL.of hey, fun s1 ns1 => ?_⟩
    have es1 := Ex.new (o := HO.lst (cutV ((grayW m).map wv) none (some (r : Int)))) ns1
    have ex : (((grayW m).map wv).length : Int) - (r : Int) = ((2 ^ m - r : Nat) : Int) := by
      rw [List.length_map, lg]
      omega
    refine ⟨_, rfl, _, rfl, ey, _, rfl, .inl (SqL.of (es1 _ _ hey)), _, rfl, _, _, rfl, rfl, _, rfl, ey, _, rfl, SqL.of (es1 _ _ hey), fun s2 ns2 => ?_⟩
    have es2 := es1.trans (Ex.new (o := HO.lst (cutV ((grayW m).map wv) (some ((((grayW m).map wv).length : Int) - (r : Int))) none)) ns2)
    refine ⟨s1, s2, _, _, rfl, rfl, (Ex.new ns2) _ _ upd_same, upd_same, ?_, fun p np => ?_⟩
    · rw [ex, cutTake, cutDrop, List.length_take, List.length_drop, List.length_map, lg]
      exact small9 (by omega)
    have es3 := es2.trans (Ex.new (o := HO.lst (cutV ((grayW m).map wv) none (some (r : Int)) ++ cutV ((grayW m).map wv) (some ((((grayW m).map wv).length : Int) - (r : Int))) none)) np)
    have w0 : WOk ((grayW m).take r ++ (grayW m).drop ((grayW m).length - r)) m r := wok_ends ndg (by omega) (grayW_wide m)
    have hp := upd_same (H := upd (upd H3 s1 (.lst (cutV ((grayW m).map wv) none (some (r : Int))))) s2 (.lst (cutV ((grayW m).map wv) (some ((((grayW m).map wv).length : Int) - (r : Int))) none))) (a := p) (o := HO.lst (cutV ((grayW m).map wv) none (some (r : Int)) ++ cutV ((grayW m).map wv) (some ((((grayW m).map wv).length : Int) - (r : Int))) none))
    have hey4 := es3 _ _ hey
    have hd4 := hd.mono es3
    have npd : p ≠ d := (hd.mono es2).neN np
    have npH : H p = none := e13.fresh (fresh_back es2 np) npd
    have e14 := e13.trans (Exd.of es3)
    generalize upd (upd (upd H3 s1 (.lst (cutV ((grayW m).map wv) none (some (r : Int))))) s2 (.lst (cutV ((grayW m).map wv) (some ((((grayW m).map wv).length : Int) - (r : Int))) none))) p (.lst (cutV ((grayW m).map wv) none (some (r : Int)) ++ cutV ((grayW m).map wv) (some ((((grayW m).map wv).length : Int) - (r : Int))) none)) = H4 at hp hey4 hd4 e14 ⊢
    rw [ex, cutTake, cutDrop, ← List.map_take, ← List.map_drop, ← List.map_append, ← lg] at hp
    generalize (grayW m).take r ++ (grayW m).drop ((grayW m).length - r) = ws at hp w0
    clear es1 es2 es3 e13 e3 hey hd hd2 e1 e2
    -- kind
    refine ⟨_, rfl, d, 4, rfl, hd4, by decide, by decide, fun kd H5 k0 k1 e5 hd5 => ?_⟩
    have hp := e5 _ _ hp npd
    have hey := e5 _ _ hey4 neyd
    have e15 := e14.trans e5
    clear e14 e5 hey4 hd4
    -- kind 1
    refine ⟨fun σ H' => ∃ p ws, σ = [some (.ref d), some (.int (r : Int)), some (.int (m : Int)), some (.ref ey), some (.ref p), some (.int kd), none, none, none, none, none, none, none, none, none] ∧ Exd d H H' ∧ Dice H' d ∧ H' ey = some (.lst ((grayW m).map wv)) ∧ p ≠ d ∧ H p = none ∧ H' p = some (.lst (ws.map wv)) ∧ WOk ws m r, ?_, ?_⟩
    · refine ⟨_, rfl, rfl, _, rfl, ite2 (fun _ => ?_) (fun _ => ⟨p, ws, rfl, e15, hd5, hey, npd, npH, hp, w0⟩)⟩
      refine ⟨_, rfl, m, rfl, hm4, fun l H6 nl e6 hl => ?_⟩
      refine ⟨_, rfl, _, _, rfl, rfl, .inl ⟨by decide, by decide⟩, _, rfl, l, _, rfl, SqL.of hl, fun p2 np2 => ?_⟩
      have n2 := (hd5.mono e6).neN np2
      have e7 := e6.trans (Ex.new (o := HO.lst (cutV ((plainW m).map wv) none (some (2 * (r : Int))))) np2)
      refine ⟨p2, (plainW m).take (2 * r), rfl, e15.trans (Exd.of e7), hd5.mono e7, e7 _ _ hey, n2, e15.fresh (fresh_back e6 np2) n2, ?_, wok_take ndp (by rw [plainW_len]; exact hpow) (plainW_wide m)⟩
      rw [upd_same, show 2 * (r : Int) = ((2 * r : Nat) : Int) by omega, cutTake, List.map_take]
    rintro σ H6 ⟨p, ws, rfl, e6, hd6, hey, npd, npH, hp, w0⟩
    -- kind 2
    refine ⟨fun σ H' => ∃ p ws, σ = [some (.ref d), some (.int (r : Int)), some (.int (m : Int)), some (.ref ey), some (.ref p), some (.int kd), none, none, none, none, none, none, none, none, none] ∧ Exd d H H' ∧ Dice H' d ∧ p ≠ d ∧ H p = none ∧ H' p = some (.lst (ws.map wv)) ∧ WOk ws m r, ?_, ?_⟩
    · refine ⟨_, rfl, rfl, _, rfl, ite2 (fun _ => ?_) (fun _ => ⟨p, ws, rfl, e6, hd6, npd, npH, hp, w0⟩)⟩
      refine ⟨_, rfl, _, rfl, d, ey, _, rfl, hd6, neyd, SqL.of hey, fun x hx => ?_, by rw [List.length_map, lg]; omega, fun l ys H7 nl e7 hd7 pm hl => ?_⟩
      · obtain ⟨u, _, rfl⟩ := List.mem_map.mp hx
        exact strOk_wd u
      obtain ⟨us, rfl, pu⟩ := perm_map_inv pm rfl
      refine ⟨_, rfl, _, _, rfl, rfl, .inl ⟨by decide, by decide⟩, _, rfl, l, _, rfl, SqL.of hl, fun p2 np2 => ?_⟩
      have n2 := hd7.neN np2
      have e8 := Ex.new (o := HO.lst (cutV (us.map wv) none (some (2 * (r : Int))))) np2
      refine ⟨p2, us.take (2 * r), rfl, (e6.trans e7).trans (Exd.of e8), hd7.mono e8, n2, (e6.trans e7).fresh np2 n2, ?_, wok_take (pu.nodup_iff.mpr ndg) (by rw [pu.length_eq, lg]; exact hpow) (fun w hw => grayW_wide m w (pu.mem_iff.mp hw))⟩
      rw [upd_same, show 2 * (r : Int) = ((2 * r : Nat) : Int) by omega, cutTake, List.map_take]
    rintro σ H7 ⟨p, ws, rfl, e7, hd7, npd, npH, hp, w0⟩
    -- kind 3
    refine ⟨fun σ H' => ∃ p ws y6 y7 y8, σ = [some (.ref d), some (.int (r : Int)), some (.int (m : Int)), some (.ref ey), some (.ref p), some (.int kd), y6, y7, y8, none, none, none, none, none, none] ∧ Exd d H H' ∧ Dice H' d ∧ p ≠ d ∧ H p = none ∧ H' p = some (.lst (ws.map wv)) ∧ WOk ws m r, ?_, ?_⟩
    · refine ⟨_, rfl, rfl, _, rfl, ite2 (fun _ => ?_) (fun _ => ⟨p, ws, _, _, _, rfl, e7, hd7, npd, npH, hp, w0⟩)⟩
      refine ⟨_, rfl, _, rfl, _, _, rfl, rfl, .inl ⟨by decide, by decide⟩, d, _, rfl, hd7, by omega, by omega, fun x1 H8 x10 x11 e8 hd8 => ?_⟩
      refine ⟨_, rfl, _, _, rfl, rfl, _, rfl, _, rfl, _, _, rfl, rfl, .inl ⟨by decide, by decide⟩, _, _, rfl, rfl, d, _, rfl, hd8, by omega, by omega, fun x2 H9 x20 x21 e9 hd9 => ?_⟩
      refine ⟨_, _, rfl, rfl, _, rfl, _, _, rfl, rfl, .inl ⟨by decide, by decide⟩, _, _, rfl, rfl, by show (0 : Int) < 2 * (r : Int); omega, ?_⟩
      obtain ⟨a, rfl⟩ : ∃ a : Nat, x1 = (a : Int) := ⟨x1.toNat, by omega⟩
      obtain ⟨b, hb, hb2⟩ : ∃ b : Nat, ((a : Int) + 1 + x2) % (2 * (r : Int)) = (b : Int) ∧ b < 2 * r := by
        have h1 := Int.emod_nonneg ((a : Int) + 1 + x2) (show (2 * (r : Int)) ≠ 0 by omega)
        have h2 := Int.emod_lt_of_pos ((a : Int) + 1 + x2) (show (0 : Int) < 2 * (r : Int) by omega)
        exact ⟨(((a : Int) + 1 + x2) % (2 * (r : Int))).toNat, by omega, by omega⟩
      have ha2 : a < 2 * r := by omega
      have hab : a ≠ b := by
        intro e
        rw [emod_two (by omega) (by omega)] at hb
        split at hb <;> omega
      dsimp only
      rw [hb]
      have hp9 := e9 _ _ (e8 _ _ hp npd) npd
      have e79 := (e7.trans e8).trans e9
      refine ⟨_, rfl, _, _, rfl, rfl, .inl ⟨by decide, by decide⟩, _, rfl, by omega, by omega, fun D nD => lcR (2 * r) (fun k => wv (ws.getD (swapN a b k) [])) (by omega) (by omega) nD (fun _ => rfl) (fun k hk H10 e10 Y hY => ?_) (fun H10 e10 h10 => ?_)⟩
      · have hsw := swapN_lt ha2 hb2 hk
        refine ⟨_, rfl, fun dp ndp => ⟨_, rfl, _, rfl, _, rfl, _, rfl, upd_same, [((Sum.inl (a : Int) : Key), V.int (b : Int)), (Sum.inl (b : Int), V.int (a : Int))], rfl, by simp, dp, rfl, .inl ⟨_, .inl upd_same⟩, _, rfl, _, rfl, _, DGet.k (k := Sum.inl (k : Int)) upd_same, p, _, ((swapN a b k : Nat) : Int), wv (ws.getD (swapN a b k) []), rfl, swap_val hab k, ?_, atI_nat (getDW (by rw [w0.len]; exact hsw)), ?_⟩⟩
        · have := ((Ex.refl H10).mut (o := HO.dK []) ndp)
          exact SqL.of (((Ex.mut (Ex.new (o := HO.dK []) ndp) ndp) _ _ (e10 _ _ hp9)))
        · exact hY _ (Ex.mut (Ex.new (o := HO.dK []) ndp) ndp)
      · have nDd := hd9.neN nD
        refine ⟨D, (List.range (2 * r)).map fun k => ws.getD (swapN a b k) [], _, _, _, rfl, e79.trans (Exd.of e10), hd9.mono e10, nDd, e79.fresh nD nDd, ?_, wok_swap w0 ha2 hb2⟩
        rw [h10, List.map_map]
        rfl
    rintro σ H8 ⟨p, ws, y6, y7, y8, rfl, e8, hd8, npd, npH, hp, w0⟩
    -- order, turn
    refine ⟨_, rfl, _, rfl, _, rfl, RgOk.of_le (by omega) (by omega) (by omega) (by omega), fun l nl => ?_⟩
    have el := Ex.new (o := HO.lst (rgV 0 (m : Int))) nl
    have nld := hd8.neN nl
    have erg : rgV 0 (m : Int) = (List.range m).map fun i : Nat => V.int (0 + (i : Nat)) := by
      unfold rgV
      rw [show ((m : Int) - 0).toNat = m by omega]
    refine ⟨d, l, _, rfl, hd8.mono el, nld, SqL.of upd_same, fun x hx => ?_, by rw [erg, List.length_map, List.length_range]; omega, fun po ys H9 npo e9 hd9 pm hpo => ?_⟩
    · rw [erg] at hx
      obtain ⟨u, _, rfl⟩ := List.mem_map.mp hx
      trivial
    rw [erg] at pm
    obtain ⟨os, rfl, pos⟩ := perm_map_inv pm rfl
    have hol : os.length = m := by rw [pos.length_eq, List.length_range]
    have npod : po ≠ d := by
      intro e
      subst e
      obtain ⟨_, _, _, h1, _⟩ := hd8
      rw [el _ _ h1] at npo
      cases npo
    have hp9 := e9 _ _ (el _ _ hp) npd
    have e89 := (e8.trans (Exd.of el)).trans e9
    have npoH : H po = none := e8.fresh (fresh_back el npo) npod
    have npop : p ≠ po := ne_of_none (el _ _ hp) npo
    refine ⟨_, rfl, d, 16, rfl, hd9, by decide, by decide, fun t0 H10 t00 t01 e10 hd10 => ?_⟩
    obtain ⟨t, rfl⟩ : ∃ t : Nat, t0 = (t : Int) := ⟨t0.toNat, by omega⟩
    have hp10 := e10 _ _ hp9 npd
    have hpo10 := e10 _ _ hpo npod
    have e810 := e89.trans e10
    refine ⟨small9 (by simp), fun fo nfo => ?_⟩
    have efo := Ex.new (o := HO.lst []) nfo
    have nfod := hd10.neN nfo
    have nfoH : H fo = none := e810.fresh nfo nfod
    have nfop : p ≠ fo := ne_of_none hp10 nfo
    have nfopo : po ≠ fo := ne_of_none hpo10 nfo
    refine ⟨_, rfl, p, rfl, ⟨_, SqL.of (efo _ _ hp10)⟩, ?_⟩
    refine for_list (K := K) (a := p) (xs := ws.map wv) (fun i σ H' => ∃ y8 y12 y13 y14, σ = [some (.ref d), some (.int (r : Int)), some (.int (m : Int)), some (.ref ey), some (.ref p), some (.int kd), y6, y7, y8, some (.ref po), some (.int (t : Int)), some (.ref fo), y12, y13, y14] ∧ Exd d H H' ∧ Dice H' d ∧ H' p = some (.lst (ws.map wv)) ∧ H' po = some (.lst (os.map fun i : Nat => V.int (0 + (i : Nat)))) ∧ H' fo = some (.lst (((ws.take i).map (newW m t os)).map wv)))
      ⟨_, _, _, _, rfl, e810.trans (Exd.of efo), hd10.mono efo, efo _ _ hp10, efo _ _ hpo10, upd_same⟩ (fun i σ H' _ ⟨_, _, _, _, _, _, _, h, _⟩ => SqL.of h) ?_ ?_
    · rintro i x σ H11 hi ⟨y8, y12, y13, y14, rfl, e11, hd11, hp11, hpo11, hfo11⟩
      obtain ⟨u, hu, rfl⟩ : ∃ u, ws[i]? = some u ∧ wv u = x := by
        rw [List.getElem?_map] at hi
        cases e : ws[i]? with
        | none => rw [e] at hi; cases hi
        | some y => rw [e] at hi; exact ⟨y, rfl, Option.some.inj hi⟩
      have hul : u.length = m := w0.wide u (List.mem_of_getElem? hu)
      have hil : i < ws.length := (List.getElem?_eq_some_iff.mp hu).1
      have hwl := w0.len
      -- marks
      refine ⟨_, rfl, _, rfl, lo62 _, hi62 (by omega), fun D nD => lcR m (fun k => V.int ((if u.getD (os.getD k 0) false then 1 else 0 : Int) + (t : Int) / ((2 ^ k : Nat) : Int))) rfl (by omega) nD (fun _ => rfl) (fun k hk H12 e12 Y hY => ?_) (fun H12 e12 h12 => ?_)⟩
      · have hok : os.getD k 0 < m := by
          have h1 : os.getD k 0 ∈ os := by
            rw [List.getD_eq_getElem?_getD, List.getElem?_eq_getElem (by omega)]
            exact List.getElem_mem _
          exact List.mem_range.mp (pos.mem_iff.mp h1)
        have hat : (os.map fun i : Nat => V.int (0 + (i : Nat)))[k]? = some (V.int ((os.getD k 0 : Nat) : Int)) := by
          rw [List.getElem?_map, List.getD_eq_getElem?_getD, List.getElem?_eq_getElem (by omega)]
          show some (V.int (0 + _)) = some (V.int _)
          rw [Int.zero_add]
          rfl
        refine ⟨_, rfl, _, rfl, _, rfl, po, _, _, V.int ((os.getD k 0 : Nat) : Int), rfl, rfl, SqL.of (e12 _ _ hpo11), atI_nat hat, wd u, _, bit (u.getD (os.getD k 0) false), rfl, rfl, small9 (by rw [wd_len]; omega), atW rfl (by omega), ⟨#[bit (u.getD (os.getD k 0) false)]⟩, _, rfl, int_sgn _, by show 1 ≤ 640; decide, _, rfl, small9 (by simp), fun tb ntb => ?_⟩
        have h2k : 2 ^ k ≤ 16 := pow16 (by omega)
        have h2k0 : 0 < 2 ^ k := Nat.two_pow_pos k
        refine ⟨_, rfl, tb, _, _, _, rfl, rfl, SqL.of upd_same, tab4 (by omega), _, _, rfl, rfl, ⟨by omega, by omega⟩, _, _, rfl, rfl, ?_⟩
        exact hY _ (Ex.new ntb)
      -- joined
      have e1112 := e11.trans (Exd.of e12)
      refine ⟨_, rfl, .inl ⟨rfl, _, SqL.of (e12 _ _ hfo11)⟩, ⟨_, rfl⟩, _, rfl, D, rfl, ⟨_, SqL.of h12⟩, fun D2 nD2 => lcM (List.range m) (fun k => V.int ((if u.getD (os.getD k 0) false then 1 else 0 : Int) + (t : Int) / ((2 ^ k : Nat) : Int))) (fun k => wv [(u.getD (os.getD k 0) false != (t / 2 ^ k % 2 == 1))]) (SqL.of h12) (by rw [List.length_range]; omega) nD2 (fun _ => rfl) (fun k hk H13 e13 Y hY => ?_) (fun H13 e13 h13 => ?_)⟩
      · refine ⟨_, rfl, _, _, rfl, rfl, (by decide : (0 : Int) < 2), _, rfl, ?_, ?_⟩
        · have h1 := Int.emod_nonneg ((if u.getD (os.getD k 0) false then 1 else 0 : Int) + (t : Int) / ((2 ^ k : Nat) : Int)) (show (2 : Int) ≠ 0 by decide)
          have h2 := Int.emod_lt_of_pos ((if u.getD (os.getD k 0) false then 1 else 0 : Int) + (t : Int) / ((2 ^ k : Nat) : Int)) (show (0 : Int) < 2 by decide)
          have : (((if u.getD (os.getD k 0) false then 1 else 0 : Int) + (t : Int) / ((2 ^ k : Nat) : Int)) % 2).natAbs < 2 := by omega
          rcases (show _ = 0 ∨ _ = 1 by omega : (((if u.getD (os.getD k 0) false then 1 else 0 : Int) + (t : Int) / ((2 ^ k : Nat) : Int)) % 2).natAbs = 0 ∨ (((if u.getD (os.getD k 0) false then 1 else 0 : Int) + (t : Int) / ((2 ^ k : Nat) : Int)) % 2).natAbs = 1) with e | e <;> rw [e] <;> decide
        · rw [str_sgn, mark_bit]
          exact hY _ (Ex.refl _)
      · refine ⟨"", D2, (newW m t os u).map (fun b => wd [b]), rfl, rfl, .inl (SqL.of ?_), ?_, ?_⟩
        · rw [h13, newW, List.map_map, List.map_map]
          rfl
        · have h1 := sz_words (l := (newW m t os u).map fun b => [b]) (n := 1) (fun w hw => by obtain ⟨b, _, rfl⟩ := List.mem_map.mp hw; exact Nat.le_refl _)
          simp only [List.map_map, List.length_map, Function.comp_def] at *
          have : (newW m t os u).length = m := by simp [newW]
          rw [strE, wd_len]
          simp at *
          omega
        · rw [strE, joinB]
          have e123 := e12.trans e13
          refine ⟨fo, _, _, rfl, rfl, e123 _ _ hfo11, ?_, _, _, _, _, rfl, (e11.trans (Exd.of e123)).mut nfoH, (hd11.mono e123).upd nfod.symm, ?_, ?_, ?_⟩
          · rw [List.length_map, List.length_map, List.length_take]
            exact small1000 (by omega)
          · rw [upd_ne nfop]
            exact e123 _ _ hp11
          · rw [upd_ne nfopo]
            exact e123 _ _ hpo11
          · rw [upd_same, List.take_add_one, hu]
            simp
    · rintro σ H11 ⟨y8, y12, y13, y14, rfl, e11, hd11, hp11, hpo11, hfo11⟩
      rw [List.length_map, List.take_length] at hfo11
      exact ⟨_, rfl, q fo _ m H11 nfoH nfod e11 hd11 (wok_new w0 pos) (by omega) hm4 hfo11⟩
def sp_l_lane : Sp := fun vs H Q _ => ∃ (dd : Addr), vs = [.ref dd] ∧ Dice H dd ∧ ∀ (l pw : Addr) (r n : Nat) (ws : List (List Bool)) (H' : Hp), H pw = none → H l = none → pw ≠ dd → Exd dd H H' → Dice H' dd → H' l = some (.tup [.int (r : Int), .ref pw]) → H' pw = some (.lst (ws.map wv)) → WW ws n r → ws.Nodup → Q (.ref l) H'
theorem ok_l_lane (T : TX K mg) : FnOk P w K mg base CX0 4 T.f_l_lane T.fd_l_lane ["_law_d"] sp_l_lane := by
  refine T.F_l_lane.ok sc_l_lane (fun vs H Q E h => ?_) (fun cdv A outer s H vs Q E hr h => ?_)
  · obtain ⟨_, rfl, _⟩ := h
    rfl
  · obtain ⟨dd, rfl, hdd, q⟩ := h
    refine ⟨_, (pss_cons (ps_set (i := 1) sc_l_lane.nd rfl (by first | exact Or.inl rfl | exact Or.inr rfl) (pe_ix ix_list (pe_lst (pa_cons pe_int (pa_cons pe_int (pa_cons pe_int (pa_cons (pe_op op_add pe_int (pe_call (ok_l_off T) (hr.mono (by decide)) (by rfl) T.g_l_off T.F_l_off.kp T.b_l_off .nil pass0 (pa_cons (pv 0) (pa_cons pe_int pa_nil)))) pa_nil))))) (pe_call (ok_l_off T) (hr.mono (by decide)) (by rfl) T.g_l_off T.F_l_off.kp T.b_l_off .nil pass0 (pa_cons (pv 0) (pa_cons pe_int pa_nil))) (fun _ _ => rfl)))
 (pss_one (ps_ret (pe_tup (pa_cons (pv 1) (pa_cons (pe_call (ok_l_words T) (hr.mono (by decide)) (by rfl) T.g_l_words T.F_l_words.kp T.b_l_words .nil pass0 (pa_cons (pv 0) (pa_cons (pv 1) pa_nil))) pa_nil)))))), ?_⟩
    refine ⟨_, rfl, dd, 6, rfl, hdd, by decide, by decide, fun x1 H1 x10 x11 e1 hdd1 => ⟨_, _, rfl, rfl, small9 (by simp), fun p np => ?_⟩⟩
    have x := Ex.new (o := HO.lst [.int 2, .int 3, .int 1, .int (1 + x1)]) np
    refine ⟨_, rfl, dd, 4, rfl, hdd1.mono x, by decide, by decide, fun x2 H2 x20 x21 e2 hdd2 => ?_⟩
    have hp := e2 _ _ (upd_same (H := H1) (a := p) (o := HO.lst [.int 2, .int 3, .int 1, .int (1 + x1)])) (hdd1.neN np)
    obtain ⟨r, hr1, hr6, hat⟩ : ∃ r : Nat, 1 ≤ r ∧ r ≤ 6 ∧ atI [V.int 2, V.int 3, V.int 1, V.int (1 + x1)] x2 = some (.int (r : Int)) := by
      have : x2 = 0 ∨ x2 = 1 ∨ x2 = 2 ∨ x2 = 3 := by omega
      rcases this with rfl | rfl | rfl | rfl
      · exact ⟨2, by decide, by decide, rfl⟩
      · exact ⟨3, by decide, by decide, rfl⟩
      · exact ⟨1, by decide, by decide, rfl⟩
      · refine ⟨(1 + x1).toNat, by omega, by omega, ?_⟩
        rw [show (((1 + x1).toNat : Nat) : Int) = 1 + x1 by omega]
        rfl
    refine ⟨p, _, _, .int (r : Int), rfl, rfl, SqL.of hp, hat, ?_⟩
    have e02 := (e1.trans (Exd.of x)).trans e2
    refine ⟨_, rfl, _, rfl, _, rfl, dd, r, rfl, hdd2, hr1, hr6, fun pw ws n H3 npw npd e3 hdd3 hW n1 n4 hpw => ⟨small9 (by simp), fun l nl => ?_⟩⟩
    have y := Ex.new (o := HO.tup [.int (r : Int), .ref pw]) nl
    have nld : l ≠ dd := hdd3.neN nl
    exact q l pw r n ws _ (e02.fresh npw npd) ((e02.trans e3).fresh nl nld) npd ((e02.trans e3).trans (Exd.of y)) (hdd3.mono y) upd_same (y _ _ hpw) ⟨hr1, hr6, n1, n4, hW.len, hW.wide⟩ hW.nd
def sp_l_events : Sp := fun vs H Q _ => ∃ (dd l pw : Addr) (r n m : Nat) (ws : List (List Bool)), vs = [.ref dd, .ref l, .int (m : Int)] ∧ Dice H dd ∧ H l = some (.tup [.int (r : Int), .ref pw]) ∧ H pw = some (.lst (ws.map wv)) ∧ pw ≠ dd ∧ WW ws n r ∧ m ≤ 100 ∧
  ∀ (t pe pt : Addr) (es : List V) (evs : List Ev) (H' : Hp), H pe = none → H pt = none → pe ≠ dd → pt ≠ dd → pe ≠ pt → Exd dd H H' → Dice H' dd → H' t = some (.tup [.ref pe, .ref pt]) → H' pe = some (.lst es) → EvL H' es evs → H' pt = some (.lst (lTold r ws ls0 evs)) → VRun r ws ⟨0, 0, 0, 0⟩ evs → evs.length ≤ m → FOk r ws evs → Q (.ref t) H'
theorem ok_l_events (T : TX K mg) : FnOk P w K mg base CX0 5 T.f_l_events T.fd_l_events ["_law_d", "_law_lane_here", "_law_most"] sp_l_events := by
  refine T.F_l_events.ok sc_l_events (fun vs H Q E h => ?_) (fun cdv A outer s H vs Q E hr h => ?_)
  · obtain ⟨_, _, _, _, _, _, _, rfl, _⟩ := h
    rfl
  · obtain ⟨dd, l, pw, r, n, m, ws, rfl, hdd, hl, hw, nwd, hW, hm, q⟩ := h
    have r1 := hW.r1
    have nld : l ≠ dd := by
      rintro rfl
      exact hdd.notTup _ hl
    refine ⟨_, (pss_cons (ps_set (i := 3) sc_l_events.nd rfl (by first | exact Or.inl rfl | exact Or.inr rfl) (pe_call0 (ok_l_begun T) (hr.mono (by decide)) (by rfl) T.g_l_begun T.F_l_begun.kp T.b_l_begun .nil pass0))
 (pss_cons (ps_set (i := 4) sc_l_events.nd rfl (by first | exact Or.inl rfl | exact Or.inr rfl) (pe_lst pa_nil))
 (pss_cons (ps_set (i := 5) sc_l_events.nd rfl (by first | exact Or.inl rfl | exact Or.inr rfl) (pe_lst pa_nil))
 (pss_cons (ps_for PassesOwn.never rfl (pi_range1 (by rfl) T.z_range (pa_cons (pe_call (ok_l_off T) (hr.mono (by decide)) (by rfl) T.g_l_off T.F_l_off.kp T.b_l_off .nil pass0 (pa_cons (pv 0) (pa_cons (pe_op op_add (pv 2) pe_int) pa_nil))) pa_nil)) (pg_name (i := 6) sc_l_events.nd rfl (by first | exact Or.inl rfl | exact Or.inr rfl))
 (pss_one (ps_if (pt_cmpR op_isN (pe_dget (hu_of hr) (pv 3) pe_str (fun _ _ => rfl)) pe_non (nomark _))
 (pss_cons (ps_set (i := 7) sc_l_events.nd rfl (by first | exact Or.inl rfl | exact Or.inr rfl) (pe_call (ok_l_can T) (hr.mono (by decide)) (by rfl) T.g_l_can T.F_l_can.kp T.b_l_can .nil pass0 (pa_cons (pv 1) (pa_cons (pv 3) pa_nil))))
 (pss_cons (ps_set (i := 8) sc_l_events.nd rfl (by first | exact Or.inl rfl | exact Or.inr rfl) (pe_ix ix_list (pv 7) (pe_call (ok_l_off T) (hr.mono (by decide)) (by rfl) T.g_l_off T.F_l_off.kp T.b_l_off .nil pass0 (pa_cons (pv 0) (pa_cons (pe_callB call_len_seq (by rfl) T.z_len PySem.boot_len (pa_cons (pv 7) pa_nil)) pa_nil))) (fun _ _ => rfl)))
 (pss_cut (ps_if (pt_cmpR op_eq (pe_call (ok_l_off T) (hr.mono (by decide)) (by rfl) T.g_l_off T.F_l_off.kp T.b_l_off .nil pass0 (pa_cons (pv 0) (pa_cons pe_int pa_nil))) pe_int (nomark _))
 (pss_one (ps_set (i := 8) sc_l_events.nd rfl (by first | exact Or.inl rfl | exact Or.inr rfl) (pe_ix ix_list (pe_lst (pa_cons (pe_tup (pa_cons pe_str (pa_cons pe_non pa_nil))) (pa_cons (pe_tup (pa_cons pe_str (pa_cons pe_non pa_nil))) pa_nil))) (pe_call (ok_l_off T) (hr.mono (by decide)) (by rfl) T.g_l_off T.F_l_off.kp T.b_l_off .nil pass0 (pa_cons (pv 0) (pa_cons pe_int pa_nil))) (fun _ _ => rfl))))
 pss_nil)
 (pss_cons (ps_expr (pe_bm PySem.F.plainAttrs_list PySem.F.slot_list_append PySem.F.type_list_append mt_append (pv 4) (pa_cons (pv 8) pa_nil)))
 (pss_one (ps_expr (pe_bm PySem.F.plainAttrs_list PySem.F.slot_list_append PySem.F.type_list_append mt_append (pv 5) (pa_cons (pe_call (ok_l_do T) (hr.mono (by decide)) (by rfl) T.g_l_do T.F_l_do.kp T.b_l_do .nil pass0 (pa_cons (pv 1) (pa_cons (pv 3) (pa_cons (pv 8) pa_nil)))) pa_nil))))))))
 pss_nil)))
 (pss_one (ps_ret (pe_tup (pa_cons (pv 4) (pa_cons (pv 5) pa_nil))))))))), ?_⟩
    refine ⟨rfl, fun d pl H1 nd npl ndpl e1 hd1 hpl1 => ?_⟩
    refine ⟨small9 (by simp), fun pe npe => ⟨small9 (by simp), fun pt npt => ?_⟩⟩
    have x1 := Ex.new (o := HO.lst []) npe
    have x2 := Ex.new (o := HO.lst []) npt
    have npeH := fresh_back e1 npe
    have nptH := fresh_back (e1.trans x1) npt
    have npept : pe ≠ pt := ne_of_none upd_same npt
    have npd : d ≠ pe := ne_of_none hd1 npe
    have npd2 : d ≠ pt := ne_of_none (x1 _ _ hd1) npt
    have e3 := e1.trans (x1.trans x2)
    have hdd3 := hdd.mono e3
    have hd3 := (x1.trans x2) _ _ hd1
    have hpl3 := (x1.trans x2) _ _ hpl1
    have hpe3 := x2 _ _ (upd_same (H := H1) (a := pe) (o := HO.lst []))
    have hpt3 := upd_same (H := upd H1 pe (.lst [])) (a := pt) (o := HO.lst [])
    generalize upd (upd H1 pe (.lst [])) pt (.lst []) = H3 at e3 hdd3 hd3 hpl3 hpe3 hpt3 ⊢
    have npedd : pe ≠ dd := by
      rintro rfl
      obtain ⟨_, _, _, h, _⟩ := hdd
      rw [npeH] at h
      cases h
    have nptdd : pt ≠ dd := by
      rintro rfl
      obtain ⟨_, _, _, h, _⟩ := hdd
      rw [nptH] at h
      cases h
    have nddd : d ≠ dd := by
      rintro rfl
      obtain ⟨_, _, _, h, _⟩ := hdd
      rw [nd] at h
      cases h
    clear x1 x2
    refine ⟨_, rfl, _, rfl, _, _, rfl, rfl, dd, _, rfl, hdd3, by omega, by omega, fun k H4 k0 k1 e4 hdd4 => ?_⟩
    obtain ⟨k, rfl⟩ : ∃ j : Nat, k = (j : Int) := ⟨k.toNat, by omega⟩
    refine ⟨_, rfl, lo62 _, hi62 (by omega), for_range (lo := 0) (n := k) (fun i σ H' => ∃ evs es pl y6 y7 y8, σ = [some (.ref dd), some (.ref l), some (.int (m : Int)), some (.ref d), some (.ref pe), some (.ref pt), y6, y7, y8] ∧ Exd dd H H' ∧ Dice H' dd ∧ H' d = some (.dK (LK pl (lEnd r ws ls0 evs).c (lEnd r ws ls0 evs).n (lEnd r ws ls0 evs).f)) ∧ H' pl = some (.lst (lV (lEnd r ws ls0 evs).ls)) ∧ H' pe = some (.lst es) ∧ EvL H' es evs ∧ H' pt = some (.lst (lTold r ws ls0 evs)) ∧ VRun r ws ⟨0, 0, 0, 0⟩ evs ∧ evs.length ≤ i ∧ FOk r ws evs ∧ pl ≠ dd ∧ pl ≠ pe ∧ pl ≠ pt) ?_ ?_ ?_⟩
    · refine ⟨[], [], pl, _, _, _, rfl, (Exd.of e3).trans e4, hdd4, e4 _ _ hd3 nddd, e4 _ _ hpl3 ?_, e4 _ _ hpe3 npedd, .nil, e4 _ _ hpt3 nptdd, trivial, Nat.zero_le _, .inl ⟨rfl, rfl⟩, ?_, ?_, ?_⟩
      · exact hdd.neN npl
      · exact hdd.neN npl
      · exact ne_of_none hpl1 npe
      · exact ne_of_none ((Ex.new npe) _ _ hpl1) npt
    · rintro i σ H5 hi ⟨evs, es, pl, y6, y7, y8, rfl, e5, hdd5, hd5, hpl5, hpe5, hE5, hpt5, hv5, hl5, hf5, np1, np2, np3⟩
      obtain ⟨hco, hins⟩ := ls_ok hW evs ls0 (coOk_zero r1) (ins0 r)
      have hw5 := e5 _ _ hw nwd
      have hl5' := e5 _ _ hl nld
      refine ⟨_, rfl, d, _, rfl, lk_over hd5, rfl, _, rfl, ?_⟩
      rcases hf5 with ⟨hno, hfe⟩ | ⟨hno, hfe⟩
      · refine ifP (decide_eq_true hno) ?_
        generalize hS : lEnd r ws ls0 evs = S at *
        refine ⟨_, rfl, _, rfl, l, d, pw, pl, r, n, ws, S.c, S.n, S.f, rfl, hl5', hw5, hW, hd5, hco, fun ps os H6 nps e6 hps hos => ?_⟩
        have hlen := hos.len
        have hcl : (canE r ws S.c).length ≤ 36 := canUp_len hW hco 2
        have hcp : 0 < (canE r ws S.c).length := by simp [canE]
        have hdd6 := hdd5.mono e6
        refine ⟨_, rfl, _, rfl, _, rfl, ps, _, rfl, .inl (SqL.of hps), dd, _, rfl, hdd6, by omega, by omega, fun x1 H7 x10 x11 e7 hdd7 => ?_⟩
        obtain ⟨x1, rfl⟩ : ∃ j : Nat, x1 = (j : Int) := ⟨x1.toNat, by omega⟩
        have npsdd : ps ≠ dd := by
          rintro rfl
          exact hdd5.neN nps rfl
        obtain ⟨te, ee, hte, hee, htt⟩ := hos.at (i := x1) (by omega)
        have ntedd : te ≠ dd := by
          rintro rfl
          exact hdd6.notTup _ htt
        refine ⟨ps, _, _, _, rfl, rfl, SqL.of (e7 _ _ hps npsdd), atI_nat hte, ?_⟩
        refine ⟨fun σ H' => ∃ te e y7, σ = [some (.ref dd), some (.ref l), some (.int (m : Int)), some (.ref d), some (.ref pe), some (.ref pt), some (.int ((0 : Int) + (i : Int))), y7, some (.ref te)] ∧ H' te = some (.tup (evV e)) ∧ e ∈ canE r ws S.c ∧ Exd dd H5 H' ∧ Dice H' dd, ?_, ?_⟩
        · refine ⟨_, rfl, dd, 3, rfl, hdd7, by decide, by decide, fun x2 H8 _ _ e8 hdd8 => ⟨rfl, _, rfl, ite2 (fun _ => ?_) (fun _ => ?_)⟩⟩
          · refine ⟨small9 (by simp), fun t1 n1 => ⟨small9 (by simp), fun t2 n2 => ⟨small9 (by simp), fun p3 n3 => ?_⟩⟩⟩
            have y1 := Ex.new (o := HO.tup [.str "put", .non]) n1
            have y2 := Ex.new (o := HO.tup [.str "get", .non]) n2
            have y3 := Ex.new (o := HO.lst [.ref t1, .ref t2]) n3
            have e9 := (y1.trans y2).trans y3
            have h1 := y3 _ _ (y2 _ _ (upd_same (H := H8) (a := t1) (o := HO.tup [.str "put", .non])))
            have h2 := y3 _ _ (upd_same (H := upd H8 t1 (.tup [.str "put", .non])) (a := t2) (o := HO.tup [.str "get", .non]))
            have h3 := upd_same (H := upd (upd H8 t1 (.tup [.str "put", .non])) t2 (.tup [.str "get", .non])) (a := p3) (o := HO.lst [.ref t1, .ref t2])
            have hdd9 := hdd8.mono e9
            have n3dd : p3 ≠ dd := (hdd8.mono (y1.trans y2)).neN n3
            generalize upd (upd (upd H8 t1 (.tup [.str "put", .non])) t2 (.tup [.str "get", .non])) p3 (.lst [.ref t1, .ref t2]) = H9 at e9 h1 h2 h3 hdd9 ⊢
            refine ⟨_, rfl, dd, 2, rfl, hdd9, by decide, by decide, fun x3 H10 x30 x31 e10 hdd10 => ?_⟩
            have eX := ((((Exd.of (d := dd) e6).trans e7).trans e8).trans (Exd.of e9)).trans e10
            have hx : x3 = 0 ∨ x3 = 1 := by omega
            rcases hx with rfl | rfl
            · exact ⟨p3, _, _, .ref t1, rfl, rfl, SqL.of (e10 _ _ h3 n3dd), rfl, t1, .tp true none, _, rfl, e10 _ _ h1 (by rintro rfl; exact hdd9.notTup _ h1), can_non _ _ _ _, eX, hdd10⟩
            · exact ⟨p3, _, _, .ref t2, rfl, rfl, SqL.of (e10 _ _ h3 n3dd), rfl, t2, .tp false none, _, rfl, e10 _ _ h2 (by rintro rfl; exact hdd9.notTup _ h2), can_non _ _ _ _, eX, hdd10⟩
          · exact ⟨te, ee, _, rfl, e8 _ _ (e7 _ _ htt ntedd) ntedd, List.mem_of_getElem? hee, ((Exd.of e6).trans e7).trans e8, hdd8⟩
        · rintro σ H8 ⟨te, e, y7, rfl, hte8, hcan, e8, hdd8⟩
          have e58 := e5.trans e8
          have hd8 := e8 _ _ hd5 nddd
          have hpl8 := e8 _ _ hpl5 np1
          have hpe8 := e8 _ _ hpe5 npedd
          have hpt8 := e8 _ _ hpt5 nptdd
          have hE8 := hE5.updD hdd5.notTup e8
          have hles := hE5.len
          refine ⟨_, rfl, .inl ⟨rfl, _, SqL.of hpe8⟩, _, rfl, pe, _, _, rfl, rfl, hpe8, small1000 (by omega), ?_⟩
          have ntepe : te ≠ pe := by
            rintro rfl
            rw [hpe8] at hte8
            cases hte8
          have hE9 : EvL (upd H8 pe (.lst (es ++ [.ref te]))) (es ++ [.ref te]) (evs ++ [e]) := paired_app (hE8.upd hpe8) (.cons ⟨te, rfl, by rw [upd_ne ntepe]; exact hte8⟩ .nil)
          have hpe9 := upd_same (H := H8) (a := pe) (o := HO.lst (es ++ [.ref te]))
          have e59 := e58.mut (o := HO.lst (es ++ [.ref te])) npeH
          have hdd9 := hdd8.upd (o := HO.lst (es ++ [.ref te])) npedd.symm
          have hd9 : upd H8 pe (.lst (es ++ [.ref te])) d = _ := (upd_ne npd).trans hd8
          have hpl9 : upd H8 pe (.lst (es ++ [.ref te])) pl = _ := (upd_ne np2).trans hpl8
          have hpt9 : upd H8 pe (.lst (es ++ [.ref te])) pt = _ := (upd_ne npept.symm).trans hpt8
          have hte9 : upd H8 pe (.lst (es ++ [.ref te])) te = _ := (upd_ne ntepe).trans hte8
          generalize upd H8 pe (.lst (es ++ [.ref te])) = H9 at hE9 hpe9 e59 hdd9 hd9 hpl9 hpt9 hte9 ⊢
          have hlt := lTold_len r ws evs ls0
          refine ⟨_, rfl, .inl ⟨rfl, _, SqL.of hpt9⟩, _, rfl, _, rfl, _, rfl, l, d, te, pw, pl, r, n, ws, S.c, S.n, S.f, S.ls, e, rfl, e59 _ _ hl nld, e59 _ _ hw nwd, hW, hd9, hpl9, by have := hins.2; have := hW.r6; omega, hco, hins, hte9, fun pl' H10 hor e10 hd10 hpl10 => ?_⟩
          have hpt10 := e10 _ _ hpt9 npd2.symm
          have hpe10 := e10 _ _ hpe9 npd.symm
          have hdd10 := hdd9.exd e10 nddd.symm
          have hE10 := hE9.updD (fun xs h => by rw [hd9] at h; cases h) e10
          have e510 := exd_sub e59 e10 nd
          refine ⟨pt, _, _, rfl, rfl, hpt10, small1000 (by omega), ?_⟩
          have hpl' : pl' ≠ dd ∧ pl' ≠ pe ∧ pl' ≠ pt := by
            rcases hor with rfl | hn
            · exact ⟨np1, np2, np3⟩
            · refine ⟨hdd9.neN hn, ?_, ?_⟩
              · rintro rfl
                rw [hpe9] at hn
                cases hn
              · rintro rfl
                rw [hpt9] at hn
                cases hn
          have hS2 : lEnd r ws ls0 (evs ++ [e]) = lstep r ws S e := by
            rw [lEnd_app, hS]
            rfl
          have hT2 : lTold r ws ls0 evs ++ [lAns r S.c S.n S.ls e] = lTold r ws ls0 (evs ++ [e]) := by
            rw [lTold_app, hS]
            rfl
          obtain ⟨v1, v2⟩ := vrun_snoc (r := r) (ws := ws) (es := evs) (c := ⟨0, 0, 0, 0⟩) (s := ls0) (e := e) rfl hv5 hfe (by rw [hS]; exact hcan)
          refine ⟨evs ++ [e], es ++ [.ref te], pl', _, _, _, rfl, e510.mut nptH, hdd10.upd nptdd.symm, ?_, ?_, ?_, hE10.upd hpt10, ?_, v1, by rw [List.length_append]; exact Nat.succ_le_succ hl5, ?_, hpl'.1, hpl'.2.1, hpl'.2.2⟩
          · rw [upd_ne npd2, hd10, hS2]
            rfl
          · rw [upd_ne hpl'.2.2, hpl10, hS2]
            rfl
          · rw [upd_ne npept]
            exact hpe10
          · rw [upd_same, hT2]
          · unfold FOk
            rw [hS2, v2, hS]
            cases hfl : flt r S.c e with
            | none => exact .inl ⟨(pFlt_none hfl).trans hno, rfl⟩
            | some p => exact .inr ⟨by rw [show (lstep r ws S e).f = pFlt r S.c S.f e from rfl, pFlt_some hfl]; exact fltV_some p, rfl⟩
      · refine ifN (by simpa using hno) ?_
        exact ⟨evs, es, pl, _, _, _, rfl, e5, hdd5, hd5, hpl5, hpe5, hE5, hpt5, hv5, by omega, .inr ⟨hno, hfe⟩, np1, np2, np3⟩
    · rintro σ H5 ⟨evs, es, pl, y6, y7, y8, rfl, e5, hdd5, hd5, hpl5, hpe5, hE5, hpt5, hv5, hl5, hf5, np1, np2, np3⟩
      refine ⟨_, rfl, _, rfl, small9 (by simp), fun t nt => ?_⟩
      have x := Ex.new (o := HO.tup [.ref pe, .ref pt]) nt
      exact q t pe pt es evs _ npeH nptH npedd nptdd npept (e5.trans (Exd.of x)) (hdd5.mono x) upd_same (x _ _ hpe5) (hE5.mono x) (x _ _ hpt5) hv5 (by omega) hf5
def rLOf (K : PySem.W.Frag) : List V → Hp → VK → Prop := fun xs H Q => ∃ p ys, xs = [.ref p] ∧ (SqL K H p ys ∨ SqT K H p ys) ∧ ∀ l, H l = none → Q (.ref l) (upd H l (.lst ys))
/-! ### cases and kept answers -/
structure Cse where
  r : Nat
  n : Nat
  ws : List (List Bool)
  evs : List Ev
structure CseOk (x : Cse) : Prop where
  W : WW x.ws x.n x.r
  nd : x.ws.Nodup
  V : VRun x.r x.ws ⟨0, 0, 0, 0⟩ x.evs
  le : x.evs.length ≤ 30
def CseAt (H : Hp) (S : Addr → Prop) (v : V) (x : Cse) : Prop := ∃ t pw pe es, v = .ref t ∧ H t = some (.tup [.int (x.r : Int), .ref pw, .ref pe]) ∧ H pw = some (.lst (x.ws.map wv)) ∧ H pe = some (.lst es) ∧ EvL H es x.evs ∧ ¬ S pw ∧ ¬ S pe ∧ CseOk x
theorem CseAt.mono {H H' : Hp} {S : Addr → Prop} {v : V} {x : Cse} (e : Ex H H') (h : CseAt H S v x) : CseAt H' S v x := by
  obtain ⟨t, pw, pe, es, h1, h2, h3, h4, h5, h6⟩ := h
  exact ⟨t, pw, pe, es, h1, e _ _ h2, e _ _ h3, e _ _ h4, h5.mono e, h6⟩
theorem CseAt.upd {H : Hp} {S : Addr → Prop} {v : V} {x : Cse} {p : Addr} {ys : List V} {o : HO} (hs : S p) (hp : H p = some (.lst ys)) (h : CseAt H S v x) : CseAt (L2.upd H p o) S v x := by
  obtain ⟨t, pw, pe, es, h1, h2, h3, h4, h5, h6, h7, h8⟩ := h
  refine ⟨t, pw, pe, es, h1, ?_, ?_, ?_, h5.upd hp, h6, h7, h8⟩
  · rw [upd_ne (by rintro rfl; rw [hp] at h2; cases h2)]
    exact h2
  · rw [upd_ne (by rintro rfl; exact h6 hs)]
    exact h3
  · rw [upd_ne (by rintro rfl; exact h7 hs)]
    exact h4
theorem CseAt.exd {H H' : Hp} {S : Addr → Prop} {v : V} {x : Cse} {dd : Addr} (hs : S dd) (hd : Dice H dd) (e : Exd dd H H') (h : CseAt H S v x) : CseAt H' S v x := by
  obtain ⟨t, pw, pe, es, h1, h2, h3, h4, h5, h6, h7, h8⟩ := h
  exact ⟨t, pw, pe, es, h1, e _ _ h2 (by rintro rfl; exact hd.notTup _ h2), e _ _ h3 (by rintro rfl; exact h6 hs), e _ _ h4 (by rintro rfl; exact h7 hs), h5.updD hd.notTup e, h6, h7, h8⟩
def KeptAt (H : Hp) (S : Addr → Prop) (v : V) (ds : List PyData) : Prop := ∃ D ys, v = .ref D ∧ H D = some (.lst ys) ∧ ys.length ≤ 5 ∧ ¬ S D ∧ Paired (PartK H S) ys ds
theorem KeptAt.mono {H H' : Hp} {S : Addr → Prop} {v : V} {ds : List PyData} (e : Ex H H') (h : KeptAt H S v ds) : KeptAt H' S v ds := by
  obtain ⟨D, ys, h1, h2, h3, h4, h5⟩ := h
  exact ⟨D, ys, h1, e _ _ h2, h3, h4, paired_imp (fun _ _ h => h.mono e) h5⟩
theorem KeptAt.upd {H : Hp} {S : Addr → Prop} {v : V} {ds : List PyData} {p : Addr} {zs : List V} {o : HO} (hs : S p) (hp : H p = some (.lst zs)) (h : KeptAt H S v ds) : KeptAt (L2.upd H p o) S v ds := by
  obtain ⟨D, ys, h1, h2, h3, h4, h5⟩ := h
  refine ⟨D, ys, h1, ?_, h3, h4, paired_imp (fun _ _ h => h.upd hs hp) h5⟩
  rw [upd_ne (by rintro rfl; exact h4 hs)]
  exact h2
theorem KeptAt.exd {H H' : Hp} {S : Addr → Prop} {v : V} {ds : List PyData} {dd : Addr} (hs : S dd) (hd : Dice H dd) (e : Exd dd H H') (h : KeptAt H S v ds) : KeptAt H' S v ds := by
  obtain ⟨D, ys, h1, h2, h3, h4, h5⟩ := h
  exact ⟨D, ys, h1, e _ _ h2 (by rintro rfl; exact h4 hs), h3, h4, paired_imp (fun _ _ h => h.exd hs hd e) h5⟩
theorem KeptAt.da {H : Hp} {S : Addr → Prop} {n : Nat} {v : V} {ds : List PyData} (h : KeptAt H S v ds) : Da H (n + 3) v (.list ds) := by
  obtain ⟨D, ys, rfl, h2, h3, h4, h5⟩ := h
  exact Da.lst h2 (by omega) (paired_imp (fun _ _ h => h.da) h5)
theorem kb_nl : kitB "NoneType" "list" = some false := by decide +kernel
theorem kb_il : kitB "int" "list" = some false := by decide +kernel
theorem kb_sl : kitB "str" "list" = some false := by decide +kernel
/-- isinstance(part, list) -/
theorem leaf_ty {K : PySem.W.Frag} {H : Hp} {v : V} {d : PyData} (h : Leaf v d) : ∃ t, TyX K H v (.type t) ∧ kitB t "list" = some false := by
  rcases h with ⟨rfl, _⟩ | ⟨i, rfl, _⟩ | ⟨z, rfl, _⟩
  · exact ⟨_, .base .non, kb_nl⟩
  · exact ⟨_, .base (.int i), kb_il⟩
  · exact ⟨_, .base (.str z), kb_sl⟩
section
variable {K : PySem.W.Frag}
/-- the parts are copied -/
theorem lcP {a : Addr} {l : List V} {ds : List PyData} {S0 S : Addr → Prop} {j : Nat} {te : TE} {vs : List Nat} {σ : L2.St} {H1 : Hp} {D : Addr} {Qd : Hp → Prop}
    (hx : H1 a = some (.lst l)) (hl : l.length ≤ 5) (hp : Paired (PartK H1 S0) l ds) (hS : ∀ s, S s → H1 s ≠ none) (hD : H1 D = none) (hw : ∀ x, wipe ((wipe σ vs).set j (some x)) vs = wipe σ vs)
    (hs : ∀ v H, Ex H1 H → ∀ (Y : VK), ((∃ d, Leaf v d) ∨ ∃ t zs, v = .ref t ∧ H t = some (.tup zs)) → Y v H → te ((wipe σ vs).set j (some v)) H Y)
    (hs2 : ∀ b zs H, Ex H1 H → ∀ (Y : VK), H b = some (.lst zs) → (∀ p, H p = none → Y (.ref p) (upd H p (.lst zs))) → te ((wipe σ vs).set j (some (.ref b))) H Y)
    (hd : ∀ H2 ys, Ex H1 H2 → H2 D = some (.lst ys) → ys.length ≤ 5 → Paired (PartK H2 (fun s => s = D ∨ S s)) ys ds → Qd H2) :
    ∃ W : Nat → Nat → Hp → Prop, (∃ m, W 0 m (upd H1 D (.lst []))) ∧ ∀ i m H, W i m H →
      ((Itl K a).stop i H ∧ Qd H) ∨ ((Itl K a).go i H ∧ ∃ Nx : Hp → Prop, (∀ H', Nx H' → ∃ m', m' < m ∧ W (i + 1) m' H') ∧ ∀ x H', (Itl K a).yld i H x H' → (gName j) x (wipe σ vs) H' fun σ2 H2 => wipe σ2 vs = wipe σ vs ∧ tYes σ2 H2 fun b H3 =>
        if b = true then te σ2 H3 fun y H4 => ∃ acc, H4 D = some (.lst acc) ∧ acc.length < sizeLine ∧ Nx (upd H4 D (.lst (acc ++ [y]))) else Nx H3) := by
  have hlen := paired_len hp
  refine lc_list (xs := l) (fun i H => Ex H1 H ∧ ∃ ys, H D = some (.lst ys) ∧ Paired (PartK H (fun s => s = D ∨ S s)) ys (ds.take i)) ⟨Ex.new hD, [], upd_same, .nil⟩ (fun i H _ h => SqL.of (h.1 _ _ hx)) (fun i x H hi h => ?_) (fun H h => ?_)
  · obtain ⟨e1, ys, hy, hpy⟩ := h
    have hil : i < ds.length := by
      rw [← hlen]
      exact (List.getElem?_eq_some_iff.mp hi).1
    obtain ⟨v, d, hv, hdd, hvd⟩ := paired_at hp hil
    rw [hi] at hv
    cases hv
    have ht : ds.take (i + 1) = ds.take i ++ [d] := by rw [List.take_add_one, hdd]; rfl
    have hyl : ys.length ≤ 5 := by
      rw [paired_len hpy, List.length_take]
      omega
    have hnD : ∀ s, S s → s ≠ D := fun s h => by
      rintro rfl
      exact hS _ h hD
    refine ⟨hw _, ?_⟩
    refine iteT (B := Ex H1 H ∧ ∃ ys, H D = some (HO.lst ys) ∧ Paired (PartK H (fun s => s = D ∨ S s)) ys (ds.take (i + 1))) ?_
    rcases hvd with hvd | ⟨b, zs, es, rfl, rfl, hb, hz, hze, _⟩
    · refine hs x H e1 _ ?_ ⟨ys, hy, small1000 (by omega), Ex.mut e1 hD, _, upd_same, ?_⟩
      · rcases hvd with h | ⟨t, zs, es, h1, _, h2, _⟩
        · exact .inl ⟨_, h⟩
        · exact .inr ⟨t, zs, h1, e1 _ _ h2⟩
      · rw [ht]
        exact paired_app (paired_imp (fun _ _ h => h.upd (.inl rfl) hy) hpy) (.cons (.inl ((hvd.mono e1).upd hy)) .nil)
    · refine hs2 b zs H e1 _ (e1 _ _ hb) fun p np => ?_
      have x2 := Ex.new (o := HO.lst zs) np
      have hy2 := x2 _ _ hy
      have npD : p ≠ D := (ne_of_none hy np).symm
      refine ⟨ys, hy2, small1000 (by omega), Ex.mut (e1.trans x2) hD, _, upd_same, ?_⟩
      rw [ht]
      refine paired_app (paired_imp (fun _ _ h => (h.mono x2).upd (.inl rfl) hy2) hpy) (.cons (.inr ⟨p, zs, es, rfl, rfl, ?_, hz, paired_imp (fun _ _ h => ((h.mono (e1.trans x2))).upd hy2) hze, ?_⟩) .nil)
      · rw [upd_ne npD]
        exact upd_same
      · rintro (h | h)
        · exact npD h
        · exact hS _ h (fresh_back e1 np)
  · obtain ⟨e1, ys, hy, hpy⟩ := h
    rw [hlen, List.take_length] at hpy
    exact hd H ys e1 hy (by rw [paired_len hpy, ← hlen]; exact hl) hpy
end
def cD (x : Cse) (kind : Nat) : List PyData := askL kind x.r x.ws x.evs
def cse0 : Cse := ⟨0, 0, [], []⟩
def datK (xs : List Cse) (m : Nat) : List PyData := cD (xs.getD (m / 4) cse0) (m % 4)
theorem ok_law (T : TX K mg) : FnOk P w K mg base CX0 7 T.f_law T.fd_law ["_law_script"] (sp_law K) := by
  refine T.F_law.ok sc_law (fun vs H Q E h => ?_) (fun cdv A outer s H vs Q E hr h => ?_)
  · obtain ⟨a, ns, rfl, _⟩ := h
    rfl
  · obtain ⟨a, ns, rfl, hS, hlen, q⟩ := h
    refine ⟨_, (pss_cons (ps_set (i := 1) sc_law.nd rfl (by first | exact Or.inl rfl | exact Or.inr rfl) (pe_call (ok_l_dice T) (hr.mono (by decide)) (by rfl) T.g_l_dice T.F_l_dice.kp T.b_l_dice .nil pass0 (pa_cons (pv 0) (pa_cons pe_int pa_nil))))
 (pss_cons (ps_set (i := 2) sc_law.nd rfl (by first | exact Or.inl rfl | exact Or.inr rfl) (pe_lst pa_nil))
 (pss_cons (ps_for PassesOwn.never rfl (pi_range1 (by rfl) T.z_range (pa_cons pe_int pa_nil)) (pg_name (i := 3) sc_law.nd rfl (by first | exact Or.inl rfl | exact Or.inr rfl))
 (pss_cons (ps_set (i := 4) sc_law.nd rfl (by first | exact Or.inl rfl | exact Or.inr rfl) (pe_call (ok_l_lane T) (hr.mono (by decide)) (by rfl) T.g_l_lane T.F_l_lane.kp T.b_l_lane .nil pass0 (pa_cons (pv 1) pa_nil)))
 (pss_one (ps_expr (pe_bm PySem.F.plainAttrs_list PySem.F.slot_list_append PySem.F.type_list_append mt_append (pv 2) (pa_cons (pe_tup (pa_cons (pe_ix ix_tup (pv 4) pe_int (fun _ _ => rfl)) (pa_cons (pe_ix ix_tup (pv 4) pe_int (fun _ _ => rfl)) (pa_cons (pe_ix ix_tup (pe_call (ok_l_events T) (hr.mono (by decide)) (by rfl) T.g_l_events T.F_l_events.kp T.b_l_events .nil pass0 (pa_cons (pv 1) (pa_cons (pv 4) (pa_cons pe_int pa_nil)))) pe_int (fun _ _ => rfl)) pa_nil)))) pa_nil))))))
 (pss_cons (ps_set (i := 5) sc_law.nd rfl (by first | exact Or.inl rfl | exact Or.inr rfl) (pe_lst pa_nil))
 (pss_cons (ps_for PassesOwn.never rfl (pi_list (pv 2)) (pg_tup (by rfl) (pgs_cons (pg_name (i := 6) sc_law.nd rfl (by first | exact Or.inl rfl | exact Or.inr rfl)) (pgs_cons (pg_name (i := 7) sc_law.nd rfl (by first | exact Or.inl rfl | exact Or.inr rfl)) (pgs_cons (pg_name (i := 8) sc_law.nd rfl (by first | exact Or.inl rfl | exact Or.inr rfl)) pgs_nil))))
 (pss_one (ps_for PassesOwn.never rfl (pi_range1 (by rfl) T.z_range (pa_cons pe_int pa_nil)) (pg_name (i := 9) sc_law.nd rfl (by first | exact Or.inl rfl | exact Or.inr rfl))
 (pss_cons (ps_set (i := 10) sc_law.nd rfl (by first | exact Or.inl rfl | exact Or.inr rfl) (pe_call (ok_l_asked T) (hr.mono (by decide)) (by rfl) T.g_l_asked T.F_l_asked.kp T.b_l_asked .nil pass0 (pa_cons (pv 9) (pa_cons (pv 6) (pa_cons (pv 7) (pa_cons (pv 8) pa_nil))))))
 (pss_one (ps_expr (pe_bm PySem.F.plainAttrs_list PySem.F.slot_list_append PySem.F.type_list_append mt_append (pv 5) (pa_cons (pe_lc (own := [("_law_part", 11)]) (g := gName 11) (by rfl) sc_law.nd (pi_list (pv 10)) (blkOk_by (own := [("_law_part", 11)]) (N := ["_law_script", "_law_d", "_law_cases", "_law_k", "_law_lane_here", "_law_kept", "_law_room", "_law_words_here", "_law_events_here", "_law_kind", "_law_told", "_law_part", "_law_turn_here", "_law_handed"]) (sc := defScope s_law) (by decide +kernel)) (fun _ _ _ _ _ => pg_name (i := 11) sc_law.nd rfl (Or.inl rfl)) (fun _ _ _ _ _ => pts_nil) (fun _ _ _ _ _ => (pe_ifExp (pt_val (pe_callB (id := "isinstance") (r := rIsi K) call_isi (by rfl) T.z_isinstance (by decide +kernel) (pa_cons (pv 11) (pa_cons (pe_bltn (v := .ty "list") (u := .type "list") (by rfl) T.z_list (by decide +kernel) rfl) pa_nil)))) (pe_callTy (T := "list") (r := rLOf K) call_list_of (by rfl) T.z_list (by decide +kernel) (pa_cons (pv 11) pa_nil)) (pv 11)))) pa_nil))))))))
 (pss_cons (ps_for PassesOwn.never rfl (pi_range1 (by rfl) T.z_range (pa_cons pe_int pa_nil)) (pg_name (i := 12) sc_law.nd rfl (by first | exact Or.inl rfl | exact Or.inr rfl))
 (pss_cons (ps_set (i := 3) sc_law.nd rfl (by first | exact Or.inl rfl | exact Or.inr rfl) (pe_call (ok_l_off T) (hr.mono (by decide)) (by rfl) T.g_l_off T.F_l_off.kp T.b_l_off .nil pass0 (pa_cons (pv 1) (pa_cons pe_int pa_nil))))
 (pss_cons (ps_set (i := 9) sc_law.nd rfl (by first | exact Or.inl rfl | exact Or.inr rfl) (pe_call (ok_l_off T) (hr.mono (by decide)) (by rfl) T.g_l_off T.F_l_off.kp T.b_l_off .nil pass0 (pa_cons (pv 1) (pa_cons pe_int pa_nil))))
 (pss_cons (ps_asg (pe_ix ix_list (pv 2) (pv 3) (fun _ _ => rfl)) (pg_tup (by rfl) (pgs_cons (pg_name (i := 6) sc_law.nd rfl (by first | exact Or.inl rfl | exact Or.inr rfl)) (pgs_cons (pg_name (i := 7) sc_law.nd rfl (by first | exact Or.inl rfl | exact Or.inr rfl)) (pgs_cons (pg_name (i := 8) sc_law.nd rfl (by first | exact Or.inl rfl | exact Or.inr rfl)) pgs_nil)))))
 (pss_cons (ps_set (i := 13) sc_law.nd rfl (by first | exact Or.inl rfl | exact Or.inr rfl) (pe_lst (pa_cons (pe_callTy call_list_of (by rfl) T.z_list (by decide +kernel) (pa_cons (pv 7) pa_nil)) (pa_cons (pe_callTy call_list_of (by rfl) T.z_list (by decide +kernel) (pa_cons (pv 8) pa_nil)) pa_nil))))
 (pss_cons (ps_set (i := 10) sc_law.nd rfl (by first | exact Or.inl rfl | exact Or.inr rfl) (pe_call (ok_l_asked T) (hr.mono (by decide)) (by rfl) T.g_l_asked T.F_l_asked.kp T.b_l_asked .nil pass0 (pa_cons (pv 9) (pa_cons (pv 6) (pa_cons (pe_ix ix_list (pv 13) pe_int (fun _ _ => rfl)) (pa_cons (pe_ix ix_list (pv 13) pe_int (fun _ _ => rfl)) pa_nil))))))
 (pss_cons (ps_if (PW.pt (pw_or (pt_not (pt_val (pe_call (ok_l_alike T) (hr.mono (by decide)) (by rfl) T.g_l_alike T.F_l_alike.kp T.b_l_alike .nil pass0 (pa_cons (pv 10) (pa_cons (pe_ix ix_list (pv 5) (pe_op op_add (pe_op op_mul pe_int (pv 3)) (pv 9)) (fun _ _ => rfl)) pa_nil))))) (pw_or1 (pt_cmpR (op_neD hr.units) (pv 13) (pe_lst (pa_cons (pv 7) (pa_cons (pv 8) pa_nil))) (nomark _)))))
 (pss_one (ps_ret pe_bl))
 pss_nil)
 (pss_cons (ps_for PassesOwn.never rfl (pi_list (pv 10)) (pg_name (i := 11) sc_law.nd rfl (by first | exact Or.inl rfl | exact Or.inr rfl))
 (pss_one (ps_if (pt_val (pe_callB call_isi (by rfl) T.z_isinstance (by decide +kernel) (pa_cons (pv 11) (pa_cons (pe_bltn (v := .ty "list") (u := .type "list") (by rfl) T.z_list (by decide +kernel) rfl) pa_nil))))
 (pss_one (ps_expr (pe_bm PySem.F.plainAttrs_list PySem.F.slot_list_append PySem.F.type_list_append mt_append (pv 11) (pa_cons (pe_tup pa_nil) pa_nil))))
 pss_nil)))
 (pss_cons (ps_expr (pe_bm0 PySem.F.plainAttrs_list PySem.F.slot_list_reverse PySem.F.type_list_reverse mt_reverse (pe_ix ix_list (pv 13) pe_int (fun _ _ => rfl))))
 (pss_one (ps_expr (pe_bm0 PySem.F.plainAttrs_list PySem.F.slot_list_clear PySem.F.type_list_clear mt_clear (pe_ix ix_list (pv 13) pe_int (fun _ _ => rfl))))))))))))))
 (pss_one (ps_ret pe_bl)))))))), ?_⟩
    refine ⟨.ref a, rfl, a, ns, rfl, hS, hlen, fun dd H1 _ _ hd1 => ⟨small9 (by simp), fun pc npc => ?_⟩⟩
    have x2 := Ex.new (o := HO.lst []) npc
    have hd2 := hd1.mono x2
    have hpc2 := upd_same (H := H1) (a := pc) (o := HO.lst [])
    have npcd : pc ≠ dd := hd1.neN npc
    generalize upd H1 pc (.lst []) = H2 at hd2 hpc2 ⊢
    refine ⟨2, rfl, by decide, by decide, for_range (lo := 0) (n := 2) (fun i σ H' => ∃ cs xs y3 y4, σ = [some (.ref a), some (.ref dd), some (.ref pc), y3, y4, none, none, none, none, none, none, none, none, none] ∧ Dice H' dd ∧ H' pc = some (.lst cs) ∧ Paired (CseAt H' (fun s => s = dd ∨ s = pc)) cs xs ∧ xs.length = i) ⟨[], [], _, _, rfl, hd2, hpc2, .nil, rfl⟩ ?_ ?_⟩
    · rintro i σ H3 hi ⟨cs, xs, y3, y4, rfl, hd3, hpc3, hcs, hxl⟩
      refine ⟨_, rfl, dd, rfl, hd3, fun l pw r n ws H4 npw nl npd e4 hd4 hl4 hw4 hW hnd => ?_⟩
      have nld : l ≠ dd := by
        rintro rfl
        exact hd4.notTup _ hl4
      have hpc4 := e4 _ _ hpc3 npcd
      have npwc : pw ≠ pc := by
        rintro rfl
        rw [hpc3] at npw
        cases npw
      refine ⟨_, rfl, .inl ⟨rfl, _, SqL.of hpc4⟩, _, rfl, l, _, _, _, rfl, rfl, SqT.of hl4, rfl, _, rfl, l, _, _, _, rfl, rfl, SqT.of hl4, rfl, _, rfl, _, rfl, dd, l, pw, r, n, 30, ws, rfl, hd4, hl4, hw4, npd, hW, by decide, fun t pe pt es evs H5 npe npt ned ntd nept e5 hd5 ht5 hpe5 hE5 hpt5 hV hle hF => ?_⟩
      have npec : pe ≠ pc := by
        rintro rfl
        rw [hpc4] at npe
        cases npe
      refine ⟨t, _, _, _, rfl, rfl, SqT.of ht5, rfl, small9 (by simp), fun tc ntc => ?_⟩
      have x6 := Ex.new (o := HO.tup [.int (r : Int), .ref pw, .ref pe]) ntc
      have hpc6 := x6 _ _ (e5 _ _ hpc4 npcd)
      have hcl : cs.length = i := by rw [paired_len hcs, hxl]
      refine ⟨pc, _, _, rfl, rfl, hpc6, small1000 (by omega), ?_⟩
      have hcs6 : Paired (CseAt (upd H5 tc (.tup [.int (r : Int), .ref pw, .ref pe])) (fun s => s = dd ∨ s = pc)) (cs ++ [.ref tc]) (xs ++ [⟨r, n, ws, evs⟩]) := paired_app (paired_imp (fun _ _ h => ((h.exd (.inl rfl) hd3 e4).exd (.inl rfl) hd4 e5).mono x6) hcs) (.cons ⟨tc, pw, pe, es, rfl, upd_same, x6 _ _ (e5 _ _ hw4 npd), x6 _ _ hpe5, hE5.mono x6, fun h => h.elim npd npwc, fun h => h.elim ned npec, ⟨hW, hnd, hV, hle⟩⟩ .nil)
      exact ⟨cs ++ [.ref tc], xs ++ [⟨r, n, ws, evs⟩], _, _, rfl, (hd5.mono x6).upd npcd.symm, upd_same, paired_imp (fun _ _ h => h.upd (.inr rfl) hpc6) hcs6, by simp [hxl]⟩
    rintro σ H3 ⟨cs, xs, y3, y4, rfl, hd3, hpc3, hcs, hxl⟩
    have hcl : cs.length = 2 := by rw [paired_len hcs, hxl]
    refine ⟨small9 (by simp), fun pk npk => ?_⟩
    have x4 := Ex.new (o := HO.lst []) npk
    have hpk4 := upd_same (H := H3) (a := pk) (o := HO.lst [])
    have npkd : pk ≠ dd := hd3.neN npk
    have npkc : pk ≠ pc := (ne_of_none hpc3 npk).symm
    generalize upd H3 pk (.lst []) = H4 at x4 hpk4 ⊢
    refine ⟨_, rfl, pc, rfl, ⟨_, SqL.of (x4 _ _ hpc3)⟩, for_list (K := K) (a := pc) (xs := cs) (fun i σ H' => ∃ ks y6 y7 y8 y9 y10 y11, σ = [some (.ref a), some (.ref dd), some (.ref pc), y3, y4, some (.ref pk), y6, y7, y8, y9, y10, y11, none, none] ∧ Ex H3 H' ∧ H' pk = some (.lst ks) ∧ Paired (KeptAt H' (fun s => s = dd ∨ s = pk)) ks ((List.range (4 * i)).map (datK xs))) ⟨[], _, _, _, _, _, _, rfl, x4, hpk4, .nil⟩ (fun i σ H' _ ⟨_, _, _, _, _, _, _, _, e, _⟩ => SqL.of (e _ _ hpc3)) ?_ ?_⟩
    · rintro i v σ H5 hi ⟨ks, y6, y7, y8, y9, y10, y11, rfl, e5, hpk5, hks5⟩
      have hil : i < xs.length := by
        rw [← paired_len hcs]
        exact (List.getElem?_eq_some_iff.mp hi).1
      obtain ⟨v', x, hv', hx, hvx⟩ := paired_at hcs hil
      rw [hi] at hv'
      cases hv'
      obtain ⟨tc, pw, pe, es, rfl, htc, hw, hpe, hE, n1, n2, hok⟩ := hvx
      refine ⟨tc, _, rfl, SqT.of (e5 _ _ htc), rfl, _, _, rfl, _, _, rfl, _, _, rfl, rfl, ?_⟩
      refine ⟨4, rfl, by decide, by decide, for_range (lo := 0) (n := 4) (fun j σ H' => ∃ ks y9 y10 y11, σ = [some (.ref a), some (.ref dd), some (.ref pc), y3, y4, some (.ref pk), some (.int (x.r : Int)), some (.ref pw), some (.ref pe), y9, y10, y11, none, none] ∧ Ex H3 H' ∧ H' pk = some (.lst ks) ∧ Paired (KeptAt H' (fun s => s = dd ∨ s = pk)) ks ((List.range (4 * i + j)).map (datK xs))) ⟨ks, _, _, _, rfl, e5, hpk5, hks5⟩ ?_ ?_⟩
      · rintro j σ H6 hj ⟨ks, y9, y10, y11, rfl, e6, hpk6, hks6⟩
        have e0 : (0 : Int) + (j : Int) = (j : Int) := Int.zero_add _
        rw [e0]
        refine ⟨_, rfl, _, rfl, _, rfl, _, rfl, j, x.r, x.n, pw, pe, x.ws, es, x.evs, rfl, by omega, e6 _ _ hw, e6 _ _ hpe, hE.mono e6, hok.W, hok.nd, hok.V, hok.le, fun p us H7 np e7 hp7 hul hus => ?_⟩
        have hpk7 := e7 _ _ hpk6
        refine ⟨_, rfl, .inl ⟨rfl, _, SqL.of hpk7⟩, _, rfl, p, rfl, ⟨_, SqL.of hp7⟩, fun D nD => lcP (S := fun s => s = dd ∨ s = pk) hp7 hul hus ?_ nD (fun _ => rfl) ?_ ?_ ?_⟩
        · rintro s (rfl | rfl)
          · obtain ⟨_, _, _, h, _⟩ := hd3.mono (e6.trans e7)
            rw [h]
            simp
          · rw [hpk7]
            simp
        · rintro v H8 e8 Y hv hY
          rcases hv with ⟨d, hv⟩ | ⟨t, zs, rfl, ht⟩
          · obtain ⟨ty, hty, hkb⟩ := leaf_ty (K := K) (H := H8) hv
            exact ⟨_, rfl, _, _, _, _, _, rfl, .ty _, hty, kit_ty hkb, _, rfl, ifN (by simp) ⟨_, rfl, hY⟩⟩
          · exact ⟨_, rfl, _, _, _, _, _, rfl, .ty _, .base (.tup ht), kit_ty kb_tl, _, rfl, ifN (by simp) ⟨_, rfl, hY⟩⟩
        · rintro b zs H8 e8 Y hb hY
          exact ⟨_, rfl, _, _, _, _, _, rfl, .ty _, .base (.lst hb), kit_ty kb_ll, _, rfl, ifP rfl ⟨_, rfl, b, _, rfl, .inl (SqL.of hb), hY⟩⟩
        · intro H8 ys e8 hD8 hyl hys
          have hpk8 := e8 _ _ hpk7
          have hkl : ks.length = 4 * i + j := by
            rw [paired_len hks6, List.length_map, List.length_range]
          refine ⟨pk, _, _, rfl, rfl, hpk8, small1000 (by omega), ?_⟩
          have nDk : D ≠ pk := (ne_of_none hpk7 nD).symm
          have nDd : D ≠ dd := (hd3.mono (e6.trans e7)).neN nD
          refine ⟨ks ++ [.ref D], _, _, _, rfl, ((e6.trans e7).trans e8).mut npk, upd_same, ?_⟩
          rw [show 4 * i + (j + 1) = (4 * i + j) + 1 by omega, List.range_succ, List.map_append]
          have hdat : datK xs (4 * i + j) = askL j x.r x.ws x.evs := by
            unfold datK
            rw [show (4 * i + j) / 4 = i by omega, show (4 * i + j) % 4 = j by omega, List.getD_eq_getElem?_getD, hx]
            rfl
          refine paired_app (paired_imp (fun _ _ h => (h.mono (e7.trans e8)).upd (.inr rfl) hpk8) hks6) (.cons ?_ .nil)
          rw [hdat]
          refine ⟨D, ys, rfl, (upd_ne nDk).trans hD8, hyl, fun h => h.elim nDd nDk, paired_imp (fun _ _ h => ?_) hys⟩
          exact (h.sub (S' := fun s => s = dd ∨ s = pk) (fun a h => .inr h)).upd (.inr rfl) hpk8
      · rintro σ H6 ⟨ks, y9, y10, y11, rfl, e6, hpk6, hks6⟩
        exact ⟨ks, _, _, _, _, _, _, rfl, e6, hpk6, hks6⟩
    rintro σ H5 ⟨ks, y6, y7, y8, y9, y10, y11, rfl, e5, hpk5, hks5⟩
    rw [hcl] at hks5
    have hd5 := hd3.mono e5
    have hpc5 := e5 _ _ hpc3
    have hcs5 := paired_imp (fun _ _ (h : CseAt H3 (fun s => s = dd ∨ s = pc) _ _) => h.mono e5) hcs
    have hkl : ks.length = 8 := by
      rw [paired_len hks5, List.length_map, List.length_range]
    clear hcs hpc3 hd3 x4 hpk4
    refine ⟨14, rfl, by decide, by decide, for_range (lo := 0) (n := 14) (fun i σ H' => ∃ y3 y6 y7 y8 y9 y10 y11 y12 y13, σ = [some (.ref a), some (.ref dd), some (.ref pc), y3, y4, some (.ref pk), y6, y7, y8, y9, y10, y11, y12, y13] ∧ Exd dd H5 H' ∧ Dice H' dd) ⟨_, _, _, _, _, _, _, _, _, rfl, Exd.refl _ _, hd5⟩ ?_ ?_⟩
    · rintro i σ H6 _ ⟨y3, y6, y7, y8, y9, y10, y11, y12, y13, rfl, e6, hd6⟩
      refine ⟨_, rfl, dd, 2, rfl, hd6, by decide, by decide, fun x1 H7 x10 x11 e7 hd7 => ⟨_, rfl, dd, 4, rfl, hd7, by decide, by decide, fun x2 H8 x20 x21 e8 hd8 => ?_⟩⟩
      obtain ⟨k, rfl⟩ : ∃ k : Nat, x1 = (k : Int) := ⟨x1.toNat, by omega⟩
      obtain ⟨kind, rfl⟩ : ∃ k : Nat, x2 = (k : Int) := ⟨x2.toNat, by omega⟩
      have e58 := (e6.trans e7).trans e8
      obtain ⟨v, x, hv, hx, hvx⟩ := paired_at hcs5 (i := k) (by omega)
      have hvx := hvx.exd (.inl rfl) hd5 e58
      have hks8 := paired_imp (fun _ _ (h : KeptAt H5 (fun s => s = dd ∨ s = pk) _ _) => h.exd (.inl rfl) hd5 e58) hks5
      have hpc8 := e58 _ _ hpc5 npcd
      have hpk8 := e58 _ _ hpk5 npkd
      obtain ⟨tc, pw, pe, es, rfl, htc, hw, hpe, hE, n1, n2, hok⟩ := hvx
      refine ⟨_, rfl, _, rfl, pc, _, _, _, rfl, rfl, SqL.of hpc8, atI_nat hv, tc, _, rfl, SqT.of htc, rfl, _, _, rfl, _, _, rfl, _, _, rfl, rfl, ?_⟩
      refine ⟨_, rfl, pw, _, rfl, .inl (SqL.of hw), fun h0 nh0 => ⟨_, rfl, pe, _, rfl, .inl (SqL.of ((Ex.new nh0) _ _ hpe)), fun h1 nh1 => ⟨small9 (by simp), fun ph nph => ?_⟩⟩⟩
      have z1 := Ex.new (o := HO.lst (x.ws.map wv)) nh0
      have z2 := Ex.new (o := HO.lst es) nh1
      have z3 := Ex.new (o := HO.lst [.ref h0, .ref h1]) nph
      have z13 := (z1.trans z2).trans z3
      have hh0 := (z2.trans z3) _ _ (upd_same (H := H8) (a := h0) (o := HO.lst (x.ws.map wv)))
      have hh1 := z3 _ _ (upd_same (H := upd H8 h0 (.lst (x.ws.map wv))) (a := h1) (o := HO.lst es))
      have hph := upd_same (H := upd (upd H8 h0 (.lst (x.ws.map wv))) h1 (.lst es)) (a := ph) (o := HO.lst [.ref h0, .ref h1])
      have nh1H : H8 h1 = none := fresh_back z1 nh1
      have nphH : H8 ph = none := fresh_back (z1.trans z2) nph
      have nh01 : h0 ≠ h1 := ne_of_none upd_same nh1
      have nhp0 : h0 ≠ ph := ne_of_none (z2 _ _ upd_same) nph
      have nhp1 : h1 ≠ ph := ne_of_none upd_same nph
      generalize upd (upd (upd H8 h0 (.lst (x.ws.map wv))) h1 (.lst es)) ph (.lst [.ref h0, .ref h1]) = H9 at z13 hh0 hh1 hph ⊢
      have hel := hE.len
      have hle := hok.le
      have hwl : x.ws.length ≤ 1000 := by
        rw [hok.W.len]
        have := hok.W.r6
        omega
      refine ⟨_, rfl, _, rfl, _, rfl, ph, _, _, _, rfl, rfl, SqL.of hph, rfl, _, rfl, ph, _, _, _, rfl, rfl, SqL.of hph, rfl, kind, x.r, x.n, h0, h1, x.ws, es, x.evs, rfl, by omega, hh0, hh1, hE.mono z13, hok.W, hok.nd, hok.V, hok.le, fun p us H10 np e10 hp10 hul hus => ?_⟩
      have z10 := z13.trans e10
      have hkx : (List.map (datK xs) (List.range (4 * 2)))[4 * k + kind]? = some (askL kind x.r x.ws x.evs) := by
        rw [List.getElem?_map, List.getElem?_range (by omega)]
        show some (datK xs (4 * k + kind)) = _
        unfold datK
        rw [show (4 * k + kind) / 4 = k by omega, show (4 * k + kind) % 4 = kind by omega, List.getD_eq_getElem?_getD, hx]
        rfl
      obtain ⟨kv, kd, hkv, hkd, hkk⟩ := paired_at hks8 (i := 4 * k + kind) (by simp; omega)
      rw [hkx] at hkd
      cases hkd
      refine ⟨_, rfl, _, rfl, _, rfl, _, _, rfl, rfl, .inl ⟨by decide, by decide⟩, _, rfl, _, _, rfl, rfl, pk, _, _, _, rfl, rfl, SqL.of (z10 _ _ hpk8), ats (by simp) hkv, .ref p, kv, .list (askL kind x.r x.ws x.evs), rfl, Da.lst (n := 4) hp10 (by omega) (paired_imp (fun _ _ h => h.da) hus), (hkk.mono z10).da, fun H11 e11 => ⟨_, rfl, ifN (by simp) ?_⟩⟩
      have e911 := e10.trans e11
      have z11 := z13.trans e911
      refine ⟨_, rfl, _, rfl, _, rfl, small9 (by simp), fun o no => ?_⟩
      have xo := Ex.new (o := HO.lst [.ref pw, .ref pe]) no
      have e912 := e911.trans xo
      have z12 := z13.trans e912
      have hds := paired_imp (fun _ _ => TupD.mono z12) hE.dat
      have hsd : Sd 3 (.list [.list (x.ws.map fun w => .str (wd w)), .list (x.evs.map fun e => .tuple ((evV e).map ansD))]) := by
        intro d hd
        rcases List.mem_cons.mp hd with rfl | hd
        · exact wds_sd x.ws
        · rw [List.mem_singleton.mp hd]
          exact tups_sd hE.dat
      refine ⟨_, _, (Da.lst (n := 2) (e912 _ _ hph) (by simp) (.cons (wds_da (e912 _ _ hh0) hwl) (.cons (tups_da (e912 _ _ hh1) (by omega) hds) .nil))).dp, (Da.lst (n := 2) upd_same (by simp) (.cons (wds_da (z12 _ _ hw) hwl) (.cons (tups_da (z12 _ _ hpe) (by omega) hds) .nil))).dp, hsd.shaped (by decide), hsd.shaped (by decide), _, rfl, ifN (by rw [eqv_rfl hsd]; simp) ?_⟩
      have hp12 := (e11.trans xo) _ _ hp10
      have hus12 := paired_imp (fun _ _ (h : PartK H10 (fun a => a = p ∨ H9 a ≠ none) _ _) => h.mono (e11.trans xo)) hus
      generalize upd H11 o (.lst [.ref pw, .ref pe]) = H12 at e912 hp12 hus12 ⊢
      clear z12 hds z11 e911 z10 hus hp10 e10 e11 xo
      -- lists told are changed
      refine ⟨_, rfl, p, rfl, ⟨_, SqL.of hp12⟩, for_list (K := K) (a := p) (xs := us) (fun j σ H' => ∃ y11, σ = [some (.ref a), some (.ref dd), some (.ref pc), some (.int (k : Int)), y4, some (.ref pk), some (.int (x.r : Int)), some (.ref pw), some (.ref pe), some (.int (kind : Int)), some (.ref p), y11, some (.int (0 + (i : Int))), some (.ref ph)] ∧ Ex H9 H' ∧ H' p = some (.lst us) ∧ ∀ v ∈ us, (∃ d, Leaf v d) ∨ (∃ t zs, v = .ref t ∧ H' t = some (.tup zs)) ∨ ∃ b zs, v = .ref b ∧ H' b = some (.lst zs) ∧ zs.length ≤ 1000 + j ∧ H9 b = none ∧ b ≠ p) ⟨_, rfl, e912, hp12, ?_⟩ (fun j σ H' _ ⟨_, _, _, h, _⟩ => SqL.of h) ?_ ?_⟩
      · intro v hv
        obtain ⟨j, hj⟩ := List.getElem?_of_mem hv
        obtain ⟨v', d, hv', _, hvd⟩ := paired_at hus12 (i := j) (by rw [← paired_len hus12]; exact (List.getElem?_eq_some_iff.mp hj).1)
        rw [hj] at hv'
        cases hv'
        rcases hvd with (h | ⟨t, zs, es, h1, _, h2, _⟩) | ⟨b, zs, es, h1, _, h2, h3, _, h4⟩
        · exact .inl ⟨_, h⟩
        · exact .inr (.inl ⟨t, zs, h1, h2⟩)
        · refine .inr (.inr ⟨b, zs, h1, h2, by omega, ?_, fun h => h4 (.inl h)⟩)
          cases hb : H9 b with
          | none => rfl
          | some o => exact absurd (.inr (by rw [hb]; simp)) h4
      · rintro j v σ H13 hj ⟨y11, rfl, e13, hp13, hall⟩
        have hjl : j < 5 := by
          have := (List.getElem?_eq_some_iff.mp hj).1
          omega
        have hv := hall v (List.mem_of_getElem? hj)
        have keep : ∀ v ∈ us, (∃ d, Leaf v d) ∨ (∃ t zs, v = .ref t ∧ H13 t = some (.tup zs)) ∨ ∃ b zs, v = .ref b ∧ H13 b = some (.lst zs) ∧ zs.length ≤ 1000 + (j + 1) ∧ H9 b = none ∧ b ≠ p := by
          intro v hv
          rcases hall v hv with h | h | ⟨b, zs, h1, h2, h3, h4⟩
          · exact .inl h
          · exact .inr (.inl h)
          · exact .inr (.inr ⟨b, zs, h1, h2, by omega, h4⟩)
        rcases hv with ⟨d, h⟩ | ⟨t, zs, rfl, ht⟩ | ⟨b, zs, rfl, hb, hz, hbn, hbp⟩
        · obtain ⟨ty, hty, hkb⟩ := leaf_ty (K := K) (H := H13) h
          exact ⟨_, rfl, _, _, _, _, _, rfl, .ty _, hty, kit_ty hkb, _, rfl, ifN (by simp) ⟨_, rfl, e13, hp13, keep⟩⟩
        · exact ⟨_, rfl, _, _, _, _, _, rfl, .ty _, .base (.tup ht), kit_ty kb_tl, _, rfl, ifN (by simp) ⟨_, rfl, e13, hp13, keep⟩⟩
        · refine ⟨_, rfl, _, _, _, _, _, rfl, .ty _, .base (.lst hb), kit_ty kb_ll, _, rfl, ifP rfl ?_⟩
          refine ⟨_, rfl, .inl ⟨rfl, _, SqL.of hb⟩, small9 (by simp), fun te nte => ?_⟩
          have xt := Ex.new (o := HO.tup []) nte
          have hb2 := xt _ _ hb
          refine ⟨b, _, _, rfl, rfl, hb2, sl24 (by omega), ?_⟩
          refine ⟨_, rfl, (e13.trans xt).mut hbn, (upd_ne hbp.symm).trans (xt _ _ hp13), fun v hv => ?_⟩
          rcases hall v hv with h | ⟨t, ts, h1, h2⟩ | ⟨b', zs', rfl, h2, h3, h4⟩
          · exact .inl h
          · refine .inr (.inl ⟨t, ts, h1, (upd_ne ?_).trans (xt _ _ h2)⟩)
            rintro rfl
            rw [hb] at h2
            cases h2
          · by_cases hbb : b' = b
            · subst hbb
              exact .inr (.inr ⟨b', _, rfl, upd_same, by simp; omega, h4⟩)
            · exact .inr (.inr ⟨b', zs', rfl, (upd_ne hbb).trans (xt _ _ h2), by omega, h4⟩)
      · rintro σ H13 ⟨y11, rfl, e13, hp13, _⟩
        have hph13 := e13 _ _ hph
        have hh013 := e13 _ _ hh0
        have hh113 := e13 _ _ hh1
        refine ⟨_, rfl, ph, _, _, _, rfl, rfl, SqL.of hph13, rfl, .inl ⟨rfl, _, SqL.of hh013⟩, h0, _, rfl, rfl, hh013, ?_⟩
        have hph14 : upd H13 h0 (.lst (x.ws.map wv).reverse) ph = _ := (upd_ne nhp0.symm).trans hph13
        have hh114 : upd H13 h0 (.lst (x.ws.map wv).reverse) h1 = _ := (upd_ne nh01.symm).trans hh113
        refine ⟨_, rfl, ph, _, _, _, rfl, rfl, SqL.of hph14, rfl, .inl ⟨rfl, _, SqL.of hh114⟩, h1, _, rfl, rfl, hh114, ?_⟩
        have e814 : Ex H8 (upd (upd H13 h0 (.lst (x.ws.map wv).reverse)) h1 (.lst [])) := ((z13.trans e13).mut nh0).mut nh1H
        exact ⟨_, _, _, _, _, _, _, _, _, rfl, e58.trans (Exd.of e814), hd8.mono e814⟩
    · rintro σ H6 _
      exact q _
end
theorem all_mk {l : PySem.W.OpenLaw} {w : World} {K : PySem.W.Frag} {h : Heap} {mg : Str → Option Value} {fa : Addr} (X : K.In h) (G : h.Ns mainGlobals mg) (hfa : mg "law" = some (.ref fa))
    {f_l_alike : Addr} {od_l_alike an_l_alike : Option Addr} {sl_l_alike : Array (Option Value)} {oc_l_alike kV_l_alike dc_l_alike pm_l_alike cd_l_alike ct_l_alike : Value}
    {f_mirrored : Addr} {od_mirrored an_mirrored : Option Addr} {sl_mirrored : Array (Option Value)} {oc_mirrored kV_mirrored dc_mirrored pm_mirrored cd_mirrored ct_mirrored : Value}
    {f_cut : Addr} {od_cut an_cut : Option Addr} {sl_cut : Array (Option Value)} {oc_cut kV_cut dc_cut pm_cut cd_cut ct_cut : Value}
    {f_Lane___init__ : Addr} {od_Lane___init__ an_Lane___init__ : Option Addr} {sl_Lane___init__ : Array (Option Value)} {oc_Lane___init__ kV_Lane___init__ dc_Lane___init__ pm_Lane___init__ cd_Lane___init__ ct_Lane___init__ : Value}
    {f_Lane_behind : Addr} {od_Lane_behind an_Lane_behind : Option Addr} {sl_Lane_behind : Array (Option Value)} {oc_Lane_behind kV_Lane_behind dc_Lane_behind pm_Lane_behind cd_Lane_behind ct_Lane_behind : Value}
    {f_Lane_can_get : Addr} {od_Lane_can_get an_Lane_can_get : Option Addr} {sl_Lane_can_get : Array (Option Value)} {oc_Lane_can_get kV_Lane_can_get dc_Lane_can_get pm_Lane_can_get cd_Lane_can_get ct_Lane_can_get : Value}
    {f_Lane_inside : Addr} {od_Lane_inside an_Lane_inside : Option Addr} {sl_Lane_inside : Array (Option Value)} {oc_Lane_inside kV_Lane_inside dc_Lane_inside pm_Lane_inside cd_Lane_inside ct_Lane_inside : Value}
    {f_Lane_place_of : Addr} {od_Lane_place_of an_Lane_place_of : Option Addr} {sl_Lane_place_of : Array (Option Value)} {oc_Lane_place_of kV_Lane_place_of dc_Lane_place_of pm_Lane_place_of cd_Lane_place_of ct_Lane_place_of : Value}
    {f_Lane_do_get : Addr} {od_Lane_do_get an_Lane_do_get : Option Addr} {sl_Lane_do_get : Array (Option Value)} {oc_Lane_do_get kV_Lane_do_get dc_Lane_do_get pm_Lane_do_get cd_Lane_do_get ct_Lane_do_get : Value}
    {f_Lane_can_put : Addr} {od_Lane_can_put an_Lane_can_put : Option Addr} {sl_Lane_can_put : Array (Option Value)} {oc_Lane_can_put kV_Lane_can_put dc_Lane_can_put pm_Lane_can_put cd_Lane_can_put ct_Lane_can_put : Value}
    {f_Lane_do_put : Addr} {od_Lane_do_put an_Lane_do_put : Option Addr} {sl_Lane_do_put : Array (Option Value)} {oc_Lane_do_put kV_Lane_do_put dc_Lane_do_put pm_Lane_do_put cd_Lane_do_put ct_Lane_do_put : Value}
    {f_Lane_do : Addr} {od_Lane_do an_Lane_do : Option Addr} {sl_Lane_do : Array (Option Value)} {oc_Lane_do kV_Lane_do dc_Lane_do pm_Lane_do cd_Lane_do ct_Lane_do : Value}
    {f_Lane_turns : Addr} {od_Lane_turns an_Lane_turns : Option Addr} {sl_Lane_turns : Array (Option Value)} {oc_Lane_turns kV_Lane_turns dc_Lane_turns pm_Lane_turns cd_Lane_turns ct_Lane_turns : Value}
    {f_seen_of : Addr} {od_seen_of an_seen_of : Option Addr} {sl_seen_of : Array (Option Value)} {oc_seen_of kV_seen_of dc_seen_of pm_seen_of cd_seen_of ct_seen_of : Value}
    {f_Lane_events : Addr} {od_Lane_events an_Lane_events : Option Addr} {sl_Lane_events : Array (Option Value)} {oc_Lane_events kV_Lane_events dc_Lane_events pm_Lane_events cd_Lane_events ct_Lane_events : Value}
    {f_Lane_stand : Addr} {od_Lane_stand an_Lane_stand : Option Addr} {sl_Lane_stand : Array (Option Value)} {oc_Lane_stand kV_Lane_stand dc_Lane_stand pm_Lane_stand cd_Lane_stand ct_Lane_stand : Value}
    {f_Lane_state : Addr} {od_Lane_state an_Lane_state : Option Addr} {sl_Lane_state : Array (Option Value)} {oc_Lane_state kV_Lane_state dc_Lane_state pm_Lane_state cd_Lane_state ct_Lane_state : Value}
    {f_is_word : Addr} {od_is_word an_is_word : Option Addr} {sl_is_word : Array (Option Value)} {oc_is_word kV_is_word dc_is_word pm_is_word cd_is_word ct_is_word : Value}
    {f_need_words : Addr} {od_need_words an_need_words : Option Addr} {sl_need_words : Array (Option Value)} {oc_need_words kV_need_words dc_need_words pm_need_words cd_need_words ct_need_words : Value}
    {f_need_lane : Addr} {od_need_lane an_need_lane : Option Addr} {sl_need_lane : Array (Option Value)} {oc_need_lane kV_need_lane dc_need_lane pm_need_lane cd_need_lane ct_need_lane : Value}
    {f_fault : Addr} {od_fault an_fault : Option Addr} {sl_fault : Array (Option Value)} {oc_fault kV_fault dc_fault pm_fault cd_fault ct_fault : Value}
    {f_first_torn : Addr} {od_first_torn an_first_torn : Option Addr} {sl_first_torn : Array (Option Value)} {oc_first_torn kV_first_torn dc_first_torn pm_first_torn cd_first_torn ct_first_torn : Value}
    {f_Lane_may : Addr} {od_Lane_may an_Lane_may : Option Addr} {sl_Lane_may : Array (Option Value)} {oc_Lane_may kV_Lane_may dc_Lane_may pm_Lane_may cd_Lane_may ct_Lane_may : Value}
    {f_played : Addr} {od_played an_played : Option Addr} {sl_played : Array (Option Value)} {oc_played kV_played dc_played pm_played cd_played ct_played : Value}
    {f_got : Addr} {od_got an_got : Option Addr} {sl_got : Array (Option Value)} {oc_got kV_got dc_got pm_got cd_got ct_got : Value}
    {f_need_wide : Addr} {od_need_wide an_need_wide : Option Addr} {sl_need_wide : Array (Option Value)} {oc_need_wide kV_need_wide dc_need_wide pm_need_wide cd_need_wide ct_need_wide : Value}
    {f_gray : Addr} {od_gray an_gray : Option Addr} {sl_gray : Array (Option Value)} {oc_gray kV_gray dc_gray pm_gray cd_gray ct_gray : Value}
    {f_gone_through : Addr} {od_gone_through an_gone_through : Option Addr} {sl_gone_through : Array (Option Value)} {oc_gone_through kV_gone_through dc_gone_through pm_gone_through cd_gone_through ct_gone_through : Value}
    {f_need_late : Addr} {od_need_late an_need_late : Option Addr} {sl_need_late : Array (Option Value)} {oc_need_late kV_need_late dc_need_late pm_need_late cd_need_late ct_need_late : Value}
    {f_least_room : Addr} {od_least_room an_least_room : Option Addr} {sl_least_room : Array (Option Value)} {oc_least_room kV_least_room dc_least_room pm_least_room cd_least_room ct_least_room : Value}
    {f_all_words : Addr} {od_all_words an_all_words : Option Addr} {sl_all_words : Array (Option Value)} {oc_all_words kV_all_words dc_all_words pm_all_words cd_all_words ct_all_words : Value}
    {f_plain : Addr} {od_plain an_plain : Option Addr} {sl_plain : Array (Option Value)} {oc_plain kV_plain dc_plain pm_plain cd_plain ct_plain : Value}
    {f_steady : Addr} {od_steady an_steady : Option Addr} {sl_steady : Array (Option Value)} {oc_steady kV_steady dc_steady pm_steady cd_steady ct_steady : Value}
    {f_torn : Addr} {od_torn an_torn : Option Addr} {sl_torn : Array (Option Value)} {oc_torn kV_torn dc_torn pm_torn cd_torn ct_torn : Value}
    {f_l_asked : Addr} {od_l_asked an_l_asked : Option Addr} {sl_l_asked : Array (Option Value)} {oc_l_asked kV_l_asked dc_l_asked pm_l_asked cd_l_asked ct_l_asked : Value}
    {f_l_dice : Addr} {od_l_dice an_l_dice : Option Addr} {sl_l_dice : Array (Option Value)} {oc_l_dice kV_l_dice dc_l_dice pm_l_dice cd_l_dice ct_l_dice : Value}
    {f_l_begun : Addr} {od_l_begun an_l_begun : Option Addr} {sl_l_begun : Array (Option Value)} {oc_l_begun kV_l_begun dc_l_begun pm_l_begun cd_l_begun ct_l_begun : Value}
    {f_l_plain : Addr} {od_l_plain an_l_plain : Option Addr} {sl_l_plain : Array (Option Value)} {oc_l_plain kV_l_plain dc_l_plain pm_l_plain cd_l_plain ct_l_plain : Value}
    {f_l_seen : Addr} {od_l_seen an_l_seen : Option Addr} {sl_l_seen : Array (Option Value)} {oc_l_seen kV_l_seen dc_l_seen pm_l_seen cd_l_seen ct_l_seen : Value}
    {f_l_turn : Addr} {od_l_turn an_l_turn : Option Addr} {sl_l_turn : Array (Option Value)} {oc_l_turn kV_l_turn dc_l_turn pm_l_turn cd_l_turn ct_l_turn : Value}
    {f_l_can : Addr} {od_l_can an_l_can : Option Addr} {sl_l_can : Array (Option Value)} {oc_l_can kV_l_can dc_l_can pm_l_can cd_l_can ct_l_can : Value}
    {f_l_do : Addr} {od_l_do an_l_do : Option Addr} {sl_l_do : Array (Option Value)} {oc_l_do kV_l_do dc_l_do pm_l_do cd_l_do ct_l_do : Value}
    {f_l_off : Addr} {od_l_off an_l_off : Option Addr} {sl_l_off : Array (Option Value)} {oc_l_off kV_l_off dc_l_off pm_l_off cd_l_off ct_l_off : Value}
    {f_l_events : Addr} {od_l_events an_l_events : Option Addr} {sl_l_events : Array (Option Value)} {oc_l_events kV_l_events dc_l_events pm_l_events cd_l_events ct_l_events : Value}
    {f_l_gray : Addr} {od_l_gray an_l_gray : Option Addr} {sl_l_gray : Array (Option Value)} {oc_l_gray kV_l_gray dc_l_gray pm_l_gray cd_l_gray ct_l_gray : Value}
    {f_l_mixed : Addr} {od_l_mixed an_l_mixed : Option Addr} {sl_l_mixed : Array (Option Value)} {oc_l_mixed kV_l_mixed dc_l_mixed pm_l_mixed cd_l_mixed ct_l_mixed : Value}
    {f_l_words : Addr} {od_l_words an_l_words : Option Addr} {sl_l_words : Array (Option Value)} {oc_l_words kV_l_words dc_l_words pm_l_words cd_l_words ct_l_words : Value}
    {f_l_lane : Addr} {od_l_lane an_l_lane : Option Addr} {sl_l_lane : Array (Option Value)} {oc_l_lane kV_l_lane dc_l_lane pm_l_lane cd_l_lane ct_l_lane : Value}
    {f_law : Addr} {od_law an_law : Option Addr} {sl_law : Array (Option Value)} {oc_law kV_law dc_law pm_law cd_law ct_law : Value}
    {C_Lane : Addr}
    {a_MARKS : Addr} {dd_MARKS : Option Addr} {nn_MARKS : Nat} {sl_MARKS : Array (Option Value)} {t0_MARKS t1_MARKS : Tok}
    {t_MOST_EVENTS : Tok}
    {t_MOST_LATE : Tok}
    {t_MOST_ROOM : Tok}
    {t_MOST_STEADY : Tok}
    {t_MOST_WIDE : Tok}
    {t_MOST_WORDS : Tok}
    {t_OVER : Tok}
    {t_UNDER : Tok}
    (aC_Lane : PySem.W.nsIn K mainGlobals "Lane" = some (some (.ref C_Lane)))
    (a_l_alike : PySem.W.nsIn K mainGlobals "_law_alike" = some (some (.ref f_l_alike)))
    (l_l_alike : K.lookup f_l_alike = some ⟨oc_l_alike, od_l_alike, .func (PySem.W.fnOf "_law_alike" "_law_alike" (defArgs s_l_alike) (defBody s_l_alike) (defScope s_l_alike) .none kV_l_alike dc_l_alike pm_l_alike an_l_alike cd_l_alike ct_l_alike), sl_l_alike⟩) (c_l_alike : PySem.W.codeIn K cd_l_alike "_law_alike" = true) (k_l_alike : PySem.W.keepIn K (.ref f_l_alike) = true)
    (a_mirrored : PySem.W.nsIn K mainGlobals "mirrored" = some (some (.ref f_mirrored)))
    (l_mirrored : K.lookup f_mirrored = some ⟨oc_mirrored, od_mirrored, .func (PySem.W.fnOf "mirrored" "mirrored" (defArgs s_mirrored) (defBody s_mirrored) (defScope s_mirrored) .none kV_mirrored dc_mirrored pm_mirrored an_mirrored cd_mirrored ct_mirrored), sl_mirrored⟩) (c_mirrored : PySem.W.codeIn K cd_mirrored "mirrored" = true) (k_mirrored : PySem.W.keepIn K (.ref f_mirrored) = true)
    (a_cut : PySem.W.nsIn K mainGlobals "cut" = some (some (.ref f_cut)))
    (l_cut : K.lookup f_cut = some ⟨oc_cut, od_cut, .func (PySem.W.fnOf "cut" "cut" (defArgs s_cut) (defBody s_cut) (defScope s_cut) .none kV_cut dc_cut pm_cut an_cut cd_cut ct_cut), sl_cut⟩) (c_cut : PySem.W.codeIn K cd_cut "cut" = true) (k_cut : PySem.W.keepIn K (.ref f_cut) = true)
    (a_Lane___init__ : PySem.W.findIn K (.ref C_Lane) "__init__" = some (some (.ref f_Lane___init__))) (i_Lane___init__ : PySem.W.isFn K (.ref f_Lane___init__) = true)
    (l_Lane___init__ : K.lookup f_Lane___init__ = some ⟨oc_Lane___init__, od_Lane___init__, .func (PySem.W.fnOf "__init__" "Lane.__init__" (defArgs s_Lane___init__) (defBody s_Lane___init__) (defScope s_Lane___init__) .none kV_Lane___init__ dc_Lane___init__ pm_Lane___init__ an_Lane___init__ cd_Lane___init__ ct_Lane___init__), sl_Lane___init__⟩) (c_Lane___init__ : PySem.W.codeIn K cd_Lane___init__ "Lane.__init__" = true) (k_Lane___init__ : PySem.W.keepIn K (.ref f_Lane___init__) = true)
    (a_Lane_behind : PySem.W.findIn K (.ref C_Lane) "behind" = some (some (.ref f_Lane_behind))) (i_Lane_behind : PySem.W.isFn K (.ref f_Lane_behind) = true)
    (l_Lane_behind : K.lookup f_Lane_behind = some ⟨oc_Lane_behind, od_Lane_behind, .func (PySem.W.fnOf "behind" "Lane.behind" (defArgs s_Lane_behind) (defBody s_Lane_behind) (defScope s_Lane_behind) .none kV_Lane_behind dc_Lane_behind pm_Lane_behind an_Lane_behind cd_Lane_behind ct_Lane_behind), sl_Lane_behind⟩) (c_Lane_behind : PySem.W.codeIn K cd_Lane_behind "Lane.behind" = true) (k_Lane_behind : PySem.W.keepIn K (.ref f_Lane_behind) = true)
    (a_Lane_can_get : PySem.W.findIn K (.ref C_Lane) "can_get" = some (some (.ref f_Lane_can_get))) (i_Lane_can_get : PySem.W.isFn K (.ref f_Lane_can_get) = true)
    (l_Lane_can_get : K.lookup f_Lane_can_get = some ⟨oc_Lane_can_get, od_Lane_can_get, .func (PySem.W.fnOf "can_get" "Lane.can_get" (defArgs s_Lane_can_get) (defBody s_Lane_can_get) (defScope s_Lane_can_get) .none kV_Lane_can_get dc_Lane_can_get pm_Lane_can_get an_Lane_can_get cd_Lane_can_get ct_Lane_can_get), sl_Lane_can_get⟩) (c_Lane_can_get : PySem.W.codeIn K cd_Lane_can_get "Lane.can_get" = true) (k_Lane_can_get : PySem.W.keepIn K (.ref f_Lane_can_get) = true)
    (a_Lane_inside : PySem.W.findIn K (.ref C_Lane) "inside" = some (some (.ref f_Lane_inside))) (i_Lane_inside : PySem.W.isFn K (.ref f_Lane_inside) = true)
    (l_Lane_inside : K.lookup f_Lane_inside = some ⟨oc_Lane_inside, od_Lane_inside, .func (PySem.W.fnOf "inside" "Lane.inside" (defArgs s_Lane_inside) (defBody s_Lane_inside) (defScope s_Lane_inside) .none kV_Lane_inside dc_Lane_inside pm_Lane_inside an_Lane_inside cd_Lane_inside ct_Lane_inside), sl_Lane_inside⟩) (c_Lane_inside : PySem.W.codeIn K cd_Lane_inside "Lane.inside" = true) (k_Lane_inside : PySem.W.keepIn K (.ref f_Lane_inside) = true)
    (a_Lane_place_of : PySem.W.findIn K (.ref C_Lane) "place_of" = some (some (.ref f_Lane_place_of))) (i_Lane_place_of : PySem.W.isFn K (.ref f_Lane_place_of) = true)
    (l_Lane_place_of : K.lookup f_Lane_place_of = some ⟨oc_Lane_place_of, od_Lane_place_of, .func (PySem.W.fnOf "place_of" "Lane.place_of" (defArgs s_Lane_place_of) (defBody s_Lane_place_of) (defScope s_Lane_place_of) .none kV_Lane_place_of dc_Lane_place_of pm_Lane_place_of an_Lane_place_of cd_Lane_place_of ct_Lane_place_of), sl_Lane_place_of⟩) (c_Lane_place_of : PySem.W.codeIn K cd_Lane_place_of "Lane.place_of" = true) (k_Lane_place_of : PySem.W.keepIn K (.ref f_Lane_place_of) = true)
    (a_Lane_do_get : PySem.W.findIn K (.ref C_Lane) "do_get" = some (some (.ref f_Lane_do_get))) (i_Lane_do_get : PySem.W.isFn K (.ref f_Lane_do_get) = true)
    (l_Lane_do_get : K.lookup f_Lane_do_get = some ⟨oc_Lane_do_get, od_Lane_do_get, .func (PySem.W.fnOf "do_get" "Lane.do_get" (defArgs s_Lane_do_get) (defBody s_Lane_do_get) (defScope s_Lane_do_get) .none kV_Lane_do_get dc_Lane_do_get pm_Lane_do_get an_Lane_do_get cd_Lane_do_get ct_Lane_do_get), sl_Lane_do_get⟩) (c_Lane_do_get : PySem.W.codeIn K cd_Lane_do_get "Lane.do_get" = true) (k_Lane_do_get : PySem.W.keepIn K (.ref f_Lane_do_get) = true)
    (a_Lane_can_put : PySem.W.findIn K (.ref C_Lane) "can_put" = some (some (.ref f_Lane_can_put))) (i_Lane_can_put : PySem.W.isFn K (.ref f_Lane_can_put) = true)
    (l_Lane_can_put : K.lookup f_Lane_can_put = some ⟨oc_Lane_can_put, od_Lane_can_put, .func (PySem.W.fnOf "can_put" "Lane.can_put" (defArgs s_Lane_can_put) (defBody s_Lane_can_put) (defScope s_Lane_can_put) .none kV_Lane_can_put dc_Lane_can_put pm_Lane_can_put an_Lane_can_put cd_Lane_can_put ct_Lane_can_put), sl_Lane_can_put⟩) (c_Lane_can_put : PySem.W.codeIn K cd_Lane_can_put "Lane.can_put" = true) (k_Lane_can_put : PySem.W.keepIn K (.ref f_Lane_can_put) = true)
    (a_Lane_do_put : PySem.W.findIn K (.ref C_Lane) "do_put" = some (some (.ref f_Lane_do_put))) (i_Lane_do_put : PySem.W.isFn K (.ref f_Lane_do_put) = true)
    (l_Lane_do_put : K.lookup f_Lane_do_put = some ⟨oc_Lane_do_put, od_Lane_do_put, .func (PySem.W.fnOf "do_put" "Lane.do_put" (defArgs s_Lane_do_put) (defBody s_Lane_do_put) (defScope s_Lane_do_put) .none kV_Lane_do_put dc_Lane_do_put pm_Lane_do_put an_Lane_do_put cd_Lane_do_put ct_Lane_do_put), sl_Lane_do_put⟩) (c_Lane_do_put : PySem.W.codeIn K cd_Lane_do_put "Lane.do_put" = true) (k_Lane_do_put : PySem.W.keepIn K (.ref f_Lane_do_put) = true)
    (a_Lane_do : PySem.W.findIn K (.ref C_Lane) "do" = some (some (.ref f_Lane_do))) (i_Lane_do : PySem.W.isFn K (.ref f_Lane_do) = true)
    (l_Lane_do : K.lookup f_Lane_do = some ⟨oc_Lane_do, od_Lane_do, .func (PySem.W.fnOf "do" "Lane.do" (defArgs s_Lane_do) (defBody s_Lane_do) (defScope s_Lane_do) .none kV_Lane_do dc_Lane_do pm_Lane_do an_Lane_do cd_Lane_do ct_Lane_do), sl_Lane_do⟩) (c_Lane_do : PySem.W.codeIn K cd_Lane_do "Lane.do" = true) (k_Lane_do : PySem.W.keepIn K (.ref f_Lane_do) = true)
    (a_Lane_turns : PySem.W.findIn K (.ref C_Lane) "turns" = some (some (.ref f_Lane_turns))) (i_Lane_turns : PySem.W.isFn K (.ref f_Lane_turns) = true)
    (l_Lane_turns : K.lookup f_Lane_turns = some ⟨oc_Lane_turns, od_Lane_turns, .func (PySem.W.fnOf "turns" "Lane.turns" (defArgs s_Lane_turns) (defBody s_Lane_turns) (defScope s_Lane_turns) .none kV_Lane_turns dc_Lane_turns pm_Lane_turns an_Lane_turns cd_Lane_turns ct_Lane_turns), sl_Lane_turns⟩) (c_Lane_turns : PySem.W.codeIn K cd_Lane_turns "Lane.turns" = true) (k_Lane_turns : PySem.W.keepIn K (.ref f_Lane_turns) = true)
    (a_seen_of : PySem.W.nsIn K mainGlobals "seen_of" = some (some (.ref f_seen_of)))
    (l_seen_of : K.lookup f_seen_of = some ⟨oc_seen_of, od_seen_of, .func (PySem.W.fnOf "seen_of" "seen_of" (defArgs s_seen_of) (defBody s_seen_of) (defScope s_seen_of) .none kV_seen_of dc_seen_of pm_seen_of an_seen_of cd_seen_of ct_seen_of), sl_seen_of⟩) (c_seen_of : PySem.W.codeIn K cd_seen_of "seen_of" = true) (k_seen_of : PySem.W.keepIn K (.ref f_seen_of) = true)
    (a_Lane_events : PySem.W.findIn K (.ref C_Lane) "events" = some (some (.ref f_Lane_events))) (i_Lane_events : PySem.W.isFn K (.ref f_Lane_events) = true)
    (l_Lane_events : K.lookup f_Lane_events = some ⟨oc_Lane_events, od_Lane_events, .func (PySem.W.fnOf "events" "Lane.events" (defArgs s_Lane_events) (defBody s_Lane_events) (defScope s_Lane_events) .none kV_Lane_events dc_Lane_events pm_Lane_events an_Lane_events cd_Lane_events ct_Lane_events), sl_Lane_events⟩) (c_Lane_events : PySem.W.codeIn K cd_Lane_events "Lane.events" = true) (k_Lane_events : PySem.W.keepIn K (.ref f_Lane_events) = true)
    (a_Lane_stand : PySem.W.findIn K (.ref C_Lane) "stand" = some (some (.ref f_Lane_stand))) (i_Lane_stand : PySem.W.isFn K (.ref f_Lane_stand) = true)
    (l_Lane_stand : K.lookup f_Lane_stand = some ⟨oc_Lane_stand, od_Lane_stand, .func (PySem.W.fnOf "stand" "Lane.stand" (defArgs s_Lane_stand) (defBody s_Lane_stand) (defScope s_Lane_stand) .none kV_Lane_stand dc_Lane_stand pm_Lane_stand an_Lane_stand cd_Lane_stand ct_Lane_stand), sl_Lane_stand⟩) (c_Lane_stand : PySem.W.codeIn K cd_Lane_stand "Lane.stand" = true) (k_Lane_stand : PySem.W.keepIn K (.ref f_Lane_stand) = true)
    (a_Lane_state : PySem.W.findIn K (.ref C_Lane) "state" = some (some (.ref f_Lane_state))) (i_Lane_state : PySem.W.isFn K (.ref f_Lane_state) = true)
    (l_Lane_state : K.lookup f_Lane_state = some ⟨oc_Lane_state, od_Lane_state, .func (PySem.W.fnOf "state" "Lane.state" (defArgs s_Lane_state) (defBody s_Lane_state) (defScope s_Lane_state) .none kV_Lane_state dc_Lane_state pm_Lane_state an_Lane_state cd_Lane_state ct_Lane_state), sl_Lane_state⟩) (c_Lane_state : PySem.W.codeIn K cd_Lane_state "Lane.state" = true) (k_Lane_state : PySem.W.keepIn K (.ref f_Lane_state) = true)
    (a_is_word : PySem.W.nsIn K mainGlobals "is_word" = some (some (.ref f_is_word)))
    (l_is_word : K.lookup f_is_word = some ⟨oc_is_word, od_is_word, .func (PySem.W.fnOf "is_word" "is_word" (defArgs s_is_word) (defBody s_is_word) (defScope s_is_word) .none kV_is_word dc_is_word pm_is_word an_is_word cd_is_word ct_is_word), sl_is_word⟩) (c_is_word : PySem.W.codeIn K cd_is_word "is_word" = true) (k_is_word : PySem.W.keepIn K (.ref f_is_word) = true)
    (a_need_words : PySem.W.nsIn K mainGlobals "need_words" = some (some (.ref f_need_words)))
    (l_need_words : K.lookup f_need_words = some ⟨oc_need_words, od_need_words, .func (PySem.W.fnOf "need_words" "need_words" (defArgs s_need_words) (defBody s_need_words) (defScope s_need_words) .none kV_need_words dc_need_words pm_need_words an_need_words cd_need_words ct_need_words), sl_need_words⟩) (c_need_words : PySem.W.codeIn K cd_need_words "need_words" = true) (k_need_words : PySem.W.keepIn K (.ref f_need_words) = true)
    (a_need_lane : PySem.W.nsIn K mainGlobals "need_lane" = some (some (.ref f_need_lane)))
    (l_need_lane : K.lookup f_need_lane = some ⟨oc_need_lane, od_need_lane, .func (PySem.W.fnOf "need_lane" "need_lane" (defArgs s_need_lane) (defBody s_need_lane) (defScope s_need_lane) .none kV_need_lane dc_need_lane pm_need_lane an_need_lane cd_need_lane ct_need_lane), sl_need_lane⟩) (c_need_lane : PySem.W.codeIn K cd_need_lane "need_lane" = true) (k_need_lane : PySem.W.keepIn K (.ref f_need_lane) = true)
    (a_fault : PySem.W.nsIn K mainGlobals "fault" = some (some (.ref f_fault)))
    (l_fault : K.lookup f_fault = some ⟨oc_fault, od_fault, .func (PySem.W.fnOf "fault" "fault" (defArgs s_fault) (defBody s_fault) (defScope s_fault) .none kV_fault dc_fault pm_fault an_fault cd_fault ct_fault), sl_fault⟩) (c_fault : PySem.W.codeIn K cd_fault "fault" = true) (k_fault : PySem.W.keepIn K (.ref f_fault) = true)
    (a_first_torn : PySem.W.nsIn K mainGlobals "first_torn" = some (some (.ref f_first_torn)))
    (l_first_torn : K.lookup f_first_torn = some ⟨oc_first_torn, od_first_torn, .func (PySem.W.fnOf "first_torn" "first_torn" (defArgs s_first_torn) (defBody s_first_torn) (defScope s_first_torn) .none kV_first_torn dc_first_torn pm_first_torn an_first_torn cd_first_torn ct_first_torn), sl_first_torn⟩) (c_first_torn : PySem.W.codeIn K cd_first_torn "first_torn" = true) (k_first_torn : PySem.W.keepIn K (.ref f_first_torn) = true)
    (a_Lane_may : PySem.W.findIn K (.ref C_Lane) "may" = some (some (.ref f_Lane_may))) (i_Lane_may : PySem.W.isFn K (.ref f_Lane_may) = true)
    (l_Lane_may : K.lookup f_Lane_may = some ⟨oc_Lane_may, od_Lane_may, .func (PySem.W.fnOf "may" "Lane.may" (defArgs s_Lane_may) (defBody s_Lane_may) (defScope s_Lane_may) .none kV_Lane_may dc_Lane_may pm_Lane_may an_Lane_may cd_Lane_may ct_Lane_may), sl_Lane_may⟩) (c_Lane_may : PySem.W.codeIn K cd_Lane_may "Lane.may" = true) (k_Lane_may : PySem.W.keepIn K (.ref f_Lane_may) = true)
    (a_played : PySem.W.nsIn K mainGlobals "played" = some (some (.ref f_played)))
    (l_played : K.lookup f_played = some ⟨oc_played, od_played, .func (PySem.W.fnOf "played" "played" (defArgs s_played) (defBody s_played) (defScope s_played) .none kV_played dc_played pm_played an_played cd_played ct_played), sl_played⟩) (c_played : PySem.W.codeIn K cd_played "played" = true) (k_played : PySem.W.keepIn K (.ref f_played) = true)
    (a_got : PySem.W.nsIn K mainGlobals "got" = some (some (.ref f_got)))
    (l_got : K.lookup f_got = some ⟨oc_got, od_got, .func (PySem.W.fnOf "got" "got" (defArgs s_got) (defBody s_got) (defScope s_got) .none kV_got dc_got pm_got an_got cd_got ct_got), sl_got⟩) (c_got : PySem.W.codeIn K cd_got "got" = true) (k_got : PySem.W.keepIn K (.ref f_got) = true)
    (a_need_wide : PySem.W.nsIn K mainGlobals "need_wide" = some (some (.ref f_need_wide)))
    (l_need_wide : K.lookup f_need_wide = some ⟨oc_need_wide, od_need_wide, .func (PySem.W.fnOf "need_wide" "need_wide" (defArgs s_need_wide) (defBody s_need_wide) (defScope s_need_wide) .none kV_need_wide dc_need_wide pm_need_wide an_need_wide cd_need_wide ct_need_wide), sl_need_wide⟩) (c_need_wide : PySem.W.codeIn K cd_need_wide "need_wide" = true) (k_need_wide : PySem.W.keepIn K (.ref f_need_wide) = true)
    (a_gray : PySem.W.nsIn K mainGlobals "gray" = some (some (.ref f_gray)))
    (l_gray : K.lookup f_gray = some ⟨oc_gray, od_gray, .func (PySem.W.fnOf "gray" "gray" (defArgs s_gray) (defBody s_gray) (defScope s_gray) .none kV_gray dc_gray pm_gray an_gray cd_gray ct_gray), sl_gray⟩) (c_gray : PySem.W.codeIn K cd_gray "gray" = true) (k_gray : PySem.W.keepIn K (.ref f_gray) = true)
    (a_gone_through : PySem.W.nsIn K mainGlobals "gone_through" = some (some (.ref f_gone_through)))
    (l_gone_through : K.lookup f_gone_through = some ⟨oc_gone_through, od_gone_through, .func (PySem.W.fnOf "gone_through" "gone_through" (defArgs s_gone_through) (defBody s_gone_through) (defScope s_gone_through) .none kV_gone_through dc_gone_through pm_gone_through an_gone_through cd_gone_through ct_gone_through), sl_gone_through⟩) (c_gone_through : PySem.W.codeIn K cd_gone_through "gone_through" = true) (k_gone_through : PySem.W.keepIn K (.ref f_gone_through) = true)
    (a_need_late : PySem.W.nsIn K mainGlobals "need_late" = some (some (.ref f_need_late)))
    (l_need_late : K.lookup f_need_late = some ⟨oc_need_late, od_need_late, .func (PySem.W.fnOf "need_late" "need_late" (defArgs s_need_late) (defBody s_need_late) (defScope s_need_late) .none kV_need_late dc_need_late pm_need_late an_need_late cd_need_late ct_need_late), sl_need_late⟩) (c_need_late : PySem.W.codeIn K cd_need_late "need_late" = true) (k_need_late : PySem.W.keepIn K (.ref f_need_late) = true)
    (a_least_room : PySem.W.nsIn K mainGlobals "least_room" = some (some (.ref f_least_room)))
    (l_least_room : K.lookup f_least_room = some ⟨oc_least_room, od_least_room, .func (PySem.W.fnOf "least_room" "least_room" (defArgs s_least_room) (defBody s_least_room) (defScope s_least_room) .none kV_least_room dc_least_room pm_least_room an_least_room cd_least_room ct_least_room), sl_least_room⟩) (c_least_room : PySem.W.codeIn K cd_least_room "least_room" = true) (k_least_room : PySem.W.keepIn K (.ref f_least_room) = true)
    (a_all_words : PySem.W.nsIn K mainGlobals "all_words" = some (some (.ref f_all_words)))
    (l_all_words : K.lookup f_all_words = some ⟨oc_all_words, od_all_words, .func (PySem.W.fnOf "all_words" "all_words" (defArgs s_all_words) (defBody s_all_words) (defScope s_all_words) .none kV_all_words dc_all_words pm_all_words an_all_words cd_all_words ct_all_words), sl_all_words⟩) (c_all_words : PySem.W.codeIn K cd_all_words "all_words" = true) (k_all_words : PySem.W.keepIn K (.ref f_all_words) = true)
    (a_plain : PySem.W.nsIn K mainGlobals "plain" = some (some (.ref f_plain)))
    (l_plain : K.lookup f_plain = some ⟨oc_plain, od_plain, .func (PySem.W.fnOf "plain" "plain" (defArgs s_plain) (defBody s_plain) (defScope s_plain) .none kV_plain dc_plain pm_plain an_plain cd_plain ct_plain), sl_plain⟩) (c_plain : PySem.W.codeIn K cd_plain "plain" = true) (k_plain : PySem.W.keepIn K (.ref f_plain) = true)
    (a_steady : PySem.W.nsIn K mainGlobals "steady" = some (some (.ref f_steady)))
    (l_steady : K.lookup f_steady = some ⟨oc_steady, od_steady, .func (PySem.W.fnOf "steady" "steady" (defArgs s_steady) (defBody s_steady) (defScope s_steady) .none kV_steady dc_steady pm_steady an_steady cd_steady ct_steady), sl_steady⟩) (c_steady : PySem.W.codeIn K cd_steady "steady" = true) (k_steady : PySem.W.keepIn K (.ref f_steady) = true)
    (a_torn : PySem.W.nsIn K mainGlobals "torn" = some (some (.ref f_torn)))
    (l_torn : K.lookup f_torn = some ⟨oc_torn, od_torn, .func (PySem.W.fnOf "torn" "torn" (defArgs s_torn) (defBody s_torn) (defScope s_torn) .none kV_torn dc_torn pm_torn an_torn cd_torn ct_torn), sl_torn⟩) (c_torn : PySem.W.codeIn K cd_torn "torn" = true) (k_torn : PySem.W.keepIn K (.ref f_torn) = true)
    (a_l_asked : PySem.W.nsIn K mainGlobals "_law_asked" = some (some (.ref f_l_asked)))
    (l_l_asked : K.lookup f_l_asked = some ⟨oc_l_asked, od_l_asked, .func (PySem.W.fnOf "_law_asked" "_law_asked" (defArgs s_l_asked) (defBody s_l_asked) (defScope s_l_asked) .none kV_l_asked dc_l_asked pm_l_asked an_l_asked cd_l_asked ct_l_asked), sl_l_asked⟩) (c_l_asked : PySem.W.codeIn K cd_l_asked "_law_asked" = true) (k_l_asked : PySem.W.keepIn K (.ref f_l_asked) = true)
    (a_l_dice : PySem.W.nsIn K mainGlobals "_law_dice" = some (some (.ref f_l_dice)))
    (l_l_dice : K.lookup f_l_dice = some ⟨oc_l_dice, od_l_dice, .func (PySem.W.fnOf "_law_dice" "_law_dice" (defArgs s_l_dice) (defBody s_l_dice) (defScope s_l_dice) .none kV_l_dice dc_l_dice pm_l_dice an_l_dice cd_l_dice ct_l_dice), sl_l_dice⟩) (c_l_dice : PySem.W.codeIn K cd_l_dice "_law_dice" = true) (k_l_dice : PySem.W.keepIn K (.ref f_l_dice) = true)
    (a_l_begun : PySem.W.nsIn K mainGlobals "_law_begun" = some (some (.ref f_l_begun)))
    (l_l_begun : K.lookup f_l_begun = some ⟨oc_l_begun, od_l_begun, .func (PySem.W.fnOf "_law_begun" "_law_begun" (defArgs s_l_begun) (defBody s_l_begun) (defScope s_l_begun) .none kV_l_begun dc_l_begun pm_l_begun an_l_begun cd_l_begun ct_l_begun), sl_l_begun⟩) (c_l_begun : PySem.W.codeIn K cd_l_begun "_law_begun" = true) (k_l_begun : PySem.W.keepIn K (.ref f_l_begun) = true)
    (a_l_plain : PySem.W.nsIn K mainGlobals "_law_plain" = some (some (.ref f_l_plain)))
    (l_l_plain : K.lookup f_l_plain = some ⟨oc_l_plain, od_l_plain, .func (PySem.W.fnOf "_law_plain" "_law_plain" (defArgs s_l_plain) (defBody s_l_plain) (defScope s_l_plain) .none kV_l_plain dc_l_plain pm_l_plain an_l_plain cd_l_plain ct_l_plain), sl_l_plain⟩) (c_l_plain : PySem.W.codeIn K cd_l_plain "_law_plain" = true) (k_l_plain : PySem.W.keepIn K (.ref f_l_plain) = true)
    (a_l_seen : PySem.W.nsIn K mainGlobals "_law_seen" = some (some (.ref f_l_seen)))
    (l_l_seen : K.lookup f_l_seen = some ⟨oc_l_seen, od_l_seen, .func (PySem.W.fnOf "_law_seen" "_law_seen" (defArgs s_l_seen) (defBody s_l_seen) (defScope s_l_seen) .none kV_l_seen dc_l_seen pm_l_seen an_l_seen cd_l_seen ct_l_seen), sl_l_seen⟩) (c_l_seen : PySem.W.codeIn K cd_l_seen "_law_seen" = true) (k_l_seen : PySem.W.keepIn K (.ref f_l_seen) = true)
    (a_l_turn : PySem.W.nsIn K mainGlobals "_law_turn" = some (some (.ref f_l_turn)))
    (l_l_turn : K.lookup f_l_turn = some ⟨oc_l_turn, od_l_turn, .func (PySem.W.fnOf "_law_turn" "_law_turn" (defArgs s_l_turn) (defBody s_l_turn) (defScope s_l_turn) .none kV_l_turn dc_l_turn pm_l_turn an_l_turn cd_l_turn ct_l_turn), sl_l_turn⟩) (c_l_turn : PySem.W.codeIn K cd_l_turn "_law_turn" = true) (k_l_turn : PySem.W.keepIn K (.ref f_l_turn) = true)
    (a_l_can : PySem.W.nsIn K mainGlobals "_law_can" = some (some (.ref f_l_can)))
    (l_l_can : K.lookup f_l_can = some ⟨oc_l_can, od_l_can, .func (PySem.W.fnOf "_law_can" "_law_can" (defArgs s_l_can) (defBody s_l_can) (defScope s_l_can) .none kV_l_can dc_l_can pm_l_can an_l_can cd_l_can ct_l_can), sl_l_can⟩) (c_l_can : PySem.W.codeIn K cd_l_can "_law_can" = true) (k_l_can : PySem.W.keepIn K (.ref f_l_can) = true)
    (a_l_do : PySem.W.nsIn K mainGlobals "_law_do" = some (some (.ref f_l_do)))
    (l_l_do : K.lookup f_l_do = some ⟨oc_l_do, od_l_do, .func (PySem.W.fnOf "_law_do" "_law_do" (defArgs s_l_do) (defBody s_l_do) (defScope s_l_do) .none kV_l_do dc_l_do pm_l_do an_l_do cd_l_do ct_l_do), sl_l_do⟩) (c_l_do : PySem.W.codeIn K cd_l_do "_law_do" = true) (k_l_do : PySem.W.keepIn K (.ref f_l_do) = true)
    (a_l_off : PySem.W.nsIn K mainGlobals "_law_off" = some (some (.ref f_l_off)))
    (l_l_off : K.lookup f_l_off = some ⟨oc_l_off, od_l_off, .func (PySem.W.fnOf "_law_off" "_law_off" (defArgs s_l_off) (defBody s_l_off) (defScope s_l_off) .none kV_l_off dc_l_off pm_l_off an_l_off cd_l_off ct_l_off), sl_l_off⟩) (c_l_off : PySem.W.codeIn K cd_l_off "_law_off" = true) (k_l_off : PySem.W.keepIn K (.ref f_l_off) = true)
    (a_l_events : PySem.W.nsIn K mainGlobals "_law_events" = some (some (.ref f_l_events)))
    (l_l_events : K.lookup f_l_events = some ⟨oc_l_events, od_l_events, .func (PySem.W.fnOf "_law_events" "_law_events" (defArgs s_l_events) (defBody s_l_events) (defScope s_l_events) .none kV_l_events dc_l_events pm_l_events an_l_events cd_l_events ct_l_events), sl_l_events⟩) (c_l_events : PySem.W.codeIn K cd_l_events "_law_events" = true) (k_l_events : PySem.W.keepIn K (.ref f_l_events) = true)
    (a_l_gray : PySem.W.nsIn K mainGlobals "_law_gray" = some (some (.ref f_l_gray)))
    (l_l_gray : K.lookup f_l_gray = some ⟨oc_l_gray, od_l_gray, .func (PySem.W.fnOf "_law_gray" "_law_gray" (defArgs s_l_gray) (defBody s_l_gray) (defScope s_l_gray) .none kV_l_gray dc_l_gray pm_l_gray an_l_gray cd_l_gray ct_l_gray), sl_l_gray⟩) (c_l_gray : PySem.W.codeIn K cd_l_gray "_law_gray" = true) (k_l_gray : PySem.W.keepIn K (.ref f_l_gray) = true)
    (a_l_mixed : PySem.W.nsIn K mainGlobals "_law_mixed" = some (some (.ref f_l_mixed)))
    (l_l_mixed : K.lookup f_l_mixed = some ⟨oc_l_mixed, od_l_mixed, .func (PySem.W.fnOf "_law_mixed" "_law_mixed" (defArgs s_l_mixed) (defBody s_l_mixed) (defScope s_l_mixed) .none kV_l_mixed dc_l_mixed pm_l_mixed an_l_mixed cd_l_mixed ct_l_mixed), sl_l_mixed⟩) (c_l_mixed : PySem.W.codeIn K cd_l_mixed "_law_mixed" = true) (k_l_mixed : PySem.W.keepIn K (.ref f_l_mixed) = true)
    (a_l_words : PySem.W.nsIn K mainGlobals "_law_words" = some (some (.ref f_l_words)))
    (l_l_words : K.lookup f_l_words = some ⟨oc_l_words, od_l_words, .func (PySem.W.fnOf "_law_words" "_law_words" (defArgs s_l_words) (defBody s_l_words) (defScope s_l_words) .none kV_l_words dc_l_words pm_l_words an_l_words cd_l_words ct_l_words), sl_l_words⟩) (c_l_words : PySem.W.codeIn K cd_l_words "_law_words" = true) (k_l_words : PySem.W.keepIn K (.ref f_l_words) = true)
    (a_l_lane : PySem.W.nsIn K mainGlobals "_law_lane" = some (some (.ref f_l_lane)))
    (l_l_lane : K.lookup f_l_lane = some ⟨oc_l_lane, od_l_lane, .func (PySem.W.fnOf "_law_lane" "_law_lane" (defArgs s_l_lane) (defBody s_l_lane) (defScope s_l_lane) .none kV_l_lane dc_l_lane pm_l_lane an_l_lane cd_l_lane ct_l_lane), sl_l_lane⟩) (c_l_lane : PySem.W.codeIn K cd_l_lane "_law_lane" = true) (k_l_lane : PySem.W.keepIn K (.ref f_l_lane) = true)
    (a_law : PySem.W.nsIn K mainGlobals "law" = some (some (.ref f_law)))
    (l_law : K.lookup f_law = some ⟨oc_law, od_law, .func (PySem.W.fnOf "law" "law" (defArgs s_law) (defBody s_law) (defScope s_law) .none kV_law dc_law pm_law an_law cd_law ct_law), sl_law⟩) (c_law : PySem.W.codeIn K cd_law "law" = true) (k_law : PySem.W.keepIn K (.ref f_law) = true)
    (pg_Lane : PySem.W.plainGet K C_Lane Str.empty = true) (hd_Lane : PySem.W.hasDictIn K C_Lane = true) (po_Lane : PySem.W.plainOver K C_Lane = true) (sa_Lane : PySem.W.findIn K (.ref C_Lane) "__setattr__" = some (some (.builtin "object.__setattr__"))) (mk_Lane : PySem.W.makesIn K C_Lane = true) (kc_Lane : PySem.W.keepIn K (.ref C_Lane) = true)
    (na_room : PySem.W.findIn K (.ref C_Lane) "room" = some none)
    (na_words : PySem.W.findIn K (.ref C_Lane) "words" = some none)
    (na_put : PySem.W.findIn K (.ref C_Lane) "put" = some none)
    (na_got : PySem.W.findIn K (.ref C_Lane) "got" = some none)
    (na_seen_got : PySem.W.findIn K (.ref C_Lane) "seen_got" = some none)
    (na_seen_put : PySem.W.findIn K (.ref C_Lane) "seen_put" = some none)
    (na_boxes : PySem.W.findIn K (.ref C_Lane) "boxes" = some none)
    (na_many : PySem.W.findIn K (.ref C_Lane) "many" = some none)
    (na_fault : PySem.W.findIn K (.ref C_Lane) "fault" = some none)
    (z_abs : PySem.W.nsIn K mainGlobals "abs" = some none)
    (z_all : PySem.W.nsIn K mainGlobals "all" = some none)
    (z_bool : PySem.W.nsIn K mainGlobals "bool" = some none)
    (z_enumerate : PySem.W.nsIn K mainGlobals "enumerate" = some none)
    (z_int : PySem.W.nsIn K mainGlobals "int" = some none)
    (z_isinstance : PySem.W.nsIn K mainGlobals "isinstance" = some none)
    (z_len : PySem.W.nsIn K mainGlobals "len" = some none)
    (z_list : PySem.W.nsIn K mainGlobals "list" = some none)
    (z_max : PySem.W.nsIn K mainGlobals "max" = some none)
    (z_min : PySem.W.nsIn K mainGlobals "min" = some none)
    (z_range : PySem.W.nsIn K mainGlobals "range" = some none)
    (z_set : PySem.W.nsIn K mainGlobals "set" = some none)
    (z_sorted : PySem.W.nsIn K mainGlobals "sorted" = some none)
    (z_str : PySem.W.nsIn K mainGlobals "str" = some none)
    (z_tuple : PySem.W.nsIn K mainGlobals "tuple" = some none)
    (n_MARKS : PySem.W.nsIn K mainGlobals "MARKS" = some (some (.ref a_MARKS)))
    (l_MARKS : K.lookup a_MARKS = some ⟨.type "tuple", dd_MARKS, .seq #[.str "0" t0_MARKS, .str "1" t1_MARKS] nn_MARKS, sl_MARKS⟩)
    (n_MOST_EVENTS : PySem.W.nsIn K mainGlobals "MOST_EVENTS" = some (some (.int 100 t_MOST_EVENTS)))
    (n_MOST_LATE : PySem.W.nsIn K mainGlobals "MOST_LATE" = some (some (.int 6 t_MOST_LATE)))
    (n_MOST_ROOM : PySem.W.nsIn K mainGlobals "MOST_ROOM" = some (some (.int 6 t_MOST_ROOM)))
    (n_MOST_STEADY : PySem.W.nsIn K mainGlobals "MOST_STEADY" = some (some (.int 20 t_MOST_STEADY)))
    (n_MOST_WIDE : PySem.W.nsIn K mainGlobals "MOST_WIDE" = some (some (.int 4 t_MOST_WIDE)))
    (n_MOST_WORDS : PySem.W.nsIn K mainGlobals "MOST_WORDS" = some (some (.int 16 t_MOST_WORDS)))
    (n_OVER : PySem.W.nsIn K mainGlobals "OVER" = some (some (.str "over" t_OVER)))
    (n_UNDER : PySem.W.nsIn K mainGlobals "UNDER" = some (some (.str "under" t_UNDER)))
    : ∃ fd : FuncData, (∀ (s : Shared) (v : Value), BindsTo s fd ⟨[v], []⟩ [("_law_script", v)]) ∧ ∀ base : Heap, K.In base → base.Ns mainGlobals mg → FnOk l.prog w K mg base CX0 7 fa fd ["_law_script"] (sp_law K) := by
  have e := hfa.symm.trans (PySem.W.mg_of X G a_law)
  cases e
  have F_l_alike := fun_mk (st := s_l_alike) l_l_alike c_l_alike k_l_alike
  have b_l_alike := F_l_alike.binds (ps := ["_law_found", "_law_due"]) fun _ _ _ _ _ _ us hl => match us, hl with | [_, _], _ => rfl
  have F_mirrored := fun_mk (st := s_mirrored) l_mirrored c_mirrored k_mirrored
  have b_mirrored := F_mirrored.binds (ps := ["wide"]) fun _ _ _ _ _ _ us hl => match us, hl with | [_], _ => rfl
  have F_cut := fun_mk (st := s_cut) l_cut c_cut k_cut
  have b_cut := F_cut.binds (ps := ["many"]) fun _ _ _ _ _ _ us hl => match us, hl with | [_], _ => rfl
  have F_Lane___init__ := fun_mk (st := s_Lane___init__) l_Lane___init__ c_Lane___init__ k_Lane___init__
  have b_Lane___init__ := F_Lane___init__.binds (ps := ["self", "room", "words"]) fun _ _ _ _ _ _ us hl => match us, hl with | [_, _, _], _ => rfl
  have F_Lane_behind := fun_mk (st := s_Lane_behind) l_Lane_behind c_Lane_behind k_Lane_behind
  have b_Lane_behind := F_Lane_behind.binds (ps := ["self", "place"]) fun _ _ _ _ _ _ us hl => match us, hl with | [_, _], _ => rfl
  have F_Lane_can_get := fun_mk (st := s_Lane_can_get) l_Lane_can_get c_Lane_can_get k_Lane_can_get
  have b_Lane_can_get := F_Lane_can_get.binds (ps := ["self"]) fun _ _ _ _ _ _ us hl => match us, hl with | [_], _ => rfl
  have F_Lane_inside := fun_mk (st := s_Lane_inside) l_Lane_inside c_Lane_inside k_Lane_inside
  have b_Lane_inside := F_Lane_inside.binds (ps := ["self"]) fun _ _ _ _ _ _ us hl => match us, hl with | [_], _ => rfl
  have F_Lane_place_of := fun_mk (st := s_Lane_place_of) l_Lane_place_of c_Lane_place_of k_Lane_place_of
  have b_Lane_place_of := F_Lane_place_of.binds (ps := ["self", "word", "ahead"]) fun _ _ _ _ _ _ us hl => match us, hl with | [_, _, _], _ => rfl
  have F_Lane_do_get := fun_mk (st := s_Lane_do_get) l_Lane_do_get c_Lane_do_get k_Lane_do_get
  have b_Lane_do_get := F_Lane_do_get.binds (ps := ["self", "seen"]) fun _ _ _ _ _ _ us hl => match us, hl with | [_, _], _ => rfl
  have F_Lane_can_put := fun_mk (st := s_Lane_can_put) l_Lane_can_put c_Lane_can_put k_Lane_can_put
  have b_Lane_can_put := F_Lane_can_put.binds (ps := ["self"]) fun _ _ _ _ _ _ us hl => match us, hl with | [_], _ => rfl
  have F_Lane_do_put := fun_mk (st := s_Lane_do_put) l_Lane_do_put c_Lane_do_put k_Lane_do_put
  have b_Lane_do_put := F_Lane_do_put.binds (ps := ["self", "seen"]) fun _ _ _ _ _ _ us hl => match us, hl with | [_, _], _ => rfl
  have F_Lane_do := fun_mk (st := s_Lane_do) l_Lane_do c_Lane_do k_Lane_do
  have b_Lane_do := F_Lane_do.binds (ps := ["self", "event"]) fun _ _ _ _ _ _ us hl => match us, hl with | [_, _], _ => rfl
  have F_Lane_turns := fun_mk (st := s_Lane_turns) l_Lane_turns c_Lane_turns k_Lane_turns
  have b_Lane_turns := F_Lane_turns.binds (ps := ["self", "word"]) fun _ _ _ _ _ _ us hl => match us, hl with | [_, _], _ => rfl
  have F_seen_of := fun_mk (st := s_seen_of) l_seen_of c_seen_of k_seen_of
  have b_seen_of := F_seen_of.binds (ps := ["one", "other"]) fun _ _ _ _ _ _ us hl => match us, hl with | [_, _], _ => rfl
  have F_Lane_events := fun_mk (st := s_Lane_events) l_Lane_events c_Lane_events k_Lane_events
  have b_Lane_events := F_Lane_events.binds (ps := ["self"]) fun _ _ _ _ _ _ us hl => match us, hl with | [_], _ => rfl
  have F_Lane_stand := fun_mk (st := s_Lane_stand) l_Lane_stand c_Lane_stand k_Lane_stand
  have b_Lane_stand := F_Lane_stand.binds (ps := ["self", "state"]) fun _ _ _ _ _ _ us hl => match us, hl with | [_, _], _ => rfl
  have F_Lane_state := fun_mk (st := s_Lane_state) l_Lane_state c_Lane_state k_Lane_state
  have b_Lane_state := F_Lane_state.binds (ps := ["self"]) fun _ _ _ _ _ _ us hl => match us, hl with | [_], _ => rfl
  have F_is_word := fun_mk (st := s_is_word) l_is_word c_is_word k_is_word
  have b_is_word := F_is_word.binds (ps := ["word"]) fun _ _ _ _ _ _ us hl => match us, hl with | [_], _ => rfl
  have F_need_words := fun_mk (st := s_need_words) l_need_words c_need_words k_need_words
  have b_need_words := F_need_words.binds (ps := ["words"]) fun _ _ _ _ _ _ us hl => match us, hl with | [_], _ => rfl
  have F_need_lane := fun_mk (st := s_need_lane) l_need_lane c_need_lane k_need_lane
  have b_need_lane := F_need_lane.binds (ps := ["lane"]) fun _ _ _ _ _ _ us hl => match us, hl with | [_], _ => rfl
  have F_fault := fun_mk (st := s_fault) l_fault c_fault k_fault
  have b_fault := F_fault.binds (ps := ["lane"]) fun _ _ _ _ _ _ us hl => match us, hl with | [_], _ => rfl
  have F_first_torn := fun_mk (st := s_first_torn) l_first_torn c_first_torn k_first_torn
  have b_first_torn := F_first_torn.binds (ps := ["words"]) fun _ _ _ _ _ _ us hl => match us, hl with | [_], _ => rfl
  have F_Lane_may := fun_mk (st := s_Lane_may) l_Lane_may c_Lane_may k_Lane_may
  have b_Lane_may := F_Lane_may.binds (ps := ["self", "event"]) fun _ _ _ _ _ _ us hl => match us, hl with | [_, _], _ => rfl
  have F_played := fun_mk (st := s_played) l_played c_played k_played
  have b_played := F_played.binds (ps := ["lane", "events"]) fun _ _ _ _ _ _ us hl => match us, hl with | [_, _], _ => rfl
  have F_got := fun_mk (st := s_got) l_got c_got k_got
  have b_got := F_got.binds (ps := ["lane", "events"]) fun _ _ _ _ _ _ us hl => match us, hl with | [_, _], _ => rfl
  have F_need_wide := fun_mk (st := s_need_wide) l_need_wide c_need_wide k_need_wide
  have b_need_wide := F_need_wide.binds (ps := ["wide"]) fun _ _ _ _ _ _ us hl => match us, hl with | [_], _ => rfl
  have F_gray := fun_mk (st := s_gray) l_gray c_gray k_gray
  have b_gray := F_gray.binds (ps := ["wide"]) fun _ _ _ _ _ _ us hl => match us, hl with | [_], _ => rfl
  have F_gone_through := fun_mk (st := s_gone_through) l_gone_through c_gone_through k_gone_through
  have b_gone_through := F_gone_through.binds (ps := ["room", "one", "other"]) fun _ _ _ _ _ _ us hl => match us, hl with | [_, _, _], _ => rfl
  have F_need_late := fun_mk (st := s_need_late) l_need_late c_need_late k_need_late
  have b_need_late := F_need_late.binds (ps := ["one", "other"]) fun _ _ _ _ _ _ us hl => match us, hl with | [_, _], _ => rfl
  have F_least_room := fun_mk (st := s_least_room) l_least_room c_least_room k_least_room
  have b_least_room := F_least_room.binds (ps := ["one", "other"]) fun _ _ _ _ _ _ us hl => match us, hl with | [_, _], _ => rfl
  have F_all_words := fun_mk (st := s_all_words) l_all_words c_all_words k_all_words
  have b_all_words := F_all_words.binds (ps := ["wide"]) fun _ _ _ _ _ _ us hl => match us, hl with | [_], _ => rfl
  have F_plain := fun_mk (st := s_plain) l_plain c_plain k_plain
  have b_plain := F_plain.binds (ps := ["wide"]) fun _ _ _ _ _ _ us hl => match us, hl with | [_], _ => rfl
  have F_steady := fun_mk (st := s_steady) l_steady c_steady k_steady
  have b_steady := F_steady.binds (ps := ["room", "one", "other"]) fun _ _ _ _ _ _ us hl => match us, hl with | [_, _, _], _ => rfl
  have F_torn := fun_mk (st := s_torn) l_torn c_torn k_torn
  have b_torn := F_torn.binds (ps := ["one", "other"]) fun _ _ _ _ _ _ us hl => match us, hl with | [_, _], _ => rfl
  have F_l_asked := fun_mk (st := s_l_asked) l_l_asked c_l_asked k_l_asked
  have b_l_asked := F_l_asked.binds (ps := ["_law_kind", "_law_room", "_law_words_here", "_law_events_here"]) fun _ _ _ _ _ _ us hl => match us, hl with | [_, _, _, _], _ => rfl
  have F_l_dice := fun_mk (st := s_l_dice) l_l_dice c_l_dice k_l_dice
  have b_l_dice := F_l_dice.binds (ps := ["_law_script", "_law_k"]) fun _ _ _ _ _ _ us hl => match us, hl with | [_, _], _ => rfl
  have F_l_begun := fun_mk (st := s_l_begun) l_l_begun c_l_begun k_l_begun
  have b_l_begun := F_l_begun.binds (ps := []) fun _ _ _ _ _ _ us hl => match us, hl with | [], _ => rfl
  have F_l_plain := fun_mk (st := s_l_plain) l_l_plain c_l_plain k_l_plain
  have b_l_plain := F_l_plain.binds (ps := ["_law_wide"]) fun _ _ _ _ _ _ us hl => match us, hl with | [_], _ => rfl
  have F_l_seen := fun_mk (st := s_l_seen) l_l_seen c_l_seen k_l_seen
  have b_l_seen := F_l_seen.binds (ps := ["_law_one", "_law_other"]) fun _ _ _ _ _ _ us hl => match us, hl with | [_, _], _ => rfl
  have F_l_turn := fun_mk (st := s_l_turn) l_l_turn c_l_turn k_l_turn
  have b_l_turn := F_l_turn.binds (ps := ["_law_lane_here", "_law_s", "_law_word"]) fun _ _ _ _ _ _ us hl => match us, hl with | [_, _, _], _ => rfl
  have F_l_can := fun_mk (st := s_l_can) l_l_can c_l_can k_l_can
  have b_l_can := F_l_can.binds (ps := ["_law_lane_here", "_law_s"]) fun _ _ _ _ _ _ us hl => match us, hl with | [_, _], _ => rfl
  have F_l_do := fun_mk (st := s_l_do) l_l_do c_l_do k_l_do
  have b_l_do := F_l_do.binds (ps := ["_law_lane_here", "_law_s", "_law_event"]) fun _ _ _ _ _ _ us hl => match us, hl with | [_, _, _], _ => rfl
  have F_l_off := fun_mk (st := s_l_off) l_l_off c_l_off k_l_off
  have b_l_off := F_l_off.binds (ps := ["_law_d", "_law_most"]) fun _ _ _ _ _ _ us hl => match us, hl with | [_, _], _ => rfl
  have F_l_events := fun_mk (st := s_l_events) l_l_events c_l_events k_l_events
  have b_l_events := F_l_events.binds (ps := ["_law_d", "_law_lane_here", "_law_most"]) fun _ _ _ _ _ _ us hl => match us, hl with | [_, _, _], _ => rfl
  have F_l_gray := fun_mk (st := s_l_gray) l_l_gray c_l_gray k_l_gray
  have b_l_gray := F_l_gray.binds (ps := ["_law_wide"]) fun _ _ _ _ _ _ us hl => match us, hl with | [_], _ => rfl
  have F_l_mixed := fun_mk (st := s_l_mixed) l_l_mixed c_l_mixed k_l_mixed
  have b_l_mixed := F_l_mixed.binds (ps := ["_law_d", "_law_row"]) fun _ _ _ _ _ _ us hl => match us, hl with | [_, _], _ => rfl
  have F_l_words := fun_mk (st := s_l_words) l_l_words c_l_words k_l_words
  have b_l_words := F_l_words.binds (ps := ["_law_d", "_law_room"]) fun _ _ _ _ _ _ us hl => match us, hl with | [_, _], _ => rfl
  have F_l_lane := fun_mk (st := s_l_lane) l_l_lane c_l_lane k_l_lane
  have b_l_lane := F_l_lane.binds (ps := ["_law_d"]) fun _ _ _ _ _ _ us hl => match us, hl with | [_], _ => rfl
  have F_law := fun_mk (st := s_law) l_law c_law k_law
  have b_law := F_law.binds (ps := ["_law_script"]) fun _ _ _ _ _ _ us hl => match us, hl with | [_], _ => rfl
  exact ⟨PySem.W.fnOf "law" "law" (defArgs s_law) (defBody s_law) (defScope s_law) .none kV_law dc_law pm_law an_law cd_law ct_law, fun s v => .of_eq rfl, fun base _ _ => ok_law { f_l_alike := _, fd_l_alike := _, F_l_alike := F_l_alike, b_l_alike := b_l_alike, g_l_alike := PySem.W.mg_of X G a_l_alike, f_mirrored := _, fd_mirrored := _, F_mirrored := F_mirrored, b_mirrored := b_mirrored, g_mirrored := PySem.W.mg_of X G a_mirrored, f_cut := _, fd_cut := _, F_cut := F_cut, b_cut := b_cut, g_cut := PySem.W.mg_of X G a_cut, f_Lane___init__ := _, fd_Lane___init__ := _, F_Lane___init__ := F_Lane___init__, b_Lane___init__ := b_Lane___init__, f_Lane_behind := _, fd_Lane_behind := _, F_Lane_behind := F_Lane_behind, b_Lane_behind := b_Lane_behind, f_Lane_can_get := _, fd_Lane_can_get := _, F_Lane_can_get := F_Lane_can_get, b_Lane_can_get := b_Lane_can_get, f_Lane_inside := _, fd_Lane_inside := _, F_Lane_inside := F_Lane_inside, b_Lane_inside := b_Lane_inside, f_Lane_place_of := _, fd_Lane_place_of := _, F_Lane_place_of := F_Lane_place_of, b_Lane_place_of := b_Lane_place_of, f_Lane_do_get := _, fd_Lane_do_get := _, F_Lane_do_get := F_Lane_do_get, b_Lane_do_get := b_Lane_do_get, f_Lane_can_put := _, fd_Lane_can_put := _, F_Lane_can_put := F_Lane_can_put, b_Lane_can_put := b_Lane_can_put, f_Lane_do_put := _, fd_Lane_do_put := _, F_Lane_do_put := F_Lane_do_put, b_Lane_do_put := b_Lane_do_put, f_Lane_do := _, fd_Lane_do := _, F_Lane_do := F_Lane_do, b_Lane_do := b_Lane_do, f_Lane_turns := _, fd_Lane_turns := _, F_Lane_turns := F_Lane_turns, b_Lane_turns := b_Lane_turns, f_seen_of := _, fd_seen_of := _, F_seen_of := F_seen_of, b_seen_of := b_seen_of, g_seen_of := PySem.W.mg_of X G a_seen_of, f_Lane_events := _, fd_Lane_events := _, F_Lane_events := F_Lane_events, b_Lane_events := b_Lane_events, f_Lane_stand := _, fd_Lane_stand := _, F_Lane_stand := F_Lane_stand, b_Lane_stand := b_Lane_stand, f_Lane_state := _, fd_Lane_state := _, F_Lane_state := F_Lane_state, b_Lane_state := b_Lane_state, f_is_word := _, fd_is_word := _, F_is_word := F_is_word, b_is_word := b_is_word, g_is_word := PySem.W.mg_of X G a_is_word, f_need_words := _, fd_need_words := _, F_need_words := F_need_words, b_need_words := b_need_words, g_need_words := PySem.W.mg_of X G a_need_words, f_need_lane := _, fd_need_lane := _, F_need_lane := F_need_lane, b_need_lane := b_need_lane, g_need_lane := PySem.W.mg_of X G a_need_lane, f_fault := _, fd_fault := _, F_fault := F_fault, b_fault := b_fault, g_fault := PySem.W.mg_of X G a_fault, f_first_torn := _, fd_first_torn := _, F_first_torn := F_first_torn, b_first_torn := b_first_torn, g_first_torn := PySem.W.mg_of X G a_first_torn, f_Lane_may := _, fd_Lane_may := _, F_Lane_may := F_Lane_may, b_Lane_may := b_Lane_may, f_played := _, fd_played := _, F_played := F_played, b_played := b_played, g_played := PySem.W.mg_of X G a_played, f_got := _, fd_got := _, F_got := F_got, b_got := b_got, g_got := PySem.W.mg_of X G a_got, f_need_wide := _, fd_need_wide := _, F_need_wide := F_need_wide, b_need_wide := b_need_wide, g_need_wide := PySem.W.mg_of X G a_need_wide, f_gray := _, fd_gray := _, F_gray := F_gray, b_gray := b_gray, g_gray := PySem.W.mg_of X G a_gray, f_gone_through := _, fd_gone_through := _, F_gone_through := F_gone_through, b_gone_through := b_gone_through, g_gone_through := PySem.W.mg_of X G a_gone_through, f_need_late := _, fd_need_late := _, F_need_late := F_need_late, b_need_late := b_need_late, g_need_late := PySem.W.mg_of X G a_need_late, f_least_room := _, fd_least_room := _, F_least_room := F_least_room, b_least_room := b_least_room, g_least_room := PySem.W.mg_of X G a_least_room, f_all_words := _, fd_all_words := _, F_all_words := F_all_words, b_all_words := b_all_words, g_all_words := PySem.W.mg_of X G a_all_words, f_plain := _, fd_plain := _, F_plain := F_plain, b_plain := b_plain, g_plain := PySem.W.mg_of X G a_plain, f_steady := _, fd_steady := _, F_steady := F_steady, b_steady := b_steady, g_steady := PySem.W.mg_of X G a_steady, f_torn := _, fd_torn := _, F_torn := F_torn, b_torn := b_torn, g_torn := PySem.W.mg_of X G a_torn, f_l_asked := _, fd_l_asked := _, F_l_asked := F_l_asked, b_l_asked := b_l_asked, g_l_asked := PySem.W.mg_of X G a_l_asked, f_l_dice := _, fd_l_dice := _, F_l_dice := F_l_dice, b_l_dice := b_l_dice, g_l_dice := PySem.W.mg_of X G a_l_dice, f_l_begun := _, fd_l_begun := _, F_l_begun := F_l_begun, b_l_begun := b_l_begun, g_l_begun := PySem.W.mg_of X G a_l_begun, f_l_plain := _, fd_l_plain := _, F_l_plain := F_l_plain, b_l_plain := b_l_plain, g_l_plain := PySem.W.mg_of X G a_l_plain, f_l_seen := _, fd_l_seen := _, F_l_seen := F_l_seen, b_l_seen := b_l_seen, g_l_seen := PySem.W.mg_of X G a_l_seen, f_l_turn := _, fd_l_turn := _, F_l_turn := F_l_turn, b_l_turn := b_l_turn, g_l_turn := PySem.W.mg_of X G a_l_turn, f_l_can := _, fd_l_can := _, F_l_can := F_l_can, b_l_can := b_l_can, g_l_can := PySem.W.mg_of X G a_l_can, f_l_do := _, fd_l_do := _, F_l_do := F_l_do, b_l_do := b_l_do, g_l_do := PySem.W.mg_of X G a_l_do, f_l_off := _, fd_l_off := _, F_l_off := F_l_off, b_l_off := b_l_off, g_l_off := PySem.W.mg_of X G a_l_off, f_l_events := _, fd_l_events := _, F_l_events := F_l_events, b_l_events := b_l_events, g_l_events := PySem.W.mg_of X G a_l_events, f_l_gray := _, fd_l_gray := _, F_l_gray := F_l_gray, b_l_gray := b_l_gray, g_l_gray := PySem.W.mg_of X G a_l_gray, f_l_mixed := _, fd_l_mixed := _, F_l_mixed := F_l_mixed, b_l_mixed := b_l_mixed, g_l_mixed := PySem.W.mg_of X G a_l_mixed, f_l_words := _, fd_l_words := _, F_l_words := F_l_words, b_l_words := b_l_words, g_l_words := PySem.W.mg_of X G a_l_words, f_l_lane := _, fd_l_lane := _, F_l_lane := F_l_lane, b_l_lane := b_l_lane, g_l_lane := PySem.W.mg_of X G a_l_lane, f_law := _, fd_law := _, F_law := F_law, b_law := b_law, g_law := PySem.W.mg_of X G a_law, C_Lane := C_Lane, cl_Lane := ⟨pg_Lane, hd_Lane, po_Lane, sa_Lane⟩, g_Lane := PySem.W.mg_of X G aC_Lane, mk_Lane := ⟨mk_Lane, a_Lane___init__, i_Lane___init__, kc_Lane⟩, na_room := na_room, na_words := na_words, na_put := na_put, na_got := na_got, na_seen_got := na_seen_got, na_seen_put := na_seen_put, na_boxes := na_boxes, na_many := na_many, na_fault := na_fault, m_Lane_behind := ⟨a_Lane_behind, i_Lane_behind, k_Lane_behind⟩, m_Lane_can_get := ⟨a_Lane_can_get, i_Lane_can_get, k_Lane_can_get⟩, m_Lane_inside := ⟨a_Lane_inside, i_Lane_inside, k_Lane_inside⟩, m_Lane_place_of := ⟨a_Lane_place_of, i_Lane_place_of, k_Lane_place_of⟩, m_Lane_do_get := ⟨a_Lane_do_get, i_Lane_do_get, k_Lane_do_get⟩, m_Lane_can_put := ⟨a_Lane_can_put, i_Lane_can_put, k_Lane_can_put⟩, m_Lane_do_put := ⟨a_Lane_do_put, i_Lane_do_put, k_Lane_do_put⟩, m_Lane_do := ⟨a_Lane_do, i_Lane_do, k_Lane_do⟩, m_Lane_turns := ⟨a_Lane_turns, i_Lane_turns, k_Lane_turns⟩, m_Lane_events := ⟨a_Lane_events, i_Lane_events, k_Lane_events⟩, m_Lane_stand := ⟨a_Lane_stand, i_Lane_stand, k_Lane_stand⟩, m_Lane_state := ⟨a_Lane_state, i_Lane_state, k_Lane_state⟩, m_Lane_may := ⟨a_Lane_may, i_Lane_may, k_Lane_may⟩, z_abs := PySem.W.mg_none_of X G z_abs, z_all := PySem.W.mg_none_of X G z_all, z_bool := PySem.W.mg_none_of X G z_bool, z_enumerate := PySem.W.mg_none_of X G z_enumerate, z_int := PySem.W.mg_none_of X G z_int, z_isinstance := PySem.W.mg_none_of X G z_isinstance, z_len := PySem.W.mg_none_of X G z_len, z_list := PySem.W.mg_none_of X G z_list, z_max := PySem.W.mg_none_of X G z_max, z_min := PySem.W.mg_none_of X G z_min, z_range := PySem.W.mg_none_of X G z_range, z_set := PySem.W.mg_none_of X G z_set, z_sorted := PySem.W.mg_none_of X G z_sorted, z_str := PySem.W.mg_none_of X G z_str, z_tuple := PySem.W.mg_none_of X G z_tuple, a_MARKS := a_MARKS, c_MARKS := PySem.W.mg_of X G n_MARKS, m_MARKS := fun H => .inr ⟨_, _, _, l_MARKS, rfl, rfl, (show 2 ≤ sizeLine by decide), (.cons ⟨_, rfl⟩ (.cons ⟨_, rfl⟩ .nil))⟩, t_MOST_EVENTS := t_MOST_EVENTS, c_MOST_EVENTS := PySem.W.mg_of X G n_MOST_EVENTS, t_MOST_LATE := t_MOST_LATE, c_MOST_LATE := PySem.W.mg_of X G n_MOST_LATE, t_MOST_ROOM := t_MOST_ROOM, c_MOST_ROOM := PySem.W.mg_of X G n_MOST_ROOM, t_MOST_STEADY := t_MOST_STEADY, c_MOST_STEADY := PySem.W.mg_of X G n_MOST_STEADY, t_MOST_WIDE := t_MOST_WIDE, c_MOST_WIDE := PySem.W.mg_of X G n_MOST_WIDE, t_MOST_WORDS := t_MOST_WORDS, c_MOST_WORDS := PySem.W.mg_of X G n_MOST_WORDS, t_OVER := t_OVER, c_OVER := PySem.W.mg_of X G n_OVER, t_UNDER := t_UNDER, c_UNDER := PySem.W.mg_of X G n_UNDER }⟩
end G
open PySem PySem.W PyProof.Rows
set_option maxRecDepth 100000 in
set_option maxHeartbeats 0 in
theorem PySem.Challenge.cw_crossbeat_k11_asked_again_holds : PySem.Challenge.rw_crossbeat_k11_asked_again.Holds := by
  w_on; o_law; k_head; (case hw => w_witness2)
  k_fill
  refine L2.walk_of (l := PySem.Challenge.rw_crossbeat_k11_asked_again) (n := 63) (k := 7) (x := "_law_script") (CX := fun _ => L2.CX0) (sp := fun w => G.sp_law _) rfl (by decide) rfl ⟨rfl, by decide, by decide⟩ (fun w h Y => PySem.W.kIn_of Y) ?F (fun _ _ a ns hl _ hS => ⟨a, ns, rfl, hS, hl, fun _ => rfl⟩) (fun _ _ _ _ _ h => h)
  case F =>
    intro w mg fa h KX GG hmg
    refine' G.all_mk KX GG hmg ?aC_Lane ?a_l_alike ?l_l_alike ?c_l_alike ?k_l_alike ?a_mirrored ?l_mirrored ?c_mirrored ?k_mirrored ?a_cut ?l_cut ?c_cut ?k_cut ?a_Lane___init__ ?i_Lane___init__ ?l_Lane___init__ ?c_Lane___init__ ?k_Lane___init__ ?a_Lane_behind ?i_Lane_behind ?l_Lane_behind ?c_Lane_behind ?k_Lane_behind ?a_Lane_can_get ?i_Lane_can_get ?l_Lane_can_get ?c_Lane_can_get ?k_Lane_can_get ?a_Lane_inside ?i_Lane_inside ?l_Lane_inside ?c_Lane_inside ?k_Lane_inside ?a_Lane_place_of ?i_Lane_place_of ?l_Lane_place_of ?c_Lane_place_of ?k_Lane_place_of ?a_Lane_do_get ?i_Lane_do_get ?l_Lane_do_get ?c_Lane_do_get ?k_Lane_do_get ?a_Lane_can_put ?i_Lane_can_put ?l_Lane_can_put ?c_Lane_can_put ?k_Lane_can_put ?a_Lane_do_put ?i_Lane_do_put ?l_Lane_do_put ?c_Lane_do_put ?k_Lane_do_put ?a_Lane_do ?i_Lane_do ?l_Lane_do ?c_Lane_do ?k_Lane_do ?a_Lane_turns ?i_Lane_turns ?l_Lane_turns ?c_Lane_turns ?k_Lane_turns ?a_seen_of ?l_seen_of ?c_seen_of ?k_seen_of ?a_Lane_events ?i_Lane_events ?l_Lane_events ?c_Lane_events ?k_Lane_events ?a_Lane_stand ?i_Lane_stand ?l_Lane_stand ?c_Lane_stand ?k_Lane_stand ?a_Lane_state ?i_Lane_state ?l_Lane_state ?c_Lane_state ?k_Lane_state ?a_is_word ?l_is_word ?c_is_word ?k_is_word ?a_need_words ?l_need_words ?c_need_words ?k_need_words ?a_need_lane ?l_need_lane ?c_need_lane ?k_need_lane ?a_fault ?l_fault ?c_fault ?k_fault ?a_first_torn ?l_first_torn ?c_first_torn ?k_first_torn ?a_Lane_may ?i_Lane_may ?l_Lane_may ?c_Lane_may ?k_Lane_may ?a_played ?l_played ?c_played ?k_played ?a_got ?l_got ?c_got ?k_got ?a_need_wide ?l_need_wide ?c_need_wide ?k_need_wide ?a_gray ?l_gray ?c_gray ?k_gray ?a_gone_through ?l_gone_through ?c_gone_through ?k_gone_through ?a_need_late ?l_need_late ?c_need_late ?k_need_late ?a_least_room ?l_least_room ?c_least_room ?k_least_room ?a_all_words ?l_all_words ?c_all_words ?k_all_words ?a_plain ?l_plain ?c_plain ?k_plain ?a_steady ?l_steady ?c_steady ?k_steady ?a_torn ?l_torn ?c_torn ?k_torn ?a_l_asked ?l_l_asked ?c_l_asked ?k_l_asked ?a_l_dice ?l_l_dice ?c_l_dice ?k_l_dice ?a_l_begun ?l_l_begun ?c_l_begun ?k_l_begun ?a_l_plain ?l_l_plain ?c_l_plain ?k_l_plain ?a_l_seen ?l_l_seen ?c_l_seen ?k_l_seen ?a_l_turn ?l_l_turn ?c_l_turn ?k_l_turn ?a_l_can ?l_l_can ?c_l_can ?k_l_can ?a_l_do ?l_l_do ?c_l_do ?k_l_do ?a_l_off ?l_l_off ?c_l_off ?k_l_off ?a_l_events ?l_l_events ?c_l_events ?k_l_events ?a_l_gray ?l_l_gray ?c_l_gray ?k_l_gray ?a_l_mixed ?l_l_mixed ?c_l_mixed ?k_l_mixed ?a_l_words ?l_l_words ?c_l_words ?k_l_words ?a_l_lane ?l_l_lane ?c_l_lane ?k_l_lane ?a_law ?l_law ?c_law ?k_law ?pg_Lane ?hd_Lane ?po_Lane ?sa_Lane ?mk_Lane ?kc_Lane ?na_room ?na_words ?na_put ?na_got ?na_seen_got ?na_seen_put ?na_boxes ?na_many ?na_fault ?z_abs ?z_all ?z_bool ?z_enumerate ?z_int ?z_isinstance ?z_len ?z_list ?z_max ?z_min ?z_range ?z_set ?z_sorted ?z_str ?z_tuple ?n_MARKS ?l_MARKS ?n_MOST_EVENTS ?n_MOST_LATE ?n_MOST_ROOM ?n_MOST_STEADY ?n_MOST_WIDE ?n_MOST_WORDS ?n_OVER ?n_UNDER
    (case aC_Lane => k_is)
    (case a_l_alike => k_is)
    (case l_l_alike => k_is)
    (case c_l_alike => k_is)
    (case k_l_alike => k_is)
    (case a_mirrored => k_is)
    (case l_mirrored => k_is)
    (case c_mirrored => k_is)
    (case k_mirrored => k_is)
    (case a_cut => k_is)
    (case l_cut => k_is)
    (case c_cut => k_is)
    (case k_cut => k_is)
    (case a_Lane___init__ => k_is)
    (case i_Lane___init__ => k_is)
    (case l_Lane___init__ => k_is)
    (case c_Lane___init__ => k_is)
    (case k_Lane___init__ => k_is)
    (case a_Lane_behind => k_is)
    (case i_Lane_behind => k_is)
    (case l_Lane_behind => k_is)
    (case c_Lane_behind => k_is)
    (case k_Lane_behind => k_is)
    (case a_Lane_can_get => k_is)
    (case i_Lane_can_get => k_is)
    (case l_Lane_can_get => k_is)
    (case c_Lane_can_get => k_is)
    (case k_Lane_can_get => k_is)
    (case a_Lane_inside => k_is)
    (case i_Lane_inside => k_is)
    (case l_Lane_inside => k_is)
    (case c_Lane_inside => k_is)
    (case k_Lane_inside => k_is)
    (case a_Lane_place_of => k_is)
    (case i_Lane_place_of => k_is)
    (case l_Lane_place_of => k_is)
    (case c_Lane_place_of => k_is)
    (case k_Lane_place_of => k_is)
    (case a_Lane_do_get => k_is)
    (case i_Lane_do_get => k_is)
    (case l_Lane_do_get => k_is)
    (case c_Lane_do_get => k_is)
    (case k_Lane_do_get => k_is)
    (case a_Lane_can_put => k_is)
    (case i_Lane_can_put => k_is)
    (case l_Lane_can_put => k_is)
    (case c_Lane_can_put => k_is)
    (case k_Lane_can_put => k_is)
    (case a_Lane_do_put => k_is)
    (case i_Lane_do_put => k_is)
    (case l_Lane_do_put => k_is)
    (case c_Lane_do_put => k_is)
    (case k_Lane_do_put => k_is)
    (case a_Lane_do => k_is)
    (case i_Lane_do => k_is)
    (case l_Lane_do => k_is)
    (case c_Lane_do => k_is)
    (case k_Lane_do => k_is)
    (case a_Lane_turns => k_is)
    (case i_Lane_turns => k_is)
    (case l_Lane_turns => k_is)
    (case c_Lane_turns => k_is)
    (case k_Lane_turns => k_is)
    (case a_seen_of => k_is)
    (case l_seen_of => k_is)
    (case c_seen_of => k_is)
    (case k_seen_of => k_is)
    (case a_Lane_events => k_is)
    (case i_Lane_events => k_is)
    (case l_Lane_events => k_is)
    (case c_Lane_events => k_is)
    (case k_Lane_events => k_is)
    (case a_Lane_stand => k_is)
    (case i_Lane_stand => k_is)
    (case l_Lane_stand => k_is)
    (case c_Lane_stand => k_is)
    (case k_Lane_stand => k_is)
    (case a_Lane_state => k_is)
    (case i_Lane_state => k_is)
    (case l_Lane_state => k_is)
    (case c_Lane_state => k_is)
    (case k_Lane_state => k_is)
    (case a_is_word => k_is)
    (case l_is_word => k_is)
    (case c_is_word => k_is)
    (case k_is_word => k_is)
    (case a_need_words => k_is)
    (case l_need_words => k_is)
    (case c_need_words => k_is)
    (case k_need_words => k_is)
    (case a_need_lane => k_is)
    (case l_need_lane => k_is)
    (case c_need_lane => k_is)
    (case k_need_lane => k_is)
    (case a_fault => k_is)
    (case l_fault => k_is)
    (case c_fault => k_is)
    (case k_fault => k_is)
    (case a_first_torn => k_is)
    (case l_first_torn => k_is)
    (case c_first_torn => k_is)
    (case k_first_torn => k_is)
    (case a_Lane_may => k_is)
    (case i_Lane_may => k_is)
    (case l_Lane_may => k_is)
    (case c_Lane_may => k_is)
    (case k_Lane_may => k_is)
    (case a_played => k_is)
    (case l_played => k_is)
    (case c_played => k_is)
    (case k_played => k_is)
    (case a_got => k_is)
    (case l_got => k_is)
    (case c_got => k_is)
    (case k_got => k_is)
    (case a_need_wide => k_is)
    (case l_need_wide => k_is)
    (case c_need_wide => k_is)
    (case k_need_wide => k_is)
    (case a_gray => k_is)
    (case l_gray => k_is)
    (case c_gray => k_is)
    (case k_gray => k_is)
    (case a_gone_through => k_is)
    (case l_gone_through => k_is)
    (case c_gone_through => k_is)
    (case k_gone_through => k_is)
    (case a_need_late => k_is)
    (case l_need_late => k_is)
    (case c_need_late => k_is)
    (case k_need_late => k_is)
    (case a_least_room => k_is)
    (case l_least_room => k_is)
    (case c_least_room => k_is)
    (case k_least_room => k_is)
    (case a_all_words => k_is)
    (case l_all_words => k_is)
    (case c_all_words => k_is)
    (case k_all_words => k_is)
    (case a_plain => k_is)
    (case l_plain => k_is)
    (case c_plain => k_is)
    (case k_plain => k_is)
    (case a_steady => k_is)
    (case l_steady => k_is)
    (case c_steady => k_is)
    (case k_steady => k_is)
    (case a_torn => k_is)
    (case l_torn => k_is)
    (case c_torn => k_is)
    (case k_torn => k_is)
    (case a_l_asked => k_is)
    (case l_l_asked => k_is)
    (case c_l_asked => k_is)
    (case k_l_asked => k_is)
    (case a_l_dice => k_is)
    (case l_l_dice => k_is)
    (case c_l_dice => k_is)
    (case k_l_dice => k_is)
    (case a_l_begun => k_is)
    (case l_l_begun => k_is)
    (case c_l_begun => k_is)
    (case k_l_begun => k_is)
    (case a_l_plain => k_is)
    (case l_l_plain => k_is)
    (case c_l_plain => k_is)
    (case k_l_plain => k_is)
    (case a_l_seen => k_is)
    (case l_l_seen => k_is)
    (case c_l_seen => k_is)
    (case k_l_seen => k_is)
    (case a_l_turn => k_is)
    (case l_l_turn => k_is)
    (case c_l_turn => k_is)
    (case k_l_turn => k_is)
    (case a_l_can => k_is)
    (case l_l_can => k_is)
    (case c_l_can => k_is)
    (case k_l_can => k_is)
    (case a_l_do => k_is)
    (case l_l_do => k_is)
    (case c_l_do => k_is)
    (case k_l_do => k_is)
    (case a_l_off => k_is)
    (case l_l_off => k_is)
    (case c_l_off => k_is)
    (case k_l_off => k_is)
    (case a_l_events => k_is)
    (case l_l_events => k_is)
    (case c_l_events => k_is)
    (case k_l_events => k_is)
    (case a_l_gray => k_is)
    (case l_l_gray => k_is)
    (case c_l_gray => k_is)
    (case k_l_gray => k_is)
    (case a_l_mixed => k_is)
    (case l_l_mixed => k_is)
    (case c_l_mixed => k_is)
    (case k_l_mixed => k_is)
    (case a_l_words => k_is)
    (case l_l_words => k_is)
    (case c_l_words => k_is)
    (case k_l_words => k_is)
    (case a_l_lane => k_is)
    (case l_l_lane => k_is)
    (case c_l_lane => k_is)
    (case k_l_lane => k_is)
    (case a_law => k_is)
    (case l_law => k_is)
    (case c_law => k_is)
    (case k_law => k_is)
    (case pg_Lane => k_is)
    (case hd_Lane => k_is)
    (case po_Lane => k_is)
    (case sa_Lane => k_is)
    (case mk_Lane => k_is)
    (case kc_Lane => k_is)
    (case na_room => k_is)
    (case na_words => k_is)
    (case na_put => k_is)
    (case na_got => k_is)
    (case na_seen_got => k_is)
    (case na_seen_put => k_is)
    (case na_boxes => k_is)
    (case na_many => k_is)
    (case na_fault => k_is)
    (case z_abs => k_is)
    (case z_all => k_is)
    (case z_bool => k_is)
    (case z_enumerate => k_is)
    (case z_int => k_is)
    (case z_isinstance => k_is)
    (case z_len => k_is)
    (case z_list => k_is)
    (case z_max => k_is)
    (case z_min => k_is)
    (case z_range => k_is)
    (case z_set => k_is)
    (case z_sorted => k_is)
    (case z_str => k_is)
    (case z_tuple => k_is)
    (case n_MARKS => k_is)
    (case l_MARKS => k_is)
    (case n_MOST_EVENTS => k_is)
    (case n_MOST_LATE => k_is)
    (case n_MOST_ROOM => k_is)
    (case n_MOST_STEADY => k_is)
    (case n_MOST_WIDE => k_is)
    (case n_MOST_WORDS => k_is)
    (case n_OVER => k_is)
    (case n_UNDER => k_is)
#print axioms PySem.Challenge.cw_crossbeat_k11_asked_again_holds
