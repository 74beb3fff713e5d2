import PyProof.Rows.All
import Wide.All
import OpenK.AllK
import Wide.FinOn
import HandS.ForMost
import HandS.Evl
import HandS.Style
import HandS.IsInst
import HandS.Strs
import HandS.Set
import PyProof.Rows.SetFrom
import HandS.Walk
import HandS.Conv
import HandS.Exc
import HandS.ExcOwn
import HandS.ExcInit
import HandS.ExcField
import HandS.ExcIs
import HandS.TryOnly
import HandS.WordsExc
import HandS.CallSlots
import HandS.Hot
import HandS.HotCalls
import HandS.ExcInitHot
import HandS.Lambda
import HandS.EndOwn
import KE.KDflt
import KE.KExcIs
import KE.KNestM
import PySem.Challenge.RW_crossbeat_k06_events_refused
set_option Elab.async false
set_option linter.all false
set_option maxRecDepth 100000
set_option maxHeartbeats 4000000
namespace G
open PySem L2 Evl
def topS (i : Nat) : Stmt := PySem.Challenge.pw_crossbeat_k06_events_refused.main.body.getD i (.Pass ⟨0, 0, 0, 0⟩)
abbrev s_l_alike : Stmt := topS 25
theorem sc_l_alike : FnScope ["_law_found", "_law_due", "_law_k"] ["_law_found", "_law_due"] (defScope s_l_alike) := ⟨rfl, rfl, rfl, by decide +kernel, rfl, by decide +kernel, by decide +kernel⟩
abbrev s_l_begun : Stmt := topS 33
theorem sc_l_begun : FnScope [] [] (defScope s_l_begun) := ⟨rfl, rfl, rfl, by decide +kernel, rfl, by decide +kernel, by decide +kernel⟩
abbrev s_l_dice : Stmt := topS 23
theorem sc_l_dice : FnScope ["_law_script", "_law_k", "_law_found", "_law_cell"] ["_law_script", "_law_k"] (defScope s_l_dice) := ⟨rfl, rfl, rfl, by decide +kernel, rfl, by decide +kernel, by decide +kernel⟩
abbrev s_l_plain : Stmt := topS 28
theorem sc_l_plain : FnScope ["_law_wide", "_law_found", "_law_number", "_law_word", "_law_at"] ["_law_wide"] (defScope s_l_plain) := ⟨rfl, rfl, rfl, by decide +kernel, rfl, by decide +kernel, by decide +kernel⟩
abbrev s_l_seen : Stmt := topS 30
theorem sc_l_seen : FnScope ["_law_one", "_law_other", "_law_found", "_law_word", "_law_at"] ["_law_one", "_law_other"] (defScope s_l_seen) := ⟨rfl, rfl, rfl, by decide +kernel, rfl, by decide +kernel, by decide +kernel⟩
abbrev s_l_turn : Stmt := topS 34
theorem sc_l_turn : FnScope ["_law_lane_here", "_law_s", "_law_word", "_law_room", "_law_words_here", "_law_round_of", "_law_here", "_law_goes", "_law_other"] ["_law_lane_here", "_law_s", "_law_word"] (defScope s_l_turn) := ⟨rfl, rfl, rfl, by decide +kernel, rfl, by decide +kernel, by decide +kernel⟩
abbrev s_l_do : Stmt := topS 36
theorem sc_l_do : FnScope ["_law_lane_here", "_law_s", "_law_event", "_law_room", "_law_words_here", "_law_goes", "_law_inside", "_law_found", "_law_key"] ["_law_lane_here", "_law_s", "_law_event"] (defScope s_l_do) := ⟨rfl, rfl, rfl, by decide +kernel, rfl, by decide +kernel, by decide +kernel⟩
abbrev s_l_can : Stmt := topS 35
theorem sc_l_can : FnScope ["_law_lane_here", "_law_s", "_law_found", "_law_word", "_law_seen_here"] ["_law_lane_here", "_law_s"] (defScope s_l_can) := ⟨rfl, rfl, rfl, by decide +kernel, rfl, by decide +kernel, by decide +kernel⟩
abbrev s_l_off : Stmt := topS 24
theorem sc_l_off : FnScope ["_law_d", "_law_most", "_law_found"] ["_law_d", "_law_most"] (defScope s_l_off) := ⟨rfl, rfl, rfl, by decide +kernel, rfl, by decide +kernel, by decide +kernel⟩
abbrev s_l_events : Stmt := topS 37
theorem sc_l_events : FnScope ["_law_d", "_law_lane_here", "_law_most", "_law_s", "_law_events_here", "_law_told", "_law_turn_here", "_law_some", "_law_event"] ["_law_d", "_law_lane_here", "_law_most"] (defScope s_l_events) := ⟨rfl, rfl, rfl, by decide +kernel, rfl, by decide +kernel, by decide +kernel⟩
abbrev s_l_gray : Stmt := topS 29
theorem sc_l_gray : FnScope ["_law_wide", "_law_found", "_law_word", "_law_marks", "_law_at"] ["_law_wide"] (defScope s_l_gray) := ⟨rfl, rfl, rfl, by decide +kernel, rfl, by decide +kernel, by decide +kernel⟩
abbrev s_l_mixed : Stmt := topS 26
theorem sc_l_mixed : FnScope ["_law_d", "_law_row", "_law_left", "_law_found"] ["_law_d", "_law_row"] (defScope s_l_mixed) := ⟨rfl, rfl, rfl, by decide +kernel, rfl, by decide +kernel, by decide +kernel⟩
abbrev s_l_words : Stmt := topS 31
theorem sc_l_words : FnScope ["_law_d", "_law_room", "_law_wide", "_law_every", "_law_words_here", "_law_kind", "_law_at", "_law_by", "_law_k", "_law_order", "_law_turn_here", "_law_found", "_law_word", "_law_marks", "_law_mark"] ["_law_d", "_law_room"] (defScope s_l_words) := ⟨rfl, rfl, rfl, by decide +kernel, rfl, by decide +kernel, by decide +kernel⟩
abbrev s_l_lane : Stmt := topS 32
theorem sc_l_lane : FnScope ["_law_d", "_law_room"] ["_law_d"] (defScope s_l_lane) := ⟨rfl, rfl, rfl, by decide +kernel, rfl, by decide +kernel, by decide +kernel⟩
abbrev s_l_refused : Stmt := topS 27
theorem sc_l_refused : FnScope ["_law_work", "_law_word", "_law_value", "e", "_law_kinds", "_law_words_here", "_law_one"] ["_law_work", "_law_word", "_law_value"] (defScope s_l_refused) := ⟨rfl, rfl, rfl, by decide +kernel, rfl, by decide +kernel, by decide +kernel⟩
abbrev s_BadEvent___init__ : Stmt := inClass (topS 6) 0
theorem sc_BadEvent___init__ : FnScope ["self", "at"] ["self", "at"] (defScope s_BadEvent___init__) := ⟨rfl, rfl, rfl, by decide +kernel, rfl, by decide +kernel, by decide +kernel⟩
abbrev s_Lane___init__ : Stmt := inClass (topS 19) 0
theorem sc_Lane___init__ : FnScope ["self", "room", "words", "box"] ["self", "room", "words"] (defScope s_Lane___init__) := ⟨rfl, rfl, rfl, by decide +kernel, rfl, by decide +kernel, by decide +kernel⟩
abbrev s_Lane_behind : Stmt := inClass (topS 19) 4
theorem sc_Lane_behind : FnScope ["self", "place"] ["self", "place"] (defScope s_Lane_behind) := ⟨rfl, rfl, rfl, by decide +kernel, rfl, by decide +kernel, by decide +kernel⟩
abbrev s_Lane_can_get : Stmt := inClass (topS 19) 7
theorem sc_Lane_can_get : FnScope ["self"] ["self"] (defScope s_Lane_can_get) := ⟨rfl, rfl, rfl, by decide +kernel, rfl, by decide +kernel, by decide +kernel⟩
abbrev s_Lane_inside : Stmt := inClass (topS 19) 3
theorem sc_Lane_inside : FnScope ["self"] ["self"] (defScope s_Lane_inside) := ⟨rfl, rfl, rfl, by decide +kernel, rfl, by decide +kernel, by decide +kernel⟩
abbrev s_Lane_place_of : Stmt := inClass (topS 19) 5
theorem sc_Lane_place_of : FnScope ["self", "word", "ahead"] ["self", "word", "ahead"] (defScope s_Lane_place_of) := ⟨rfl, rfl, rfl, by decide +kernel, rfl, by decide +kernel, by decide +kernel⟩
abbrev s_Lane_do_get : Stmt := inClass (topS 19) 10
theorem sc_Lane_do_get : FnScope ["self", "seen", "found"] ["self", "seen"] (defScope s_Lane_do_get) := ⟨rfl, rfl, rfl, by decide +kernel, rfl, by decide +kernel, by decide +kernel⟩
abbrev s_Lane_can_put : Stmt := inClass (topS 19) 6
theorem sc_Lane_can_put : FnScope ["self"] ["self"] (defScope s_Lane_can_put) := ⟨rfl, rfl, rfl, by decide +kernel, rfl, by decide +kernel, by decide +kernel⟩
abbrev s_Lane_do_put : Stmt := inClass (topS 19) 9
theorem sc_Lane_do_put : FnScope ["self", "seen", "found"] ["self", "seen"] (defScope s_Lane_do_put) := ⟨rfl, rfl, rfl, by decide +kernel, rfl, by decide +kernel, by decide +kernel⟩
abbrev s_Lane_do : Stmt := inClass (topS 19) 11
theorem sc_Lane_do : FnScope ["self", "event"] ["self", "event"] (defScope s_Lane_do) := ⟨rfl, rfl, rfl, by decide +kernel, rfl, by decide +kernel, by decide +kernel⟩
abbrev s_Lane_turns : Stmt := inClass (topS 19) 8
theorem sc_Lane_turns : FnScope ["self", "word", "here", "goes"] ["self", "word"] (defScope s_Lane_turns) := ⟨rfl, rfl, rfl, by decide +kernel, rfl, by decide +kernel, by decide +kernel⟩
abbrev s_seen_of : Stmt := topS 12
theorem sc_seen_of : FnScope ["one", "other", "found", "at", "marks", "longer", "word", "mark"] ["one", "other"] (defScope s_seen_of) := ⟨rfl, rfl, rfl, by decide +kernel, rfl, by decide +kernel, by decide +kernel⟩
abbrev s_Lane_may : Stmt := inClass (topS 19) 12
theorem sc_Lane_may : FnScope ["self", "event", "one", "other"] ["self", "event"] (defScope s_Lane_may) := ⟨rfl, rfl, rfl, by decide +kernel, rfl, by decide +kernel, by decide +kernel⟩
abbrev s_is_word : Stmt := topS 10
theorem sc_is_word : FnScope ["word", "mark"] ["word"] (defScope s_is_word) := ⟨rfl, rfl, rfl, by decide +kernel, rfl, by decide +kernel, by decide +kernel⟩
abbrev s_need_words : Stmt := topS 11
theorem sc_need_words : FnScope ["words", "at", "word"] ["words"] (defScope s_need_words) := ⟨rfl, rfl, rfl, by decide +kernel, rfl, by decide +kernel, by decide +kernel⟩
abbrev s_need_lane : Stmt := topS 18
theorem sc_need_lane : FnScope ["lane", "room", "words"] ["lane"] (defScope s_need_lane) := ⟨rfl, rfl, rfl, by decide +kernel, rfl, by decide +kernel, by decide +kernel⟩
abbrev s_played : Stmt := topS 20
theorem sc_played : FnScope ["lane", "events", "here", "found", "at", "event"] ["lane", "events"] (defScope s_played) := ⟨rfl, rfl, rfl, by decide +kernel, rfl, by decide +kernel, by decide +kernel⟩
abbrev s_got : Stmt := topS 21
theorem sc_got : FnScope ["lane", "events", "told", "at"] ["lane", "events"] (defScope s_got) := ⟨rfl, rfl, rfl, by decide +kernel, rfl, by decide +kernel, by decide +kernel⟩
abbrev s_law : Stmt := topS 38
theorem sc_law : FnScope ["_law_script", "_law_d", "_law_lane_here", "_law_events_here", "_law_told", "_law_many", "_law_one", "_law_at", "_law_s", "_law_event", "_law_seen_here", "_law_got_seen", "_law_every", "_law_others", "_law_word", "_law_some", "_law_bad", "_law_works", "_law_work", "_law_long"] ["_law_script"] (defScope s_law) := ⟨rfl, rfl, rfl, by decide +kernel, rfl, by decide +kernel, by decide +kernel⟩
/-! isinstance(e, c), e the exception that the suite holds, with a dict of its own or none -/
structure IsC (K : PySem.W.Frag) (D : Addr) : Prop where
  hc : (PySem.W.clsIn K D).isSome = true
  hg : PySem.W.findIn K (.ref D) "__getattribute__" = some (some (.builtin "BaseException.__getattribute__"))
  hk : PySem.W.findIn K (.ref D) "__getattr__" = some none
  hs : PySem.W.subIn K (.ref D) (.type "BaseException") = some true
  ha : PySem.W.findIn K (.ref D) "__class__" = some (some (.builtin "object.__class__"))
  hn : PySem.W.specialIn K (.builtin "object.__class__") "__get__" = some (some (.builtin "getset_descriptor.__get__"))
  ht : PySem.W.takesIn K (.builtin "object.__class__") = some true
  hm : PySem.W.mroIn K D (.type "object") = some true

structure TX (K : PySem.W.Frag) (mg : Str → Option Value) where
  f_l_alike : Addr
  fd_l_alike : FuncData
  F_l_alike : Fun K "_law_alike" "_law_alike" s_l_alike f_l_alike fd_l_alike
  b_l_alike : Binds K fd_l_alike ["_law_found", "_law_due"] []
  g_l_alike : mg "_law_alike" = some (.ref f_l_alike)
  f_l_begun : Addr
  fd_l_begun : FuncData
  F_l_begun : Fun K "_law_begun" "_law_begun" s_l_begun f_l_begun fd_l_begun
  b_l_begun : Binds K fd_l_begun [] []
  g_l_begun : mg "_law_begun" = some (.ref f_l_begun)
  f_l_dice : Addr
  fd_l_dice : FuncData
  F_l_dice : Fun K "_law_dice" "_law_dice" s_l_dice f_l_dice fd_l_dice
  b_l_dice : Binds K fd_l_dice ["_law_script", "_law_k"] []
  g_l_dice : mg "_law_dice" = some (.ref f_l_dice)
  f_l_plain : Addr
  fd_l_plain : FuncData
  F_l_plain : Fun K "_law_plain" "_law_plain" s_l_plain f_l_plain fd_l_plain
  b_l_plain : Binds K fd_l_plain ["_law_wide"] []
  g_l_plain : mg "_law_plain" = some (.ref f_l_plain)
  f_l_seen : Addr
  fd_l_seen : FuncData
  F_l_seen : Fun K "_law_seen" "_law_seen" s_l_seen f_l_seen fd_l_seen
  b_l_seen : Binds K fd_l_seen ["_law_one", "_law_other"] []
  g_l_seen : mg "_law_seen" = some (.ref f_l_seen)
  f_l_turn : Addr
  fd_l_turn : FuncData
  F_l_turn : Fun K "_law_turn" "_law_turn" s_l_turn f_l_turn fd_l_turn
  b_l_turn : Binds K fd_l_turn ["_law_lane_here", "_law_s", "_law_word"] []
  g_l_turn : mg "_law_turn" = some (.ref f_l_turn)
  f_l_do : Addr
  fd_l_do : FuncData
  F_l_do : Fun K "_law_do" "_law_do" s_l_do f_l_do fd_l_do
  b_l_do : Binds K fd_l_do ["_law_lane_here", "_law_s", "_law_event"] []
  g_l_do : mg "_law_do" = some (.ref f_l_do)
  f_l_can : Addr
  fd_l_can : FuncData
  F_l_can : Fun K "_law_can" "_law_can" s_l_can f_l_can fd_l_can
  b_l_can : Binds K fd_l_can ["_law_lane_here", "_law_s"] []
  g_l_can : mg "_law_can" = some (.ref f_l_can)
  f_l_off : Addr
  fd_l_off : FuncData
  F_l_off : Fun K "_law_off" "_law_off" s_l_off f_l_off fd_l_off
  b_l_off : Binds K fd_l_off ["_law_d", "_law_most"] []
  g_l_off : mg "_law_off" = some (.ref f_l_off)
  f_l_events : Addr
  fd_l_events : FuncData
  F_l_events : Fun K "_law_events" "_law_events" s_l_events f_l_events fd_l_events
  b_l_events : Binds K fd_l_events ["_law_d", "_law_lane_here", "_law_most"] []
  g_l_events : mg "_law_events" = some (.ref f_l_events)
  f_l_gray : Addr
  fd_l_gray : FuncData
  F_l_gray : Fun K "_law_gray" "_law_gray" s_l_gray f_l_gray fd_l_gray
  b_l_gray : Binds K fd_l_gray ["_law_wide"] []
  g_l_gray : mg "_law_gray" = some (.ref f_l_gray)
  f_l_mixed : Addr
  fd_l_mixed : FuncData
  F_l_mixed : Fun K "_law_mixed" "_law_mixed" s_l_mixed f_l_mixed fd_l_mixed
  b_l_mixed : Binds K fd_l_mixed ["_law_d", "_law_row"] []
  g_l_mixed : mg "_law_mixed" = some (.ref f_l_mixed)
  f_l_words : Addr
  fd_l_words : FuncData
  F_l_words : Fun K "_law_words" "_law_words" s_l_words f_l_words fd_l_words
  b_l_words : Binds K fd_l_words ["_law_d", "_law_room"] []
  g_l_words : mg "_law_words" = some (.ref f_l_words)
  f_l_lane : Addr
  fd_l_lane : FuncData
  F_l_lane : Fun K "_law_lane" "_law_lane" s_l_lane f_l_lane fd_l_lane
  b_l_lane : Binds K fd_l_lane ["_law_d"] []
  g_l_lane : mg "_law_lane" = some (.ref f_l_lane)
  f_l_refused : Addr
  fd_l_refused : FuncData
  F_l_refused : Fun K "_law_refused" "_law_refused" s_l_refused f_l_refused fd_l_refused
  b_l_refused : Binds K fd_l_refused ["_law_work", "_law_word", "_law_value"] []
  g_l_refused : mg "_law_refused" = some (.ref f_l_refused)
  f_BadEvent___init__ : Addr
  fd_BadEvent___init__ : FuncData
  F_BadEvent___init__ : Fun K "__init__" "BadEvent.__init__" s_BadEvent___init__ f_BadEvent___init__ fd_BadEvent___init__
  b_BadEvent___init__ : Binds K fd_BadEvent___init__ ["self", "at"] []
  f_Lane___init__ : Addr
  fd_Lane___init__ : FuncData
  F_Lane___init__ : Fun K "__init__" "Lane.__init__" s_Lane___init__ f_Lane___init__ fd_Lane___init__
  b_Lane___init__ : Binds K fd_Lane___init__ ["self", "room", "words"] []
  f_Lane_behind : Addr
  fd_Lane_behind : FuncData
  F_Lane_behind : Fun K "behind" "Lane.behind" s_Lane_behind f_Lane_behind fd_Lane_behind
  b_Lane_behind : Binds K fd_Lane_behind ["self", "place"] []
  f_Lane_can_get : Addr
  fd_Lane_can_get : FuncData
  F_Lane_can_get : Fun K "can_get" "Lane.can_get" s_Lane_can_get f_Lane_can_get fd_Lane_can_get
  b_Lane_can_get : Binds K fd_Lane_can_get ["self"] []
  f_Lane_inside : Addr
  fd_Lane_inside : FuncData
  F_Lane_inside : Fun K "inside" "Lane.inside" s_Lane_inside f_Lane_inside fd_Lane_inside
  b_Lane_inside : Binds K fd_Lane_inside ["self"] []
  f_Lane_place_of : Addr
  fd_Lane_place_of : FuncData
  F_Lane_place_of : Fun K "place_of" "Lane.place_of" s_Lane_place_of f_Lane_place_of fd_Lane_place_of
  b_Lane_place_of : Binds K fd_Lane_place_of ["self", "word", "ahead"] []
  f_Lane_do_get : Addr
  fd_Lane_do_get : FuncData
  F_Lane_do_get : Fun K "do_get" "Lane.do_get" s_Lane_do_get f_Lane_do_get fd_Lane_do_get
  b_Lane_do_get : Binds K fd_Lane_do_get ["self", "seen"] []
  f_Lane_can_put : Addr
  fd_Lane_can_put : FuncData
  F_Lane_can_put : Fun K "can_put" "Lane.can_put" s_Lane_can_put f_Lane_can_put fd_Lane_can_put
  b_Lane_can_put : Binds K fd_Lane_can_put ["self"] []
  f_Lane_do_put : Addr
  fd_Lane_do_put : FuncData
  F_Lane_do_put : Fun K "do_put" "Lane.do_put" s_Lane_do_put f_Lane_do_put fd_Lane_do_put
  b_Lane_do_put : Binds K fd_Lane_do_put ["self", "seen"] []
  f_Lane_do : Addr
  fd_Lane_do : FuncData
  F_Lane_do : Fun K "do" "Lane.do" s_Lane_do f_Lane_do fd_Lane_do
  b_Lane_do : Binds K fd_Lane_do ["self", "event"] []
  f_Lane_turns : Addr
  fd_Lane_turns : FuncData
  F_Lane_turns : Fun K "turns" "Lane.turns" s_Lane_turns f_Lane_turns fd_Lane_turns
  b_Lane_turns : Binds K fd_Lane_turns ["self", "word"] []
  f_seen_of : Addr
  fd_seen_of : FuncData
  F_seen_of : Fun K "seen_of" "seen_of" s_seen_of f_seen_of fd_seen_of
  b_seen_of : Binds K fd_seen_of ["one", "other"] []
  g_seen_of : mg "seen_of" = some (.ref f_seen_of)
  f_Lane_may : Addr
  fd_Lane_may : FuncData
  F_Lane_may : Fun K "may" "Lane.may" s_Lane_may f_Lane_may fd_Lane_may
  b_Lane_may : Binds K fd_Lane_may ["self", "event"] []
  f_is_word : Addr
  fd_is_word : FuncData
  F_is_word : Fun K "is_word" "is_word" s_is_word f_is_word fd_is_word
  b_is_word : Binds K fd_is_word ["word"] []
  g_is_word : mg "is_word" = some (.ref f_is_word)
  f_need_words : Addr
  fd_need_words : FuncData
  F_need_words : Fun K "need_words" "need_words" s_need_words f_need_words fd_need_words
  b_need_words : Binds K fd_need_words ["words"] []
  g_need_words : mg "need_words" = some (.ref f_need_words)
  f_need_lane : Addr
  fd_need_lane : FuncData
  F_need_lane : Fun K "need_lane" "need_lane" s_need_lane f_need_lane fd_need_lane
  b_need_lane : Binds K fd_need_lane ["lane"] []
  g_need_lane : mg "need_lane" = some (.ref f_need_lane)
  f_played : Addr
  fd_played : FuncData
  F_played : Fun K "played" "played" s_played f_played fd_played
  b_played : Binds K fd_played ["lane", "events"] []
  g_played : mg "played" = some (.ref f_played)
  f_got : Addr
  fd_got : FuncData
  F_got : Fun K "got" "got" s_got f_got fd_got
  b_got : Binds K fd_got ["lane", "events"] []
  g_got : mg "got" = some (.ref f_got)
  f_law : Addr
  fd_law : FuncData
  F_law : Fun K "law" "law" s_law f_law fd_law
  b_law : Binds K fd_law ["_law_script"] []
  g_law : mg "law" = some (.ref f_law)
  C_Lane : Addr
  cl_Lane : Cls K C_Lane
  g_Lane : mg "Lane" = some (.ref C_Lane)
  mk_Lane : Mk K C_Lane f_Lane___init__
  na_room : NoAttr K C_Lane "room"
  na_words : NoAttr K C_Lane "words"
  na_put : NoAttr K C_Lane "put"
  na_got : NoAttr K C_Lane "got"
  na_seen_got : NoAttr K C_Lane "seen_got"
  na_seen_put : NoAttr K C_Lane "seen_put"
  na_boxes : NoAttr K C_Lane "boxes"
  na_many : NoAttr K C_Lane "many"
  na_fault : NoAttr K C_Lane "fault"
  m_Lane_behind : Meth K C_Lane "behind" f_Lane_behind
  m_Lane_can_get : Meth K C_Lane "can_get" f_Lane_can_get
  m_Lane_inside : Meth K C_Lane "inside" f_Lane_inside
  m_Lane_place_of : Meth K C_Lane "place_of" f_Lane_place_of
  m_Lane_do_get : Meth K C_Lane "do_get" f_Lane_do_get
  m_Lane_can_put : Meth K C_Lane "can_put" f_Lane_can_put
  m_Lane_do_put : Meth K C_Lane "do_put" f_Lane_do_put
  m_Lane_do : Meth K C_Lane "do" f_Lane_do
  m_Lane_turns : Meth K C_Lane "turns" f_Lane_turns
  m_Lane_may : Meth K C_Lane "may" f_Lane_may
  C_CrossError : Addr
  g_CrossError : mg "CrossError" = some (.ref C_CrossError)
  C_BadNumber : Addr
  g_BadNumber : mg "BadNumber" = some (.ref C_BadNumber)
  C_BadLane : Addr
  g_BadLane : mg "BadLane" = some (.ref C_BadLane)
  C_BadWords : Addr
  g_BadWords : mg "BadWords" = some (.ref C_BadWords)
  C_BadEvent : Addr
  g_BadEvent : mg "BadEvent" = some (.ref C_BadEvent)
  ga_CE : PySem.W.specialIn K (.ref C_CrossError) "__getattribute__" = some (some (.builtin "type.__getattribute__"))
  rd_CE : PySem.W.readsIn K C_CrossError (.type "type") = true
  fi_CE : PySem.W.findCls K (.ref C_CrossError) (.type "type") "__init__" = some (.val (.builtin "ValueError.__init__"))
  ox_BadEvent : OexC K C_BadEvent
  iC_BadEvent : PySem.W.findIn K (.ref C_BadEvent) "__init__" = some (some (.ref f_BadEvent___init__))
  tI_BadEvent : PySem.W.typeIn K (.ref f_BadEvent___init__) = some (.type "function")
  xf_BadEvent : XfC K C_BadEvent
  at_BadEvent : PySem.W.findIn K (.ref C_BadEvent) "at" = some none
  is_BadEvent : IsC K C_BadEvent
  ex_BadEvent : PySem.W.exmOne K (.ref C_BadEvent) (.ref C_CrossError) = some true
  ki_BadEvent_BadNumber : PySem.W.kitOne K (.ref C_BadEvent) (.ref C_BadNumber) = some false
  ki_BadEvent_BadLane : PySem.W.kitOne K (.ref C_BadEvent) (.ref C_BadLane) = some false
  ki_BadEvent_BadWords : PySem.W.kitOne K (.ref C_BadEvent) (.ref C_BadWords) = some false
  ki_BadEvent_BadEvent : PySem.W.kitOne K (.ref C_BadEvent) (.ref C_BadEvent) = some true
  kv_BadEvent : PySem.W.kitOne K (.ref C_BadEvent) (.type "ValueError") = some true
  z_ValueError : mg "ValueError" = none
  z_abs : mg "abs" = none
  z_all : mg "all" = none
  z_bool : mg "bool" = none
  z_enumerate : mg "enumerate" = none
  z_int : mg "int" = none
  z_isinstance : mg "isinstance" = none
  z_len : mg "len" = none
  z_list : mg "list" = none
  z_min : mg "min" = none
  z_range : mg "range" = none
  z_set : mg "set" = none
  z_sorted : mg "sorted" = none
  z_str : mg "str" = none
  z_tuple : mg "tuple" = none
  a_MARKS : Addr
  c_MARKS : mg "MARKS" = some (.ref a_MARKS)
  m_MARKS : ∀ H, SqT K H a_MARKS [.str "0", .str "1"]
  t_MOST_EVENTS : Tok
  c_MOST_EVENTS : mg "MOST_EVENTS" = some (.int 100 t_MOST_EVENTS)
  t_MOST_ROOM : Tok
  c_MOST_ROOM : mg "MOST_ROOM" = some (.int 6 t_MOST_ROOM)
  t_MOST_WIDE : Tok
  c_MOST_WIDE : mg "MOST_WIDE" = some (.int 4 t_MOST_WIDE)
  t_OVER : Tok
  c_OVER : mg "OVER" = some (.str "over" t_OVER)
  t_UNDER : Tok
  c_UNDER : mg "UNDER" = some (.str "under" t_UNDER)
/-! ### heaps -/
/-- all but d stays -/
def Exd (d : Addr) (H H' : Hp) : Prop := ∀ a o, H a = some o → a ≠ d → H' a = some o
theorem Exd.refl (d : Addr) (H : Hp) : Exd d H H := fun _ _ h _ => h
theorem Exd.trans {d : Addr} {H H1 H2 : Hp} (a : Exd d H H1) (b : Exd d H1 H2) : Exd d H H2 := fun x o h n => b x o (a x o h n) n
theorem Exd.of {d : Addr} {H H1 : Hp} (a : Ex H H1) : Exd d H H1 := fun x o h _ => a x o h
theorem Exd.upd {d : Addr} {H H1 : Hp} {o : HO} (a : Exd d H H1) : Exd d H (L2.upd H1 d o) := fun x o h n => by
  rw [upd_ne n]
  exact a x o h n
theorem ifP {c A B : Prop} [Decidable c] (h : c) (k : A) : if c then A else B := by
  rw [if_pos h]
  exact k
theorem ifN {c A B : Prop} [Decidable c] (h : ¬ c) (k : B) : if c then A else B := by
  rw [if_neg h]
  exact k
theorem evt_use {tt : TT} {σ : L2.St} {H : Hp} {b : Bool} {Q : Bool → Hp → Prop} (h : EvT tt σ H b) (k : ∀ H2, Ex H H2 → Q b H2) : tt σ H Q := h H (Ex.refl H) Q k
theorem lo62 (n : Nat) : -(2 ^ 62 : Int) ≤ (n : Int) := by omega
theorem hi62 {n : Nat} (h : n ≤ 1000) : (n : Int) < 2 ^ 62 := by omega
theorem ats {α : Type} {xs : List α} {z : Int} {j : Nat} {v : α} (e : z = (j : Int)) (h : xs[j]? = some v) : atI xs z = some v := by
  rw [e]
  exact atI_nat h
/-- the dice: two numbers and the great ones that are left -/
def Dice (H : Hp) (d : Addr) : Prop := ∃ (s c : Int) (r : List Int), H d = some (.lst ((s :: c :: r).map V.int)) ∧ 0 ≤ s ∧ s < 2147483647 ∧ 0 ≤ c ∧ ∀ x ∈ r, 0 ≤ x
def sp_l_off : Sp := fun vs H Q _ => ∃ (d : Addr) (n : Int), vs = [.ref d, .int n] ∧ Dice H d ∧ 0 < n ∧ n < 1073741824 ∧ ∀ (x : Int) (H' : Hp), 0 ≤ x → x < n → Exd d H H' → Dice H' d → Q (.int x) H'
def sp_l_dice (K : PySem.W.Frag) : Sp := fun vs H Q _ => ∃ (a : Addr) (ns : List Int), vs = [.ref a, .int 0] ∧ SqL K H a (ns.map V.int) ∧ ns.length ≤ 63 ∧ ∀ (d : Addr) (H' : Hp), H d = none → Ex H H' → Dice H' d → Q (.ref d) H'
section
variable {P : Program} {w : World} {K : PySem.W.Frag} {mg : Str → Option Value} {base : Heap}
theorem Dice.mono {H H' : Hp} {d : Addr} (e : Ex H H') (h : Dice H d) : Dice H' d := by
  obtain ⟨s, c, r, h, h1⟩ := h
  exact ⟨s, c, r, e _ _ h, h1⟩
theorem Dice.upd {H : Hp} {d p : Addr} {o : HO} (h : Dice H d) (n : d ≠ p) : Dice (L2.upd H p o) d := by
  obtain ⟨s, c, r, h, h1⟩ := h
  exact ⟨s, c, r, by rw [upd_ne n]; exact h, h1⟩
theorem Dice.ne {H : Hp} {d p : Addr} (h : Dice H d) (n : H p = none) : d ≠ p := by
  obtain ⟨s, c, r, h, _⟩ := h
  exact ne_of_none h n
/-- the law's own promise -/
def sp_law (K : PySem.W.Frag) : Sp := fun vs H Q _ => ∃ (a : Addr) (ns : List Int), vs = [.ref a] ∧ SqL K H a (ns.map V.int) ∧ ns.length ≤ 63 ∧ ∀ H', Q (.bl true) H'
end
/-! ### words -/
def bit (b : Bool) : Nat := if b then 49 else 48
def wd (bs : List Bool) : Str := ⟨(bs.map bit).toArray⟩
abbrev wv (bs : List Bool) : V := .str (wd bs)
theorem str0 : ("0" : Str) = wd [false] := by decide +kernel
theorem str1 : ("1" : Str) = wd [true] := by decide +kernel
theorem strE : ("" : Str) = wd [] := by decide +kernel
theorem wd_app (a b : List Bool) : wd a ++ wd b = wd (a ++ b) := by
  show Str.append (wd a) (wd b) = wd (a ++ b)
  simp [Str.append, wd, List.map_append]
theorem wd_len (a : List Bool) : (wd a).length = a.length := by
  show (List.map bit a).toArray.size = a.length
  simp
theorem bit_inj {a b : Bool} (h : bit a = bit b) : a = b := by
  revert h
  cases a <;> cases b <;> decide
theorem map_bit_inj : ∀ {a b : List Bool}, a.map bit = b.map bit → a = b
  | [], [], _ => rfl
  | [], _ :: _, h => by cases h
  | _ :: _, [], h => by cases h
  | x :: a, y :: b, h => by
    have h : bit x :: a.map bit = bit y :: b.map bit := h
    injection h with h1 h2
    rw [bit_inj h1, map_bit_inj h2]
theorem wd_inj {a b : List Bool} (h : wd a = wd b) : a = b := by
  have h : (a.map bit).toArray = (b.map bit).toArray := congrArg Str.cps h
  exact map_bit_inj (by simpa using congrArg Array.toList h)
theorem wv_inj {a b : List Bool} (h : wv a = wv b) : a = b := wd_inj (V.str.inj h)
theorem wd_toList (a : List Bool) : (wd a).cps.toList = a.map bit := by
  show (a.map bit).toArray.toList = _
  simp
theorem sgn (b : Bool) : (⟨#[bit b]⟩ : Str) = wd [b] := rfl
theorem small9 {n : Nat} (h : n ≤ 1000) : n ≤ sizeLine := Nat.le_of_lt (small1000 h)
/-- all words, as numbers rise; the mirrored way -/
def plainW : Nat → List (List Bool)
  | 0 => [[]]
  | n + 1 => (plainW n).map (false :: ·) ++ (plainW n).map (true :: ·)
def grayW : Nat → List (List Bool)
  | 0 => [[]]
  | n + 1 => (grayW n).map (false :: ·) ++ (grayW n).reverse.map (true :: ·)
theorem plainW_len : ∀ n, (plainW n).length = 2 ^ n
  | 0 => rfl
  | n + 1 => by
    show ((plainW n).map _ ++ (plainW n).map _).length = _
    rw [List.length_append, List.length_map, List.length_map, plainW_len n, Nat.pow_succ]
    omega
theorem grayW_len : ∀ n, (grayW n).length = 2 ^ n
  | 0 => rfl
  | n + 1 => by
    show ((grayW n).map _ ++ (grayW n).reverse.map _).length = _
    rw [List.length_append, List.length_map, List.length_map, List.length_reverse, grayW_len n, Nat.pow_succ]
    omega
theorem plainW_wide : ∀ n, ∀ w ∈ plainW n, w.length = n
  | 0, w, h => by
    cases (List.mem_singleton.mp h)
    rfl
  | n + 1, w, h => by
    rcases List.mem_append.mp h with h | h <;> obtain ⟨u, hu, rfl⟩ := List.mem_map.mp h <;> simp [plainW_wide n u hu]
theorem grayW_wide : ∀ n, ∀ w ∈ grayW n, w.length = n
  | 0, w, h => by
    cases (List.mem_singleton.mp h)
    rfl
  | n + 1, w, h => by
    rcases List.mem_append.mp h with h | h <;> obtain ⟨u, hu, rfl⟩ := List.mem_map.mp h
    · simp [grayW_wide n u hu]
    · simp [grayW_wide n u (List.mem_reverse.mp hu)]
theorem pow16 {n : Nat} (h : n ≤ 4) : 2 ^ n ≤ 16 := by
  have : n = 0 ∨ n = 1 ∨ n = 2 ∨ n = 3 ∨ n = 4 := by omega
  rcases this with rfl | rfl | rfl | rfl | rfl <;> decide
/-! ### comprehensions whose element is a value -/
section
variable {K : PySem.W.Frag}
/-- over a list; the test's answer p, the element g -/
theorem lcFM {α : Type} {a : Addr} (l : List α) (ev : α → V) (p : α → Bool) (g : α → V) {j : Nat} {tt : TT} {te : TE} {vs : List Nat} {σ : L2.St} {H1 : Hp} {D : Addr} {Qd : Hp → Prop}
    (hx : SqL K H1 a (l.map ev)) (hz : l.length ≤ 1000) (hD : H1 D = none) (hw : ∀ x, wipe ((wipe σ vs).set j (some x)) vs = wipe σ vs)
    (hs : ∀ x ∈ l, ∀ H, Ex H1 H → ∀ (Y : VK) (N : Hp → Prop), (∀ H2, Ex H H2 → if p x = true then Y (g x) H2 else N H2) → tt ((wipe σ vs).set j (some (ev x))) H fun b H3 => if b = true then te ((wipe σ vs).set j (some (ev x))) H3 Y else N H3)
    (hd : ∀ H2, Ex H1 H2 → H2 D = some (.lst ((l.filter p).map g)) → Qd H2) :
    ∃ W : Nat → Nat → Hp → Prop, (∃ m, W 0 m (upd H1 D (.lst []))) ∧ ∀ i m H, W i m H →
      ((Itl K a).stop i H ∧ Qd H) ∨ ((Itl K a).go i H ∧ ∃ Nx : Hp → Prop, (∀ H', Nx H' → ∃ m', m' < m ∧ W (i + 1) m' H') ∧ ∀ x H', (Itl K a).yld i H x H' → (gName j) x (wipe σ vs) H' fun σ2 H2 => wipe σ2 vs = wipe σ vs ∧ tt σ2 H2 fun b H3 =>
        if b = true then te σ2 H3 fun y H4 => ∃ acc, H4 D = some (.lst acc) ∧ acc.length < sizeLine ∧ Nx (upd H4 D (.lst (acc ++ [y]))) else Nx H3) := by
  refine lc_list (xs := l.map ev) (fun i H => Ex H1 H ∧ H D = some (.lst (((l.take i).filter p).map g))) ⟨Ex.new hD, upd_same⟩ (fun i H _ h => ex_l h.1 hx) (fun i x H hi h => ?_) (fun H h => ?_)
  · obtain ⟨y, hy, rfl⟩ : ∃ y, l[i]? = some y ∧ ev y = x := by
      rw [List.getElem?_map] at hi
      cases e : l[i]? with
      | none => rw [e] at hi; cases hi
      | some y => rw [e] at hi; exact ⟨y, rfl, Option.some.inj hi⟩
    have hm : y ∈ l := List.mem_of_getElem? hy
    have ht : l.take (i + 1) = l.take i ++ [y] := by rw [List.take_add_one, hy]; rfl
    refine ⟨hw _, hs y hm H h.1 _ _ fun H2 e2 => ?_⟩
    have hl : (((l.take i).filter p).map g).length < sizeLine := by
      rw [List.length_map]
      refine small1000 (Nat.le_trans (List.length_filter_le _ _) ?_)
      rw [List.length_take]
      omega
    by_cases hp : p y = true
    · rw [if_pos hp]
      refine ⟨_, e2 _ _ h.2, hl, Ex.mut (h.1.trans e2) hD, ?_⟩
      rw [upd_same, ht, List.filter_append, List.map_append]
      simp [hp]
    · rw [if_neg hp]
      refine ⟨h.1.trans e2, ?_⟩
      rw [e2 _ _ h.2, ht, List.filter_append, List.map_append]
      simp [hp]
  · refine hd H h.1 ?_
    rw [h.2, List.length_map, List.take_length]
theorem lcM {α : Type} {a : Addr} (l : List α) (ev : α → V) (g : α → V) {j : Nat} {te : TE} {vs : List Nat} {σ : L2.St} {H1 : Hp} {D : Addr} {Qd : Hp → Prop}
    (hx : SqL K H1 a (l.map ev)) (hz : l.length ≤ 1000) (hD : H1 D = none) (hw : ∀ x, wipe ((wipe σ vs).set j (some x)) vs = wipe σ vs)
    (hs : ∀ x ∈ l, ∀ H, Ex H1 H → ∀ (Y : VK), (∀ H2, Ex H H2 → Y (g x) H2) → te ((wipe σ vs).set j (some (ev x))) H Y)
    (hd : ∀ H2, Ex H1 H2 → H2 D = some (.lst (l.map g)) → Qd H2) :
    ∃ W : Nat → Nat → Hp → Prop, (∃ m, W 0 m (upd H1 D (.lst []))) ∧ ∀ i m H, W i m H →
      ((Itl K a).stop i H ∧ Qd H) ∨ ((Itl K a).go i H ∧ ∃ Nx : Hp → Prop, (∀ H', Nx H' → ∃ m', m' < m ∧ W (i + 1) m' H') ∧ ∀ x H', (Itl K a).yld i H x H' → (gName j) x (wipe σ vs) H' fun σ2 H2 => wipe σ2 vs = wipe σ vs ∧ tYes σ2 H2 fun b H3 =>
        if b = true then te σ2 H3 fun y H4 => ∃ acc, H4 D = some (.lst acc) ∧ acc.length < sizeLine ∧ Nx (upd H4 D (.lst (acc ++ [y]))) else Nx H3) :=
  lcFM l ev (fun _ => true) g hx hz hD hw (fun x hm H e Y N h => iteT (B := N H) (hs x hm H e Y fun H2 e2 => by simpa using h H2 e2)) (fun H2 e h => hd H2 e (by rw [h, List.filter_eq_self.mpr (fun _ _ => rfl)]))
/-- over range(n) -/
theorem lcRF (n : Nat) (p : Nat → Bool) (g : Nat → V) {j : Nat} {tt : TT} {te : TE} {vs : List Nat} {σ : L2.St} {H1 : Hp} {D : Addr} {Qd : Hp → Prop} {z : Int}
    (hz0 : z = (n : Int)) (hz : n ≤ 1000) (hD : H1 D = none) (hw : ∀ x, wipe ((wipe σ vs).set j (some x)) vs = wipe σ vs)
    (hs : ∀ i, i < n → ∀ H, Ex H1 H → ∀ (Y : VK) (N : Hp → Prop), (∀ H2, Ex H H2 → if p i = true then Y (g i) H2 else N H2) → tt ((wipe σ vs).set j (some (.int (i : Int)))) H fun b H3 => if b = true then te ((wipe σ vs).set j (some (.int (i : Int)))) H3 Y else N H3)
    (hd : ∀ H2, Ex H1 H2 → H2 D = some (.lst (((List.range n).filter p).map g)) → Qd H2) :
    ∃ W : Nat → Nat → Hp → Prop, (∃ m, W 0 m (upd H1 D (.lst []))) ∧ ∀ i m H, W i m H →
      ((Itr 0 z.toNat).stop i H ∧ Qd H) ∨ ((Itr 0 z.toNat).go i H ∧ ∃ Nx : Hp → Prop, (∀ H', Nx H' → ∃ m', m' < m ∧ W (i + 1) m' H') ∧ ∀ x H', (Itr 0 z.toNat).yld i H x H' → (gName j) x (wipe σ vs) H' fun σ2 H2 => wipe σ2 vs = wipe σ vs ∧ tt σ2 H2 fun b H3 =>
        if b = true then te σ2 H3 fun y H4 => ∃ acc, H4 D = some (.lst acc) ∧ acc.length < sizeLine ∧ Nx (upd H4 D (.lst (acc ++ [y]))) else Nx H3) := by
  have hn : z.toNat = n := by omega
  refine lc_range (lo := 0) (n := z.toNat) (fun i H => Ex H1 H ∧ H D = some (.lst (((List.range i).filter p).map g))) ⟨Ex.new hD, upd_same⟩ (fun i H hi h => ?_) (fun H h => ?_)
  · have e0 : (0 : Int) + (i : Int) = (i : Int) := Int.zero_add _
    rw [e0]
    refine ⟨hw _, hs i (by omega) H h.1 _ _ fun H2 e2 => ?_⟩
    have hl : (((List.range i).filter p).map g).length < sizeLine := by
      rw [List.length_map]
      refine small1000 (Nat.le_trans (List.length_filter_le _ _) ?_)
      rw [List.length_range]
      omega
    by_cases hp : p i = true
    · rw [if_pos hp]
      refine ⟨_, e2 _ _ h.2, hl, Ex.mut (h.1.trans e2) hD, ?_⟩
      rw [upd_same, List.range_succ, List.filter_append, List.map_append]
      simp [hp]
    · rw [if_neg hp]
      refine ⟨h.1.trans e2, ?_⟩
      rw [e2 _ _ h.2, List.range_succ, List.filter_append, List.map_append]
      simp [hp]
  · refine hd H h.1 ?_
    rw [h.2, hn]
theorem lcR (n : Nat) (g : Nat → V) {j : Nat} {te : TE} {vs : List Nat} {σ : L2.St} {H1 : Hp} {D : Addr} {Qd : Hp → Prop} {z : Int}
    (hz0 : z = (n : Int)) (hz : n ≤ 1000) (hD : H1 D = none) (hw : ∀ x, wipe ((wipe σ vs).set j (some x)) vs = wipe σ vs)
    (hs : ∀ i, i < n → ∀ H, Ex H1 H → ∀ (Y : VK), (∀ H2, Ex H H2 → Y (g i) H2) → te ((wipe σ vs).set j (some (.int (i : Int)))) H Y)
    (hd : ∀ H2, Ex H1 H2 → H2 D = some (.lst ((List.range n).map g)) → Qd H2) :
    ∃ W : Nat → Nat → Hp → Prop, (∃ m, W 0 m (upd H1 D (.lst []))) ∧ ∀ i m H, W i m H →
      ((Itr 0 z.toNat).stop i H ∧ Qd H) ∨ ((Itr 0 z.toNat).go i H ∧ ∃ Nx : Hp → Prop, (∀ H', Nx H' → ∃ m', m' < m ∧ W (i + 1) m' H') ∧ ∀ x H', (Itr 0 z.toNat).yld i H x H' → (gName j) x (wipe σ vs) H' fun σ2 H2 => wipe σ2 vs = wipe σ vs ∧ tYes σ2 H2 fun b H3 =>
        if b = true then te σ2 H3 fun y H4 => ∃ acc, H4 D = some (.lst acc) ∧ acc.length < sizeLine ∧ Nx (upd H4 D (.lst (acc ++ [y]))) else Nx H3) :=
  lcRF n (fun _ => true) g hz0 hz hD hw (fun i hi H e Y N h => iteT (B := N H) (hs i hi H e Y fun H2 e2 => by simpa using h H2 e2)) (fun H2 e h => hd H2 e (by rw [h, List.filter_eq_self.mpr (fun _ _ => rfl)]))
end
section
variable {K : PySem.W.Frag}
/-- a comprehension over anything that is walked -/
theorem lcW {α : Type} {J : It} {Gd : Hp → Prop} (l : List α) (ev : α → V) (p : α → Bool) (g : α → V) (wk : Walk J l.length Gd (fun i H x H' => H' = H ∧ ∃ y, l[i]? = some y ∧ x = ev y)) {j : Nat} {tt : TT} {te : TE} {vs : List Nat} {σ : L2.St} {H1 : Hp} {D : Addr} {Qd : Hp → Prop}
    (hG : ∀ H, Ex H1 H → Gd H) (hz : l.length ≤ 1000) (hD : H1 D = none) (hw : ∀ x, wipe ((wipe σ vs).set j (some x)) vs = wipe σ vs)
    (hs : ∀ x ∈ l, ∀ H, Ex H1 H → ∀ (Y : VK) (N : Hp → Prop), (∀ H2, Ex H H2 → if p x = true then Y (g x) H2 else N H2) → tt ((wipe σ vs).set j (some (ev x))) H fun b H3 => if b = true then te ((wipe σ vs).set j (some (ev x))) H3 Y else N H3)
    (hd : ∀ H2, Ex H1 H2 → H2 D = some (.lst ((l.filter p).map g)) → Qd H2) :
    ∃ W : Nat → Nat → Hp → Prop, (∃ m, W 0 m (upd H1 D (.lst []))) ∧ ∀ i m H, W i m H →
      (J.stop i H ∧ Qd H) ∨ (J.go i H ∧ ∃ Nx : Hp → Prop, (∀ H', Nx H' → ∃ m', m' < m ∧ W (i + 1) m' H') ∧ ∀ x H', J.yld i H x H' → (gName j) x (wipe σ vs) H' fun σ2 H2 => wipe σ2 vs = wipe σ vs ∧ tt σ2 H2 fun b H3 =>
        if b = true then te σ2 H3 fun y H4 => ∃ acc, H4 D = some (.lst acc) ∧ acc.length < sizeLine ∧ Nx (upd H4 D (.lst (acc ++ [y]))) else Nx H3) := by
  refine lc_it wk (fun i H => Ex H1 H ∧ H D = some (.lst (((l.take i).filter p).map g))) ⟨Ex.new hD, upd_same⟩ (fun i H _ h => hG H h.1) (fun i x H H' hi h hy => ?_) (fun H h => ?_)
  · obtain ⟨rfl, y, hy, rfl⟩ := hy
    have hm : y ∈ l := List.mem_of_getElem? hy
    have ht : l.take (i + 1) = l.take i ++ [y] := by rw [List.take_add_one, hy]; rfl
    refine ⟨hw _, hs y hm _ h.1 _ _ fun H2 e2 => ?_⟩
    have hl : (((l.take i).filter p).map g).length < sizeLine := by
      rw [List.length_map]
      refine small1000 (Nat.le_trans (List.length_filter_le _ _) ?_)
      rw [List.length_take]
      omega
    by_cases hp : p y = true
    · rw [if_pos hp]
      refine ⟨_, e2 _ _ h.2, hl, Ex.mut (h.1.trans e2) hD, ?_⟩
      rw [upd_same, ht, List.filter_append, List.map_append]
      simp [hp]
    · rw [if_neg hp]
      refine ⟨h.1.trans e2, ?_⟩
      rw [e2 _ _ h.2, ht, List.filter_append, List.map_append]
      simp [hp]
  · refine hd H h.1 ?_
    rw [h.2, List.take_length]
theorem walk_sgn (z : Str) : Walk (Its z) z.cps.toList.length (fun _ => True) (fun i H x H' => H' = H ∧ ∃ y, z.cps.toList[i]? = some y ∧ x = V.str ⟨#[y]⟩) := by
  rw [Array.length_toList]
  exact walk_str.mono (fun _ h => h) (fun i H x H' _ _ ⟨h1, c, h2, h3⟩ => ⟨h1, c, by rw [Array.getElem?_toList]; exact h2, h3⟩)
theorem cutTake {xs : List V} {n : Nat} : cutV xs none (some (n : Int)) = xs.take n := by
  unfold cutV
  rw [show HT.sIx xs.length xs.length (some (n : Int)) = min n xs.length from HT.sIx_nat xs.length xs.length n, HT.sIx_none, List.drop_zero, Nat.sub_zero]
  exact List.take_eq_take_iff.mpr (by omega)
theorem cutDrop {xs : List V} {n : Nat} : cutV xs (some (n : Int)) none = xs.drop n := by
  unfold cutV
  rw [show HT.sIx xs.length 0 (some (n : Int)) = min n xs.length from HT.sIx_nat xs.length 0 n, HT.sIx_none]
  by_cases h : n ≤ xs.length
  · rw [Nat.min_eq_left h, List.take_of_length_le (by simp)]
  · rw [Nat.min_eq_right (by omega), List.drop_of_length_le (Nat.le_refl _), List.drop_of_length_le (by omega)]
    simp
theorem inV_wv (w : List Bool) (l : List (List Bool)) : inV (wv w) (l.map wv) = decide (w ∈ l) := by
  unfold inV
  rw [List.any_map]
  by_cases h : w ∈ l
  · rw [decide_eq_true h, List.any_eq_true]
    exact ⟨w, h, by simp [eqV]⟩
  · rw [decide_eq_false h, List.any_eq_false]
    intro x hx he
    have he : eqV (wv x) (wv w) = true := he
    refine h ?_
    have : wd x = wd w := by simpa [eqV] using he
    rw [← wd_inj this]
    exact hx
theorem flatW (l : List (List Bool)) : (l.map wv).all flatV = true := by
  rw [List.all_eq_true]
  intro x hx
  obtain ⟨w, _, rfl⟩ := List.mem_map.mp hx
  rfl
end
theorem atW {w : List Bool} {i : Nat} {z : Int} (e : z = (i : Int)) (h : i < w.length) : atI (wd w).cps.toList z = some (bit (w.getD i false)) := by
  refine ats e ?_
  rw [wd_toList, List.getElem?_map, List.getD_eq_getElem?_getD, List.getElem?_eq_getElem h]
  rfl
theorem dec_sgn (a b : Bool) : (!decide (V.str ⟨#[bit a]⟩ = V.str ⟨#[bit b]⟩)) = (a != b) := by
  cases a <;> cases b <;> decide
theorem getDW {ws : List (List Bool)} {i : Nat} (h : i < ws.length) : (ws.map wv)[i]? = some (wv (ws.getD i [])) := by
  rw [List.getElem?_map, List.getD_eq_getElem?_getD, List.getElem?_eq_getElem h]
  rfl
theorem getD_mem {ws : List (List Bool)} {i : Nat} (h : i < ws.length) : ws.getD i [] ∈ ws := by
  rw [List.getD_eq_getElem?_getD, List.getElem?_eq_getElem h]
  exact List.getElem_mem h
/-! ### data of a bounded depth: None, ints, texts, lists and tuples -/
def Leaf (v : V) (d : PyData) : Prop := (v = .non ∧ d = .none) ∨ (∃ i, v = .int i ∧ d = .int i) ∨ (∃ x, v = .str x ∧ d = .str x)
def Da (H : Hp) : Nat → V → PyData → Prop
  | 0, v, d => Leaf v d
  | n + 1, v, d => Leaf v d ∨ (∃ a xs ds, v = .ref a ∧ d = .list ds ∧ H a = some (.lst xs) ∧ xs.length ≤ 1000 ∧ Paired (Da H n) xs ds) ∨ (∃ a xs ds, v = .ref a ∧ d = .tuple ds ∧ H a = some (.tup xs) ∧ xs.length ≤ 1000 ∧ Paired (Da H n) xs ds)
theorem paired_imp {α β : Type} {R S : α → β → Prop} (h : ∀ a b, R a b → S a b) : ∀ {xs : List α} {ys : List β}, Paired R xs ys → Paired S xs ys
  | _, _, .nil => .nil
  | _, _, .cons r t => .cons (h _ _ r) (paired_imp h t)
theorem Da.mono {H H' : Hp} (e : Ex H H') : ∀ {n : Nat} {v : V} {d : PyData}, Da H n v d → Da H' n v d
  | 0, _, _, h => h
  | n + 1, _, _, h => by
    rcases h with h | ⟨a, xs, ds, h1, h2, h3, h4, h5⟩ | ⟨a, xs, ds, h1, h2, h3, h4, h5⟩
    · exact .inl h
    · exact .inr (.inl ⟨a, xs, ds, h1, h2, e _ _ h3, h4, paired_imp (fun _ _ => Da.mono e) h5⟩)
    · exact .inr (.inr ⟨a, xs, ds, h1, h2, e _ _ h3, h4, paired_imp (fun _ _ => Da.mono e) h5⟩)
theorem Da.leaf {H : Hp} {v : V} {d : PyData} (h : Leaf v d) : ∀ {n : Nat}, Da H n v d
  | 0 => h
  | _ + 1 => .inl h
theorem Da.int {H : Hp} {n : Nat} (i : Int) : Da H n (.int i) (.int i) := Da.leaf (.inr (.inl ⟨i, rfl, rfl⟩))
theorem Da.str {H : Hp} {n : Nat} (x : Str) : Da H n (.str x) (.str x) := Da.leaf (.inr (.inr ⟨x, rfl, rfl⟩))
theorem Da.non {H : Hp} {n : Nat} : Da H n .non .none := Da.leaf (.inl ⟨rfl, rfl⟩)
theorem Da.lst {H : Hp} {n : Nat} {a : Addr} {xs : List V} {ds : List PyData} (h : H a = some (.lst xs)) (l : xs.length ≤ 1000) (p : Paired (Da H n) xs ds) : Da H (n + 1) (.ref a) (.list ds) := .inr (.inl ⟨a, xs, ds, rfl, rfl, h, l, p⟩)
theorem Da.tup {H : Hp} {n : Nat} {a : Addr} {xs : List V} {ds : List PyData} (h : H a = some (.tup xs)) (l : xs.length ≤ 1000) (p : Paired (Da H n) xs ds) : Da H (n + 1) (.ref a) (.tuple ds) := .inr (.inr ⟨a, xs, ds, rfl, rfl, h, l, p⟩)
theorem paired_map {α β γ : Type} {R : α → β → Prop} (f : γ → α) (g : γ → β) : ∀ (l : List γ), (∀ x ∈ l, R (f x) (g x)) → Paired R (l.map f) (l.map g)
  | [], _ => .nil
  | x :: l, h => .cons (h x List.mem_cons_self) (paired_map f g l fun y hy => h y (List.mem_cons_of_mem _ hy))
theorem Da.strs {H : Hp} {n : Nat} {a : Addr} {l : List (List Bool)} (h : H a = some (.lst (l.map wv))) (hl : l.length ≤ 1000) : Da H (n + 1) (.ref a) (.list (l.map fun w => .str (wd w))) :=
  Da.lst h (by simpa using hl) (paired_map _ _ l fun w _ => Da.str _)
theorem paired_at {α β : Type} {R : α → β → Prop} : ∀ {xs : List α} {ys : List β} {i : Nat}, Paired R xs ys → i < ys.length → ∃ x y, xs[i]? = some x ∧ ys[i]? = some y ∧ R x y
  | _, _, i, .nil, h => absurd h (Nat.not_lt_zero _)
  | _, _, 0, .cons r _, _ => ⟨_, _, rfl, rfl, r⟩
  | _, _, i + 1, .cons _ t, h => paired_at (i := i) t (Nat.lt_of_succ_lt_succ h)
theorem paired_len {α β : Type} {R : α → β → Prop} : ∀ {xs : List α} {ys : List β}, Paired R xs ys → xs.length = ys.length
  | _, _, .nil => rfl
  | _, _, .cons _ t => congrArg (· + 1) (paired_len t)
/-! ### data compared -/
def Sd : Nat → PyData → Prop
  | _, .none => True
  | _, .bool _ => True
  | _, .int _ => True
  | _, .str x => PyData.strOk x = true
  | 0, _ => False
  | n + 1, .list ds => ∀ d ∈ ds, Sd n d
  | n + 1, .tuple ds => ∀ d ∈ ds, Sd n d
  | _ + 1, .dict _ => False
theorem strOk_wd (b : List Bool) : PyData.strOk (wd b) = true := by
  unfold PyData.strOk
  rw [← Array.all_toList, wd_toList, List.all_eq_true]
  intro x hx
  obtain ⟨c, _, rfl⟩ := List.mem_map.mp hx
  cases c <;> decide
theorem canAll : ∀ {ds : List PyData}, (∀ d ∈ ds, d.canLay0 = true) → PyData.canLayAll0 ds = true
  | [], _ => rfl
  | d :: ds, h => by
    rw [PyData.canLayAll0, h d List.mem_cons_self, canAll fun x hx => h x (List.mem_cons_of_mem _ hx)]
    rfl
theorem depthAll_le {n : Nat} : ∀ {ds : List PyData}, (∀ d ∈ ds, d.depth ≤ n) → PyData.depthAll ds ≤ n
  | [], _ => by
    rw [PyData.depthAll]
    exact Nat.zero_le _
  | d :: ds, h => by
    rw [PyData.depthAll]
    exact Nat.max_le.mpr ⟨h d List.mem_cons_self, depthAll_le fun x hx => h x (List.mem_cons_of_mem _ hx)⟩
theorem Sd.ok : ∀ {n : Nat} {d : PyData}, Sd n d → d.canLay0 = true ∧ d.depth ≤ n := by
  intro n
  induction n with
  | zero =>
    intro d h
    cases d with
    | none => exact ⟨by rw [PyData.canLay0], by rw [PyData.depth] <;> simp⟩
    | bool b => exact ⟨by rw [PyData.canLay0], by rw [PyData.depth] <;> simp⟩
    | int i => exact ⟨by rw [PyData.canLay0], by rw [PyData.depth] <;> simp⟩
    | str x => exact ⟨by rw [PyData.canLay0]; exact h, by rw [PyData.depth] <;> simp⟩
    | list ds => exact h.elim
    | tuple ds => exact h.elim
    | dict ds => exact h.elim
  | succ n ih =>
    intro d h
    cases d with
    | none => exact ⟨by rw [PyData.canLay0], by rw [PyData.depth] <;> simp⟩
    | bool b => exact ⟨by rw [PyData.canLay0], by rw [PyData.depth] <;> simp⟩
    | int i => exact ⟨by rw [PyData.canLay0], by rw [PyData.depth] <;> simp⟩
    | str x => exact ⟨by rw [PyData.canLay0]; exact h, by rw [PyData.depth] <;> simp⟩
    | list ds => exact ⟨by rw [PyData.canLay0]; exact canAll fun x hx => (ih (h x hx)).1, by rw [PyData.depth]; exact Nat.succ_le_succ (depthAll_le fun x hx => (ih (h x hx)).2)⟩
    | tuple ds => exact ⟨by rw [PyData.canLay0]; exact canAll fun x hx => (ih (h x hx)).1, by rw [PyData.depth]; exact Nat.succ_le_succ (depthAll_le fun x hx => (ih (h x hx)).2)⟩
    | dict ds => exact h.elim
theorem Sd.shaped {n : Nat} {d : PyData} (h : Sd n d) (hn : n ≤ 64) : SeqAt.shaped d = true := by
  obtain ⟨h1, h2⟩ := h.ok
  unfold SeqAt.shaped
  rw [h1, decide_eq_true (Nat.le_trans h2 hn)]
  rfl
theorem dpAll_of {K : PySem.W.Frag} {H : Hp} {R : V → PyData → Prop} (hR : ∀ v d, R v d → Dp K H v d) : ∀ {xs : List V} {ds : List PyData}, Paired R xs ds → DpAll K H xs ds
  | _, _, .nil => .nil
  | _, _, .cons r t => .cons (hR _ _ r) (dpAll_of hR t)
theorem Da.dp {K : PySem.W.Frag} {H : Hp} : ∀ {n : Nat} {v : V} {d : PyData}, Da H n v d → Dp K H v d := by
  have leaf : ∀ {v : V} {d : PyData}, Leaf v d → Dp K H v d := by
    rintro v d (⟨rfl, rfl⟩ | ⟨i, rfl, rfl⟩ | ⟨x, rfl, rfl⟩)
    · exact .non
    · exact .int i
    · exact .str x
  intro n
  induction n with
  | zero => exact fun h => leaf h
  | succ n ih =>
    rintro v d (h | ⟨a, xs, ds, rfl, rfl, h1, h2, h3⟩ | ⟨a, xs, ds, rfl, rfl, h1, h2, h3⟩)
    · exact leaf h
    · exact .lst (SqL.of h1) (dpAll_of (fun _ _ => ih) h3)
    · exact .tup (SqT.of h1) (dpAll_of (fun _ _ => ih) h3)
theorem dpStrs {K : PySem.W.Frag} {H : Hp} : ∀ (l : List Str), DpAll K H (l.map V.str) (l.map PyData.str)
  | [] => .nil
  | x :: l => .cons (.str x) (dpStrs l)
theorem dpL {K : PySem.W.Frag} {H : Hp} {a : Addr} {l : List Str} (h : SqL K H a (l.map V.str)) : Dp K H (.ref a) (.list (l.map PyData.str)) := .lst h (dpStrs l)
theorem sdStrs {n : Nat} {l : List Str} (h : ∀ x ∈ l, PyData.strOk x = true) : Sd (n + 1) (.list (l.map PyData.str)) := fun d hd => by
  obtain ⟨x, hx, rfl⟩ := List.mem_map.mp hd
  cases n <;> exact h x hx
theorem eqvStrs : ∀ (l m : List Str), PyData.eqv (.list (l.map PyData.str)) (.list (m.map PyData.str)) = decide (l = m) := by
  intro l m
  rw [PyData.eqv]
  induction l generalizing m with
  | nil =>
    cases m with
    | nil => rfl
    | cons y m => rfl
  | cons x l ih =>
    cases m with
    | nil => rfl
    | cons y m =>
      show PyData.eqvAll (.str x :: l.map PyData.str) (.str y :: m.map PyData.str) = _
      rw [PyData.eqvAll, ih m, PyData.eqv]
      by_cases h1 : x = y
      · by_cases h2 : l = m
        · simp [h1, h2]
        · simp [h1, h2]
      · simp [h1]
/-! ### sets of texts: set(list of texts), sorted of it, its length -/
section
open PyProof.Rows
def kOf (e : Int × Value) : Str := match e.2 with
  | .str k _ => k
  | _ => Str.empty
def GE (w : World) (e : Int × Value) : Prop := ∃ k tk, e.2 = Value.str k tk ∧ e.1 = hashStr w k
/-- at a stands a set of the texts l; its table rises and may be walked -/
def SetT (w : World) (h : Heap) (a : Addr) (l : List Str) : Prop :=
  ∃ o es ep t, h.get? a = some o ∧ o.ExactSet ∧ o.data = .set es ep t ∧ (∀ e ∈ es.toList, GE w e) ∧ (es.toList.map kOf).Perm l ∧ l.Nodup ∧ es.size < scanBound ∧ t.fits es.size = true ∧ Ris t.place.toList ∧
    (w.params.followText "set-order" = true ∨ t.led = true)
def insS (l : List Str) (k : Str) : List Str := if k ∈ l then l else k :: l
section
variable {P : Program} {w : World} {h h' : Heap} {a : Addr} {l : List Str}
theorem SetT.at (R : SetT w h a l) (k : ∀ o, h.get? a = some o → h'.get? a = some o) : SetT w h' a l := by
  obtain ⟨o, es, ep, t, ho, r⟩ := R
  exact ⟨o, es, ep, t, k o ho, r⟩
theorem ge_is {e : Int × Value} (g : GE w e) (k : Str) : (strKind P w).is k e.2 = true ↔ kOf e = k := by
  obtain ⟨k0, tk, h1, _⟩ := g
  unfold kOf
  rw [h1]
  show Value.isStrOf k (.str k0 tk) = true ↔ k0 = k
  simp [Value.isStrOf]
theorem ge_elems {m : List (Int × Value)} (g : ∀ e ∈ m, GE w e) : ElemsOf (strKind P w) m := fun e he => by
  obtain ⟨k, tk, h1, h2⟩ := g e he
  exact ⟨⟨k, by rw [h1]; exact strKind_is P w k tk, h2⟩, by rw [h1] <;> rfl⟩
theorem ge_mem {m : List (Int × Value)} (g : ∀ e ∈ m, GE w e) (k : Str) : k ∈ m.map kOf ↔ ∃ e ∈ m, (strKind P w).is k e.2 = true := by
  rw [List.mem_map]
  exact ⟨fun ⟨e, he, q⟩ => ⟨e, he, (ge_is (g e he) k).2 q⟩, fun ⟨e, he, q⟩ => ⟨e, he, (ge_is (g e he) k).1 q⟩⟩
theorem SetT.size (R : SetT w h a l) : ∃ o es ep t, h.get? a = some o ∧ o.ExactSet ∧ o.data = .set es ep t ∧ es.size = l.length ∧ t.fits es.size = true := by
  obtain ⟨o, es, ep, t, ho, hx, hd, g, pm, nd, hb, hf, _⟩ := R
  exact ⟨o, es, ep, t, ho, hx, hd, by rw [← pm.length_eq, List.length_map, Array.length_toList], hf⟩
theorem SetT.setOf (R : SetT w h a l) : h.SetOf (strKind P w) a (fun k => decide (k ∈ l)) l.length := by
  obtain ⟨o, es, ep, t, ho, hx, hd, g, pm, nd, hb, hf, _⟩ := R
  refine ⟨o, es, ep, t, ho, hx, hd, ge_elems g, fun k => ?_, hb, hf, by rw [← pm.length_eq, List.length_map, Array.length_toList]⟩
  rw [decide_eq_true_eq, ← pm.mem_iff]
  exact ge_mem g k
end
section
variable {P : Program} {w : World} {A : Around} {E : Value → Shared → Prop} {s : Shared} {a : Addr} {l : List Str}
theorem tail_T {g : Bool → Sem Unit} (hg : ∀ (b : Bool) (s1 : Shared) (Q' : Unit → Shared → Prop), Q' () s1 → wpAny (model P w) A (g b) Q' E s1)
    {o : Obj} {es : Array (Int × Value)} {ep : Nat} {t : SetTable} (ho : s.heap.get? a = some o) (hex : o.ExactSet) (hd : o.data = .set es ep t)
    {es1 : Array (Int × Value)} {t2 : SetTable} {l1 : List Str} (g1 : ∀ e ∈ es1.toList, GE w e) (p1 : (es1.toList.map kOf).Perm l1) (nd1 : l1.Nodup)
    (hb1 : es1.size < scanBound) (hf2 : t2.fits es1.size = true) (hr : Ris t2.place.toList) (hl : w.params.followText "set-order" = true ∨ t2.led = true) {wasDummy : Bool} {R : Option Bool → Shared → Prop}
    (hR : ∀ h', Heap.SameBut a s.heap h' → SetT w h' a l1 → R (some true) { s with heap := h' }) :
    wpAny (model P w) A (do
        storeSet a es1 t2
        if (!wasDummy && t2.tooFull) = true then do
            g (relayAll t2 es1 (SetTable.grown es1.size)).2.2
            storeSet a (relayAll t2 es1 (SetTable.grown es1.size)).1 (relayAll t2 es1 (SetTable.grown es1.size)).2.1
            pure (some true)
          else pure (some true)) R E s := by
  have o1 := store_at (es' := es1) (t' := t2) ho hd
  have s1 := Heap.SameBut.update s.heap a (Obj.putSet es1 t2)
  refine wpAny_bind (wpAny_storeSet_of ho hd ?_ (fits_of_scanBound hb1))
  split
  · have q1 := relayAll_perm t2 es1 (SetTable.grown es1.size)
    have q2 := relayAll_fits t2 es1 (SetTable.grown es1.size)
    have q3 := relayAll_ris t2 es1 (SetTable.grown es1.size)
    have q4 := relayAll_led t2 es1 (SetTable.grown es1.size)
    generalize relayAll t2 es1 (SetTable.grown es1.size) = Z at q1 q2 q3 q4 ⊢
    obtain ⟨es2, t3, gave⟩ := Z
    dsimp only at q1 q2 q3 q4 ⊢
    have z1 : es2.size = es1.size := by rw [← Array.length_toList, q1.length_eq, Array.length_toList]
    have z2 : es2.size < scanBound := by rw [z1]; exact hb1
    refine wpAny_bind (hg _ _ _ (wpAny_bind (wpAny_storeSet_of o1 rfl ?_ (fits_of_scanBound z2))))
    exact wpAny_pure (hR _ (s1.trans (Heap.SameBut.update _ a _)) ⟨_, es2, _, t3, store_at (es' := es2) (t' := t3) o1 rfl, hex, rfl, fun e he => g1 e (q1.mem_iff.mp he), (q1.map kOf).trans p1, nd1, z2, q2, q3, hl.imp id fun z => by rw [q4]; exact z⟩)
  · exact wpAny_pure (hR _ s1 ⟨_, es1, _, t2, o1, hex, rfl, g1, p1, nd1, hb1, hf2, hr, hl⟩)
theorem add_T {k : Str} {tk : Tok} {Q : Bool → Shared → Prop} (R : SetT w s.heap a l) (room : l.length + 1 < scanBound)
    (hQ : ∀ h' b, Heap.SameBut a s.heap h' → SetT w h' a (insS l k) → Q b { s with heap := h' }) :
    wpAny (model P w) A (setAddHashed a (.str k tk) ((strKind P w).hash k)) Q E s := by
  obtain ⟨o, es, ep, t, ho, hex, hd, g, pm, nd, hb, hf, hr, hl⟩ := R
  have hkey : (strKind P w).is k (.str k tk) = true := strKind_is P w k tk
  have hsc : (Value.str k tk).scannable = true := rfl
  have hel : ElemsOf (strKind P w) es.toList := ge_elems g
  unfold setAddHashed setAddHashedIn
  refine wpAny_holding (wpAny_bind (wpAny_setState_of ho hd hf ?_))
  dsimp only
  rw [byScan_of hsc hb hel]
  simp only [↓reduceIte]
  unfold setAddByScan
  refine wpAny_bind (wpAny_bind (wpAny_rule (wpAny_bind (wpAny_setScan_of hkey ho hd hf hel ?_))))
  cases hfi : List.findIdx? (fun e => (strKind P w).is k e.2) es.toList with
  | some j =>
    dsimp only
    obtain ⟨hj, pj, _⟩ := List.findIdx?_eq_some_iff_getElem.mp hfi
    have hk : k ∈ l := pm.mem_iff.mp ((ge_mem (P := P) (w := w) g k).2 ⟨es.toList[j], List.getElem_mem hj, pj⟩)
    refine wpAny_pure (wpAny_pure (hQ s.heap _ (Heap.SameBut.refl a s.heap) ?_))
    rw [insS, if_pos hk]
    exact ⟨o, es, ep, t, ho, hex, hd, g, pm, nd, hb, hf, hr, hl⟩
  | none =>
    dsimp only
    have hk0 : k ∉ es.toList.map kOf := fun z => by
      obtain ⟨e, he, q⟩ := (ge_mem (P := P) (w := w) g k).1 z
      have c := List.findIdx?_eq_none_iff.mp hfi e he
      rw [q] at c
      cases c
    have hk : k ∉ l := fun z => hk0 (pm.mem_iff.mpr z)
    have q1 := layNew_perm t es ((strKind P w).hash k) (.str k tk)
    have q2 := layNew_fits t es ((strKind P w).hash k) (.str k tk)
    have q3 := layNew_ris t es ((strKind P w).hash k) (.str k tk) hr
    have q4 := layNew_led t es ((strKind P w).hash k) (.str k tk)
    generalize layNew t es ((strKind P w).hash k) (.str k tk) = Z at q1 q2 q3 q4 ⊢
    obtain ⟨es1, t1, wasDummy, gave⟩ := Z
    dsimp only at q1 q2 q3 q4 ⊢
    rw [Array.toList_push] at q1
    have pc : es1.toList.Perm (((strKind P w).hash k, Value.str k tk) :: es.toList) := q1.trans (List.perm_append_singleton _ _)
    have pk : (es1.toList.map kOf).Perm (insS l k) := by
      rw [insS, if_neg hk]
      exact (pc.map kOf).trans (List.Perm.cons k pm)
    have g1 : ∀ e ∈ es1.toList, GE w e := fun e he => by
      rcases List.mem_cons.mp (pc.mem_iff.mp he) with z | z
      · rw [z]
        exact ⟨k, tk, rfl, rfl⟩
      · exact g e z
    have nd1 : (insS l k).Nodup := by
      rw [insS, if_neg hk]
      exact List.nodup_cons.mpr ⟨hk, nd⟩
    have hb1 : es1.size < scanBound := by
      rw [← Array.length_toList, pc.length_eq, List.length_cons, ← List.length_map (f := kOf), pm.length_eq]
      exact room
    have hled : w.params.followText "set-order" = true ∨ t1.led = true := hl.imp id fun z => by rw [q4]; exact z
    have fin : ∀ h', Heap.SameBut a s.heap h' → SetT w h' a (insS l k) → Q true { s with heap := h' } := fun h' sb r => hQ h' true sb r
    have hgw : ∀ (b : Bool) {s1 : Shared} {Q' : Unit → Shared → Prop}, Q' () s1 → wpAny (model P w) A (match b with | true => rule "set.scan.the-table-gave-way" | false => pure ()) Q' E s1 :=
      fun b s1 Q' q => by cases b <;> first | exact wpAny_pure q | exact wpAny_rule q
    refine wpAny_bind (hgw _ ?_)
    split
    · refine wpAny_bind ?_
      rw [hashByValue_scannable 8 hsc]
      refine wpAny_pure (tail_T ?_ ho hex hd g1 pk nd1 hb1 ?_ ?_ ?_ ?_)
      · intro b s1 Q' q; cases b <;> first | exact wpAny_pure q | exact wpAny_rule q
      · first | (split <;> first | exact q2 | exact SetTable.fits_plain_off q2) | exact q2
      · first | (split <;> exact q3) | exact q3
      · first | (split <;> exact hled) | exact hled
      · intro h' sb r; dsimp only; exact wpAny_pure (fin h' sb r)
    · refine wpAny_bind (wpAny_pure ?_)
      simp only [↓reduceIte]
      refine tail_T ?_ ho hex hd g1 pk nd1 hb1 q2 q3 hled ?_
      · intro b s1 Q' q; cases b <;> first | exact wpAny_pure q | exact wpAny_rule q
      · intro h' sb r; dsimp only; exact wpAny_pure (fin h' sb r)
end
/-- the members met ahead of place i -/
def metS (val : Nat → Str) (i : Nat) : List Str := ((List.range i).map val).foldl insS []
theorem metS_succ (val : Nat → Str) (i : Nat) : metS val (i + 1) = insS (metS val i) (val i) := by
  unfold metS
  rw [List.range_succ, List.map_append, List.foldl_append]
  rfl
theorem insS_len (l : List Str) (k : Str) : (insS l k).length ≤ l.length + 1 := by
  unfold insS
  split <;> simp
theorem metS_len (val : Nat → Str) : ∀ i, (metS val i).length ≤ i
  | 0 => Nat.le_refl _
  | i + 1 => by
    rw [metS_succ]
    have := insS_len (metS val i) (val i)
    have := metS_len val i
    omega
section
variable {P : Program} {w : World} {A : Around} {R : Result → Shared → Prop} {I : Addr} {fp wr : List Addr} {Gn : Array GenState → Array GenState → Prop} {n : Nat} {Pv : Nat → Value → Prop} {St : Nat → Shared → Prop}
theorem loop_T (W : WalksS P w A.in1 I fp wr Gn n Pv St) (S : Addr) (hSf : S ∉ fp) (val : Nat → Str) (hval : ∀ i v, Pv i v → ∃ t, v = .str (val i) t) (hb : n + 1 < scanBound) :
    ∀ (k i : Nat) (s : Shared), n - i = k → i ≤ n → St i s → SetT w s.heap S (metS val i) → (∀ s', Moved (S :: wr) Gn s s' → SetT w s'.heap S (metS val n) → R (.ok (.ret .none)) s') →
      codeAny (model P w) A (.builtin "set.update.loop" ⟨[.ref S, .ref I], []⟩) R s := by
  have hSw : S ∉ wr := fun h => hSf (W.sub _ h)
  have hsub : ∀ b ∈ wr, b ∈ S :: wr := fun b hb => List.mem_cons_of_mem _ hb
  intro k
  induction k with
  | zero =>
    intro i s hk hi hst hS hR
    obtain rfl : i = n := by omega
    refine codeAny_builtin F.entry_set_update_loop ?_
    rw [Around.under_plainId F.plain_set_update_loop _]
    show wpAny _ A.in1 (pyNext (.ref I) >>= _) _ _ s
    exact wpAny_bind (W.done s _ _ hst fun s' hm => (show wpAny _ A.in1 (ret Value.none) _ _ s' from wpAny_pure (hR s' (hm.mono hsub) (hS.at fun o e => hm.heap S _ hSw e))))
  | succ k ih =>
    intro i s hk hi hst hS hR
    have hlt : i < n := by omega
    refine codeAny_builtin F.entry_set_update_loop ?_
    rw [Around.under_plainId F.plain_set_update_loop _]
    show wpAny _ A.in1 (pyNext (.ref I) >>= _) _ _ s
    refine wpAny_bind (W.item i s _ _ hlt hst fun v s' hP hst' hm => ?_)
    obtain ⟨t, rfl⟩ := hval i v hP
    have hS' : SetT w s'.heap S (metS val i) := hS.at fun o e => hm.heap S _ hSw e
    show wpAny _ A.in1 (holding [Value.str (val i) t] (setAdd S (.str (val i) t)) >>= _) _ _ s'
    refine wpAny_bind (wpAny_holding ?_)
    unfold setAdd
    refine wpAny_holding (wpAny_bind ((strKind P w).pyHash (k := val i) (strKind_is _ _ _ _) ?_))
    have hroom : (metS val i).length + 1 < scanBound := by have := metS_len val i; omega
    refine add_T (s := { s' with toks := s'.toks + 1 }) hS' hroom fun h' b hsb hS2 => ?_
    rw [← metS_succ] at hS2
    refine wpAny_pure ⟨plainId_quiet F.plain_set_update_loop _, ih (i + 1) _ (by omega) hlt (W.frame _ s' _ _ hst' (Nat.le_succ _) fun b hb o e => ?_) hS2 fun s'' hm'' hS'' => ?_⟩
    · exact (hsb.2 b (fun h : b = S => hSf (by rw [← h]; exact hb))).trans e
    · refine hR s'' (Moved.trans W.gtrans ((hm.mono hsub).then_heap (Nat.le_succ _) fun b o hb e => ?_) hm'') hS''
      exact (hsb.2 b (fun h : b = S => hb (by rw [h]; exact List.mem_cons_self))).trans e
end
section
variable {P : Program} {w : World} {A : Around} {E : Value → Shared → Prop} {s : Shared}
abbrev emptyT (w : World) : Obj := { cls := .type "set", dict := none, data := .set #[] 0 (.fresh 0 0 (!w.params.followText "set-order")) }
theorem new_T (a : Value) {Q1 : Value → Shared → Prop} (h : Q1 (.ref s.heap.objs.size) { s with heap := s.heap.push (emptyT w) }) :
    codeAny (model P w) A (.call (.builtin "set.__new__") ⟨[.type "set", a], []⟩) (wants Q1 E) s := by
  refine codeAny_of_tree ?_
  show wpAny _ A.in1 (do checkBuiltinCall "set.__new__" ⟨[.type "set", a], []⟩; again (.builtin "set.__new__" ⟨[.type "set", a], []⟩)) _ _ s
  refine wpAny_bind (wpAny_of_eq (F.newCall_set_1 a) (wpAny_pure ⟨plainId_quiet F.plain_set_new _, codeAny_builtin F.entry_set_new ?_⟩))
  rw [Around.under_plainId F.plain_set_new _]
  unfold Builtin.«set.__new__» Builtin.Frozenset.newClass
  have hsub := sub_set_self
  obtain ⟨hp, g, d, tk, os⟩ := s
  dsimp only
  wp_walk
  refine wpAny_askSetting (wpAny_pure ?_)
  dsimp only
  simp only [newObj]
  exact wpAny_bind (wpAny_alloc (wpAny_pure (wpAny_pure h)))
theorem fresh_T {h : Heap} (w : World) {a : Addr} (e : h.get? a = some (emptyT w)) : SetT w h a [] :=
  ⟨_, #[], 0, _, e, ⟨rfl, rfl, rfl⟩, rfl, (fun e he => by simp at he), (by simp), List.nodup_nil, (by decide), (by rfl), List.Pairwise.nil, by
    show _ ∨ (!w.params.followText "set-order") = true
    cases w.params.followText "set-order"
    · exact .inr rfl
    · exact .inl rfl⟩
set_option maxRecDepth 100000 in
set_option maxHeartbeats 3200000 in
theorem call_set_T {l : Addr} {items : Array Value} {xs : List Str} {Q : Value → Shared → Prop} (hh : A.handled = none) (hl : s.heap.IsList l items) (hi : StrsAre items.toList xs) (hb : items.size + 1 < scanBound)
    (h : ∀ (h' : Heap) (tk : Nat), SetT w h' s.heap.objs.size (xs.foldl insS []) → (∀ b o, b < s.heap.objs.size → s.heap.get? b = some o → h'.get? b = some o) → Q (.ref s.heap.objs.size) { s with heap := h', toks := tk }) :
    wpAny (model P w) A (call (.type "set") [.ref l]) Q E s := by
  have hsz : xs.length = items.size := by rw [← StrsAre.len_eq hi, Array.length_toList]
  have hmet : metS (fun i => xs.getD i Str.empty) items.size = xs.foldl insS [] := by
    unfold metS
    congr 1
    rw [← hsz]
    refine List.ext_getElem (by simp) fun i h1 h2 => ?_
    simp only [List.getElem_map, List.getElem_range]
    rw [List.getD_eq_getElem?_getD, List.getElem?_eq_getElem h2]
    rfl
  obtain ⟨c, tl, hmro⟩ := F.called_set.mro
  have hmade := F.called_set.made
  have hsub := F.called_set.sub
  refine wpAny_call (codeAny_of_tree ?_)
  show wpAny _ _ (callAny (.type "set") _) _ _ _
  refine wpAny_pure ⟨Code.quiet_builtin _ (by decide +kernel), codeAny_builtin F.entry_type_call ?_⟩
  rw [Around.under_plain (weight_type_call_type "set" [.ref l] []) rfl]
  have h1 := F.called_set.notType
  have h2 := F.called_set.canCreate
  have hct := F.typeCall_set_1 (.ref l)
  repeat (any_goals (first | assumption | wp_step))
  refine codeAny_mono (new_T (.ref l) (E := E) (Q1 := fun obj s1 => obj = .ref s.heap.objs.size ∧ s1 = { s with heap := s.heap.push (emptyT w) }) ⟨rfl, rfl⟩) fun r s1 hr => ?_
  cases r with
  | error e => exact hr
  | ok fl =>
    cases fl with
    | ret obj =>
      obtain ⟨rfl, rfl⟩ := hr
      have hS : (s.heap.push (emptyT w)).get? s.heap.objs.size = some (emptyT w) := Heap.get?_push_size _ rfl
      have hT : Shared.TypeIs { s with heap := s.heap.push (emptyT w) } (.ref s.heap.objs.size) "set" := ⟨_, hS, rfl⟩
      have hli := F.called_set.init.lookup
      have hbi := F.called_set.init.bind (.ref s.heap.objs.size)
      repeat (any_goals (first | assumption | wp_step))
      refine codeAny_mono (codeAny_call_builtin (R := wants (fun r s2 => r = .none ∧ ∃ h' tk, s2 = { s with heap := h', toks := tk } ∧ SetT w h' s.heap.objs.size (xs.foldl insS []) ∧
          (∀ b o, b < s.heap.objs.size → s.heap.get? b = some o → h'.get? b = some o)) E) F.called_set.init.plain F.entry_set_init (check_set_init_1 hT ?_)) fun r2 s2 hr2 => ?_
      · obtain ⟨ol, hol, hcl, nl, hdl⟩ := hl
        obtain ⟨ocls, odict, odata, oslots⟩ := ol
        simp only at hcl hdl
        subst hcl; subst hdl
        have hol' : (s.heap.push (emptyT w)).get? l = some { cls := .type "list", dict := odict, data := .seq items nl, slots := oslots } := Heap.get?_push_of_some _ hol
        have hsls := F.sub_list_set
        have hslf := F.sub_list_frozenset
        have hne : (Value.type "list" == Value.type "dict") = false := by decide
        have hl1 : (s.heap.push (emptyT w)).IsList l items := ⟨_, hol', rfl, nl, rfl⟩
        unfold Builtin.«set.__init__» noKeywords Builtin.Frozenset.updateFrom
        generalize hPI : pyIter = PI
        wp_walk
        subst hPI
        refine wpAny_pyIter_list hl1 (wpAny_bind (wpAny_runValue ?_))
        have hlS : l < s.heap.objs.size := Heap.lt_size hol
        have hh3 : A.in1.in1.in1.handled = none := by simp [hh]
        have hneI : l ≠ (s.heap.push (emptyT w)).objs.size := by
          rw [Heap.size_push]
          exact Nat.ne_of_lt (Nat.lt_succ_of_lt hlS)
        have hSf : s.heap.objs.size ∉ [(s.heap.push (emptyT w)).objs.size, l] := by
          rw [Heap.size_push]
          simp only [List.mem_cons, List.mem_singleton, List.not_mem_nil, or_false, not_or]
          exact ⟨Nat.ne_of_lt (Nat.lt_succ_self _), Nat.ne_of_gt hlS⟩
        have hval : ∀ (i : Nat) (v : Value), items[i]? = some v → ∃ t, v = .str ((fun i => xs.getD i Str.empty) i) t := fun i v hv => SS.strs_at hi i v (by rw [Array.getElem?_toList]; exact hv)
        refine loop_T ((Walks.list hh3 _ l hneI items).toS) s.heap.objs.size hSf (fun i => xs.getD i Str.empty) hval hb (items.size - 0) 0 _ (by omega) (Nat.zero_le _)
          ⟨⟨_, Heap.get?_push_size _ rfl, rfl, rfl⟩, (hl1.push _)⟩ ?hS0 ?hR
        case hS0 =>
          exact fresh_T w (Heap.get?_push_of_some _ hS)
        case hR =>
          intro s' hm hS'
          rw [hmet] at hS'
          obtain ⟨h', g', d', tk', os'⟩ := s'
          have eg : g' = s.gens := hm.gens
          have ed : d' = s.drawn := hm.drawn
          have eo : os' = s.os := hm.os
          subst eg; subst ed; subst eo
          show wpAny _ _ _ _ _ _
          refine wpAny_pure ?_
          show wpAny _ _ (ret Value.none) _ _ _
          refine wpAny_pure ⟨rfl, h', tk', rfl, hS', fun b o hb e => ?_⟩
          have hb1 : b ≠ s.heap.objs.size := Nat.ne_of_lt hb
          have hb2 : b ≠ (s.heap.push (emptyT w)).objs.size := by
            rw [Heap.size_push]
            exact Nat.ne_of_lt (Nat.lt_succ_of_lt hb)
          exact hm.heap b o (by simp only [List.mem_cons, List.mem_singleton, List.not_mem_nil, or_false, not_or]; exact ⟨hb1, hb2⟩) (Heap.get?_push_of_some _ (Heap.get?_push_of_some _ e))
      · cases r2 with
        | error e => exact hr2
        | ok fl2 =>
          cases fl2 with
          | ret r =>
            obtain ⟨rfl, h', tk, rfl, hS', hk'⟩ := hr2
            repeat (any_goals (first | assumption | wp_step))
            exact h _ _ hS' hk'
          | _ => exact hr2.elim
    | _ => exact hr.elim
end
section
variable {P : Program} {w : World} {A : Around} {E : Value → Shared → Prop} {s : Shared} {a : Addr}
theorem strs_of : ∀ (l : List Value), (∀ v ∈ l, ∃ k tk, v = Value.str k tk) → StrsAre l (l.map strOf)
  | l, h => strsAre_map l h
theorem sorted_T {l : List Str} {Q : Value → Shared → Prop} (R : SetT w s.heap a l) (hh : A.handled = none) (h64 : l.length < 64)
    (hQ : ∀ s' p (out : Array Value) (c : Nat) (ys : List Str), (∀ b o, s.heap.get? b = some o → s'.heap.get? b = some o) → s'.gens = s.gens → s'.os = s.os → s.heap.objs.size ≤ p →
      s'.heap.get? p = some (seqObj "list" out c) → StrsAre out.toList ys → ys.Perm l → sortedS ys = true → Q (.ref p) s') :
    wpAny (model P w) A (call (.builtin "sorted") [.ref a]) Q E s := by
  obtain ⟨o, es, ep, t, ho, hex, hd, g, pm, nd, hb, hf, hr, hl⟩ := R
  refine Calls.call_function_entry kind_sorted plain_sorted entry_sorted (args_sorted1 _) ?_
  unfold Builtin.«sorted»
  refine wpAny_bind (m := checkCount "sorted" 1 1 _) (wpAny_pure ?_)
  refine wpAny_bind (collect_set (A := A.in1) hh ⟨o, ho, hex.1, hd⟩ hf hb hr hl fun s1 vs k1 hz g1 o1 pv => ?_)
  have hS : StrsAre vs (vs.map strOf) := strs_of vs fun v hv => by
    obtain ⟨e, he, q⟩ := List.mem_map.mp (pv.mem_iff.mp hv)
    obtain ⟨k, tk, h1, _⟩ := g e he
    exact ⟨k, tk, by rw [← q]; exact h1⟩
  have pk : (vs.map strOf).Perm l := by
    have q := pv.map strOf
    rw [List.map_map] at q
    refine q.trans (List.Perm.trans (List.Perm.of_eq ?_) pm)
    refine List.map_congr_left fun e he => ?_
    obtain ⟨k, tk, h1, _⟩ := g e he
    show strOf e.2 = kOf e
    unfold kOf
    rw [h1]
    rfl
  have hvl : vs.length = l.length := by rw [← pk.length_eq, List.length_map]
  refine wpAny_bind (wpAny_newList ?_ (by rw [hvl, sizeLine_eq]; omega))
  have hoL : (s1.heap.push (seqObj "list" vs.toArray 0)).get? s1.heap.objs.size = some (seqObj "list" vs.toArray 0) := Heap.get?_push_size _ rfl
  refine wpAny_bind (wpAny_holding (wpAny_call_entry slot_list_sort ⟨_, hoL, rfl⟩ entry_list_sort (list_sort_treeK strKind_oneLt hoL hS.keysOf (fun v1 v2 rest e => keyKind_strs (by rw [← e]; exact hS)) (by rw [hvl]; exact h64) fun st' a1 a2 => ⟨_, rfl, ?_⟩) (args_list_sort _)))
  obtain ⟨ys, y1, y2, y3⟩ := sorted_out_str hS a1 a2
  obtain ⟨c, hc⟩ := sortedHeap_at (vs := vs) (out := (arrOf st').map (·.2)) hoL
  refine wpAny_pure ⟨_, rfl, hQ _ s1.heap.objs.size _ c ys (fun b u e => ?_) g1 o1 hz hc y1 (y2.trans pk) y3⟩
  have q := k1 b u e
  have hlt := Heap.lt_size q
  show (sortedHeap (s1.heap.push (seqObj "list" vs.toArray 0)) s1.heap.objs.size vs ((arrOf st').map (·.2))).get? b = some u
  rw [sortedHeap_old (Nat.ne_of_lt hlt) (by rw [size_push']; exact Nat.lt_succ_of_lt hlt)]
  exact Heap.get?_push_of_some _ q
end
/-! the same as rules -/
def SetH (w : World) (a : Addr) (l : List Str) : HO := .ext fun h => SetT w h a l
section
variable {X : Cx}
theorem setH_new {w : World} {P : Program} {H : Hp} {h : Heap} {a : Addr} {l : List Str} (R : SetT w h a l) : ObjOk P w H h a (SetH w a l) :=
  ⟨R, (by obtain ⟨o, _, _, _, ho, _⟩ := R; exact ⟨o, ho⟩), fun h1 h2 r k => SetT.at r k⟩
theorem setH_get {pins : List (Addr × Obj)} {σ : L2.St} {H : Hp} {s : Shared} {a : Addr} {l : List Str} (I : Inv X pins σ H s) (ha : H a = some (SetH X.w a l)) : SetT X.w s.heap a l := (I.hok a _ ha).1
def rSetS (K : PySem.W.Frag) (w : World) : List V → Hp → VK → Prop := fun vs H Q => ∃ (b : Addr) (xs : List Str), vs = [V.ref b] ∧ SqL K H b (xs.map V.str) ∧ xs.length ≤ 100 ∧ ∀ p, H p = none → Q (.ref p) (upd H p (SetH w p (xs.foldl insS [])))
theorem cr_setS (hc : X.calm = true) : CallR X (.type "set") (rSetS X.K X.w) := by
  intro pins s σ H vs us Q I r h
  obtain ⟨b, xs, rfl, hb, hx, q⟩ := h
  obtain ⟨its, rv, hl, _⟩ := I.list hb
  rw [Vals.ref1 r]
  have hlen := rv.length
  rw [List.length_map] at hlen
  refine call_set_T (I.ok.hd hc) hl.isList rv.strs (by rw [List.size_toArray, ← hlen]; unfold scanBound; omega) fun h' tk R k => ?_
  have hn : H s.heap.objs.size = none := I.hok.fresh (Nat.le_refl _)
  have J : Inv X pins σ (upd H s.heap.objs.size (SetH X.w s.heap.objs.size (xs.foldl insS []))) { s with heap := h', toks := tk } :=
    I.call (ch := []) (Un.laid (fun b o e => k b o (Heap.lt_size e) e) (Nat.le_refl _) hn) (I.hok.laid (fun b o e => k b o (Heap.lt_size e) e) (Nat.le_refl _) (setH_new R)) I.bare (fun _ z => nomatch z)
  exact ⟨.ref _, _, J, rfl, q _ hn⟩
def rSortSet (w : World) : List V → Hp → VK → Prop := fun vs H Q => ∃ (a : Addr) (l : List Str), vs = [V.ref a] ∧ H a = some (SetH w a l) ∧ l.length < 64 ∧ ∀ (ys : List Str) (p : Addr), ys.Perm l → sortedS ys = true → H p = none → Q (.ref p) (upd H p (.lst (ys.map V.str)))
theorem cr_sortSet (hc : X.calm = true) : CallR X (.builtin "sorted") (rSortSet X.w) := by
  intro pins s σ H vs us Q I r h
  obtain ⟨a, l, rfl, ha, h64, q⟩ := h
  rw [Vals.ref1 r]
  refine sorted_T (setH_get I ha) (I.ok.hd hc) h64 fun s' p out c ys k g o hp hg hi hpm hs => ?_
  have hlen : (ys.map V.str).length ≤ sizeLine := by rw [List.length_map, hpm.length_eq, sizeLine_eq]; omega
  have hn : H p = none := I.hok.fresh hp
  have J : Inv X pins σ (upd H p (.lst (ys.map V.str))) { s with heap := s'.heap, gens := s'.gens, drawn := s'.drawn, toks := s'.toks } :=
    I.call (ch := []) (Un.laid k hp hn) (I.hok.laid k hp ⟨hlen, out.toList, c, vals_of_strs hi, hg⟩) (by rw [g]; exact I.bare) (fun _ z => nomatch z)
  have e : s' = { s with heap := s'.heap, gens := s'.gens, drawn := s'.drawn, toks := s'.toks } := by
    cases s'; cases s; cases o; rfl
  rw [e]
  exact ⟨.ref p, _, J, rfl, q ys p hpm hs hn⟩
def rLenSet (w : World) : List V → Hp → VK → Prop := fun vs H Q => ∃ (a : Addr) (l : List Str), vs = [V.ref a] ∧ H a = some (SetH w a l) ∧ l.length ≤ 100 ∧ Q (.int l.length) H
theorem call_lenSet : CallR X (.builtin "len") (rLenSet X.w) := by
  intro pins s σ H vs us Q I r h
  obtain ⟨a, l, rfl, ha, hl, q⟩ := h
  rw [Vals.ref1 r]
  obtain ⟨o, es, ep, t, ho, hex, hd, hn, hf⟩ := (setH_get I ha).size
  exact call_len_set ho hex hd hf (by rw [hn]; omega) ⟨.int l.length, H, I.tok _, ⟨_, by rw [hn]⟩, q⟩
end
end
/-! ### what is seen while a word turns -/
def mk2 (x y : Bool) : List Bool := if x = y then [x] else [false, true]
def seenZ : List (Bool × Bool) → List (List Bool)
  | [] => [[]]
  | z :: zs => (mk2 z.1 z.2).flatMap fun m => (seenZ zs).map (m :: ·)
def seenW (a b : List Bool) : List (List Bool) := seenZ (a.zip b)
def stepS (F : List (List Bool)) (z : Bool × Bool) : List (List Bool) := F.flatMap fun w => (mk2 z.1 z.2).map fun m => w ++ [m]
theorem seen_fold : ∀ (zs : List (Bool × Bool)) (F : List (List Bool)), zs.foldl stepS F = F.flatMap fun w => (seenZ zs).map (w ++ ·)
  | [], F => by simp [seenZ]
  | z :: zs, F => by
    rw [List.foldl_cons, seen_fold zs]
    simp only [stepS, seenZ, List.flatMap_assoc, List.flatMap_map, List.map_flatMap, List.map_map]
    congr 1
    funext w
    congr 1
    funext m
    refine List.map_congr_left fun u _ => ?_
    simp
def sUp (a b : List Bool) (i : Nat) : List (List Bool) := ((a.zip b).take i).foldl stepS [[]]
theorem sUp_all {a b : List Bool} {n : Nat} (ha : a.length = n) (hb : b.length = n) : sUp a b n = seenW a b := by
  unfold sUp seenW
  rw [List.take_of_length_le (by simp [ha, hb]), seen_fold]
  simp
theorem sUp_succ {a b : List Bool} {i : Nat} (ha : i < a.length) (hb : i < b.length) : sUp a b (i + 1) = stepS (sUp a b i) (a.getD i false, b.getD i false) := by
  unfold sUp
  have h : (a.zip b)[i]? = some (a.getD i false, b.getD i false) := by
    rw [List.getElem?_zip_eq_some]
    rw [List.getD_eq_getElem?_getD, List.getD_eq_getElem?_getD, List.getElem?_eq_getElem ha, List.getElem?_eq_getElem hb]
    exact ⟨rfl, rfl⟩
  rw [List.take_add_one, h, List.foldl_append]
  rfl
theorem mk2_len (x y : Bool) : (mk2 x y).length ≤ 2 := by
  unfold mk2
  split <;> simp
theorem stepS_len (F : List (List Bool)) (z : Bool × Bool) : (stepS F z).length ≤ 2 * F.length := by
  unfold stepS
  induction F with
  | nil => simp
  | cons w F ih =>
    rw [List.flatMap_cons, List.length_append, List.length_map]
    have := mk2_len z.1 z.2
    simp only [List.length_cons]
    omega
theorem sUp_len (a b : List Bool) : ∀ i, (sUp a b i).length ≤ 2 ^ i
  | 0 => by simp [sUp]
  | i + 1 => by
    by_cases h : i < (a.zip b).length
    · have ha : i < a.length := by simp at h; omega
      have hb : i < b.length := by simp at h; omega
      rw [sUp_succ ha hb, Nat.pow_succ]
      have := stepS_len (sUp a b i) (a.getD i false, b.getD i false)
      have := sUp_len a b i
      omega
    · have e : sUp a b (i + 1) = sUp a b i := by
        unfold sUp
        rw [List.take_of_length_le (by omega), List.take_of_length_le (by omega)]
      rw [e, Nat.pow_succ]
      have := sUp_len a b i
      omega
theorem sUp_wide {a b : List Bool} : ∀ {i : Nat}, i ≤ a.length → i ≤ b.length → ∀ w ∈ sUp a b i, w.length = i
  | 0, _, _, w, h => by
    have h : w ∈ [[]] := by simpa [sUp] using h
    rw [List.mem_singleton.mp h]
    rfl
  | i + 1, ha, hb, w, h => by
    rw [sUp_succ (by omega) (by omega)] at h
    obtain ⟨u, hu, hw⟩ := List.mem_flatMap.mp h
    obtain ⟨m, _, rfl⟩ := List.mem_map.mp hw
    simp [sUp_wide (by omega) (by omega) u hu]
theorem seenW_len {a b : List Bool} {n : Nat} (ha : a.length = n) (hb : b.length = n) : (seenW a b).length ≤ 2 ^ n := by
  rw [← sUp_all ha hb]
  exact sUp_len a b n
theorem seenW_wide {a b : List Bool} {n : Nat} (ha : a.length = n) (hb : b.length = n) : ∀ w ∈ seenW a b, w.length = n := by
  rw [← sUp_all ha hb]
  exact sUp_wide (by omega) (by omega)
theorem perm_two {α : Type} {ys : List α} {p q : α} (h : ys.Perm [p, q]) : ys = [p, q] ∨ ys = [q, p] := by
  have hl := h.length_eq
  match ys, hl with
  | [u, v], _ =>
    have hu : u = p ∨ u = q := by simpa using h.mem_iff.mp (List.mem_cons_self)
    rcases hu with rfl | rfl
    · have := (List.perm_cons u).mp h
      have := List.perm_singleton.mp this
      exact .inl (by rw [this])
    · have h2 : [u, v].Perm [u, p] := h.trans (List.Perm.swap u p [])
      have := List.perm_singleton.mp ((List.perm_cons u).mp h2)
      exact .inr (by rw [this])
theorem sorted_marks {x y : Bool} {ys : List Str} (h : ys.Perm ([wd [x], wd [y]].foldl insS [])) (hs : PyProof.Rows.sortedS ys = true) : ys = (mk2 x y).map fun m => wd [m] := by
  have c1 : (wd [true] : Str) ∉ [wd [false]] := by decide
  have c2 : (wd [false] : Str) ∉ [wd [true]] := by decide
  have h1 : ([wd [x], wd [y]].foldl insS []) = insS [wd [x]] (wd [y]) := rfl
  rw [h1] at h
  cases x <;> cases y
  · rw [show insS [wd [false]] (wd [false]) = [wd [false]] by decide] at h
    rw [List.perm_singleton.mp h]
    rfl
  · rw [show insS [wd [false]] (wd [true]) = [wd [true], wd [false]] by decide] at h
    rcases perm_two h with rfl | rfl
    · exact absurd hs (by decide)
    · rfl
  · rw [show insS [wd [true]] (wd [false]) = [wd [false], wd [true]] by decide] at h
    rcases perm_two h with rfl | rfl
    · rfl
    · exact absurd hs (by decide)
  · rw [show insS [wd [true]] (wd [true]) = [wd [true]] by decide] at h
    rw [List.perm_singleton.mp h]
    rfl
theorem setM_len (x y : Str) : ([x, y].foldl insS []).length ≤ 2 := by
  have h1 : ([x, y].foldl insS []) = insS [x] y := rfl
  rw [h1]
  exact insS_len [x] y
def RetU (xs : List V) (H : Hp) (Q : VK) : Prop := ∀ p H2, H p = none → Ex H H2 → H2 p = some (.tup xs) → Q (.ref p) H2
/-! ### lanes: the places, the events, a step -/
inductive Ev where
  | look (w : Bool)
  | tp (p : Bool) (o : Option (List Bool))
  deriving DecidableEq
structure Co where
  put : Nat
  got : Nat
  sp : Nat
  sg : Nat
  deriving DecidableEq
def oV : Option (List Bool) → V
  | none => .non
  | some w => wv w
def pS : Bool → Str
  | true => "put"
  | false => "get"
def wS : Bool → Str
  | true => "writer"
  | false => "reader"
def evV : Ev → List V
  | .look w => [.str "look", .str (wS w)]
  | .tp p o => [.str (pS p), oV o]
def goes (r : Nat) (c : Co) : Bool → Bool
  | true => decide (((c.put : Int) - c.sg) % (2 * r) < r)
  | false => !decide (c.sp = c.got)
def insd (r : Nat) (c : Co) : Int := ((c.put : Int) - c.got) % (2 * r)
def nxt (r i : Nat) : Nat := (i + 1) % (2 * r)
def here (c : Co) : Bool → Nat
  | true => c.put
  | false => c.got
def other (r : Nat) (c : Co) (p : Bool) : Nat := if goes r c p then nxt r (here c p) else here c p
def mayW (r : Nat) (ws : List (List Bool)) (c : Co) (p : Bool) : List (List Bool) := seenW (ws.getD (here c p) []) (ws.getD (other r c p) [])
def canP (r : Nat) (ws : List (List Bool)) (c : Co) (p : Bool) : List Ev := .tp p none :: (mayW r ws c p).map fun w => .tp p (some w)
def canE (r : Nat) (ws : List (List Bool)) (c : Co) : List Ev := [.look true, .look false] ++ canP r ws c true ++ canP r ws c false
def bad (r : Nat) (c : Co) : Bool → Bool
  | true => decide (insd r c = r)
  | false => decide (insd r c = 0)
def adv (r : Nat) (c : Co) : Bool → Co
  | true => { c with put := nxt r c.put }
  | false => { c with got := nxt r c.got }
def sees (ws : List (List Bool)) (p : Bool) (o : Option (List Bool)) (c : Co) : Co :=
  match o with
  | none => c
  | some w => if w ∈ ws then (match p with | true => { c with sp := ws.idxOf w } | false => { c with sg := ws.idxOf w }) else c
/-- a letter that moves -/
def movs (r : Nat) (c : Co) : Ev → Option Bool
  | .look _ => none
  | .tp p _ => if goes r c p && !bad r c p then some p else none
def cst (r : Nat) (ws : List (List Bool)) (c : Co) : Ev → Co
  | .look true => { c with sg := c.got }
  | .look false => { c with sp := c.put }
  | .tp p o => if goes r c p then (if bad r c p then c else sees ws p o (adv r c p)) else sees ws p o c
/-- a fault -/
def flt (r : Nat) (c : Co) : Ev → Option Bool
  | .look _ => none
  | .tp p _ => if goes r c p && bad r c p then some p else none
def fltV : Option Bool → V
  | none => .non
  | some true => .str "over"
  | some false => .str "under"
def CoOk (r : Nat) (c : Co) : Prop := c.put < 2 * r ∧ c.got < 2 * r ∧ c.sp < 2 * r ∧ c.sg < 2 * r
structure WW (ws : List (List Bool)) (n r : Nat) : Prop where
  r1 : 1 ≤ r
  r6 : r ≤ 6
  n1 : 1 ≤ n
  n4 : n ≤ 4
  len : ws.length = 2 * r
  wide : ∀ w ∈ ws, w.length = n
theorem nxt_lt {r : Nat} (h : 1 ≤ r) (i : Nat) : nxt r i < 2 * r := Nat.mod_lt _ (by omega)
theorem nxt_int (r i : Nat) : ((nxt r i : Nat) : Int) = ((i : Int) + 1) % (2 * (r : Int)) := by
  unfold nxt
  rw [Int.natCast_emod]
  simp
theorem coOk_zero {r : Nat} (h : 1 ≤ r) : CoOk r ⟨0, 0, 0, 0⟩ := by
  refine ⟨?_, ?_, ?_, ?_⟩ <;> show 0 < 2 * r <;> omega
theorem sees_ok {r : Nat} {ws : List (List Bool)} {c : Co} (hl : ws.length = 2 * r) (h : CoOk r c) (p : Bool) (o : Option (List Bool)) : CoOk r (sees ws p o c) := by
  unfold sees
  cases o with
  | none => exact h
  | some w =>
    by_cases hm : w ∈ ws
    · have hi : ws.idxOf w < 2 * r := by
        rw [← hl]
        exact List.idxOf_lt_length_of_mem hm
      simp only [if_pos hm]
      cases p
      · exact ⟨h.1, h.2.1, h.2.2.1, hi⟩
      · exact ⟨h.1, h.2.1, hi, h.2.2.2⟩
    · simp only [if_neg hm]
      exact h
theorem adv_ok {r : Nat} {c : Co} (hr : 1 ≤ r) (h : CoOk r c) (p : Bool) : CoOk r (adv r c p) := by
  cases p
  · exact ⟨h.1, nxt_lt hr _, h.2.2.1, h.2.2.2⟩
  · exact ⟨nxt_lt hr _, h.2.1, h.2.2.1, h.2.2.2⟩
theorem cst_ok {r : Nat} {ws : List (List Bool)} {c : Co} (hr : 1 ≤ r) (hl : ws.length = 2 * r) (h : CoOk r c) (e : Ev) : CoOk r (cst r ws c e) := by
  cases e with
  | look w =>
    cases w
    · exact ⟨h.1, h.2.1, h.1, h.2.2.2⟩
    · exact ⟨h.1, h.2.1, h.2.2.1, h.2.1⟩
  | tp p o =>
    show CoOk r (if goes r c p then (if bad r c p then c else sees ws p o (adv r c p)) else sees ws p o c)
    split
    · split
      · exact h
      · exact sees_ok hl (adv_ok hr h p) p o
    · exact sees_ok hl h p o
theorem here_lt {r : Nat} {c : Co} (h : CoOk r c) (p : Bool) : here c p < 2 * r := by
  cases p
  · exact h.2.1
  · exact h.1
theorem other_lt {r : Nat} {c : Co} (hr : 1 ≤ r) (h : CoOk r c) (p : Bool) : other r c p < 2 * r := by
  unfold other
  split
  · exact nxt_lt hr _
  · exact here_lt h p
theorem WW.at {ws : List (List Bool)} {n r i : Nat} (h : WW ws n r) (hi : i < 2 * r) : (ws.map wv)[i]? = some (wv (ws.getD i [])) := by
  have : i < ws.length := by rw [h.len]; exact hi
  rw [List.getElem?_map, List.getD_eq_getElem?_getD, List.getElem?_eq_getElem this]
  rfl
theorem WW.wat {ws : List (List Bool)} {n r i : Nat} (h : WW ws n r) (hi : i < 2 * r) : (ws.getD i []).length = n := by
  have : i < ws.length := by rw [h.len]; exact hi
  rw [List.getD_eq_getElem?_getD, List.getElem?_eq_getElem this]
  exact h.wide _ (List.getElem_mem this)
theorem mayW_len {ws : List (List Bool)} {n r : Nat} {c : Co} (h : WW ws n r) (hc : CoOk r c) (p : Bool) : (mayW r ws c p).length ≤ 16 := by
  have := seenW_len (h.wat (here_lt hc p)) (h.wat (other_lt h.r1 hc p))
  have := pow16 h.n4
  unfold mayW
  omega
theorem mayW_wide {ws : List (List Bool)} {n r : Nat} {c : Co} (h : WW ws n r) (hc : CoOk r c) (p : Bool) : ∀ w ∈ mayW r ws c p, w.length = n := seenW_wide (h.wat (here_lt hc p)) (h.wat (other_lt h.r1 hc p))
/-! the fields of a lane -/
def FS (r : Nat) (pw pb : Addr) (c : Co) (m : Nat) (f : V) : List (Str × V) :=
  [("room", .int (r : Int)), ("words", .ref pw), ("put", .int (c.put : Int)), ("got", .int (c.got : Int)), ("seen_got", .int (c.sg : Int)), ("seen_put", .int (c.sp : Int)), ("boxes", .ref pb), ("many", .int (m : Int)), ("fault", f)]
section
variable {r : Nat} {pw pb : Addr} {c : Co} {m : Nat} {f : V}
theorem fs_room : (FS r pw pb c m f).lookup ("room" : Str) = some (.int (r : Int)) := by rfl
theorem fs_words : (FS r pw pb c m f).lookup ("words" : Str) = some (.ref pw) := by rfl
theorem fs_put : (FS r pw pb c m f).lookup ("put" : Str) = some (.int (c.put : Int)) := by rfl
theorem fs_got : (FS r pw pb c m f).lookup ("got" : Str) = some (.int (c.got : Int)) := by rfl
theorem fs_sg : (FS r pw pb c m f).lookup ("seen_got" : Str) = some (.int (c.sg : Int)) := by rfl
theorem fs_sp : (FS r pw pb c m f).lookup ("seen_put" : Str) = some (.int (c.sp : Int)) := by rfl
theorem fs_boxes : (FS r pw pb c m f).lookup ("boxes" : Str) = some (.ref pb) := by rfl
theorem fs_many : (FS r pw pb c m f).lookup ("many" : Str) = some (.int (m : Int)) := by rfl
theorem fs_fault : (FS r pw pb c m f).lookup ("fault" : Str) = some f := by rfl
theorem fs_len : (FS r pw pb c m f).length < 1000 := by simp [FS]
theorem fp_put {z : Nat} : putF "put" (.int (z : Int)) (FS r pw pb c m f) = FS r pw pb { c with put := z } m f := by rfl
theorem fp_got {z : Nat} : putF "got" (.int (z : Int)) (FS r pw pb c m f) = FS r pw pb { c with got := z } m f := by rfl
theorem fp_sg {z : Nat} : putF "seen_got" (.int (z : Int)) (FS r pw pb c m f) = FS r pw pb { c with sg := z } m f := by rfl
theorem fp_sp {z : Nat} : putF "seen_put" (.int (z : Int)) (FS r pw pb c m f) = FS r pw pb { c with sp := z } m f := by rfl
theorem fp_many {z : Nat} : putF "many" (.int (z : Int)) (FS r pw pb c m f) = FS r pw pb c z f := by rfl
theorem fp_fault {z : V} : putF "fault" z (FS r pw pb c m f) = FS r pw pb c m z := by rfl
end
/-- a lane's object -/
def Ln (C : Addr) (r : Nat) (pw pb : Addr) (H : Hp) (x : Addr) (c : Co) (m : Nat) (f : V) : Prop := ∃ dx, H x = some (.ins C dx (FS r pw pb c m f))
theorem Ln.mono {C : Addr} {r : Nat} {pw pb : Addr} {H H' : Hp} {x : Addr} {c : Co} {m : Nat} {f : V} (e : Ex H H') (h : Ln C r pw pb H x c m f) : Ln C r pw pb H' x c m f := by
  obtain ⟨dx, h⟩ := h
  exact ⟨dx, e _ _ h⟩
/-- all but d and e stays -/
def Ex2 (d e : Addr) (H H' : Hp) : Prop := ∀ a o, H a = some o → a ≠ d → a ≠ e → H' a = some o
theorem Ex2.refl (d e : Addr) (H : Hp) : Ex2 d e H H := fun _ _ h _ _ => h
theorem Ex2.trans {d e : Addr} {H H1 H2 : Hp} (a : Ex2 d e H H1) (b : Ex2 d e H1 H2) : Ex2 d e H H2 := fun x o h n m => b x o (a x o h n m) n m
theorem Ex2.of {d e : Addr} {H H1 : Hp} (a : Ex H H1) : Ex2 d e H H1 := fun x o h _ _ => a x o h
theorem Ex2.upd1 {d e : Addr} {H H1 : Hp} {o : HO} (a : Ex2 d e H H1) : Ex2 d e H (L2.upd H1 d o) := fun x o h n m => by
  rw [upd_ne n]
  exact a x o h n m
theorem Ex2.upd2 {d e : Addr} {H H1 : Hp} {o : HO} (a : Ex2 d e H H1) : Ex2 d e H (L2.upd H1 e o) := fun x o h n m => by
  rw [upd_ne m]
  exact a x o h n m
theorem EvAt_none {t : Addr} {H : Hp} {xs : List V} {C dx : Addr} {fs : List (Str × V)} {x : Addr} (h : H t = some (.tup xs)) (h2 : H x = some (.ins C dx fs)) : t ≠ x := by
  rintro rfl
  rw [h] at h2
  cases h2
theorem idx_spec {ws : List (List Bool)} {w : List Bool} (h : w ∈ ws) : (ws.map wv)[ws.idxOf w]? = some (wv w) ∧ ∀ (k : Nat) (z : V), k < ws.idxOf w → (ws.map wv)[k]? = some z → eqV z (wv w) = false := by
  have hl := List.idxOf_lt_length_of_mem h
  refine ⟨?_, fun k z hk hz => ?_⟩
  · rw [List.getElem?_map, List.getElem?_eq_getElem hl, List.getElem_idxOf]
    rfl
  · rw [List.getElem?_map] at hz
    have hkl : k < ws.length := Nat.lt_trans hk hl
    rw [List.getElem?_eq_getElem hkl] at hz
    have hz : wv ws[k] = z := Option.some.inj hz
    subst hz
    have : ws[k] ≠ w := by
      intro e
      have := List.not_of_lt_findIdx (p := (· == w)) hk
      simp [e] at this
    have hn : wd ws[k] ≠ wd w := fun e => this (wd_inj e)
    simpa [eqV] using hn
/-! what the lane's object holds behind an event -/
def pMany (r : Nat) (c : Co) (m : Nat) (e : Ev) : Nat := if movs r c e = some true then m + 1 else m
def pBox (r : Nat) (c : Co) (m : Nat) (bx : List V) (e : Ev) : List V := if movs r c e = some true then bx.set (c.put % r) (.int (m : Int)) else bx
def pAns (r : Nat) (c : Co) (m : Nat) (bx : List V) (e : Ev) : V :=
  match movs r c e with
  | some true => .int (m : Int)
  | some false => bx.getD (c.got % r) .non
  | none => fltV (flt r c e)
def pFlt (r : Nat) (c : Co) (f : V) (e : Ev) : V :=
  match flt r c e with
  | none => f
  | some p => fltV (some p)
def PDo (C : Addr) (r : Nat) (pw pb x : Addr) (ws : List (List Bool)) (c : Co) (m : Nat) (f : V) (bx : List V) (e : Ev) (H : Hp) (Q : VK) : Prop :=
  ∀ H', Ex2 x pb H H' → Ln C r pw pb H' x (cst r ws c e) (pMany r c m e) (pFlt r c f e) → H' pb = some (.lst (pBox r c m bx e)) → Q (pAns r c m bx e) H'
theorem pBox_len {r : Nat} {c : Co} {m : Nat} {bx : List V} {e : Ev} (h : bx.length = r) : (pBox r c m bx e).length = r := by
  unfold pBox
  split
  · rw [List.length_set]
    exact h
  · exact h
section
variable {r : Nat} {c : Co} {p : Bool} {o : Option (List Bool)}
theorem movs_go (h1 : goes r c p = true) (h2 : bad r c p = false) : movs r c (.tp p o) = some p := by
  show (if goes r c p && !bad r c p then some p else none) = _
  rw [h1, h2]
  rfl
theorem movs_bad (h2 : bad r c p = true) : movs r c (.tp p o) = none := by
  show (if goes r c p && !bad r c p then some p else none) = _
  rw [h2]
  simp
theorem movs_stay (h1 : goes r c p = false) : movs r c (.tp p o) = none := by
  show (if goes r c p && !bad r c p then some p else none) = _
  rw [h1]
  rfl
theorem flt_go (h2 : bad r c p = false) : flt r c (.tp p o) = none := by
  show (if goes r c p && bad r c p then some p else none) = _
  rw [h2]
  simp
theorem flt_bad (h1 : goes r c p = true) (h2 : bad r c p = true) : flt r c (.tp p o) = some p := by
  show (if goes r c p && bad r c p then some p else none) = _
  rw [h1, h2]
  rfl
theorem flt_stay (h1 : goes r c p = false) : flt r c (.tp p o) = none := by
  show (if goes r c p && bad r c p then some p else none) = _
  rw [h1]
  rfl
theorem cst_go {ws : List (List Bool)} (h1 : goes r c p = true) (h2 : bad r c p = false) : cst r ws c (.tp p o) = sees ws p o (adv r c p) := by
  show (if goes r c p then (if bad r c p then c else sees ws p o (adv r c p)) else sees ws p o c) = _
  rw [h1, h2]
  rfl
theorem cst_bad {ws : List (List Bool)} (h1 : goes r c p = true) (h2 : bad r c p = true) : cst r ws c (.tp p o) = c := by
  show (if goes r c p then (if bad r c p then c else sees ws p o (adv r c p)) else sees ws p o c) = _
  rw [h1, h2]
  rfl
theorem cst_stay {ws : List (List Bool)} (h1 : goes r c p = false) : cst r ws c (.tp p o) = sees ws p o c := by
  show (if goes r c p then (if bad r c p then c else sees ws p o (adv r c p)) else sees ws p o c) = _
  rw [h1]
  rfl
end
section
variable {P : Program} {w : World} {K : PySem.W.Frag} {mg : Str → Option Value} {base : Heap}
theorem ok_l_off (T : TX K mg) : FnOk P w K mg base CX0 1 T.f_l_off T.fd_l_off ["_law_d", "_law_most"] sp_l_off := by
  refine T.F_l_off.ok sc_l_off (fun vs H Q E h => ?_) (fun cdv A outer s H vs Q E hr h => ?_)
  · obtain ⟨d, n, rfl, _⟩ := h
    rfl
  · obtain ⟨d, n, rfl, ⟨s0, c, r, hd, s1, s2, c0, r0⟩, n0, n1, q⟩ := h
    refine ⟨_, (pss_cut (ps_if (PW.pt (pw_and (pt_cmpR op_eq (pe_ix ix_list (pv 0) pe_int (fun _ _ => rfl)) pe_int (nomark _)) (pw_and1 (pt_cmpR op_gt (pe_callB call_len_seq (by rfl) T.z_len PySem.boot_len (pa_cons (pv 0) pa_nil)) pe_int (nomark _)))))
 (pss_one (ps_asg (pe_bm PySem.F.plainAttrs_list PySem.F.slot_list_pop PySem.F.type_list_pop mt_popAt (pv 0) (pa_cons pe_int pa_nil)) (pg_sub (pv 0) pe_int set_list)))
 pss_nil)
 (pss_cons (ps_if (pt_cmpR op_gt (pe_ix ix_list (pv 0) pe_int (fun _ _ => rfl)) pe_int (nomark _))
 (pss_cons (ps_set (i := 2) sc_l_off.nd rfl (by first | exact Or.inl rfl | exact Or.inr rfl) (pe_op op_mod (pe_ix ix_list (pv 0) pe_int (fun _ _ => rfl)) (pv 1)))
 (pss_cons (ps_asg (pe_op op_fdiv (pe_ix ix_list (pv 0) pe_int (fun _ _ => rfl)) (pv 1)) (pg_sub (pv 0) pe_int set_list))
 (pss_one (ps_ret (pv 2)))))
 pss_nil)
 (pss_cons (ps_asg (pe_op op_mod (pe_op op_add (pe_op op_mul (pe_ix ix_list (pv 0) pe_int (fun _ _ => rfl)) pe_int) pe_int) pe_int) (pg_sub (pv 0) pe_int set_list))
 (pss_one (ps_ret (pe_op op_mod (pe_op op_fdiv (pe_ix ix_list (pv 0) pe_int (fun _ _ => rfl)) pe_int) (pv 1))))))), ?_⟩
    refine ⟨fun σ H1 => σ = [some (.ref d), some (.int n), none] ∧ Exd d H H1 ∧ ∃ c r, H1 d = some (.lst ((s0 :: c :: r).map V.int)) ∧ 0 ≤ c ∧ ∀ x ∈ r, 0 ≤ x, ?_, ?_⟩
    · refine ⟨_, rfl, d, _, 1, .int c, rfl, rfl, SqL.of hd, atI_nat (j := 1) rfl, rfl, _, rfl, ite2 (fun e => ?_) (fun e => ?_)⟩
      · refine ⟨_, rfl, d, _, rfl, .inl (SqL.of hd), _, _, rfl, rfl, _, rfl, ite2 (fun e2 => ?_) (fun e2 => ⟨rfl, Exd.refl _ _, c, r, hd, c0, r0⟩)⟩
        cases r with
        | nil => exact absurd e2 (by simp)
        | cons z r =>
          refine ⟨_, rfl, .inl ⟨rfl, _, SqL.of hd⟩, d, _, 2, 2, .int z, rfl, rfl, hd, by decide, by decide, ?_, rfl, _, rfl, d, _, 1, 1, rfl, rfl, upd_same, ?_, rfl, ?_, z, r, ?_, r0 _ (List.mem_cons_self), fun x hx => r0 x (List.mem_cons_of_mem _ hx)⟩
          · simp [seqIndex?]; omega
          · simp [ixN]; omega
          · exact ((Exd.refl _ _).upd).upd
          · rw [upd_same]; rfl
      · exact ⟨rfl, Exd.refl _ _, c, r, hd, c0, r0⟩
    · rintro σ H1 ⟨rfl, e1, c, r, hd, c0, r0⟩
      refine ⟨_, rfl, d, _, 1, .int c, rfl, rfl, SqL.of hd, atI_nat (j := 1) rfl, _, _, rfl, rfl, _, rfl, ite2 (fun e => ?_) (fun e => ?_)⟩
      · refine ⟨_, rfl, d, _, 1, .int c, rfl, rfl, SqL.of hd, atI_nat (j := 1) rfl, _, rfl, _, _, rfl, rfl, n0, ?_⟩
        refine ⟨_, rfl, d, _, 1, .int c, rfl, rfl, SqL.of hd, atI_nat (j := 1) rfl, _, rfl, _, _, rfl, rfl, ⟨n0, n1⟩, _, rfl, d, _, 1, 1, rfl, rfl, hd, ?_, ?_⟩
        · simp [ixN]; omega
        · refine ⟨_, rfl, q _ _ (Int.emod_nonneg _ (by omega)) (Int.emod_lt_of_pos _ n0) e1.upd ⟨s0, c / n, r, ?_, s1, s2, Int.ediv_nonneg c0 (by omega), r0⟩⟩
          rw [upd_same]; rfl
      · refine ⟨_, rfl, d, _, 0, .int s0, rfl, rfl, SqL.of hd, atI_nat (j := 0) rfl, _, _, rfl, rfl, .inl ⟨by omega, by omega⟩, _, _, rfl, rfl, _, _, rfl, rfl, (by decide : (0 : Int) < 2147483647), _, rfl, d, _, 0, 0, rfl, rfl, hd, ?_, ?_⟩
        · simp [ixN]; omega
        · refine ⟨_, rfl, d, _, 0, .int ((s0 * 48271 + 11) % 2147483647), rfl, rfl, SqL.of upd_same, atI_nat (j := 0) rfl, _, _, rfl, rfl, ⟨by decide, by decide⟩, _, rfl, _, _, rfl, rfl, n0, ?_⟩
          refine q _ _ (Int.emod_nonneg _ (by omega)) (Int.emod_lt_of_pos _ n0) e1.upd ⟨(s0 * 48271 + 11) % 2147483647, c, r, ?_, Int.emod_nonneg _ (by decide), Int.emod_lt_of_pos _ (by decide), c0, r0⟩
          rw [upd_same]; rfl
theorem ok_l_dice (T : TX K mg) : FnOk P w K mg base CX0 1 T.f_l_dice T.fd_l_dice ["_law_script", "_law_k"] (sp_l_dice K) := by
  refine T.F_l_dice.ok sc_l_dice (fun vs H Q E h => ?_) (fun cdv A outer s H vs Q E hr h => ?_)
  · obtain ⟨a, ns, rfl, _⟩ := h
    rfl
  · obtain ⟨a, ns, rfl, hS, hl, q⟩ := h
    refine ⟨_, (pss_cons (ps_set (i := 2) sc_l_dice.nd rfl (by first | exact Or.inl rfl | exact Or.inr rfl) (pv 1))
 (pss_cons (ps_for PassesOwn.never rfl (pi_list (pv 0)) (pg_name (i := 3) sc_l_dice.nd rfl (by first | exact Or.inl rfl | exact Or.inr rfl))
 (pss_one (ps_set (i := 2) sc_l_dice.nd rfl (by first | exact Or.inl rfl | exact Or.inr rfl) (pe_op op_mod (pe_op op_add (pe_op op_mul (pv 2) pe_int) (pe_callB call_abs (by rfl) T.z_abs (by decide +kernel) (pa_cons (pv 3) pa_nil))) pe_int))))
 (pss_one (ps_ret (pe_op op_cat (pe_lst (pa_cons (pv 2) (pa_cons pe_int pa_nil))) (pe_lc (own := [("_law_cell", 3)]) (g := gName 3) (by rfl) sc_l_dice.nd (pi_list (pv 0)) (blkOk_by (own := [("_law_cell", 3)]) (N := ["_law_script", "_law_k", "_law_found", "_law_cell"]) (sc := defScope s_l_dice) (by decide +kernel)) (fun _ _ _ _ _ => pg_name (i := 3) sc_l_dice.nd rfl (Or.inl rfl)) (fun _ _ _ _ _ => (pts_one (pt_cmpR op_ge (pv 3) (pe_op op_pow pe_int pe_int) (nomark _)))) (fun _ _ _ _ _ => (pv 3)))))))), ?_⟩
    refine ⟨_, rfl, .ref a, rfl, a, rfl, ⟨_, hS⟩, for_list (xs := ns.map V.int) (fun i σ H' => H' = H ∧ ∃ f y, σ = [some (.ref a), some (.int 0), some (.int f), y] ∧ 0 ≤ f ∧ f < 2147483647) ⟨rfl, 0, none, rfl, by decide, by decide⟩ (fun i σ H' _ h => by rw [h.1]; exact hS) ?_ ?_⟩
    · rintro i x σ H' hi ⟨rfl, f, y, rfl, f0, f1⟩
      obtain ⟨z, hz, rfl⟩ : ∃ z, ns[i]? = some z ∧ V.int z = x := by
        rw [List.getElem?_map] at hi
        cases e : ns[i]? with
        | none => rw [e] at hi; cases hi
        | some y => rw [e] at hi; exact ⟨y, rfl, Option.some.inj hi⟩
      refine ⟨_, rfl, _, _, rfl, rfl, .inl ⟨by omega, by omega⟩, _, rfl, z, rfl, _, _, rfl, rfl, _, _, rfl, rfl, (by decide : (0 : Int) < 2147483647), rfl, _, _, rfl, Int.emod_nonneg _ (by decide), Int.emod_lt_of_pos _ (by decide)⟩
    · rintro σ H' ⟨rfl, f, y, rfl, f0, f1⟩
      refine ⟨_, rfl, small9 (by simp), fun p np => ?_⟩
      have e1 : Ex H' (upd H' p (.lst [.int f, .int 0])) := Ex.new np
      refine ⟨.ref a, rfl, a, rfl, ⟨_, ex_l e1 hS⟩, fun D hD => lcFM ns V.int (fun z => decide ((1000000000000000000 : Int) ≤ z)) V.int (ex_l e1 hS) (by omega) hD (fun _ => rfl) (fun z hz H2 e2 Y N hq => ?_) (fun H2 e2 h2 => ?_)⟩
      · refine ⟨_, rfl, _, _, rfl, rfl, ⟨by decide, by decide, by decide⟩, _, _, rfl, rfl, _, rfl, ?_⟩
        have hq := hq H2 (Ex.refl _)
        by_cases hc : (1000000000000000000 : Int) ≤ z
        · rw [if_pos (decide_eq_true hc)] at hq
          exact ifP (decide_eq_true (show (10 : Int) ^ (18 : Int).toNat ≤ z by simpa using hc)) ⟨_, rfl, hq⟩
        · rw [if_neg (by simpa using hc)] at hq
          exact ifN (show ¬ decide ((10 : Int) ^ (18 : Int).toNat ≤ z) = true by simpa using hc) hq
      · refine ⟨p, D, _, _, rfl, rfl, e2 _ _ upd_same, h2, ?_, fun o no => ?_⟩
        · have := List.length_filter_le (fun z => decide ((1000000000000000000 : Int) ≤ z)) ns
          simp only [List.length_map, List.length_cons, List.length_nil]
          exact small9 (by omega)
        · have e3 : Ex H' (upd H2 o (.lst ([.int f, .int 0] ++ (ns.filter (fun z => decide ((1000000000000000000 : Int) ≤ z))).map V.int))) := (e1.trans e2).trans (Ex.new no)
          refine q o _ (fresh_back (e1.trans e2) no) e3 ⟨f, 0, ns.filter (fun z => decide ((1000000000000000000 : Int) ≤ z)), ?_, f0, f1, by decide, fun x hx => ?_⟩
          · rw [upd_same]
            rfl
          · have := (List.mem_filter.mp hx).2
            simp at this
            omega
theorem Exd.fresh {d : Addr} {H H' : Hp} {p : Addr} (e : Exd d H H') (h : H' p = none) (n : p ≠ d) : H p = none := by
  cases h1 : H p with
  | none => rfl
  | some o =>
    rw [e p o h1 n] at h
    cases h
theorem Exd.mut {d : Addr} {H H' : Hp} {p : Addr} {o : HO} (e : Exd d H H') (h : H p = none) : Exd d H (L2.upd H' p o) := fun a u ha n => by
  rw [upd_ne (ne_of_none ha h)]
  exact e a u ha n
theorem Exd.l {K : PySem.W.Frag} {d a : Addr} {H H' : Hp} {xs : List V} (e : Exd d H H') (h : SqL K H a xs) (n : a ≠ d) : SqL K H' a xs := by
  rcases h with (h | ⟨o, h⟩) | h
  · exact .inl (.inl (e _ _ h n))
  · exact .inl (.inr ⟨o, e _ _ h n⟩)
  · exact .inr h
theorem Dice.neN {H : Hp} {d p : Addr} (h : Dice H d) (n : H p = none) : p ≠ d := (h.ne n).symm
/-- leaves: ints and good texts -/
def LeafV : V → Prop
  | .int _ => True
  | .str x => PyData.strOk x = true
  | _ => False
def datOf : V → PyData
  | .int i => .int i
  | .str x => .str x
  | _ => .none
theorem dp_leaves {K : PySem.W.Frag} {H : Hp} : ∀ {xs : List V}, (∀ x ∈ xs, LeafV x) → DpAll K H xs (xs.map datOf)
  | [], _ => .nil
  | x :: xs, h => by
    refine .cons ?_ (dp_leaves fun y hy => h y (List.mem_cons_of_mem _ hy))
    have hx := h x List.mem_cons_self
    cases x with
    | int i => exact .int i
    | str z => exact .str z
    | non => exact hx.elim
    | bl b => exact hx.elim
    | byt b => exact hx.elim
    | flt b => exact hx.elim
    | ref b => exact hx.elim
    | ty b => exact hx.elim
theorem sd_leaves {n : Nat} {xs : List V} (h : ∀ x ∈ xs, LeafV x) : Sd (n + 1) (.list (xs.map datOf)) := fun d hd => by
  obtain ⟨x, hx, rfl⟩ := List.mem_map.mp hd
  have hx := h x hx
  cases x with
  | int i => cases n <;> trivial
  | str z => cases n <;> exact hx
  | non => exact hx.elim
  | bl b => exact hx.elim
  | byt b => exact hx.elim
  | flt b => exact hx.elim
  | ref b => exact hx.elim
  | ty b => exact hx.elim
theorem eqv_nil (ds : List PyData) : PyData.eqv (.list ds) (.list []) = ds.isEmpty := by
  rw [PyData.eqv]
  cases ds <;> rfl
def sp_l_mixed (K : PySem.W.Frag) : Sp := fun vs H Q _ => ∃ (d r : Addr) (xs : List V), vs = [.ref d, .ref r] ∧ Dice H d ∧ r ≠ d ∧ SqL K H r xs ∧ (∀ x ∈ xs, LeafV x) ∧ xs.length ≤ 100 ∧
  ∀ (p : Addr) (ys : List V) (H' : Hp), H p = none → Exd d H H' → Dice H' d → ys.Perm xs → H' p = some (.lst ys) → Q (.ref p) H'
theorem ok_l_mixed (T : TX K mg) : FnOk P w K mg base CX0 2 T.f_l_mixed T.fd_l_mixed ["_law_d", "_law_row"] (sp_l_mixed K) := by
  refine T.F_l_mixed.ok sc_l_mixed (fun vs H Q E h => ?_) (fun cdv A outer s H vs Q E hr h => ?_)
  · obtain ⟨_, _, _, rfl, _⟩ := h
    rfl
  · obtain ⟨d, r, xs, rfl, hd, nrd, hx, hlf, hle, q⟩ := h
    refine ⟨_, (pss_cons (ps_set (i := 2) sc_l_mixed.nd rfl (by first | exact Or.inl rfl | exact Or.inr rfl) (pe_callTy call_list_of (by rfl) T.z_list (by decide +kernel) (pa_cons (pv 1) pa_nil)))
 (pss_cons (ps_set (i := 3) sc_l_mixed.nd rfl (by first | exact Or.inl rfl | exact Or.inr rfl) (pe_lst pa_nil))
 (pss_cons (ps_while PassesOwn.never (pt_cmpR (op_neD hr.units) (pv 2) (pe_lst pa_nil) (nomark _))
 (pss_one (ps_expr (pe_bm PySem.F.plainAttrs_list PySem.F.slot_list_append PySem.F.type_list_append mt_append (pv 3) (pa_cons (pe_bm PySem.F.plainAttrs_list PySem.F.slot_list_pop PySem.F.type_list_pop mt_popAt (pv 2) (pa_cons (pe_call (ok_l_off T) (hr.mono (by decide)) (by rfl) T.g_l_off T.F_l_off.kp T.b_l_off .nil pass0 (pa_cons (pv 0) (pa_cons (pe_callB call_len_seq (by rfl) T.z_len PySem.boot_len (pa_cons (pv 2) pa_nil)) pa_nil))) pa_nil)) pa_nil)))))
 (pss_one (ps_ret (pv 3)))))), ?_⟩
    refine ⟨_, rfl, r, xs, rfl, .inl hx, fun l nl => ⟨small9 (by simp), fun f nf => ?_⟩⟩
    have e1 := Ex.new (o := HO.lst xs) nl
    have e2 := Ex.new (o := HO.lst []) nf
    have nlf : l ≠ f := ne_of_none upd_same nf
    have nfH := fresh_back e1 nf
    have nld := hd.neN nl
    have nfd := (hd.mono e1).neN nf
    refine ⟨fun m σ H' => ∃ ls fs : List V, σ = [some (.ref d), some (.ref r), some (.ref l), some (.ref f)] ∧ m = ls.length ∧ H' l = some (.lst ls) ∧ H' f = some (.lst fs) ∧ (fs ++ ls).Perm xs ∧ Exd d H H' ∧ Dice H' d,
      ⟨xs.length, xs, [], rfl, rfl, e2 _ _ upd_same, upd_same, List.Perm.refl _, Exd.of (e1.trans e2), hd.mono (e1.trans e2)⟩, ?_⟩
    rintro m σ H1 ⟨ls, fs, rfl, rfl, hl, hf, pm, ex, hd1⟩
    have lf1 : ∀ x ∈ ls, LeafV x := fun x hx => hlf x (pm.mem_iff.mp (List.mem_append_right _ hx))
    have lenp : fs.length + ls.length = xs.length := by rw [← List.length_append, pm.length_eq]
    refine ⟨_, rfl, small9 (by simp), fun o no => ?_⟩
    have eo := Ex.new (o := HO.lst []) no
    refine ⟨.list (ls.map datOf), .list [], .lst (SqL.of (eo _ _ hl)) (dp_leaves lf1), .lst (SqL.of upd_same) .nil, (sd_leaves (n := 0) lf1).shaped (by decide), (sd_leaves (n := 0) (xs := []) (by simp)).shaped (by decide), _, rfl, ?_⟩
    rw [eqv_nil]
    have hl := eo _ _ hl
    have hf := eo _ _ hf
    have ex := ex.trans (Exd.of eo)
    have hd1 := hd1.mono eo
    generalize upd H1 o (.lst []) = H2 at hl hf ex hd1 ⊢
    cases ls with
    | nil =>
      refine ifN (by simp) ⟨_, rfl, q f fs H2 nfH ex hd1 (by simpa using pm) hf⟩
    | cons z ls =>
      refine ifP (by simp) ⟨fun σ' H' => ∃ ls' fs : List V, σ' = [some (.ref d), some (.ref r), some (.ref l), some (.ref f)] ∧ ls'.length < (z :: ls).length ∧ H' l = some (.lst ls') ∧ H' f = some (.lst fs) ∧ (fs ++ ls').Perm xs ∧ Exd d H H' ∧ Dice H' d, fun σ' H' hN => ?_, ?_⟩
      · obtain ⟨ls', fs', h1, h2, h3⟩ := hN
        exact ⟨ls'.length, h2, ls', fs', h1, rfl, h3⟩
      · refine ⟨_, rfl, .inl ⟨rfl, _, SqL.of hf⟩, _, rfl, .inl ⟨rfl, _, SqL.of hl⟩, _, rfl, _, rfl, l, _, rfl, .inl (SqL.of hl), ?_⟩
        refine ⟨d, ((z :: ls).length : Int), rfl, hd1, by simp, by simp at lenp ⊢; omega, fun x H3 x0 x1 e3 hd3 => ?_⟩
        have hl3 := e3 _ _ hl nld
        have hf3 := e3 _ _ hf nfd
        obtain ⟨k, rfl⟩ : ∃ k : Nat, x = (k : Int) := ⟨x.toNat, by omega⟩
        have hk : k < (z :: ls).length := by omega
        obtain ⟨y, hy⟩ : ∃ y, (z :: ls)[k]? = some y := ⟨_, List.getElem?_eq_getElem hk⟩
        refine ⟨l, _, _, k, y, rfl, rfl, hl3, by omega, by simp at lenp hk; omega, ?_, hy, ?_⟩
        · unfold seqIndex?
          have h1 : ¬ ((k : Int) < 0) := by omega
          have h2 : (k : Int) < ((z :: ls).length : Int) := by omega
          simp only [h1, if_false]
          rw [if_pos (by simp only [Bool.and_eq_true, decide_eq_true_eq]; exact ⟨by omega, h2⟩)]
          simp
        refine ⟨f, _, _, rfl, rfl, by rw [upd_ne nlf.symm]; exact hf3, small1000 (by omega), (z :: ls).eraseIdx k, fs ++ [y], rfl, ?_, ?_, upd_same, ?_, ?_, ?_⟩
        · rw [List.length_eraseIdx_of_lt hk]
          omega
        · rw [upd_ne nlf, upd_same]
        · refine List.Perm.trans ?_ pm
          rw [List.append_assoc]
          refine List.Perm.append_left fs ?_
          exact erase_perm (z :: ls) k y hy
        · exact ((ex.trans e3).mut nl).mut nfH
        · exact (hd3.upd nld.symm).upd nfd.symm
def isW (z : Str) : Bool := (decide (1 ≤ z.length) && decide (z.length ≤ 4)) && z.cps.toList.all fun c => c == 48 || c == 49
theorem isW_wd {b : List Bool} (h1 : 1 ≤ b.length) (h2 : b.length ≤ 4) : isW (wd b) = true := by
  unfold isW
  rw [wd_len, wd_toList, decide_eq_true h1, decide_eq_true h2]
  simp only [Bool.true_and, List.all_eq_true]
  intro x hx
  obtain ⟨c, _, rfl⟩ := List.mem_map.mp hx
  cases c <;> decide
theorem inMarks (c : Nat) : inV (.str ⟨#[c]⟩) [.str "0", .str "1"] = (c == 48 || c == 49) := by
  have h0 : ("0" : Str) = ⟨#[48]⟩ := by decide +kernel
  have h1 : ("1" : Str) = ⟨#[49]⟩ := by decide +kernel
  unfold inV
  rw [h0, h1]
  simp only [List.any_cons, List.any_nil, Bool.or_false]
  have e : ∀ k : Nat, eqV (.str ⟨#[k]⟩) (.str ⟨#[c]⟩) = (c == k) := fun k => by
    by_cases h : c = k
    · subst h
      simp [eqV]
    · have h2 : ((⟨#[k]⟩ : Str) == ⟨#[c]⟩) = false := beq_eq_false_iff_ne.mpr fun e => h (by
        injection e with e
        simpa using e.symm)
      rw [beq_eq_false_iff_ne.mpr h]
      exact h2
  rw [e, e]
def sp_is_word : Sp := fun vs H Q _ => ∃ z : Str, vs = [.str z] ∧ z.length ≤ 1000 ∧ PyData.strOk z = true ∧ RetV (.bl (isW z)) H Q
theorem ok_is_word (T : TX K mg) : FnOk P w K mg base CX0 1 T.f_is_word T.fd_is_word ["word"] sp_is_word := by
  refine T.F_is_word.ok sc_is_word (fun vs H Q E h => ?_) (fun cdv A outer s H vs Q E hr h => ?_)
  · obtain ⟨_, rfl, _⟩ := h
    rfl
  · obtain ⟨z, rfl, hz, hok, q⟩ := h
    refine ⟨_, (pss_one (ps_ret (pe_and (pe_chain op_le op_le pe_int (pe_callB call_len_str (by rfl) T.z_len PySem.boot_len (pa_cons (pv 0) pa_nil)) (pe_glob (v := .int 4) (by rfl) T.c_MOST_WIDE ⟨_, rfl⟩)) (pe_one (pe_cmpR (op_eqD hr.units) (pe_lc (own := [("mark", 1)]) (g := gName 1) (by rfl) sc_is_word.nd (pi_str (pv 0)) (blkOk_by (own := [("mark", 1)]) (N := ["word", "mark"]) (sc := defScope s_is_word) (by decide +kernel)) (fun _ _ _ _ _ => pg_name (i := 1) sc_is_word.nd rfl (Or.inl rfl)) (fun _ _ _ _ _ => (pts_one (pt_cmpR (r := rIn K true) op_notIn_seq (pv 1) (pe_glob (v := .ref T.a_MARKS) (by rfl) T.c_MARKS rfl) (by rfl)))) (fun _ _ _ _ _ => (pv 1))) (pe_lst pa_nil) (nomark _)))))), ?_⟩
    refine ⟨_, rfl, z, rfl, small9 hz, _, _, rfl, rfl, _, rfl, ?_⟩
    by_cases h1 : 1 ≤ z.length
    · refine ifP (decide_eq_true (by omega)) ⟨_, _, rfl, rfl, _, rfl, ?_⟩
      by_cases h4 : z.length ≤ 4
      · refine ifP (decide_eq_true (by omega)) ?_
        refine ⟨_, rfl, z, rfl, fun D nD => lcW z.cps.toList (fun c => V.str ⟨#[c]⟩) (fun c => !(c == 48 || c == 49)) (fun c => V.str ⟨#[c]⟩) (walk_sgn z) (fun _ _ => trivial) (by rw [Array.length_toList]; exact hz) nD (fun _ => rfl) (fun c hc H2 e2 Y N hY => ?_) (fun H2 e2 h2 => ?_)⟩
        · refine ⟨_, rfl, T.a_MARKS, _, rfl, .inr (T.m_MARKS _), rfl, rfl, _, rfl, ?_⟩
          have hY := hY H2 (Ex.refl _)
          rw [← inMarks c] at hY
          cases hm : inV (.str ⟨#[c]⟩) [.str "0", .str "1"] with
          | true =>
            rw [hm] at hY
            exact hY
          | false =>
            rw [hm] at hY
            exact ⟨_, rfl, hY⟩
        · refine ⟨small9 (by simp), fun o no => ?_⟩
          have e3 := e2.trans (Ex.new (o := HO.lst []) no)
          have h3 : SqL K (upd H2 o (.lst [])) D (((z.cps.toList.filter fun c => !(c == 48 || c == 49)).map fun c => (⟨#[c]⟩ : Str)).map V.str) := SqL.of (by rw [(Ex.new no) _ _ h2, List.map_map]; rfl)
          have ok1 : ∀ x ∈ (z.cps.toList.filter fun c => !(c == 48 || c == 49)).map (fun c => (⟨#[c]⟩ : Str)), PyData.strOk x = true := fun x hx => by
            obtain ⟨c, hc, rfl⟩ := List.mem_map.mp hx
            have h5 : z.cps.toList.all (· < 0x110000) = true := by rw [Array.all_toList]; exact hok
            have h6 := List.all_eq_true.mp h5 c (List.mem_filter.mp hc).1
            simpa [PyData.strOk] using h6
          refine ⟨_, .list (([] : List Str).map PyData.str), dpL h3, dpL (SqL.of upd_same), (sdStrs (n := 0) ok1).shaped (by decide), (sdStrs (n := 0) (by simp)).shaped (by decide), ?_⟩
          rw [eqvStrs]
          have e : isW z = decide ((z.cps.toList.filter fun c => !(c == 48 || c == 49)).map (fun c => (⟨#[c]⟩ : Str)) = []) := by
            unfold isW
            rw [decide_eq_true h1, decide_eq_true h4, Bool.true_and, Bool.true_and]
            rw [Bool.eq_iff_iff, decide_eq_true_eq, List.map_eq_nil_iff, List.filter_eq_nil_iff, List.all_eq_true]
            simp only [Bool.not_eq_true', Bool.not_eq_false]
          rw [← e]
          exact q _ e3
      · refine ifN (by simp; omega) ?_
        have e : isW z = false := by simp [isW, h4]
        rw [← e]
        exact q _ (Ex.refl _)
    · refine ifN (by simp; omega) ⟨_, rfl, ifN (by simp) ?_⟩
      have e : isW z = false := by simp [isW, h1]
      rw [← e]
      exact q _ (Ex.refl _)
/-- words of a round -/
structure Round (ws : List (List Bool)) (n : Nat) : Prop where
  ne : ws ≠ []
  wide : ∀ w ∈ ws, w.length = n
  n1 : 1 ≤ n
  n4 : n ≤ 4
  nd : ws.Nodup
  le : ws.length ≤ 16
theorem Round.pos {ws : List (List Bool)} {n : Nat} (h : Round ws n) : 0 < ws.length := List.length_pos_iff.mpr h.ne
def sp_need_words (K : PySem.W.Frag) : Sp := fun vs H Q _ => ∃ (p : Addr) (ws : List (List Bool)) (n : Nat), vs = [.ref p] ∧ SqL K H p (ws.map wv) ∧ Round ws n ∧ RetV .non H Q
theorem ok_need_words (T : TX K mg) : FnOk P w K mg base CX0 2 T.f_need_words T.fd_need_words ["words"] (sp_need_words K) := by
  refine T.F_need_words.ok sc_need_words (fun vs H Q E h => ?_) (fun cdv A outer s H vs Q E hr h => ?_)
  · obtain ⟨_, _, _, rfl, _⟩ := h
    rfl
  · obtain ⟨p, ws, n, rfl, hp, hR, q⟩ := h
    have hpos := hR.pos
    refine ⟨_, (pss_cons (ps_if (pt_cmpR op_eq (pe_callB call_len_seq (by rfl) T.z_len PySem.boot_len (pa_cons (pv 0) pa_nil)) pe_int (nomark _))
 (pss_one ps_never)
 pss_nil)
 (pss_one (ps_for PassesOwn.never rfl (pi_enum (by rfl) T.z_enumerate (pa_cons (pv 0) pa_nil)) (pg_tup (by rfl) (pgs_cons (pg_name (i := 1) sc_need_words.nd rfl (by first | exact Or.inl rfl | exact Or.inr rfl)) (pgs_cons (pg_name (i := 2) sc_need_words.nd rfl (by first | exact Or.inl rfl | exact Or.inr rfl)) pgs_nil)))
 (pss_one (ps_if (PW.pt (pw_or (pt_not (pt_val (pe_call (ok_is_word T) (hr.mono (by decide)) (by rfl) T.g_is_word T.F_is_word.kp T.b_is_word .nil pass0 (pa_cons (pv 2) pa_nil)))) (pw_or (pt_cmpR op_ne (pe_callB call_len_str (by rfl) T.z_len PySem.boot_len (pa_cons (pv 2) pa_nil)) (pe_callB call_len_str (by rfl) T.z_len PySem.boot_len (pa_cons (pe_ix ix_list (pv 0) pe_int (fun _ _ => rfl)) pa_nil)) (nomark _)) (pw_or1 (pt_cmpR op_in_seq (pv 2) (pe_slice sl_list (pv 0) po_none (po_some (pv 1))) (by rfl))))))
 (pss_one ps_never)
 pss_nil))))), ?_⟩
    refine ⟨_, rfl, p, _, rfl, .inl hp, rfl, _, rfl, ifN (by simp; exact hR.ne) ?_⟩
    refine ⟨_, rfl, p, _, rfl, hp, ?_⟩
    refine for_it (walk_enum (K := K) (a := p) (xs := ws.map wv)) (fun i σ H' => ∃ y z, σ = [some (.ref p), y, z] ∧ Ex H H') ⟨_, _, rfl, Ex.refl _⟩ (fun i σ H' _ ⟨_, _, _, e⟩ => ex_l e hp) ?_ ?_
    · rintro i x σ H1 H2 hi ⟨y, z, rfl, e1⟩ ⟨t, u, v, rfl, nt, rfl, hu, hv⟩
      obtain rfl := Option.some.inj hu
      have hv : (ws.map wv)[i]? = some v := hv
      obtain ⟨w, hw, rfl⟩ : ∃ w, ws[i]? = some w ∧ wv w = v := by
        rw [List.getElem?_map] at hv
        cases e : ws[i]? with
        | none => rw [e] at hv; cases hv
        | some y => rw [e] at hv; exact ⟨y, rfl, Option.some.inj hv⟩
      have hwm := List.mem_of_getElem? hw
      have hwl := hR.wide w hwm
      have e2 := e1.trans (Ex.new (o := HO.tup [.int (i : Nat), wv w]) nt)
      refine ⟨t, _, rfl, SqT.of upd_same, rfl, _, _, rfl, _, _, rfl, rfl, ?_⟩
      have h1 := hR.n1
      have h4 := hR.n4
      refine ⟨_, rfl, wd w, rfl, by rw [wd_len]; omega, strOk_wd w, fun H3 e3 => ?_⟩
      rw [isW_wd (by omega) (by omega)]
      refine ⟨true, rfl, ifN (by simp) ?_⟩
      have e13 := e2.trans e3
      obtain ⟨w0, hw0⟩ : ∃ w0, ws[0]? = some w0 := ⟨ws[0], List.getElem?_eq_getElem hpos⟩
      have hl0 := hR.wide w0 (List.mem_of_getElem? hw0)
      refine ⟨_, rfl, wd w, rfl, small9 (by rw [wd_len]; omega), _, rfl, p, _, 0, wv w0, rfl, rfl, ex_l e13 hp, atI_nat (j := 0) (by rw [List.getElem?_map, hw0]; rfl), wd w0, rfl, small9 (by rw [wd_len]; omega), rfl, _, rfl, ifN ?_ ?_⟩
      · rw [decide_eq_true (by rw [wd_len, wd_len, hwl, hl0])]
        simp
      refine ⟨_, rfl, _, rfl, _, rfl, i, rfl, p, _, rfl, ex_l e13 hp, fun o no => ⟨o, _, rfl, .inl (SqL.of upd_same), rfl, ?_, _, rfl, ?_⟩⟩
      · rw [cutTake, ← List.map_take]
        exact flatW _
      · rw [cutTake, ← List.map_take]
        refine ifN ?_ ⟨_, _, rfl, e13.trans (Ex.new no)⟩
        show ¬ inV (wv w) ((ws.take i).map wv) = true
        rw [inV_wv, decide_eq_true_eq]
        intro hm
        obtain ⟨j, hj, e⟩ := List.mem_iff_getElem.mp hm
        rw [List.length_take] at hj
        rw [List.getElem_take] at e
        have hw' := (List.getElem?_eq_some_iff.mp hw)
        obtain ⟨hi', e'⟩ := hw'
        have := (List.getElem_inj hR.nd (h₀ := by omega) (h₁ := hi')).mp (e.trans e'.symm)
        omega
    · rintro σ H' ⟨y, z, rfl, e⟩
      exact q _ e
def sp_seen_of : Sp := fun vs H Q _ => ∃ (a b : List Bool) (n : Nat), vs = [wv a, wv b] ∧ a.length = n ∧ b.length = n ∧ n ≤ 4 ∧ RetL ((seenW a b).map wv) H Q
theorem ok_seen_of (T : TX K mg) : FnOk P w K mg base CX0 1 T.f_seen_of T.fd_seen_of ["one", "other"] sp_seen_of := by
  refine T.F_seen_of.ok sc_seen_of (fun vs H Q E h => ?_) (fun cdv A outer s H vs Q E hr h => ?_)
  · obtain ⟨_, _, _, rfl, _⟩ := h
    rfl
  · obtain ⟨a, b, n, rfl, ha, hb, hn, q⟩ := h
    refine ⟨_, (pss_cons (ps_set (i := 2) sc_seen_of.nd rfl (by first | exact Or.inl rfl | exact Or.inr rfl) (pe_lst (pa_cons pe_str pa_nil)))
 (pss_cons (ps_for PassesOwn.never rfl (pi_range1 (by rfl) T.z_range (pa_cons (pe_callB call_len_str (by rfl) T.z_len PySem.boot_len (pa_cons (pv 0) pa_nil)) pa_nil)) (pg_name (i := 3) sc_seen_of.nd rfl (by first | exact Or.inl rfl | exact Or.inr rfl))
 (pss_cons (ps_set (i := 4) sc_seen_of.nd rfl (by first | exact Or.inl rfl | exact Or.inr rfl) (pe_callB (r := rSortSet w) (cr_sortSet rfl) (by rfl) T.z_sorted (by decide +kernel) (pa_cons (pe_callTy (r := rSetS K w) (cr_setS rfl) (by rfl) T.z_set (by decide +kernel) (pa_cons (pe_lst (pa_cons (pe_ix ix_str (pv 0) (pv 3) (fun _ _ => rfl)) (pa_cons (pe_ix ix_str (pv 1) (pv 3) (fun _ _ => rfl)) pa_nil))) pa_nil)) pa_nil)))
 (pss_cons (ps_set (i := 5) sc_seen_of.nd rfl (by first | exact Or.inl rfl | exact Or.inr rfl) (pe_lst pa_nil))
 (pss_cons (ps_for PassesOwn.never rfl (pi_list (pv 2)) (pg_name (i := 6) sc_seen_of.nd rfl (by first | exact Or.inl rfl | exact Or.inr rfl))
 (pss_one (ps_expr (pe_bm PySem.F.plainAttrs_list PySem.F.slot_list_extend PySem.F.type_list_extend mt_extend (pv 5) (pa_cons (pe_lc (own := [("mark", 7)]) (g := gName 7) (by rfl) sc_seen_of.nd (pi_list (pv 4)) (blkOk_by (own := [("mark", 7)]) (N := ["one", "other", "found", "at", "marks", "longer", "word", "mark"]) (sc := defScope s_seen_of) (by decide +kernel)) (fun _ _ _ _ _ => pg_name (i := 7) sc_seen_of.nd rfl (Or.inl rfl)) (fun _ _ _ _ _ => pts_nil) (fun _ _ _ _ _ => (pe_op op_add_str (pv 6) (pv 7)))) pa_nil)))))
 (pss_one (ps_set (i := 2) sc_seen_of.nd rfl (by first | exact Or.inl rfl | exact Or.inr rfl) (pv 5)))))))
 (pss_one (ps_ret (pv 2))))), ?_⟩
    refine ⟨small9 (by simp), fun p np => ?_⟩
    refine ⟨_, rfl, wd a, rfl, small9 (by rw [wd_len]; omega), _, rfl, lo62 _, hi62 (by rw [wd_len]; omega), ?_⟩
    have en : (((wd a).length : Int)).toNat = n := by rw [wd_len]; omega
    rw [en]
    refine for_range (lo := 0) (n := n) (fun i σ H' => ∃ p y3 y4 y5 y6 y7, σ = [some (wv a), some (wv b), some (.ref p), y3, y4, y5, y6, y7] ∧ Ex H H' ∧ H p = none ∧ H' p = some (.lst ((sUp a b i).map wv)))
      ⟨p, _, _, _, _, _, rfl, Ex.new np, np, by rw [upd_same, strE]; rfl⟩ ?_ ?_
    · rintro i σ H1 hi ⟨p, y3, y4, y5, y6, y7, rfl, e1, np, hp⟩
      have ei : (0 : Int) + (i : Int) = (i : Int) := Int.zero_add _
      rw [ei]
      have hpw : (sUp a b i).length ≤ 16 := Nat.le_trans (sUp_len a b i) (pow16 (by omega))
      -- marks
      refine ⟨_, rfl, _, rfl, wd a, _, bit (a.getD i false), rfl, rfl, small9 (by rw [wd_len]; omega), atW rfl (by omega), _, rfl, _, rfl, wd b, _, bit (b.getD i false), rfl, rfl, small9 (by rw [wd_len]; omega), atW rfl (by omega), small9 (by simp), fun l nl => ?_⟩
      have el := Ex.new (o := HO.lst [.str ⟨#[bit (a.getD i false)]⟩, .str ⟨#[bit (b.getD i false)]⟩]) nl
      refine ⟨l, [wd [a.getD i false], wd [b.getD i false]], rfl, SqL.of upd_same, by simp, fun st nst => ?_⟩
      have est := Ex.new (o := SetH w st ([wd [a.getD i false], wd [b.getD i false]].foldl insS [])) nst
      refine ⟨st, _, rfl, upd_same, Nat.lt_of_le_of_lt (setM_len _ _) (by decide), fun ys m hperm hsort nm => ?_⟩
      rw [sorted_marks hperm hsort]
      have em := Ex.new (o := HO.lst (((mk2 (a.getD i false) (b.getD i false)).map fun m => wd [m]).map V.str)) nm
      have e2 := (el.trans est).trans em
      have hm2 : (upd (upd (upd H1 l (.lst [.str ⟨#[bit (a.getD i false)]⟩, .str ⟨#[bit (b.getD i false)]⟩])) st (SetH w st ([wd [a.getD i false], wd [b.getD i false]].foldl insS []))) m (.lst (((mk2 (a.getD i false) (b.getD i false)).map fun m => wd [m]).map V.str))) m = some (.lst ((mk2 (a.getD i false) (b.getD i false)).map fun m => wv [m])) := by
        rw [upd_same, List.map_map]
        rfl
      have hp2 := e2 _ _ hp
      have e12 := e1.trans e2
      generalize (upd (upd (upd H1 l (.lst [.str ⟨#[bit (a.getD i false)]⟩, .str ⟨#[bit (b.getD i false)]⟩])) st (SetH w st ([wd [a.getD i false], wd [b.getD i false]].foldl insS []))) m (.lst (((mk2 (a.getD i false) (b.getD i false)).map fun m => wd [m]).map V.str))) = H2 at hm2 hp2 e12 ⊢
      -- longer
      refine ⟨small9 (by simp), fun lo nlo => ?_⟩
      have elo := Ex.new (o := HO.lst []) nlo
      have nlp : p ≠ lo := ne_of_none hp2 nlo
      have nlm : m ≠ lo := ne_of_none hm2 nlo
      have nlH : H lo = none := fresh_back e12 nlo
      refine ⟨_, rfl, p, rfl, ⟨_, SqL.of (elo _ _ hp2)⟩, ?_⟩
      refine for_list (K := K) (a := p) (xs := (sUp a b i).map wv) (fun k σ H' => ∃ y6 y7, σ = [some (wv a), some (wv b), some (.ref p), some (.int (i : Int)), some (.ref m), some (.ref lo), y6, y7] ∧ Ex H H' ∧ H' p = some (.lst ((sUp a b i).map wv)) ∧ H' m = some (.lst ((mk2 (a.getD i false) (b.getD i false)).map fun m => wv [m])) ∧
          H' lo = some (.lst ((stepS ((sUp a b i).take k) (a.getD i false, b.getD i false)).map wv)))
        ⟨_, _, rfl, e12.trans elo, elo _ _ hp2, elo _ _ hm2, upd_same⟩ (fun k σ H' _ ⟨_, _, _, _, h, _⟩ => SqL.of h) ?_ ?_
      · rintro k x σ H3 hk ⟨y6, y7, rfl, e3, hp3, hm3, hl3⟩
        obtain ⟨u, hu, rfl⟩ : ∃ u, (sUp a b i)[k]? = some u ∧ wv u = x := by
          rw [List.getElem?_map] at hk
          cases e : (sUp a b i)[k]? with
          | none => rw [e] at hk; cases hk
          | some y => rw [e] at hk; exact ⟨y, rfl, Option.some.inj hk⟩
        have hul : u.length = i := sUp_wide (by omega) (by omega) u (List.mem_of_getElem? hu)
        refine ⟨_, rfl, .inl ⟨rfl, _, SqL.of hl3⟩, _, rfl, m, rfl, ⟨_, SqL.of hm3⟩, fun D nD => lcM (mk2 (a.getD i false) (b.getD i false)) (fun c => wv [c]) (fun c => wv (u ++ [c])) (SqL.of hm3) (Nat.le_trans (mk2_len _ _) (by decide)) nD (fun _ => rfl) (fun c hc H4 e4 Y hY => ?_) (fun H4 e4 h4 => ?_)⟩
        · refine ⟨_, rfl, _, rfl, _, _, rfl, rfl, small9 (by rw [wd_len, wd_len]; simp; omega), ?_⟩
          rw [wd_app]
          exact hY _ (Ex.refl _)
        · have hlen : (stepS ((sUp a b i).take k) (a.getD i false, b.getD i false)).length ≤ 32 := by
            have h1 := stepS_len ((sUp a b i).take k) (a.getD i false, b.getD i false)
            have h2 : ((sUp a b i).take k).length ≤ 16 := by rw [List.length_take]; omega
            omega
          refine ⟨lo, D, _, _, rfl, rfl, e4 _ _ hl3, h4, ?_, _, _, rfl, (e3.trans e4).mut nlH, ?_, ?_, ?_⟩
          · rw [List.length_map, List.length_map]
            have := mk2_len (a.getD i false) (b.getD i false)
            exact small9 (by omega)
          · rw [upd_ne nlp]
            exact e4 _ _ hp3
          · rw [upd_ne nlm]
            exact e4 _ _ hm3
          · rw [upd_same, List.take_add_one, hu]
            unfold stepS
            simp [Function.comp_def]
      · rintro σ H3 ⟨y6, y7, rfl, e3, hp3, hm3, hl3⟩
        rw [List.length_map, List.take_length, ← sUp_succ (by omega) (by omega)] at hl3
        exact ⟨_, rfl, lo, _, _, _, _, _, rfl, e3, nlH, hl3⟩
    · rintro σ H1 ⟨p, y3, y4, y5, y6, y7, rfl, e1, np, hp⟩
      rw [sUp_all ha hb] at hp
      exact ⟨_, rfl, q p H1 np e1 hp⟩
theorem kb_ib : kitB "int" "bool" = some false := by decide +kernel
theorem kb_ii : kitB "int" "int" = some true := by decide +kernel
theorem kb_sb : kitB "str" "bool" = some false := by decide +kernel
theorem kb_si : kitB "str" "int" = some false := by decide +kernel
theorem kb_ss : kitB "str" "str" = some true := by decide +kernel
theorem kb_lb : kitB "list" "bool" = some false := by decide +kernel
theorem kb_li : kitB "list" "int" = some false := by decide +kernel
theorem kb_ls : kitB "list" "str" = some false := by decide +kernel
theorem kb_lt : kitB "list" "tuple" = some false := by decide +kernel
theorem kb_ll : kitB "list" "list" = some true := by decide +kernel
theorem kb_tb : kitB "tuple" "bool" = some false := by decide +kernel
theorem kb_ti : kitB "tuple" "int" = some false := by decide +kernel
theorem kb_ts : kitB "tuple" "str" = some false := by decide +kernel
theorem kb_tt : kitB "tuple" "tuple" = some true := by decide +kernel
theorem kb_tl : kitB "tuple" "list" = some false := by decide +kernel
theorem isiR {K : PySem.W.Frag} {H : Hp} {Q : VK} {x : V} {t n : String} {b : Bool} (hx : TyX K H x (.type t)) (hk : kitB t n = some b) (q : Q (.bl b) H) : rIsi K [x, .ty n] H Q := ⟨x, .ty n, .type t, .type n, b, rfl, .ty n, hx, kit_ty hk, q⟩
theorem Da.both {H : Hp} {n : Nat} {x y : V} {d : PyData} (hx : Da H n x d) (hy : Da H n y d) : (Leaf x d ∧ Leaf y d) ∨
    (∃ m a xs b ys ds, n = m + 1 ∧ x = .ref a ∧ y = .ref b ∧ d = .list ds ∧ H a = some (.lst xs) ∧ H b = some (.lst ys) ∧ ys.length ≤ 1000 ∧ Paired (Da H m) xs ds ∧ Paired (Da H m) ys ds) ∨
    (∃ m a xs b ys ds, n = m + 1 ∧ x = .ref a ∧ y = .ref b ∧ d = .tuple ds ∧ H a = some (.tup xs) ∧ H b = some (.tup ys) ∧ ys.length ≤ 1000 ∧ Paired (Da H m) xs ds ∧ Paired (Da H m) ys ds) := by
  cases n with
  | zero => exact .inl ⟨hx, hy⟩
  | succ n =>
    rcases hy with ly | ⟨b, ys, ds, rfl, rfl, hb, lb, pb⟩ | ⟨b, ys, ds, rfl, rfl, hb, lb, pb⟩
    · rcases hx with lx | ⟨a, xs, ds, _, rfl, _⟩ | ⟨a, xs, ds, _, rfl, _⟩
      · exact .inl ⟨lx, ly⟩
      · rcases ly with ⟨_, h⟩ | ⟨_, _, h⟩ | ⟨_, _, h⟩ <;> cases h
      · rcases ly with ⟨_, h⟩ | ⟨_, _, h⟩ | ⟨_, _, h⟩ <;> cases h
    · rcases hx with lx | ⟨a, xs, ds', e, h, h1, h2, h3⟩ | ⟨a, xs, ds', _, h, _⟩
      · rcases lx with ⟨_, h⟩ | ⟨_, _, h⟩ | ⟨_, _, h⟩ <;> cases h
      · cases h; exact .inr (.inl ⟨n, a, xs, b, ys, _, rfl, e, rfl, rfl, h1, hb, lb, h3, pb⟩)
      · cases h
    · rcases hx with lx | ⟨a, xs, ds', _, h, _⟩ | ⟨a, xs, ds', e, h, h1, h2, h3⟩
      · rcases lx with ⟨_, h⟩ | ⟨_, _, h⟩ | ⟨_, _, h⟩ <;> cases h
      · cases h
      · cases h; exact .inr (.inr ⟨n, a, xs, b, ys, _, rfl, e, rfl, rfl, h1, hb, lb, h3, pb⟩)
def sp_l_alike : Nat → Sp
  | 0 => fun _ _ _ _ => False
  | n + 1 => fun vs H Q _ => ∃ x y d, vs = [x, y] ∧ Da H n x d ∧ Da H n y d ∧ RetV (.bl true) H Q
theorem ok_alikeN (T : TX K mg) : ∀ n : Nat, FnOk P w K mg base CX0 n T.f_l_alike T.fd_l_alike ["_law_found", "_law_due"] (sp_l_alike n)
  | 0 => ⟨fun _ _ _ _ h => h.elim, fun _ _ _ _ _ _ _ _ _ _ _ _ _ h => h.elim⟩
  | n + 1 => by
    have ih := ok_alikeN T n
    refine T.F_l_alike.ok sc_l_alike (fun vs H Q E h => ?_) (fun cdv A outer s H vs Q E hr h => ?_)
    · obtain ⟨x, y, d, rfl, _⟩ := h
      rfl
    · obtain ⟨x, y, d, rfl, hx, hy, q⟩ := h
      refine ⟨_, (pss_cons (ps_if (pt_cmpR op_isN (pv 1) pe_non (nomark _))
 (pss_one (ps_ret (pe_cmpR op_isN (pv 0) pe_non (nomark _))))
 pss_nil)
 (pss_cons (ps_if (pt_val (pe_callB call_isi (by rfl) T.z_isinstance (by decide +kernel) (pa_cons (pv 1) (pa_cons (pe_bltn (v := .ty "bool") (u := .type "bool") (by rfl) T.z_bool (by decide +kernel) rfl) pa_nil))))
 (pss_one (ps_ret (pe_and (pe_callB call_isi (by rfl) T.z_isinstance (by decide +kernel) (pa_cons (pv 0) (pa_cons (pe_bltn (v := .ty "bool") (u := .type "bool") (by rfl) T.z_bool (by decide +kernel) rfl) pa_nil))) (pe_one (pe_cmpR op_eq (pv 0) (pv 1) (nomark _))))))
 pss_nil)
 (pss_cons (ps_if (pt_val (pe_callB call_isi (by rfl) T.z_isinstance (by decide +kernel) (pa_cons (pv 1) (pa_cons (pe_bltn (v := .ty "int") (u := .type "int") (by rfl) T.z_int (by decide +kernel) rfl) pa_nil))))
 (pss_one (ps_ret (pe_and (pe_callB call_isi (by rfl) T.z_isinstance (by decide +kernel) (pa_cons (pv 0) (pa_cons (pe_bltn (v := .ty "int") (u := .type "int") (by rfl) T.z_int (by decide +kernel) rfl) pa_nil))) (pe_and (pe_not (pe_callB call_isi (by rfl) T.z_isinstance (by decide +kernel) (pa_cons (pv 0) (pa_cons (pe_bltn (v := .ty "bool") (u := .type "bool") (by rfl) T.z_bool (by decide +kernel) rfl) pa_nil)))) (pe_one (pe_cmpR op_eq (pv 0) (pv 1) (nomark _)))))))
 pss_nil)
 (pss_cons (ps_if (pt_val (pe_callB call_isi (by rfl) T.z_isinstance (by decide +kernel) (pa_cons (pv 1) (pa_cons (pe_bltn (v := .ty "str") (u := .type "str") (by rfl) T.z_str (by decide +kernel) rfl) pa_nil))))
 (pss_one (ps_ret (pe_and (pe_callB call_isi (by rfl) T.z_isinstance (by decide +kernel) (pa_cons (pv 0) (pa_cons (pe_bltn (v := .ty "str") (u := .type "str") (by rfl) T.z_str (by decide +kernel) rfl) pa_nil))) (pe_one (pe_cmpR op_eq (pv 0) (pv 1) (nomark _))))))
 pss_nil)
 (pss_cons (ps_if (PW.pt (pw_or (pt_cmpR op_ne (pe_callB call_isi (by rfl) T.z_isinstance (by decide +kernel) (pa_cons (pv 1) (pa_cons (pe_bltn (v := .ty "tuple") (u := .type "tuple") (by rfl) T.z_tuple (by decide +kernel) rfl) pa_nil))) (pe_callB call_isi (by rfl) T.z_isinstance (by decide +kernel) (pa_cons (pv 0) (pa_cons (pe_bltn (v := .ty "tuple") (u := .type "tuple") (by rfl) T.z_tuple (by decide +kernel) rfl) pa_nil))) (nomark _)) (pw_or1 (pt_cmpR op_ne (pe_callB call_isi (by rfl) T.z_isinstance (by decide +kernel) (pa_cons (pv 1) (pa_cons (pe_bltn (v := .ty "list") (u := .type "list") (by rfl) T.z_list (by decide +kernel) rfl) pa_nil))) (pe_callB call_isi (by rfl) T.z_isinstance (by decide +kernel) (pa_cons (pv 0) (pa_cons (pe_bltn (v := .ty "list") (u := .type "list") (by rfl) T.z_list (by decide +kernel) rfl) pa_nil))) (nomark _)))))
 (pss_one (ps_ret pe_bl))
 pss_nil)
 (pss_cons (ps_if (pt_cmpR op_ne (pe_callB call_len (by rfl) T.z_len PySem.boot_len (pa_cons (pv 0) pa_nil)) (pe_callB call_len (by rfl) T.z_len PySem.boot_len (pa_cons (pv 1) pa_nil)) (nomark _))
 (pss_one (ps_ret pe_bl))
 pss_nil)
 (pss_one (ps_ret (pe_callB (cr_all rfl) (by rfl) T.z_all (by decide +kernel) (pa_cons (pe_lc (own := [("_law_k", 2)]) (g := gName 2) (by rfl) sc_l_alike.nd (pi_range1 (by rfl) T.z_range (pa_cons (pe_callB call_len (by rfl) T.z_len PySem.boot_len (pa_cons (pv 1) pa_nil)) pa_nil)) (blkOk_by (own := [("_law_k", 2)]) (N := ["_law_found", "_law_due", "_law_k"]) (sc := defScope s_l_alike) (by decide +kernel)) (fun _ _ _ _ _ => pg_name (i := 2) sc_l_alike.nd rfl (Or.inl rfl)) (fun _ _ _ _ _ => pts_nil) (fun _ _ _ _ _ => (pe_call ih hr (by rfl) T.g_l_alike T.F_l_alike.kp T.b_l_alike .nil pass0 (pa_cons (pe_ix (r := rIx K) ix_seq (pv 0) (pv 2) (fun _ _ => rfl)) (pa_cons (pe_ix (r := rIx K) ix_seq (pv 1) (pv 2) (fun _ _ => rfl)) pa_nil))))) pa_nil)))))))))), ?_⟩
      rcases hx.both hy with ⟨lx, ly⟩ | ⟨n, a, xs, b, ys, ds, rfl, rfl, rfl, rfl, ha, hb, lb, pa, pb⟩ | ⟨n, a, xs, b, ys, ds, rfl, rfl, rfl, rfl, ha, hb, lb, pa, pb⟩
      · rcases ly with ⟨rfl, rfl⟩ | ⟨i, rfl, rfl⟩ | ⟨z, rfl, rfl⟩
        · obtain rfl : x = .non := by
            rcases lx with ⟨h, _⟩ | ⟨_, _, h⟩ | ⟨_, _, h⟩
            · exact h
            · cases h
            · cases h
          exact ⟨_, rfl, rfl, _, rfl, ifP rfl ⟨_, rfl, rfl, q _ (Ex.refl _)⟩⟩
        · obtain rfl : x = .int i := by
            rcases lx with ⟨_, h⟩ | ⟨_, e, h⟩ | ⟨_, _, h⟩
            · cases h
            · cases h; exact e
            · cases h
          refine ⟨_, rfl, rfl, _, rfl, ifN (by simp) ⟨_, rfl, _, _, _, _, _, rfl, .ty _, (.base (.int i)), kit_ty kb_ib, ⟨_, rfl, ifN (by simp) ⟨_, rfl, _, _, _, _, _, rfl, .ty _, (.base (.int i)), kit_ty kb_ii, ⟨_, rfl, ifP rfl ?_⟩⟩⟩⟩⟩
          refine ⟨_, rfl, _, _, _, _, _, rfl, .ty _, (.base (.int i)), kit_ty kb_ii, ⟨_, rfl, ifP rfl ⟨_, rfl, _, _, _, _, _, rfl, .ty _, (.base (.int i)), kit_ty kb_ib, ⟨_, rfl, _, rfl, ifP rfl ⟨_, rfl, _, rfl, rfl, ?_⟩⟩⟩⟩⟩
          rw [decide_eq_true rfl]
          exact q _ (Ex.refl _)
        · obtain rfl : x = .str z := by
            rcases lx with ⟨_, h⟩ | ⟨_, _, h⟩ | ⟨_, e, h⟩
            · cases h
            · cases h
            · cases h; exact e
          refine ⟨_, rfl, rfl, _, rfl, ifN (by simp) ⟨_, rfl, _, _, _, _, _, rfl, .ty _, (.base (.str z)), kit_ty kb_sb, ⟨_, rfl, ifN (by simp) ⟨_, rfl, _, _, _, _, _, rfl, .ty _, (.base (.str z)), kit_ty kb_si, ⟨_, rfl, ifN (by simp) ⟨_, rfl, _, _, _, _, _, rfl, .ty _, (.base (.str z)), kit_ty kb_ss, ⟨_, rfl, ifP rfl ?_⟩⟩⟩⟩⟩⟩⟩
          refine ⟨_, rfl, _, _, _, _, _, rfl, .ty _, (.base (.str z)), kit_ty kb_ss, ⟨_, rfl, ifP rfl ⟨_, rfl, _, rfl, rfl, ?_⟩⟩⟩
          rw [decide_eq_true rfl]
          exact q _ (Ex.refl _)
      · have tx : TyX K H (.ref a) (.type "list") := .base (.lst ha)
        have ty : TyX K H (.ref b) (.type "list") := .base (.lst hb)
        refine ⟨_, rfl, rfl, _, rfl, ifN (by simp) ⟨_, rfl, _, _, _, _, _, rfl, .ty _, ty, kit_ty kb_lb, ⟨_, rfl, ifN (by simp) ⟨_, rfl, _, _, _, _, _, rfl, .ty _, ty, kit_ty kb_li, ⟨_, rfl, ifN (by simp) ⟨_, rfl, _, _, _, _, _, rfl, .ty _, ty, kit_ty kb_ls, ⟨_, rfl, ifN (by simp) ?_⟩⟩⟩⟩⟩⟩⟩
        refine ⟨_, rfl, _, _, _, _, _, rfl, .ty _, ty, kit_ty kb_lt, ⟨_, rfl, _, _, _, _, _, rfl, .ty _, tx, kit_ty kb_lt, ⟨rfl, _, rfl, ifN (by simp) ⟨_, rfl, _, _, _, _, _, rfl, .ty _, ty, kit_ty kb_ll, ⟨_, rfl, _, _, _, _, _, rfl, .ty _, tx, kit_ty kb_ll, ⟨rfl, _, rfl, ifN (by simp) ?_⟩⟩⟩⟩⟩⟩
        refine ⟨_, rfl, _, _, rfl, .inl ⟨_, SqL.of ha, rfl⟩, _, rfl, _, _, rfl, .inl ⟨_, SqL.of hb, rfl⟩, rfl, _, rfl, ifN ?_ ?_⟩
        · rw [decide_eq_true (by rw [paired_len pa, paired_len pb])]
          decide
        refine ⟨_, rfl, _, _, rfl, .inl ⟨_, SqL.of hb, rfl⟩, _, rfl, lo62 _, hi62 lb, fun D nD => lcR ys.length (fun _ => .bl true) rfl lb nD (fun _ => rfl) (fun i hi H3 e3 Y hY => ?_) (fun H3 e3 h3 => ?_)⟩
        · obtain ⟨y, z, hy, hz, ry⟩ := paired_at pb (i := i) (by rw [← paired_len pb]; exact hi)
          obtain ⟨x, z', hx, hz', rx⟩ := paired_at pa (i := i) (by rw [← paired_len pb]; exact hi)
          obtain rfl : z = z' := Option.some.inj (hz.symm.trans hz')
          exact ⟨_, rfl, _, rfl, .inl ⟨a, xs, _, x, rfl, rfl, SqL.of (e3 _ _ ha), atI_nat hx, _, rfl, _, rfl, .inl ⟨b, ys, _, y, rfl, rfl, SqL.of (e3 _ _ hb), atI_nat hy, x, y, z, rfl, rx.mono e3, ry.mono e3, hY⟩⟩⟩
        · refine ⟨D, (List.range ys.length).map (fun _ => true), rfl, SqL.of (by rw [h3, List.map_map]; rfl), ?_⟩
          rw [show ((List.range ys.length).map (fun _ => true)).all id = true by simp]
          exact q _ e3
      · have tx : TyX K H (.ref a) (.type "tuple") := .base (.tup ha)
        have ty : TyX K H (.ref b) (.type "tuple") := .base (.tup hb)
        refine ⟨_, rfl, rfl, _, rfl, ifN (by simp) ⟨_, rfl, _, _, _, _, _, rfl, .ty _, ty, kit_ty kb_tb, ⟨_, rfl, ifN (by simp) ⟨_, rfl, _, _, _, _, _, rfl, .ty _, ty, kit_ty kb_ti, ⟨_, rfl, ifN (by simp) ⟨_, rfl, _, _, _, _, _, rfl, .ty _, ty, kit_ty kb_ts, ⟨_, rfl, ifN (by simp) ?_⟩⟩⟩⟩⟩⟩⟩
        refine ⟨_, rfl, _, _, _, _, _, rfl, .ty _, ty, kit_ty kb_tt, ⟨_, rfl, _, _, _, _, _, rfl, .ty _, tx, kit_ty kb_tt, ⟨rfl, _, rfl, ifN (by simp) ⟨_, rfl, _, _, _, _, _, rfl, .ty _, ty, kit_ty kb_tl, ⟨_, rfl, _, _, _, _, _, rfl, .ty _, tx, kit_ty kb_tl, ⟨rfl, _, rfl, ifN (by simp) ?_⟩⟩⟩⟩⟩⟩
        refine ⟨_, rfl, _, _, rfl, .inr ⟨_, SqT.of ha, rfl⟩, _, rfl, _, _, rfl, .inr ⟨_, SqT.of hb, rfl⟩, rfl, _, rfl, ifN ?_ ?_⟩
        · rw [decide_eq_true (by rw [paired_len pa, paired_len pb])]
          decide
        refine ⟨_, rfl, _, _, rfl, .inr ⟨_, SqT.of hb, rfl⟩, _, rfl, lo62 _, hi62 lb, fun D nD => lcR ys.length (fun _ => .bl true) rfl lb nD (fun _ => rfl) (fun i hi H3 e3 Y hY => ?_) (fun H3 e3 h3 => ?_)⟩
        · obtain ⟨y, z, hy, hz, ry⟩ := paired_at pb (i := i) (by rw [← paired_len pb]; exact hi)
          obtain ⟨x, z', hx, hz', rx⟩ := paired_at pa (i := i) (by rw [← paired_len pb]; exact hi)
          obtain rfl : z = z' := Option.some.inj (hz.symm.trans hz')
          exact ⟨_, rfl, _, rfl, .inr (.inl ⟨a, xs, _, x, rfl, rfl, SqT.of (e3 _ _ ha), atI_nat hx, _, rfl, _, rfl, .inr (.inl ⟨b, ys, _, y, rfl, rfl, SqT.of (e3 _ _ hb), atI_nat hy, x, y, z, rfl, rx.mono e3, ry.mono e3, hY⟩)⟩)⟩
        · refine ⟨D, (List.range ys.length).map (fun _ => true), rfl, SqL.of (by rw [h3, List.map_map]; rfl), ?_⟩
          rw [show ((List.range ys.length).map (fun _ => true)).all id = true by simp]
          exact q _ e3
theorem ok_l_alike (T : TX K mg) : FnOk P w K mg base CX0 6 T.f_l_alike T.fd_l_alike ["_law_found", "_law_due"] (sp_l_alike 6) := ok_alikeN T 6
def sp_Lane_inside (C : Addr) : Sp := fun vs H Q _ => ∃ (x : Addr) (r : Nat) (pw pb : Addr) (c : Co) (m : Nat) (f : V), vs = [.ref x] ∧ Ln C r pw pb H x c m f ∧ 1 ≤ r ∧ RetV (.int (insd r c)) H Q
theorem ok_Lane_inside (T : TX K mg) : FnOk P w K mg base CX0 1 T.f_Lane_inside T.fd_Lane_inside ["self"] (sp_Lane_inside T.C_Lane) := by
  refine T.F_Lane_inside.ok sc_Lane_inside (fun vs H Q E h => ?_) (fun cdv A outer s H vs Q E hr h => ?_)
  · obtain ⟨_, _, _, _, _, _, _, rfl, _⟩ := h
    rfl
  · obtain ⟨x, r, pw, pb, c, m, f, rfl, ⟨dx, hx⟩, r1, q⟩ := h
    refine ⟨_, (pss_one (ps_ret (pe_op op_mod (pe_op op_sub (pe_fld (pv 0) rfl) (pe_fld (pv 0) rfl)) (pe_op op_mul pe_int (pe_fld (pv 0) rfl))))), ?_⟩
    refine ⟨_, rfl, x, _, _, _, _, rfl, hx, T.cl_Lane, T.na_put, fs_put, _, rfl, x, _, _, _, _, rfl, hx, T.cl_Lane, T.na_got, fs_got, _, _, rfl, rfl, _, rfl, x, _, _, _, _, rfl, hx, T.cl_Lane, T.na_room, fs_room, _, _, rfl, rfl, .inl ⟨by decide, by decide⟩, _, _, rfl, rfl, by omega, q _ (Ex.refl _)⟩
def sp_Lane_behind (C : Addr) : Sp := fun vs H Q _ => ∃ (x : Addr) (r : Nat) (pw pb : Addr) (c : Co) (m : Nat) (f : V) (i : Nat), vs = [.ref x, .int (i : Int)] ∧ Ln C r pw pb H x c m f ∧ 1 ≤ r ∧ RetV (.int (nxt r i : Nat)) H Q
theorem ok_Lane_behind (T : TX K mg) : FnOk P w K mg base CX0 1 T.f_Lane_behind T.fd_Lane_behind ["self", "place"] (sp_Lane_behind T.C_Lane) := by
  refine T.F_Lane_behind.ok sc_Lane_behind (fun vs H Q E h => ?_) (fun cdv A outer s H vs Q E hr h => ?_)
  · obtain ⟨_, _, _, _, _, _, _, _, rfl, _⟩ := h
    rfl
  · obtain ⟨x, r, pw, pb, c, m, f, i, rfl, ⟨dx, hx⟩, r1, q⟩ := h
    refine ⟨_, (pss_one (ps_ret (pe_op op_mod (pe_op op_add (pv 1) pe_int) (pe_op op_mul pe_int (pe_fld (pv 0) rfl))))), ?_⟩
    refine ⟨_, rfl, _, _, rfl, rfl, _, rfl, x, _, _, _, _, rfl, hx, T.cl_Lane, T.na_room, fs_room, _, _, rfl, rfl, .inl ⟨by decide, by decide⟩, _, _, rfl, rfl, by omega, ?_⟩
    rw [nxt_int] at q
    exact q _ (Ex.refl _)
def sp_Lane_can_put (C : Addr) : Sp := fun vs H Q _ => ∃ (x : Addr) (r : Nat) (pw pb : Addr) (c : Co) (m : Nat) (f : V), vs = [.ref x] ∧ Ln C r pw pb H x c m f ∧ 1 ≤ r ∧ RetV (.bl (goes r c true)) H Q
theorem ok_Lane_can_put (T : TX K mg) : FnOk P w K mg base CX0 1 T.f_Lane_can_put T.fd_Lane_can_put ["self"] (sp_Lane_can_put T.C_Lane) := by
  refine T.F_Lane_can_put.ok sc_Lane_can_put (fun vs H Q E h => ?_) (fun cdv A outer s H vs Q E hr h => ?_)
  · obtain ⟨_, _, _, _, _, _, _, rfl, _⟩ := h
    rfl
  · obtain ⟨x, r, pw, pb, c, m, f, rfl, ⟨dx, hx⟩, r1, q⟩ := h
    refine ⟨_, (pss_one (ps_ret (pe_cmpR op_lt (pe_op op_mod (pe_op op_sub (pe_fld (pv 0) rfl) (pe_fld (pv 0) rfl)) (pe_op op_mul pe_int (pe_fld (pv 0) rfl))) (pe_fld (pv 0) rfl) (nomark _)))), ?_⟩
    refine ⟨_, rfl, x, _, _, _, _, rfl, hx, T.cl_Lane, T.na_put, fs_put, _, rfl, x, _, _, _, _, rfl, hx, T.cl_Lane, T.na_seen_got, fs_sg, _, _, rfl, rfl, _, rfl, x, _, _, _, _, rfl, hx, T.cl_Lane, T.na_room, fs_room, _, _, rfl, rfl, .inl ⟨by decide, by decide⟩, _, _, rfl, rfl, by omega, _, rfl, x, _, _, _, _, rfl, hx, T.cl_Lane, T.na_room, fs_room, _, _, rfl, rfl, q _ (Ex.refl _)⟩
def sp_Lane_can_get (C : Addr) : Sp := fun vs H Q _ => ∃ (x : Addr) (r : Nat) (pw pb : Addr) (c : Co) (m : Nat) (f : V), vs = [.ref x] ∧ Ln C r pw pb H x c m f ∧ 1 ≤ r ∧ RetV (.bl (goes r c false)) H Q
theorem goes_get (r : Nat) (c : Co) : goes r c false = !decide (V.int (c.sp : Int) = V.int (c.got : Int)) := by
  show (!decide (c.sp = c.got)) = _
  by_cases h : c.sp = c.got
  · simp [h]
  · have : ¬ (c.sp : Int) = (c.got : Int) := by omega
    simp [h, this]
theorem ok_Lane_can_get (T : TX K mg) : FnOk P w K mg base CX0 1 T.f_Lane_can_get T.fd_Lane_can_get ["self"] (sp_Lane_can_get T.C_Lane) := by
  refine T.F_Lane_can_get.ok sc_Lane_can_get (fun vs H Q E h => ?_) (fun cdv A outer s H vs Q E hr h => ?_)
  · obtain ⟨_, _, _, _, _, _, _, rfl, _⟩ := h
    rfl
  · obtain ⟨x, r, pw, pb, c, m, f, rfl, ⟨dx, hx⟩, r1, q⟩ := h
    refine ⟨_, (pss_one (ps_ret (pe_cmpR op_ne (pe_fld (pv 0) rfl) (pe_fld (pv 0) rfl) (nomark _)))), ?_⟩
    rw [goes_get] at q
    refine ⟨_, rfl, x, _, _, _, _, rfl, hx, T.cl_Lane, T.na_seen_put, fs_sp, _, rfl, x, _, _, _, _, rfl, hx, T.cl_Lane, T.na_got, fs_got, rfl, q _ (Ex.refl _)⟩
def sp_Lane_place_of (C : Addr) : Sp := fun vs H Q _ => ∃ (x : Addr) (r : Nat) (pw pb : Addr) (c : Co) (m : Nat) (f : V) (ws : List (List Bool)) (u : List Bool) (i : Nat), vs = [.ref x, wv u, .int (i : Int)] ∧ Ln C r pw pb H x c m f ∧ H pw = some (.lst (ws.map wv)) ∧ RetV (.int (if u ∈ ws then ws.idxOf u else i : Nat)) H Q
theorem ok_Lane_place_of (T : TX K mg) : FnOk P w K mg base CX0 1 T.f_Lane_place_of T.fd_Lane_place_of ["self", "word", "ahead"] (sp_Lane_place_of T.C_Lane) := by
  refine T.F_Lane_place_of.ok sc_Lane_place_of (fun vs H Q E h => ?_) (fun cdv A outer s H vs Q E hr h => ?_)
  · obtain ⟨_, _, _, _, _, _, _, _, _, _, rfl, _⟩ := h
    rfl
  · obtain ⟨x, r, pw, pb, c, m, f, ws, u, i, rfl, ⟨dx, hx⟩, hw, q⟩ := h
    refine ⟨_, (pss_one (ps_ret (pe_ifExp (pt_cmpR op_in_seq (pv 1) (pe_fld (pv 0) rfl) (by rfl)) (pe_bm PySem.F.plainAttrs_list PySem.F.slot_list_index PySem.F.type_list_index mt_index (pe_fld (pv 0) rfl) (pa_cons (pv 1) pa_nil)) (pv 2)))), ?_⟩
    refine ⟨_, rfl, _, rfl, x, _, _, _, _, rfl, hx, T.cl_Lane, T.na_words, fs_words, pw, _, rfl, .inl (SqL.of hw), rfl, flatW _, _, rfl, ?_⟩
    show if inV (wv u) (ws.map wv) = true then _ else _
    rw [inV_wv]
    by_cases hm : u ∈ ws
    · rw [if_pos hm] at q
      obtain ⟨h1, h2⟩ := idx_spec hm
      refine ifP (by simpa using hm) ⟨_, rfl, x, _, _, _, _, rfl, hx, T.cl_Lane, T.na_words, fs_words, .inl ⟨rfl, _, SqL.of hw⟩, _, rfl, pw, _, _, _, _, rfl, rfl, SqL.of hw, rfl, flatW _, h1, by simp [eqV], h2, q _ (Ex.refl _)⟩
    · rw [if_neg hm] at q
      exact ifN (by simpa using hm) ⟨_, rfl, q _ (Ex.refl _)⟩
def sp_Lane_turns (C : Addr) : Sp := fun vs H Q _ => ∃ (x : Addr) (r : Nat) (pw pb : Addr) (c : Co) (m : Nat) (f : V) (ws : List (List Bool)) (n : Nat) (p : Bool), vs = [.ref x, .str (pS p)] ∧ Ln C r pw pb H x c m f ∧ H pw = some (.lst (ws.map wv)) ∧ WW ws n r ∧ CoOk r c ∧ RetU [wv (ws.getD (here c p) []), wv (ws.getD (other r c p) [])] H Q
theorem ok_Lane_turns (T : TX K mg) : FnOk P w K mg base CX0 2 T.f_Lane_turns T.fd_Lane_turns ["self", "word"] (sp_Lane_turns T.C_Lane) := by
  refine T.F_Lane_turns.ok sc_Lane_turns (fun vs H Q E h => ?_) (fun cdv A outer s H vs Q E hr h => ?_)
  · obtain ⟨_, _, _, _, _, _, _, _, _, _, rfl, _⟩ := h
    rfl
  · obtain ⟨x, r, pw, pb, c, m, f, ws, n, p, rfl, hx, hw, hW, hc, q⟩ := h
    refine ⟨_, (pss_cons (ps_set (i := 2) sc_Lane_turns.nd rfl (by first | exact Or.inl rfl | exact Or.inr rfl) (pe_ifExp (pt_cmpR op_eq (pv 1) pe_str (nomark _)) (pe_fld (pv 0) rfl) (pe_fld (pv 0) rfl)))
 (pss_cons (ps_set (i := 3) sc_Lane_turns.nd rfl (by first | exact Or.inl rfl | exact Or.inr rfl) (pe_ifExp (pt_cmpR op_eq (pv 1) pe_str (nomark _)) (pe_meth0 (pv 0) T.cl_Lane T.m_Lane_can_put (ok_Lane_can_put T) (hr.mono (by decide)) T.b_Lane_can_put .nil pass0) (pe_meth0 (pv 0) T.cl_Lane T.m_Lane_can_get (ok_Lane_can_get T) (hr.mono (by decide)) T.b_Lane_can_get .nil pass0)))
 (pss_one (ps_ret (pe_tup (pa_cons (pe_ix ix_list (pe_fld (pv 0) rfl) (pv 2) (fun _ _ => rfl)) (pa_cons (pe_ifExp (pt_val (pv 3)) (pe_ix ix_list (pe_fld (pv 0) rfl) (pe_meth (pv 0) T.cl_Lane T.m_Lane_behind (ok_Lane_behind T) (hr.mono (by decide)) T.b_Lane_behind .nil pass0 (pa_cons (pv 2) pa_nil)) (fun _ _ => rfl)) (pe_ix ix_list (pe_fld (pv 0) rfl) (pv 2) (fun _ _ => rfl))) pa_nil))))))), ?_⟩
    obtain ⟨dx, hx0⟩ := hx
    have hh := here_lt hc p
    have ho := other_lt hW.r1 hc p
    cases p with
    | true =>
      refine ⟨_, rfl, rfl, _, rfl, ifP (by decide +kernel) ⟨_, rfl, x, _, _, _, _, rfl, hx0, T.cl_Lane, T.na_put, fs_put, ?_⟩⟩
      refine ⟨_, rfl, rfl, _, rfl, ifP (by decide +kernel) ⟨_, rfl, x, _, _, rfl, hx0, rfl, x, r, pw, pb, c, m, f, rfl, ⟨dx, hx0⟩, hW.r1, fun H1 e1 => ?_⟩⟩
      have hx1 := e1 _ _ hx0
      have hw1 := e1 _ _ hw
      refine ⟨_, rfl, x, _, _, _, _, rfl, hx1, T.cl_Lane, T.na_words, fs_words, _, rfl, pw, _, _, _, rfl, rfl, SqL.of hw1, atI_nat (hW.at hh), _, rfl, _, rfl, ?_⟩
      by_cases hg : goes r c true = true
      · refine ifP hg ⟨_, rfl, x, _, _, _, _, rfl, hx1, T.cl_Lane, T.na_words, fs_words, _, rfl, x, _, _, rfl, hx1, rfl, _, rfl, x, r, pw, pb, c, m, f, _, rfl, ⟨dx, hx1⟩, hW.r1, fun H2 e2 => ?_⟩
        have ho' : other r c true = nxt r (here c true) := by
          unfold other
          rw [if_pos hg]
        refine ⟨pw, _, _, _, rfl, rfl, SqL.of (e2 _ _ hw1), atI_nat (hW.at (nxt_lt hW.r1 _)), small9 (by simp), fun t nt => q t _ (fresh_back (e1.trans e2) nt) ((e1.trans e2).trans (Ex.new nt)) ?_⟩
        rw [upd_same, ho']
        rfl
      · refine ifN hg ⟨_, rfl, x, _, _, _, _, rfl, hx1, T.cl_Lane, T.na_words, fs_words, _, rfl, pw, _, _, _, rfl, rfl, SqL.of hw1, atI_nat (hW.at hh), small9 (by simp), fun t nt => q t _ (fresh_back e1 nt) (e1.trans (Ex.new nt)) ?_⟩
        have ho' : other r c true = here c true := by
          unfold other
          rw [if_neg hg]
        rw [upd_same, ho']
        rfl
    | false =>
      refine ⟨_, rfl, rfl, _, rfl, ifN (by decide +kernel) ⟨_, rfl, x, _, _, _, _, rfl, hx0, T.cl_Lane, T.na_got, fs_got, ?_⟩⟩
      refine ⟨_, rfl, rfl, _, rfl, ifN (by decide +kernel) ⟨_, rfl, x, _, _, rfl, hx0, rfl, x, r, pw, pb, c, m, f, rfl, ⟨dx, hx0⟩, hW.r1, fun H1 e1 => ?_⟩⟩
      have hx1 := e1 _ _ hx0
      have hw1 := e1 _ _ hw
      refine ⟨_, rfl, x, _, _, _, _, rfl, hx1, T.cl_Lane, T.na_words, fs_words, _, rfl, pw, _, _, _, rfl, rfl, SqL.of hw1, atI_nat (hW.at hh), _, rfl, _, rfl, ?_⟩
      by_cases hg : goes r c false = true
      · refine ifP hg ⟨_, rfl, x, _, _, _, _, rfl, hx1, T.cl_Lane, T.na_words, fs_words, _, rfl, x, _, _, rfl, hx1, rfl, _, rfl, x, r, pw, pb, c, m, f, _, rfl, ⟨dx, hx1⟩, hW.r1, fun H2 e2 => ?_⟩
        have ho' : other r c false = nxt r (here c false) := by
          unfold other
          rw [if_pos hg]
        refine ⟨pw, _, _, _, rfl, rfl, SqL.of (e2 _ _ hw1), atI_nat (hW.at (nxt_lt hW.r1 _)), small9 (by simp), fun t nt => q t _ (fresh_back (e1.trans e2) nt) ((e1.trans e2).trans (Ex.new nt)) ?_⟩
        rw [upd_same, ho']
        rfl
      · refine ifN hg ⟨_, rfl, x, _, _, _, _, rfl, hx1, T.cl_Lane, T.na_words, fs_words, _, rfl, pw, _, _, _, rfl, rfl, SqL.of hw1, atI_nat (hW.at hh), small9 (by simp), fun t nt => q t _ (fresh_back e1 nt) (e1.trans (Ex.new nt)) ?_⟩
        have ho' : other r c false = here c false := by
          unfold other
          rw [if_neg hg]
        rw [upd_same, ho']
        rfl
def sp_Lane_do_put (C : Addr) : Sp := fun vs H Q _ => ∃ (x : Addr) (r : Nat) (pw pb : Addr) (c : Co) (m : Nat) (f : V) (ws : List (List Bool)) (n : Nat) (bx : List V) (o : Option (List Bool)), vs = [.ref x, oV o] ∧ Ln C r pw pb H x c m f ∧ H pw = some (.lst (ws.map wv)) ∧ H pb = some (.lst bx) ∧ bx.length = r ∧ pw ≠ pb ∧ WW ws n r ∧ CoOk r c ∧ PDo C r pw pb x ws c m f bx (.tp true o) H Q
theorem int_dec (a b : Int) : decide (V.int a = V.int b) = decide (a = b) := by
  by_cases h : a = b
  · simp [h]
  · simp [h]
theorem ok_Lane_do_put (T : TX K mg) : FnOk P w K mg base CX0 2 T.f_Lane_do_put T.fd_Lane_do_put ["self", "seen"] (sp_Lane_do_put T.C_Lane) := by
  refine T.F_Lane_do_put.ok sc_Lane_do_put (fun vs H Q E h => ?_) (fun cdv A outer s H vs Q E hr h => ?_)
  · obtain ⟨_, _, _, _, _, _, _, _, _, _, _, rfl, _⟩ := h
    rfl
  · obtain ⟨x, r, pw, pb, c, m, f, ws, n, bx, o, rfl, ⟨dx, hx⟩, hw, hb, hbl, nwb, hW, hc, q⟩ := h
    have nwx : pw ≠ x := by
      rintro rfl
      rw [hw] at hx
      cases hx
    have nbx : pb ≠ x := by
      rintro rfl
      rw [hb] at hx
      cases hx
    have r1 := hW.r1
    refine ⟨_, (pss_cons (ps_set (i := 2) sc_Lane_do_put.nd rfl (by first | exact Or.inl rfl | exact Or.inr rfl) pe_non)
 (pss_cut (ps_if (pt_val (pe_meth0 (pv 0) T.cl_Lane T.m_Lane_can_put (ok_Lane_can_put T) (hr.mono (by decide)) T.b_Lane_can_put .nil pass0))
 (pss_cons (ps_set (i := 2) sc_Lane_do_put.nd rfl (by first | exact Or.inl rfl | exact Or.inr rfl) (pe_fld (pv 0) rfl))
 (pss_cons (ps_if (pt_cmpR op_eq (pe_meth0 (pv 0) T.cl_Lane T.m_Lane_inside (ok_Lane_inside T) (hr.mono (by decide)) T.b_Lane_inside .nil pass0) (pe_fld (pv 0) rfl) (nomark _))
 (pss_cons (ps_fld (pv 0) (pe_glob (v := .str "over") (by rfl) T.c_OVER ⟨_, rfl⟩) rfl)
 (pss_one (ps_ret (pe_glob (v := .str "over") (by rfl) T.c_OVER ⟨_, rfl⟩))))
 pss_nil)
 (pss_cons (ps_asg (pe_fld (pv 0) rfl) (pg_sub (pe_fld (pv 0) rfl) (pe_op op_mod (pe_fld (pv 0) rfl) (pe_fld (pv 0) rfl)) set_list))
 (pss_cons (ps_fld (pv 0) (pe_op op_add (pe_fld (pv 0) rfl) pe_int) rfl)
 (pss_one (ps_fld (pv 0) (pe_meth (pv 0) T.cl_Lane T.m_Lane_behind (ok_Lane_behind T) (hr.mono (by decide)) T.b_Lane_behind .nil pass0 (pa_cons (pe_fld (pv 0) rfl) pa_nil)) rfl))))))
 pss_nil)
 (pss_cut (ps_if (pt_cmpR op_notN (pv 1) pe_non (nomark _))
 (pss_one (ps_fld (pv 0) (pe_meth (pv 0) T.cl_Lane T.m_Lane_place_of (ok_Lane_place_of T) (hr.mono (by decide)) T.b_Lane_place_of .nil pass0 (pa_cons (pv 1) (pa_cons (pe_fld (pv 0) rfl) pa_nil))) rfl))
 pss_nil)
 (pss_one (ps_ret (pv 2)))))), ?_⟩
    refine ⟨fun σ H' => ∃ c1 m1 bx1 fv, σ = [some (.ref x), some (oV o), some fv] ∧ Ex2 x pb H H' ∧ H' x = some (.ins T.C_Lane dx (FS r pw pb c1 m1 f)) ∧ H' pw = some (.lst (ws.map wv)) ∧ H' pb = some (.lst bx1) ∧ sees ws true o c1 = cst r ws c (.tp true o) ∧ m1 = pMany r c m (.tp true o) ∧ bx1 = pBox r c m bx (.tp true o) ∧ fv = pAns r c m bx (.tp true o) ∧ f = pFlt r c f (.tp true o), ?_, ?_⟩
    · refine ⟨_, rfl, x, dx, _, rfl, hx, rfl, x, r, pw, pb, c, m, f, rfl, ⟨dx, hx⟩, r1, fun H1 e1 => ⟨_, rfl, ?_⟩⟩
      have hx1 := e1 _ _ hx
      have hw1 := e1 _ _ hw
      have hb1 := e1 _ _ hb
      cases hg : goes r c true with
      | false =>
        refine ifN (by simp) ⟨c, m, bx, .non, rfl, Ex2.of e1, hx1, hw1, hb1, (cst_stay hg).symm, ?_, ?_, ?_, ?_⟩
        · unfold pMany
          rw [movs_stay hg]
          rfl
        · unfold pBox
          rw [movs_stay hg]
          rfl
        · unfold pAns
          rw [movs_stay hg, flt_stay hg]
          rfl
        · unfold pFlt
          rw [flt_stay hg]
      | true =>
        refine ifP rfl ⟨_, rfl, x, _, _, _, _, rfl, hx1, T.cl_Lane, T.na_many, fs_many, ?_⟩
        refine ⟨_, rfl, x, dx, _, rfl, hx1, rfl, x, r, pw, pb, c, m, f, rfl, ⟨dx, hx1⟩, r1, fun H2 e2 => ?_⟩
        have hx2 := e2 _ _ hx1
        have hw2 := e2 _ _ hw1
        have hb2 := e2 _ _ hb1
        have e12 := e1.trans e2
        refine ⟨_, rfl, x, _, _, _, _, rfl, hx2, T.cl_Lane, T.na_room, fs_room, rfl, _, rfl, ?_⟩
        rw [int_dec]
        cases hbd : bad r c true with
        | true =>
          refine ifP hbd ?_
          have hA : pAns r c m bx (.tp true o) = .str "over" := by
            unfold pAns
            rw [movs_bad hbd, flt_bad hg hbd]
            rfl
          unfold PDo at q
          rw [hA] at q
          refine ⟨_, rfl, x, _, _, _, rfl, hx2, T.cl_Lane, T.na_fault, fs_len, q _ (Ex2.of e12).upd1 ⟨dx, ?_⟩ ?_⟩
          · rw [upd_same, fp_fault, cst_bad hg hbd]
            unfold pMany pFlt
            rw [movs_bad hbd, flt_bad hg hbd]
            rfl
          · rw [upd_ne nbx, hb2]
            unfold pBox
            rw [movs_bad hbd]
            rfl
        | false =>
          refine ifN (fun h => by rw [show bad r c true = decide (insd r c = r) from rfl] at hbd; rw [hbd] at h; cases h) ?_
          have hput : (c.put : Int) % (r : Int) = ((c.put % r : Nat) : Int) := (Int.natCast_emod _ _).symm
          refine ⟨_, rfl, x, _, _, _, _, rfl, hx2, T.cl_Lane, T.na_many, fs_many, _, rfl, x, _, _, _, _, rfl, hx2, T.cl_Lane, T.na_boxes, fs_boxes, _, rfl, x, _, _, _, _, rfl, hx2, T.cl_Lane, T.na_put, fs_put, _, rfl, x, _, _, _, _, rfl, hx2, T.cl_Lane, T.na_room, fs_room, _, _, rfl, rfl, by omega, pb, bx, _, c.put % r, rfl, rfl, hb2, ?_, ?_⟩
          · rw [hput]
            exact ixN_nat (by rw [hbl]; exact Nat.mod_lt _ r1)
          have hx3 : upd H2 pb (.lst (bx.set (c.put % r) (.int (m : Int)))) x = some (.ins T.C_Lane dx (FS r pw pb c m f)) := by
            rw [upd_ne (Ne.symm nbx)]
            exact hx2
          have hw3 : upd H2 pb (.lst (bx.set (c.put % r) (.int (m : Int)))) pw = some (.lst (ws.map wv)) := by
            rw [upd_ne nwb]
            exact hw2
          have hb3 : upd H2 pb (.lst (bx.set (c.put % r) (.int (m : Int)))) pb = some (.lst (bx.set (c.put % r) (.int (m : Int)))) := upd_same
          have e3 : Ex2 x pb H (upd H2 pb (.lst (bx.set (c.put % r) (.int (m : Int))))) := (Ex2.of e12).upd2
          generalize upd H2 pb (.lst (bx.set (c.put % r) (.int (m : Int)))) = H3 at hx3 hw3 hb3 e3 ⊢
          refine ⟨_, rfl, x, _, _, _, _, rfl, hx3, T.cl_Lane, T.na_many, fs_many, _, _, rfl, rfl, _, rfl, x, _, _, _, rfl, hx3, T.cl_Lane, T.na_many, fs_len, ?_⟩
          have hx4 : upd H3 x (.ins T.C_Lane dx (putF "many" (.int ((m : Int) + 1)) (FS r pw pb c m f))) x = some (.ins T.C_Lane dx (FS r pw pb c (m + 1) f)) := by
            rw [upd_same]
            rfl
          have hw4 : upd H3 x (.ins T.C_Lane dx (putF "many" (.int ((m : Int) + 1)) (FS r pw pb c m f))) pw = some (.lst (ws.map wv)) := by
            rw [upd_ne nwx]
            exact hw3
          have hb4 : upd H3 x (.ins T.C_Lane dx (putF "many" (.int ((m : Int) + 1)) (FS r pw pb c m f))) pb = some (.lst (bx.set (c.put % r) (.int (m : Int)))) := by
            rw [upd_ne nbx]
            exact hb3
          have e4 : Ex2 x pb H (upd H3 x (.ins T.C_Lane dx (putF "many" (.int ((m : Int) + 1)) (FS r pw pb c m f)))) := e3.upd1
          generalize upd H3 x (.ins T.C_Lane dx (putF "many" (.int ((m : Int) + 1)) (FS r pw pb c m f))) = H4 at hx4 hw4 hb4 e4 ⊢
          refine ⟨_, rfl, x, dx, _, rfl, hx4, rfl, _, rfl, x, _, _, _, _, rfl, hx4, T.cl_Lane, T.na_put, fs_put, x, r, pw, pb, c, _, f, c.put, rfl, ⟨dx, hx4⟩, r1, fun H5 e5 => ?_⟩
          refine ⟨_, rfl, x, _, _, _, rfl, e5 _ _ hx4, T.cl_Lane, T.na_put, fs_len, ?_⟩
          refine ⟨adv r c true, m + 1, bx.set (c.put % r) (.int (m : Int)), .int (m : Int), rfl, (e4.trans (Ex2.of e5)).upd1, ?_, ?_, ?_, (cst_go hg hbd).symm, ?_, ?_, ?_, ?_⟩
          · rw [upd_same, fp_put]
            rfl
          · rw [upd_ne nwx]
            exact e5 _ _ hw4
          · rw [upd_ne nbx]
            exact e5 _ _ hb4
          · unfold pMany
            rw [movs_go hg hbd]
            rfl
          · unfold pBox
            rw [movs_go hg hbd]
            rfl
          · unfold pAns
            rw [movs_go hg hbd]
          · unfold pFlt
            rw [flt_go hbd]
    · rintro σ H1 ⟨c1, m1, bx1, fv, rfl, e1, hx1, hw1, hb1, hc1, rfl, rfl, rfl, hf⟩
      refine ⟨fun σ H' => ∃ fv, σ = [some (.ref x), some (oV o), some fv] ∧ fv = pAns r c m bx (.tp true o) ∧ Ex2 x pb H H' ∧ Ln T.C_Lane r pw pb H' x (cst r ws c (.tp true o)) (pMany r c m (.tp true o)) (pFlt r c f (.tp true o)) ∧ H' pb = some (.lst (pBox r c m bx (.tp true o))), ?_, ?_⟩
      · cases o with
        | none =>
          refine ⟨_, rfl, rfl, _, rfl, ifN (by decide) ⟨_, rfl, rfl, e1, ⟨dx, ?_⟩, hb1⟩⟩
          rw [← hc1, ← hf]
          exact hx1
        | some u =>
          refine ⟨_, rfl, rfl, _, rfl, ifP (by simp [oV]) ?_⟩
          refine ⟨_, rfl, x, dx, _, rfl, hx1, rfl, _, rfl, _, rfl, x, _, _, _, _, rfl, hx1, T.cl_Lane, T.na_seen_put, fs_sp, x, r, pw, pb, c1, _, f, ws, u, c1.sp, rfl, ⟨dx, hx1⟩, hw1, fun H2 e2 => ?_⟩
          refine ⟨_, rfl, x, _, _, _, rfl, e2 _ _ hx1, T.cl_Lane, T.na_seen_put, fs_len, _, rfl, rfl, (e1.trans (Ex2.of e2)).upd1, ⟨dx, ?_⟩, ?_⟩
          · rw [upd_same, fp_sp, ← hc1, ← hf]
            congr 2
            unfold sees
            by_cases hm : u ∈ ws
            · simp only [if_pos hm]
            · simp only [if_neg hm]
          · rw [upd_ne nbx]
            exact e2 _ _ hb1
      · rintro σ H2 ⟨fv, rfl, rfl, e2, hl, hb2⟩
        exact ⟨_, rfl, q _ e2 hl hb2⟩
def sp_Lane_do_get (C : Addr) : Sp := fun vs H Q _ => ∃ (x : Addr) (r : Nat) (pw pb : Addr) (c : Co) (m : Nat) (f : V) (ws : List (List Bool)) (n : Nat) (bx : List V) (o : Option (List Bool)), vs = [.ref x, oV o] ∧ Ln C r pw pb H x c m f ∧ H pw = some (.lst (ws.map wv)) ∧ H pb = some (.lst bx) ∧ bx.length = r ∧ pw ≠ pb ∧ WW ws n r ∧ CoOk r c ∧ PDo C r pw pb x ws c m f bx (.tp false o) H Q
theorem ok_Lane_do_get (T : TX K mg) : FnOk P w K mg base CX0 2 T.f_Lane_do_get T.fd_Lane_do_get ["self", "seen"] (sp_Lane_do_get T.C_Lane) := by
  refine T.F_Lane_do_get.ok sc_Lane_do_get (fun vs H Q E h => ?_) (fun cdv A outer s H vs Q E hr h => ?_)
  · obtain ⟨_, _, _, _, _, _, _, _, _, _, _, rfl, _⟩ := h
    rfl
  · obtain ⟨x, r, pw, pb, c, m, f, ws, n, bx, o, rfl, ⟨dx, hx⟩, hw, hb, hbl, nwb, hW, hc, q⟩ := h
    have nwx : pw ≠ x := by
      rintro rfl
      rw [hw] at hx
      cases hx
    have nbx : pb ≠ x := by
      rintro rfl
      rw [hb] at hx
      cases hx
    have r1 := hW.r1
    refine ⟨_, (pss_cons (ps_set (i := 2) sc_Lane_do_get.nd rfl (by first | exact Or.inl rfl | exact Or.inr rfl) pe_non)
 (pss_cut (ps_if (pt_val (pe_meth0 (pv 0) T.cl_Lane T.m_Lane_can_get (ok_Lane_can_get T) (hr.mono (by decide)) T.b_Lane_can_get .nil pass0))
 (pss_cons (ps_if (pt_cmpR op_eq (pe_meth0 (pv 0) T.cl_Lane T.m_Lane_inside (ok_Lane_inside T) (hr.mono (by decide)) T.b_Lane_inside .nil pass0) pe_int (nomark _))
 (pss_cons (ps_fld (pv 0) (pe_glob (v := .str "under") (by rfl) T.c_UNDER ⟨_, rfl⟩) rfl)
 (pss_one (ps_ret (pe_glob (v := .str "under") (by rfl) T.c_UNDER ⟨_, rfl⟩))))
 pss_nil)
 (pss_cons (ps_set (i := 2) sc_Lane_do_get.nd rfl (by first | exact Or.inl rfl | exact Or.inr rfl) (pe_ix ix_list (pe_fld (pv 0) rfl) (pe_op op_mod (pe_fld (pv 0) rfl) (pe_fld (pv 0) rfl)) (fun _ _ => rfl)))
 (pss_one (ps_fld (pv 0) (pe_meth (pv 0) T.cl_Lane T.m_Lane_behind (ok_Lane_behind T) (hr.mono (by decide)) T.b_Lane_behind .nil pass0 (pa_cons (pe_fld (pv 0) rfl) pa_nil)) rfl))))
 pss_nil)
 (pss_cut (ps_if (pt_cmpR op_notN (pv 1) pe_non (nomark _))
 (pss_one (ps_fld (pv 0) (pe_meth (pv 0) T.cl_Lane T.m_Lane_place_of (ok_Lane_place_of T) (hr.mono (by decide)) T.b_Lane_place_of .nil pass0 (pa_cons (pv 1) (pa_cons (pe_fld (pv 0) rfl) pa_nil))) rfl))
 pss_nil)
 (pss_one (ps_ret (pv 2)))))), ?_⟩
    refine ⟨fun σ H' => ∃ c1 m1 bx1 fv, σ = [some (.ref x), some (oV o), some fv] ∧ Ex2 x pb H H' ∧ H' x = some (.ins T.C_Lane dx (FS r pw pb c1 m1 f)) ∧ H' pw = some (.lst (ws.map wv)) ∧ H' pb = some (.lst bx1) ∧ sees ws false o c1 = cst r ws c (.tp false o) ∧ m1 = pMany r c m (.tp false o) ∧ bx1 = pBox r c m bx (.tp false o) ∧ fv = pAns r c m bx (.tp false o) ∧ f = pFlt r c f (.tp false o), ?_, ?_⟩
    · refine ⟨_, rfl, x, dx, _, rfl, hx, rfl, x, r, pw, pb, c, m, f, rfl, ⟨dx, hx⟩, r1, fun H1 e1 => ⟨_, rfl, ?_⟩⟩
      have hx1 := e1 _ _ hx
      have hw1 := e1 _ _ hw
      have hb1 := e1 _ _ hb
      cases hg : goes r c false with
      | false =>
        refine ifN (by simp) ⟨c, m, bx, .non, rfl, Ex2.of e1, hx1, hw1, hb1, (cst_stay hg).symm, ?_, ?_, ?_, ?_⟩
        · unfold pMany
          rw [movs_stay hg]
          rfl
        · unfold pBox
          rw [movs_stay hg]
          rfl
        · unfold pAns
          rw [movs_stay hg, flt_stay hg]
          rfl
        · unfold pFlt
          rw [flt_stay hg]
      | true =>
        refine ifP rfl ?_
        refine ⟨_, rfl, x, dx, _, rfl, hx1, rfl, x, r, pw, pb, c, m, f, rfl, ⟨dx, hx1⟩, r1, fun H2 e2 => ?_⟩
        have hx2 := e2 _ _ hx1
        have hw2 := e2 _ _ hw1
        have hb2 := e2 _ _ hb1
        have e12 := e1.trans e2
        refine ⟨rfl, _, rfl, ?_⟩
        rw [int_dec]
        cases hbd : bad r c false with
        | true =>
          refine ifP hbd ?_
          have hA : pAns r c m bx (.tp false o) = .str "under" := by
            unfold pAns
            rw [movs_bad hbd, flt_bad hg hbd]
            rfl
          unfold PDo at q
          rw [hA] at q
          refine ⟨_, rfl, x, _, _, _, rfl, hx2, T.cl_Lane, T.na_fault, fs_len, q _ (Ex2.of e12).upd1 ⟨dx, ?_⟩ ?_⟩
          · rw [upd_same, fp_fault, cst_bad hg hbd]
            unfold pMany pFlt
            rw [movs_bad hbd, flt_bad hg hbd]
            rfl
          · rw [upd_ne nbx, hb2]
            unfold pBox
            rw [movs_bad hbd]
            rfl
        | false =>
          refine ifN (fun h => by rw [show bad r c false = decide (insd r c = 0) from rfl] at hbd; rw [hbd] at h; cases h) ?_
          have hgot : (c.got : Int) % (r : Int) = ((c.got % r : Nat) : Int) := (Int.natCast_emod _ _).symm
          have hlt : c.got % r < bx.length := by
            rw [hbl]
            exact Nat.mod_lt _ r1
          refine ⟨_, rfl, x, _, _, _, _, rfl, hx2, T.cl_Lane, T.na_boxes, fs_boxes, _, rfl, x, _, _, _, _, rfl, hx2, T.cl_Lane, T.na_got, fs_got, _, rfl, x, _, _, _, _, rfl, hx2, T.cl_Lane, T.na_room, fs_room, _, _, rfl, rfl, by omega, pb, bx, _, bx.getD (c.got % r) .non, rfl, rfl, SqL.of hb2, ?_, ?_⟩
          · rw [hgot]
            refine atI_nat ?_
            rw [List.getD_eq_getElem?_getD, List.getElem?_eq_getElem hlt]
            rfl
          refine ⟨_, rfl, x, dx, _, rfl, hx2, rfl, _, rfl, x, _, _, _, _, rfl, hx2, T.cl_Lane, T.na_got, fs_got, x, r, pw, pb, c, _, f, c.got, rfl, ⟨dx, hx2⟩, r1, fun H5 e5 => ?_⟩
          refine ⟨_, rfl, x, _, _, _, rfl, e5 _ _ hx2, T.cl_Lane, T.na_got, fs_len, ?_⟩
          refine ⟨adv r c false, m, bx, bx.getD (c.got % r) .non, rfl, (Ex2.of (e12.trans e5)).upd1, ?_, ?_, ?_, (cst_go hg hbd).symm, ?_, ?_, ?_, ?_⟩
          · rw [upd_same, fp_got]
            rfl
          · rw [upd_ne nwx]
            exact e5 _ _ hw2
          · rw [upd_ne nbx]
            exact e5 _ _ hb2
          · unfold pMany
            rw [movs_go hg hbd]
            rfl
          · unfold pBox
            rw [movs_go hg hbd]
            rfl
          · unfold pAns
            rw [movs_go hg hbd]
          · unfold pFlt
            rw [flt_go hbd]
    · rintro σ H1 ⟨c1, m1, bx1, fv, rfl, e1, hx1, hw1, hb1, hc1, rfl, rfl, rfl, hf⟩
      refine ⟨fun σ H' => ∃ fv, σ = [some (.ref x), some (oV o), some fv] ∧ fv = pAns r c m bx (.tp false o) ∧ Ex2 x pb H H' ∧ Ln T.C_Lane r pw pb H' x (cst r ws c (.tp false o)) (pMany r c m (.tp false o)) (pFlt r c f (.tp false o)) ∧ H' pb = some (.lst (pBox r c m bx (.tp false o))), ?_, ?_⟩
      · cases o with
        | none =>
          refine ⟨_, rfl, rfl, _, rfl, ifN (by decide) ⟨_, rfl, rfl, e1, ⟨dx, ?_⟩, hb1⟩⟩
          rw [← hc1, ← hf]
          exact hx1
        | some u =>
          refine ⟨_, rfl, rfl, _, rfl, ifP (by simp [oV]) ?_⟩
          refine ⟨_, rfl, x, dx, _, rfl, hx1, rfl, _, rfl, _, rfl, x, _, _, _, _, rfl, hx1, T.cl_Lane, T.na_seen_got, fs_sg, x, r, pw, pb, c1, _, f, ws, u, c1.sg, rfl, ⟨dx, hx1⟩, hw1, fun H2 e2 => ?_⟩
          refine ⟨_, rfl, x, _, _, _, rfl, e2 _ _ hx1, T.cl_Lane, T.na_seen_got, fs_len, _, rfl, rfl, (e1.trans (Ex2.of e2)).upd1, ⟨dx, ?_⟩, ?_⟩
          · rw [upd_same, fp_sg, ← hc1, ← hf]
            congr 2
            unfold sees
            by_cases hm : u ∈ ws
            · simp only [if_pos hm]
            · simp only [if_neg hm]
          · rw [upd_ne nbx]
            exact e2 _ _ hb1
      · rintro σ H2 ⟨fv, rfl, rfl, e2, hl, hb2⟩
        exact ⟨_, rfl, q _ e2 hl hb2⟩
def sp_Lane_do (K : PySem.W.Frag) (C : Addr) : Sp := fun vs H Q _ => ∃ (x : Addr) (r : Nat) (pw pb : Addr) (c : Co) (m : Nat) (f : V) (ws : List (List Bool)) (n : Nat) (bx : List V) (t : Addr) (e : Ev), vs = [.ref x, .ref t] ∧ H t = some (.tup (evV e)) ∧ Ln C r pw pb H x c m f ∧ H pw = some (.lst (ws.map wv)) ∧ H pb = some (.lst bx) ∧ bx.length = r ∧ pw ≠ pb ∧ WW ws n r ∧ CoOk r c ∧ PDo C r pw pb x ws c m f bx e H Q
theorem ok_Lane_do (T : TX K mg) : FnOk P w K mg base CX0 3 T.f_Lane_do T.fd_Lane_do ["self", "event"] (sp_Lane_do K T.C_Lane) := by
  refine T.F_Lane_do.ok sc_Lane_do (fun vs H Q E h => ?_) (fun cdv A outer s H vs Q E hr h => ?_)
  · obtain ⟨_, _, _, _, _, _, _, _, _, _, _, _, rfl, _⟩ := h
    rfl
  · obtain ⟨x, r, pw, pb, c, m, f, ws, n, bx, t, e, rfl, ht, ⟨dx, hx⟩, hw, hb, hbl, nwb, hW, hc, q⟩ := h
    have nbx : pb ≠ x := by
      rintro rfl
      rw [hb] at hx
      cases hx
    refine ⟨_, (pss_cons (ps_if (pt_cmpR op_eq (pe_ix ix_seq (pv 1) pe_int (fun _ _ => rfl)) pe_str (nomark _))
 (pss_one (ps_ret (pe_meth (pv 0) T.cl_Lane T.m_Lane_do_put (ok_Lane_do_put T) (hr.mono (by decide)) T.b_Lane_do_put .nil pass0 (pa_cons (pe_ix ix_seq (pv 1) pe_int (fun _ _ => rfl)) pa_nil))))
 pss_nil)
 (pss_cons (ps_if (pt_cmpR op_eq (pe_ix ix_seq (pv 1) pe_int (fun _ _ => rfl)) pe_str (nomark _))
 (pss_one (ps_ret (pe_meth (pv 0) T.cl_Lane T.m_Lane_do_get (ok_Lane_do_get T) (hr.mono (by decide)) T.b_Lane_do_get .nil pass0 (pa_cons (pe_ix ix_seq (pv 1) pe_int (fun _ _ => rfl)) pa_nil))))
 pss_nil)
 (pss_cut (ps_if (pt_cmpR op_eq (pe_ix ix_seq (pv 1) pe_int (fun _ _ => rfl)) pe_str (nomark _))
 (pss_one (ps_fld (pv 0) (pe_fld (pv 0) rfl) rfl))
 (pss_one (ps_fld (pv 0) (pe_fld (pv 0) rfl) rfl)))
 (pss_one (ps_ret pe_non))))), ?_⟩
    cases e with
    | tp p o =>
      cases p with
      | true =>
        refine ⟨_, rfl, .inr (.inl ⟨t, _, _, _, rfl, rfl, SqT.of ht, rfl, rfl, _, rfl, ifP (by decide +kernel) ?_⟩)⟩
        exact ⟨_, rfl, x, dx, _, rfl, hx, rfl, _, rfl, .inr (.inl ⟨t, _, _, _, rfl, rfl, SqT.of ht, rfl, x, r, pw, pb, c, m, f, ws, n, bx, o, rfl, ⟨dx, hx⟩, hw, hb, hbl, nwb, hW, hc, q⟩)⟩
      | false =>
        refine ⟨_, rfl, .inr (.inl ⟨t, _, _, _, rfl, rfl, SqT.of ht, rfl, rfl, _, rfl, ifN (by decide +kernel) ?_⟩)⟩
        refine ⟨_, rfl, .inr (.inl ⟨t, _, _, _, rfl, rfl, SqT.of ht, rfl, rfl, _, rfl, ifP (by decide +kernel) ?_⟩)⟩
        exact ⟨_, rfl, x, dx, _, rfl, hx, rfl, _, rfl, .inr (.inl ⟨t, _, _, _, rfl, rfl, SqT.of ht, rfl, x, r, pw, pb, c, m, f, ws, n, bx, o, rfl, ⟨dx, hx⟩, hw, hb, hbl, nwb, hW, hc, q⟩)⟩
    | look b =>
      refine ⟨_, rfl, .inr (.inl ⟨t, _, _, _, rfl, rfl, SqT.of ht, rfl, rfl, _, rfl, ifN (by decide +kernel) ?_⟩)⟩
      refine ⟨_, rfl, .inr (.inl ⟨t, _, _, _, rfl, rfl, SqT.of ht, rfl, rfl, _, rfl, ifN (by decide +kernel) ?_⟩)⟩
      refine ⟨fun σ H' => σ = [some (.ref x), some (.ref t)] ∧ Ex2 x pb H H' ∧ Ln T.C_Lane r pw pb H' x (cst r ws c (.look b)) m f ∧ H' pb = some (.lst bx), ?_, ?_⟩
      · cases b with
        | true =>
          refine ⟨_, rfl, .inr (.inl ⟨t, _, _, _, rfl, rfl, SqT.of ht, rfl, rfl, _, rfl, ifP (by decide +kernel) ?_⟩)⟩
          refine ⟨_, rfl, x, _, _, _, _, rfl, hx, T.cl_Lane, T.na_got, fs_got, _, rfl, x, _, _, _, rfl, hx, T.cl_Lane, T.na_seen_got, fs_len, rfl, (Ex2.refl x pb H).upd1, ⟨dx, ?_⟩, ?_⟩
          · rw [upd_same, fp_sg]
            rfl
          · rw [upd_ne nbx]
            exact hb
        | false =>
          refine ⟨_, rfl, .inr (.inl ⟨t, _, _, _, rfl, rfl, SqT.of ht, rfl, rfl, _, rfl, ifN (by decide +kernel) ?_⟩)⟩
          refine ⟨_, rfl, x, _, _, _, _, rfl, hx, T.cl_Lane, T.na_put, fs_put, _, rfl, x, _, _, _, rfl, hx, T.cl_Lane, T.na_seen_put, fs_len, rfl, (Ex2.refl x pb H).upd1, ⟨dx, ?_⟩, ?_⟩
          · rw [upd_same, fp_sp]
            rfl
          · rw [upd_ne nbx]
            exact hb
      · rintro σ H1 ⟨rfl, e1, hl, hb1⟩
        exact q _ e1 hl hb1
/-! ### what may happen next -/
def mayB (r : Nat) (ws : List (List Bool)) (c : Co) : List V → Bool
  | [a, b] => if decide (a = .str "look") then inV b [.str "writer", .str "reader"] else if !inV a [.str "put", .str "get"] then false else decide (b = .non) || inV b ((mayW r ws c (decide (a = .str "put"))).map wv)
  | _ => false
/-- a text or None -/
def Sn (v : V) : Prop := v = .non ∨ ∃ z, v = .str z
theorem Sn.flat {v : V} (h : Sn v) : flatV v = true := by
  rcases h with rfl | ⟨z, rfl⟩ <;> rfl
theorem Sn.scal {v : V} (h : Sn v) (z : Str) : scal v (.str z) = true := by
  rcases h with rfl | ⟨z, rfl⟩ <;> rfl
theorem sn_ev (e : Ev) : ∀ v ∈ evV e, Sn v := by
  cases e with
  | look w =>
    intro v hv
    rcases List.mem_cons.mp hv with rfl | hv
    · exact .inr ⟨_, rfl⟩
    · rw [List.mem_singleton.mp hv]
      exact .inr ⟨_, rfl⟩
  | tp p o =>
    intro v hv
    rcases List.mem_cons.mp hv with rfl | hv
    · exact .inr ⟨_, rfl⟩
    · rw [List.mem_singleton.mp hv]
      cases o
      · exact .inl rfl
      · exact .inr ⟨_, rfl⟩
theorem inV_pg {a : V} (h : inV a [.str "put", .str "get"] = true) : a = .str (pS (decide (a = .str "put"))) := by
  unfold inV at h
  rw [List.any_cons, List.any_cons, List.any_nil, Bool.or_false, Bool.or_eq_true] at h
  have k : ∀ z : Str, eqV (.str z) a = true → a = .str z := by
    intro z hz
    cases a with
    | str y =>
      have : z = y := by simpa [eqV] using hz
      rw [this]
    | _ => cases hz
  rcases h with h | h
  · rw [k _ h]
    decide +kernel
  · rw [k _ h]
    decide +kernel
theorem mayB_look {r : Nat} {ws : List (List Bool)} {c : Co} (b : V) : mayB r ws c [.str "look", b] = inV b [.str "writer", .str "reader"] := by
  rw [mayB, if_pos (by decide +kernel)]
theorem mayB_tp {r : Nat} {ws : List (List Bool)} {c : Co} (p : Bool) (b : V) : mayB r ws c [.str (pS p), b] = (decide (b = .non) || inV b ((mayW r ws c p).map wv)) := by
  cases p
  · rw [mayB, if_neg (by decide +kernel), if_neg (by decide +kernel), show decide (V.str (pS false) = .str "put") = false by decide +kernel]
  · rw [mayB, if_neg (by decide +kernel), if_neg (by decide +kernel), show decide (V.str (pS true) = .str "put") = true by decide +kernel]
theorem mayB_can {r : Nat} {ws : List (List Bool)} {c : Co} {e : Ev} (h : e ∈ canE r ws c) : mayB r ws c (evV e) = true := by
  have hp : ∀ p, e ∈ canP r ws c p → mayB r ws c (evV e) = true := by
    intro p hp
    rcases List.mem_cons.mp hp with rfl | hp
    · exact (mayB_tp p _).trans rfl
    · obtain ⟨u, hu, rfl⟩ := List.mem_map.mp hp
      refine (mayB_tp p _).trans ?_
      show (_ || inV (wv u) _) = true
      rw [inV_wv, decide_eq_true hu, Bool.or_true]
  rcases List.mem_append.mp h with h | h
  · rcases List.mem_append.mp h with h | h
    · rcases List.mem_cons.mp h with rfl | h
      · exact (mayB_look _).trans (by decide +kernel)
      · rw [List.mem_singleton.mp h]
        exact (mayB_look _).trans (by decide +kernel)
    · exact hp _ h
  · exact hp _ h
/-! ### a run of events -/
structure PS where
  c : Co
  m : Nat
  bx : List V
  f : V
def pstep (r : Nat) (ws : List (List Bool)) (s : PS) (e : Ev) : PS := ⟨cst r ws s.c e, pMany r s.c s.m e, pBox r s.c s.m s.bx e, pFlt r s.c s.f e⟩
def pans (r : Nat) (s : PS) (e : Ev) : V := pAns r s.c s.m s.bx e
def pEnd (r : Nat) (ws : List (List Bool)) : PS → List Ev → PS
  | s, [] => s
  | s, e :: es => pEnd r ws (pstep r ws s e) es
def pTold (r : Nat) (ws : List (List Bool)) : PS → List Ev → List V
  | _, [] => []
  | s, e :: es => pans r s e :: pTold r ws (pstep r ws s e) es
def ps0 (r : Nat) : PS := ⟨⟨0, 0, 0, 0⟩, 0, List.replicate r .non, .non⟩
/-- every event may happen, and nothing happens behind a fault -/
def VRun (r : Nat) (ws : List (List Bool)) : Co → List Ev → Prop
  | _, [] => True
  | c, e :: es => e ∈ canE r ws c ∧ (flt r c e ≠ none → es = []) ∧ VRun r ws (cst r ws c e) es
def fEnd (r : Nat) (ws : List (List Bool)) : Co → List Ev → Bool
  | _, [] => false
  | c, e :: es => (flt r c e).isSome || fEnd r ws (cst r ws c e) es
theorem pTold_len (r : Nat) (ws : List (List Bool)) : ∀ (es : List Ev) (s : PS), (pTold r ws s es).length = es.length
  | [], _ => rfl
  | e :: es, s => congrArg (· + 1) (pTold_len r ws es (pstep r ws s e))
theorem pTold_app (r : Nat) (ws : List (List Bool)) : ∀ (es fs : List Ev) (s : PS), pTold r ws s (es ++ fs) = pTold r ws s es ++ pTold r ws (pEnd r ws s es) fs
  | [], _, _ => rfl
  | e :: es, fs, s => congrArg (pans r s e :: ·) (pTold_app r ws es fs (pstep r ws s e))
theorem pEnd_app (r : Nat) (ws : List (List Bool)) : ∀ (es fs : List Ev) (s : PS), pEnd r ws s (es ++ fs) = pEnd r ws (pEnd r ws s es) fs
  | [], _, _ => rfl
  | e :: es, fs, s => pEnd_app r ws es fs (pstep r ws s e)
theorem ex_of2 {d e : Addr} {H H1 H2 : Hp} (a : Ex H H1) (b : Ex2 d e H1 H2) (nd : H d = none) (ne : H e = none) : Ex H H2 := fun x o h => b x o (a x o h) (fun z => by rw [z, nd] at h; cases h) (fun z => by rw [z, ne] at h; cases h)
theorem pFlt_none {r : Nat} {c : Co} {f : V} {e : Ev} (h : flt r c e = none) : pFlt r c f e = f := by
  unfold pFlt
  rw [h]
theorem pFlt_some {r : Nat} {c : Co} {f : V} {e : Ev} {p : Bool} (h : flt r c e = some p) : pFlt r c f e = fltV (some p) := by
  unfold pFlt
  rw [h]
theorem fltV_some (p : Bool) : fltV (some p) ≠ .non := by cases p <;> simp [fltV]
/-- the list of events in a heap: its first ones are evs -/
def EvsAt (H : Hp) (vs : List V) (evs : List Ev) : Prop := evs.length ≤ vs.length ∧ ∀ (i : Nat) (e : Ev), evs[i]? = some e → ∃ t, vs[i]? = some (.ref t) ∧ H t = some (.tup (evV e))
theorem EvsAt.mono {H H' : Hp} {vs : List V} {evs : List Ev} (x : Ex H H') (h : EvsAt H vs evs) : EvsAt H' vs evs := ⟨h.1, fun i e he => by
  obtain ⟨t, h1, h2⟩ := h.2 i e he
  exact ⟨t, h1, x _ _ h2⟩⟩
def isGet : Ev → Bool
  | .tp false _ => true
  | _ => false
def isIntV : V → Bool
  | .int _ => true
  | _ => false
def gotP (evs : List Ev) (told : List V) (i : Nat) : Bool := isGet (evs.getD i (.look true)) && isIntV (told.getD i .non)
def gotL (evs : List Ev) (told : List V) : List V := ((List.range evs.length).filter (gotP evs told)).map fun i => told.getD i .non
/-- what a get may answer -/
def GetOk (evs : List Ev) (told : List V) : Prop := ∀ i, i < evs.length → isGet (evs.getD i (.look true)) = true → told.getD i .non = .non ∨ told.getD i .non = .str "under" ∨ ∃ k : Int, told.getD i .non = .int k
theorem ev_word (e : Ev) : ∃ a b, evV e = [.str a, b] ∧ decide (V.str a = .str "get") = isGet e := by
  cases e with
  | look w => exact ⟨_, _, rfl, show decide (V.str "look" = .str "get") = false by decide +kernel⟩
  | tp p o =>
    cases p
    · exact ⟨_, _, rfl, show decide (V.str (pS false) = .str "get") = true by decide +kernel⟩
    · exact ⟨_, _, rfl, show decide (V.str (pS true) = .str "get") = false by decide +kernel⟩
def sp_Lane___init__ (C : Addr) : Sp := fun vs H Q _ => ∃ (x dx : Addr) (r : Nat) (pw : Addr), vs = [.ref x, .int (r : Int), .ref pw] ∧ H x = some (.ins C dx []) ∧ r ≤ 6 ∧ ∀ H' pb, H pb = none → Exd x H H' → H' x = some (.ins C dx (FS r pw pb ⟨0, 0, 0, 0⟩ 0 .non)) → H' pb = some (.lst (List.replicate r .non)) → Q .non H'
theorem ok_Lane___init__ (T : TX K mg) : FnOk P w K mg base CX0 1 T.f_Lane___init__ T.fd_Lane___init__ ["self", "room", "words"] (sp_Lane___init__ T.C_Lane) := by
  refine T.F_Lane___init__.ok sc_Lane___init__ (fun vs H Q E h => ?_) (fun cdv A outer s H vs Q E hr h => ?_)
  · obtain ⟨_, _, _, _, rfl, _⟩ := h
    rfl
  · obtain ⟨x, dx, r, pw, rfl, hx, r6, q⟩ := h
    refine ⟨_, (pss_cons (ps_fld (pv 0) (pv 1) rfl)
 (pss_cons (ps_fld (pv 0) (pv 2) rfl)
 (pss_cons (ps_fld (pv 0) pe_int rfl)
 (pss_cons (ps_fld (pv 0) pe_int rfl)
 (pss_cons (ps_fld (pv 0) pe_int rfl)
 (pss_cons (ps_fld (pv 0) pe_int rfl)
 (pss_cons (ps_fld (pv 0) (pe_lc (own := [("box", 3)]) (g := gName 3) (by rfl) sc_Lane___init__.nd (pi_range1 (by rfl) T.z_range (pa_cons (pv 1) pa_nil)) (blkOk_by (own := [("box", 3)]) (N := ["self", "room", "words", "box"]) (sc := defScope s_Lane___init__) (by decide +kernel)) (fun _ _ _ _ _ => pg_name (i := 3) sc_Lane___init__.nd rfl (Or.inl rfl)) (fun _ _ _ _ _ => pts_nil) (fun _ _ _ _ _ => pe_non)) rfl)
 (pss_cons (ps_fld (pv 0) pe_int rfl)
 (pss_one (ps_fld (pv 0) pe_non rfl)))))))))), ?_⟩
    refine ⟨_, rfl, _, rfl, x, _, dx, _, rfl, hx, T.cl_Lane, T.na_room, by decide, _, rfl, _, rfl, x, _, dx, _, rfl, upd_same, T.cl_Lane, T.na_words, by show 1 < 1000; decide, _, rfl, x, _, dx, _, rfl, upd_same, T.cl_Lane, T.na_put, by show 2 < 1000; decide, _, rfl, x, _, dx, _, rfl, upd_same, T.cl_Lane, T.na_got, by show 3 < 1000; decide, _, rfl, x, _, dx, _, rfl, upd_same, T.cl_Lane, T.na_seen_got, by show 4 < 1000; decide, _, rfl, x, _, dx, _, rfl, upd_same, T.cl_Lane, T.na_seen_put, by show 5 < 1000; decide, ?_⟩
    have e1 := (((((((Exd.refl x H).upd (o := .ins T.C_Lane dx (putF "room" (.int (r : Int)) []))).upd (o := .ins T.C_Lane dx (putF "words" (.ref pw) (putF "room" (.int (r : Int)) [])))).upd (o := .ins T.C_Lane dx (putF "put" (.int 0) (putF "words" (.ref pw) (putF "room" (.int (r : Int)) []))))).upd (o := .ins T.C_Lane dx (putF "got" (.int 0) (putF "put" (.int 0) (putF "words" (.ref pw) (putF "room" (.int (r : Int)) [])))))).upd (o := .ins T.C_Lane dx (putF "seen_got" (.int 0) (putF "got" (.int 0) (putF "put" (.int 0) (putF "words" (.ref pw) (putF "room" (.int (r : Int)) []))))))).upd (o := .ins T.C_Lane dx (putF "seen_put" (.int 0) (putF "seen_got" (.int 0) (putF "got" (.int 0) (putF "put" (.int 0) (putF "words" (.ref pw) (putF "room" (.int (r : Int)) []))))))))
    refine ⟨_, rfl, _, rfl, lo62 _, hi62 (by omega), fun D nD => lcR r (fun _ => .non) rfl (by omega) nD (fun _ => rfl) (fun i hi H3 e3 Y hY => hY _ (Ex.refl _)) (fun H3 e3 h3 => ?_)⟩
    have hx3 := e3 _ _ upd_same
    have nD0 : H D = none := e1.fresh nD ((ne_of_none upd_same nD).symm)
    have e13 := e1.trans (Exd.of e3)
    have nDx : D ≠ x := (ne_of_none upd_same nD).symm
    refine ⟨_, rfl, x, _, dx, _, rfl, hx3, T.cl_Lane, T.na_boxes, by show 6 < 1000; decide, _, rfl, x, _, dx, _, rfl, upd_same, T.cl_Lane, T.na_many, by show 7 < 1000; decide, _, rfl, x, _, dx, _, rfl, upd_same, T.cl_Lane, T.na_fault, by show 8 < 1000; decide, ?_⟩
    refine q _ D nD0 e13.upd.upd.upd ?_ ?_
    · rw [upd_same]
      rfl
    · rw [upd_ne nDx, upd_ne nDx, upd_ne nDx, h3]
      congr 2
      rw [List.map_const', List.length_range]
def sp_need_lane (K : PySem.W.Frag) : Sp := fun vs H Q _ => ∃ (l pw : Addr) (r n : Nat) (ws : List (List Bool)), vs = [.ref l] ∧ H l = some (.tup [.int (r : Int), .ref pw]) ∧ SqL K H pw (ws.map wv) ∧ WW ws n r ∧ ws.Nodup ∧ RetV .non H Q
theorem WW.round {ws : List (List Bool)} {n r : Nat} (h : WW ws n r) (nd : ws.Nodup) : Round ws n := ⟨fun e => by have := h.len; have := h.r1; rw [e] at *; simp at *; omega, h.wide, h.n1, h.n4, nd, by rw [h.len]; have := h.r6; omega⟩
theorem ok_need_lane (T : TX K mg) : FnOk P w K mg base CX0 3 T.f_need_lane T.fd_need_lane ["lane"] (sp_need_lane K) := by
  refine T.F_need_lane.ok sc_need_lane (fun vs H Q E h => ?_) (fun cdv A outer s H vs Q E hr h => ?_)
  · obtain ⟨_, _, _, _, _, rfl, _⟩ := h
    rfl
  · obtain ⟨l, pw, r, n, ws, rfl, hl, hw, hW, nd, q⟩ := h
    refine ⟨_, (pss_cons (ps_asg (pv 0) (pg_tup (by rfl) (pgs_cons (pg_name (i := 1) sc_need_lane.nd rfl (by first | exact Or.inl rfl | exact Or.inr rfl)) (pgs_cons (pg_name (i := 2) sc_need_lane.nd rfl (by first | exact Or.inl rfl | exact Or.inr rfl)) pgs_nil))))
 (pss_cons (ps_if (pt_not (pt_chain op_le op_le pe_int (pv 1) (pe_glob (v := .int 6) (by rfl) T.c_MOST_ROOM ⟨_, rfl⟩)))
 (pss_one ps_never)
 pss_nil)
 (pss_cons (ps_expr (pe_call (ok_need_words T) (hr.mono (by decide)) (by rfl) T.g_need_words T.F_need_words.kp T.b_need_words .nil pass0 (pa_cons (pv 2) pa_nil)))
 (pss_one (ps_if (pt_cmpR op_ne (pe_callB call_len (by rfl) T.z_len PySem.boot_len (pa_cons (pv 2) pa_nil)) (pe_op op_mul pe_int (pv 1)) (nomark _))
 (pss_one ps_never)
 pss_nil))))), ?_⟩
    have r1 := hW.r1
    have r6 := hW.r6
    refine ⟨_, rfl, l, _, rfl, SqT.of hl, rfl, _, _, rfl, _, _, rfl, rfl, ?_⟩
    refine ⟨_, rfl, _, _, rfl, rfl, _, rfl, ?_⟩
    refine ifP (decide_eq_true (by omega)) ⟨_, _, rfl, rfl, _, rfl, ?_⟩
    refine ifN (by simp; omega) ?_
    refine ⟨_, rfl, pw, ws, n, rfl, hw, hW.round nd, fun H1 e1 => ?_⟩
    refine ⟨_, rfl, _, _, rfl, .inl ⟨_, ex_l e1 hw, rfl⟩, _, rfl, _, _, rfl, rfl, .inl ⟨by decide, by decide⟩, rfl, _, rfl, ifN ?_ (q _ e1)⟩
    rw [List.length_map, hW.len]
    simp
def sp_Lane_may (C : Addr) : Sp := fun vs H Q _ => ∃ (x : Addr) (r : Nat) (pw pb : Addr) (c : Co) (m : Nat) (f : V) (ws : List (List Bool)) (n : Nat) (t : Addr) (xs : List V), vs = [.ref x, .ref t] ∧ H t = some (.tup xs) ∧ (∀ v ∈ xs, Sn v) ∧ Ln C r pw pb H x c m f ∧ H pw = some (.lst (ws.map wv)) ∧ WW ws n r ∧ CoOk r c ∧ RetV (.bl (mayB r ws c xs)) H Q
theorem ok_Lane_may (T : TX K mg) : FnOk P w K mg base CX0 3 T.f_Lane_may T.fd_Lane_may ["self", "event"] (sp_Lane_may T.C_Lane) := by
  refine T.F_Lane_may.ok sc_Lane_may (fun vs H Q E h => ?_) (fun cdv A outer s H vs Q E hr h => ?_)
  · obtain ⟨_, _, _, _, _, _, _, _, _, _, _, rfl, _⟩ := h
    rfl
  · obtain ⟨x, r, pw, pb, c, m, f, ws, n, t, xs, rfl, ht, hsn, ⟨dx, hx⟩, hw, hW, hc, q⟩ := h
    refine ⟨_, (pss_cons (ps_if (pt_cmpR op_ne (pe_callB call_len (by rfl) T.z_len PySem.boot_len (pa_cons (pv 1) pa_nil)) pe_int (nomark _))
 (pss_one (ps_ret pe_bl))
 pss_nil)
 (pss_cons (ps_if (pt_cmpR op_eq (pe_ix ix_seq (pv 1) pe_int (fun _ _ => rfl)) pe_str (nomark _))
 (pss_one (ps_ret (pe_cmpR op_in_seq (pe_ix ix_seq (pv 1) pe_int (fun _ _ => rfl)) (pe_tup (pa_cons pe_str (pa_cons pe_str pa_nil))) (by rfl))))
 pss_nil)
 (pss_cons (ps_if (pt_cmpR op_notIn_seq (pe_ix ix_seq (pv 1) pe_int (fun _ _ => rfl)) (pe_tup (pa_cons pe_str (pa_cons pe_str pa_nil))) (by rfl))
 (pss_one (ps_ret pe_bl))
 pss_nil)
 (pss_cons (ps_asg (pe_meth (pv 0) T.cl_Lane T.m_Lane_turns (ok_Lane_turns T) (hr.mono (by decide)) T.b_Lane_turns .nil pass0 (pa_cons (pe_ix ix_seq (pv 1) pe_int (fun _ _ => rfl)) pa_nil)) (pg_tup (by rfl) (pgs_cons (pg_name (i := 2) sc_Lane_may.nd rfl (by first | exact Or.inl rfl | exact Or.inr rfl)) (pgs_cons (pg_name (i := 3) sc_Lane_may.nd rfl (by first | exact Or.inl rfl | exact Or.inr rfl)) pgs_nil))))
 (pss_one (ps_ret (pe_or (pe_cmpR op_isN (pe_ix ix_seq (pv 1) pe_int (fun _ _ => rfl)) pe_non (nomark _)) (pe_one (pe_cmpR op_in_seq (pe_ix ix_seq (pv 1) pe_int (fun _ _ => rfl)) (pe_call (ok_seen_of T) (hr.mono (by decide)) (by rfl) T.g_seen_of T.F_seen_of.kp T.b_seen_of .nil pass0 (pa_cons (pv 2) (pa_cons (pv 3) pa_nil))) (by rfl)))))))))), ?_⟩
    refine ⟨_, rfl, _, _, rfl, .inr ⟨_, SqT.of ht, rfl⟩, rfl, _, rfl, ?_⟩
    by_cases h2 : xs.length = 2
    · match xs, h2 with
      | [a, b], _ =>
        have ha := hsn a (by simp)
        have hb := hsn b (by simp)
        refine ifN (by simp) ?_
        refine ⟨_, rfl, .inr (.inl ⟨t, _, _, _, rfl, rfl, SqT.of ht, rfl, ha.scal _, _, rfl, ?_⟩)⟩
        cases hl : decide (a = .str "look") with
        | true =>
          refine ifP rfl ⟨_, rfl, .inr (.inl ⟨t, _, _, _, rfl, rfl, SqT.of ht, rfl, small9 (by simp), fun p np => ⟨p, _, rfl, .inr (SqT.of upd_same), hb.flat, rfl, ?_⟩⟩)⟩
          have e : mayB r ws c [a, b] = inV b [.str "writer", .str "reader"] := by
            rw [mayB, hl, if_pos rfl]
          rw [e] at q
          exact q _ (Ex.new np)
        | false =>
          refine ifN (by simp) ?_
          refine ⟨_, rfl, .inr (.inl ⟨t, _, _, _, rfl, rfl, SqT.of ht, rfl, small9 (by simp), fun p np => ⟨p, _, rfl, .inr (SqT.of upd_same), ha.flat, rfl, _, rfl, ?_⟩⟩)⟩
          have e1 := Ex.new (o := HO.tup [.str "put", .str "get"]) np
          have hx1 := e1 _ _ hx
          have hw1 := e1 _ _ hw
          have ht1 := e1 _ _ ht
          cases hi : inV a [.str "put", .str "get"] with
          | false =>
            refine ifP rfl ?_
            have e : mayB r ws c [a, b] = false := by
              rw [mayB, hl, hi]
              rfl
            rw [e] at q
            exact q _ e1
          | true =>
            refine ifN (by simp) ?_
            have hp := inV_pg hi
            have e : mayB r ws c [a, b] = (decide (b = .non) || inV b ((mayW r ws c (decide (a = .str "put"))).map wv)) := by
              rw [mayB, hl, hi]
              rfl
            rw [e] at q
            generalize decide (a = .str "put") = pp at hp q
            subst hp
            generalize upd H p (.tup [.str "put", .str "get"]) = H1 at e1 hx1 hw1 ht1 ⊢
            refine ⟨_, rfl, x, dx, _, rfl, hx1, rfl, _, rfl, .inr (.inl ⟨t, _, _, _, rfl, rfl, SqT.of ht1, rfl, x, r, pw, pb, c, m, f, ws, n, pp, rfl, ⟨dx, hx1⟩, hw1, hW, hc, fun o H2 no e2 ho => ?_⟩)⟩
            refine ⟨o, _, rfl, SqT.of ho, rfl, _, _, rfl, _, _, rfl, rfl, ?_⟩
            have ht2 := e2 _ _ ht1
            refine ⟨_, rfl, .inr (.inl ⟨t, _, _, _, rfl, rfl, SqT.of ht2, rfl, rfl, _, rfl, ?_⟩)⟩
            by_cases hbn : b = .non
            · refine ifP (by simpa using hbn) ?_
              rw [decide_eq_true hbn] at q
              exact q _ (e1.trans e2)
            · refine ifN (by simpa using hbn) ?_
              rw [decide_eq_false hbn, Bool.false_or] at q
              refine ⟨_, rfl, .inr (.inl ⟨t, _, _, _, rfl, rfl, SqT.of ht2, rfl, _, rfl, _, rfl, _, _, n, rfl, hW.wat (here_lt hc pp), hW.wat (other_lt hW.r1 hc pp), hW.n4, fun l H3 nl e3 hl3 => ?_⟩)⟩
              exact ⟨l, _, rfl, .inl (SqL.of hl3), hb.flat, flatW _, q _ ((e1.trans e2).trans e3)⟩
    · refine ifP (by simp; omega) ?_
      have e : mayB r ws c xs = false := by
        unfold mayB
        split
        · exact absurd rfl h2
        · rfl
      rw [e] at q
      exact q _ (Ex.refl _)
/-! ### own exceptions: CrossError.__init__(self, at); made, raised, asked -/
section
variable {X : Cx} {e : Expr} {es : List Expr} {ta : TA} {p1 p2 p pos : Pos}
/-- B.__init__(self, ..), B an own class that has ValueError's -/
theorem pe_ownInit {x : Str} {B : Addr} {pl : Sem Bool} (hg : Gl X x) (hm : X.mg x = some (.ref B)) (hga : PySem.W.specialIn X.K (.ref B) "__getattribute__" = some (some (.builtin "type.__getattribute__"))) (hrd : PySem.W.readsIn X.K B (.type "type") = true)
    (hf : PySem.W.findCls X.K (.ref B) (.type "type") "__init__" = some (.val (.builtin "ValueError.__init__"))) (ha : PA X (e :: es) ta) (hdb : (x == ("__debug__" : Str)) = false := by decide)
    (hc : eval (.Call (.Attribute (.Name x p1) "__init__" p2) (e :: es) [] pos) X.env = (do
      let ov ← eval (.Name x p1) X.env
      standAt p2.atName
      let (f, first) ← holding [ov] (getMethod ov "__init__" pl)
      callWith pos f first (backTo pos (starEach (e :: es) X.env)) (backToKw pos (keywordEach [] X.env))) := by rfl)
    (he : starEach (e :: es) X.env = (false, eval e X.env) :: starEach es X.env := by rfl) (hpl : (backTo pos (starEach es X.env)).any (·.1) = false := by rfl) :
    PE X (.Call (.Attribute (.Name x p1) "__init__" p2) (e :: es) [] pos) (tVeI X.K ta) := by
  refine ⟨fun pins s σ H Q I h => ?_⟩
  refine PySem.W.methodCall_KW (ld_glob I hg hm ?_ hdb) hc
  refine PySem.W.method_cls I.kIn hga (PySem.W.cls_value I.kIn hrd hf (by decide +kernel) ?_)
  show wpAny _ _ (callWith pos (Value.builtin "ValueError.__init__") [] (backTo pos (starEach (e :: es) X.env)) []) _ _ _
  refine PyProof.Rows.callWith_method1 (thn (ha.run pos pins _ σ H _ (I.tok _) h) fun us s1 ⟨vs, H1, I1, r1, a, C, ws, ev, hl, T, ea, q⟩ => ?_) he hpl
  subst ev
  cases r1 with
  | @cons _ u0 _ ur r0 rw' =>
    obtain rfl : u0 = Value.ref a := r0
    exact oinit_ok T I1 ea (by rw [← Paired.length rw', sizeLine_eq]; omega) fun s2 J => ⟨.non, H1, J, rfl, q⟩
/-- C(e, ..) whose exception has no context -/
theorem pmk_oexN {CX : CXT} {x : Str} {C fI : Addr} {k : Nat} {fd : FuncData} {ps : List Str} {sp : Sp} (T : OexC X.K C) (iC : PySem.W.findIn X.K (.ref C) "__init__" = some (some (.ref fI))) (tI : PySem.W.typeIn X.K (.ref fI) = some (.type "function"))
    (F1 : FnOk X.prog X.w X.K X.mg X.base CX k fI fd ps sp) (hr : Room (k + 1) X.A) (hb : Binds X.K fd ps []) (hx : Passes CX X (fun _ _ _ => False)) (hg : Gl X x) (hm : X.mg x = some (.ref C)) (ha : PA X (e :: es) ta)
    (hdb : (x == ("__debug__" : Str)) = false := by decide) (he : starEach (e :: es) X.env = (false, eval e X.env) :: starEach es X.env := by rfl) (hpl : (backTo pos (starEach es X.env)).any (·.1) = false := by rfl) :
    L2N.PMk X (.Call (.Name x p) (e :: es) [] pos) (tMkO C sp [] ta) := by
  intro pins s σ H Q I h
  obtain ⟨nm, qn, N, bs, bm, sn, sub, ab, col, dd, k0, k1, k2, k3, k5, hC, hbm⟩ := T.cls
  refine wpAny_Call_Name_kw (ld_glob I hg hm (PySem.W.callWith_K (h₀ := X.base) I.ok.mod.kin T.kC (thn (ha.run pos pins s σ H _ I h) fun us s1 ⟨vs, H1, I1, r1, hz, q1⟩ => ⟨I1.kIn, ?_⟩) he hpl) hdb)
  show wpAny _ _ (call (.ref C) us) _ _ _
  obtain ⟨hp, gn, dr, tk, os⟩ := s1
  -- the new exception's place
  obtain ⟨ea, hea⟩ : ∃ ea, ea = hp.objs.size + 1 := ⟨_, rfl⟩
  have hge : hp.objs.size ≤ ea := by omega
  have hq := q1 ea (I1.hok.fresh hge)
  have keep : ∀ b o, hp.get? b = some o → ((hp.push (PySem.W.kdv_tup us)).push (PySem.HandSPX.excO C hp.objs.size)).get? b = some o := fun b o z => Heap.get?_push_of_some _ (Heap.get?_push_of_some _ z)
  have hget : ((hp.push (PySem.W.kdv_tup us)).push (PySem.HandSPX.excO C hp.objs.size)).get? ea = some (PySem.HandSPX.excO C hp.objs.size) := by rw [hea]; heap_get
  have I2 := I1.laid (t' := tk) (a := ea) (o := exo ea C none) (h' := (hp.push (PySem.W.kdv_tup us)).push (PySem.HandSPX.excO C hp.objs.size)) keep hge (exo_ok hget)
  have r2 : Vals (V.ref ea :: (vs ++ [])) (Value.ref ea :: us) := by
    rw [List.append_nil]
    exact .cons rfl r1
  have hlen : (Value.ref ea :: us).length = ps.length := by rw [← F1.len _ _ _ _ hq, r2.length]
  refine wpAny_call (PySem.HandSPX.call_own F.excBase_ValueError (fun Y => PySem.HandSPX.refsVE_contains Y bm hbm) (I1.kIn _ _ hC) (PySem.W.looks_findIn I1.kIn iC) (fun self => PySem.W.bind_fn I1.kIn self tI) (by rw [← Paired.length r1, sizeLine_eq]; omega) ?_)
  rw [← hea]
  refine codeAny_mono (F1.run _ X.stack _ _ ⟨Value.ref ea :: us, []⟩ (Value.ref ea :: us) _ _ (fun _ _ _ => False) (hr.make C us []) (I2.env0.make C us []) ?_ r2 hq) fun r s2 hr2 => ?_
  · have z := hb ⟨(hp.push (PySem.W.kdv_tup us)).push (PySem.HandSPX.excO C hp.objs.size), gn, dr, tk, os⟩ (Value.ref ea :: us) I2.kIn (by simpa using hlen)
    simpa using z
  cases r with
  | error er => exact hx pins σ _ _ er s2 I2 hr2
  | ok fl =>
    cases fl with
    | ret u =>
      obtain ⟨v, H2, os2, bare2, un2, hok2, rv, ev, d, fs, xa, xd, hd1, q2⟩ := hr2
      subst ev
      obtain ⟨h2, g2, d2, t2, osx⟩ := s2
      obtain ⟨t0, G, J, kG, ge, hoe, na⟩ := mk_end0 (d2 := d2) (t2 := t2) I1 hge keep un2 hok2 os2 bare2 xa xd hd1
      exact ⟨rv, ea, _, _, ⟨G, g2, d2, t2, osx⟩, _, .ref C, some d, rfl, J, kG, ge, hoe, ⟨rfl, rfl, fun ws z => by cases z; rfl⟩, rfl, rfl, na, rfl, bare2, raises_own T.exC T.tyC, q2⟩
    | next => exact False.elim hr2
    | brk => exact False.elim hr2
    | cont => exact False.elim hr2
end
section
variable {P : Program} {w : World} {K : PySem.W.Frag} {mg : Str → Option Value} {base : Heap}
/-- a def that may raise, where nothing is handled -/
theorem okN {x qual : Str} {st : Stmt} {f : Addr} {fd : FuncData} {N ps : List Str} {k : Nat} {sp : Sp} (F : Fun K x qual st f fd) (S : FnScope N ps (defScope st)) (len : ∀ vs H Q E, sp vs H Q E → vs.length = ps.length)
    (hbody : ∀ (cdv : Value) (A : Around) (outer : List Env) (s : Shared) (H : Hp) (vs : List V) (Q : VK) (E : XK), Room k (A.deeper (PyProof.Rows.envOfC qual (defScope st) s.heap.objs.size f cdv)) → sp vs H Q E →
      ∃ t, PSs (cxOf (L2N.CX P w) P w K mg base N qual (defScope st) f cdv A outer s H E) (defBody st) t ∧ t { nx := fun _ H' => Q .non H', rt := Q } (start N vs) H) : FnOk P w K mg base (L2N.CX P w) (k + 1) f fd ps sp := by
  obtain ⟨oc, od, kV, doc, pm, an, cdv, ct, osl, rfl, lk, hcd⟩ := F.ex
  exact fn_of lk hcd S len fun A outer s H vs Q E hr hsp => hbody cdv A outer s H vs Q E hr hsp
end
def rIsX (K : PySem.W.Frag) (a : Addr) (cls : Value) (d : Option Addr) : List V → Hp → VK → Prop := fun xs H Q => ∃ (D : Addr) (c : V) (cv : Value) (b : Bool), xs = [.ref a, c] ∧ cls = .ref D ∧ IsC K D ∧ (∀ u, RelV c u → u = cv) ∧ PySem.W.kitOne K (.ref D) cv = some b ∧ (d = none ∨ ∃ dd fs, d = some dd ∧ H dd = some (.xd fs)) ∧ Q (.bl b) H
theorem call_isX {X : Cx} {a : Addr} {oe : Obj} {cls : Value} {d : Option Addr} {pn : List (Addr × Obj)} (hz : L2N.Zn cls d oe) (hf : ∃ vs, oe.data = .fields vs) : CallR (X.suite a ((a, oe) :: pn)) (.builtin "isinstance") (rIsX X.K a cls d) := by
  intro pins s σ H xs us Q I r h
  obtain ⟨D, c, cv, b, rfl, rfl, C, hcv, e, hd, q⟩ := h
  cases r with
  | cons rx rr =>
    cases rr with
    | cons rt rr =>
      cases rr
      cases rx
      have ec := hcv _ rt
      subst ec
      obtain ⟨hget, _⟩ := I.pin (a, oe) (List.mem_append.mpr (.inl List.mem_cons_self))
      obtain ⟨vs, hv⟩ := hf
      obtain ⟨z1, z2, _⟩ := hz
      obtain ⟨od, J⟩ : ∃ od, PySem.W.InstAt s.heap a oe D od := by
        rcases hd with hd | ⟨dd, fs, hd, hdd⟩
        · refine ⟨none, hget, z1, by unfold PySem.W.notCls; rw [hv] <;> rfl, ?_⟩
          rw [z2, hd]
          trivial
        · obtain ⟨mA, hns, _⟩ := I.hok dd _ hdd
          obtain ⟨od, ho, _⟩ := lookIn_ns hns
          refine ⟨some od, hget, z1, by unfold PySem.W.notCls; rw [hv] <;> rfl, ?_⟩
          rw [z2, hd]
          exact ho
      exact PySem.W.kia_one (PySem.W.kitx_exc C.hc C.hg C.hk C.hs C.ha C.hn C.ht C.hm) I.kIn J e (fun z => nomatch z) fun tk => ⟨.bl b, H, I.kept (t' := tk) fun _ _ z => z, rfl, q⟩
/-! __init__ of an own exception: self.at -/
def sp_xinit (K : PySem.W.Frag) : Sp := fun vs H Q _ => ∃ (a C : Addr) (n : Int), vs = [.ref a, .int n] ∧ OexC K C ∧ PySem.W.findIn K (.ref C) "at" = some none ∧ H a = some (exo a C none) ∧ ∀ dx, H dx = none → dx ≠ a → Q .non (upd (upd H dx (exd dx [("at", .int n)])) a (exo a C (some dx)))
theorem xinit_raise {K : PySem.W.Frag} {C : Addr} {H : Hp} {n : Int} {Q : XK} {E : XK} (T : OexC K C) (hat : PySem.W.findIn K (.ref C) "at" = some none) (q : ∀ (d : Addr) (H' : Hp), H d = none → Ex H H' → H' d = some (.xd [("at", .int n)]) → Q (.ref C) (some d) H') (a : Addr) (na : H a = none) :
    sp_xinit K (.ref a :: ([V.int n] ++ [])) (upd H a (exo a C none)) (fun v H2 => v = .non ∧ ∃ (d : Addr) (fs : List (Str × V)), H2 a = some (exo a C (some d)) ∧ H2 d = some (exd d fs) ∧ H d = none ∧ Q (.ref C) (some d) (upd (del H2 a) d (.xd fs))) E := by
  refine ⟨a, C, n, rfl, T, hat, upd_same, fun dx ndx nda => ⟨rfl, dx, [("at", .int n)], upd_same, ?_, ?_, ?_⟩⟩
  · rw [upd_ne nda, upd_same]
  · rwa [upd_ne nda] at ndx
  · refine q dx _ (by rwa [upd_ne nda] at ndx) (fun b o hb => ?_) upd_same
    have n1 : b ≠ a := ne_of_none hb na
    have n2 : b ≠ dx := ne_of_none hb (by rwa [upd_ne nda] at ndx)
    rw [upd_ne n2, del_ne n1, upd_ne n1, upd_ne n2, upd_ne n1]
    exact hb
theorem ok_BadEvent___init__ (T : TX K mg) : FnOk P w K mg base CX0 1 T.f_BadEvent___init__ T.fd_BadEvent___init__ ["self", "at"] (sp_xinit K) := by
  refine T.F_BadEvent___init__.ok sc_BadEvent___init__ (fun vs H Q E h => ?_) (fun cdv A outer s H vs Q E hr h => ?_)
  · obtain ⟨_, _, _, rfl, _⟩ := h
    rfl
  · obtain ⟨a, C, n, rfl, hC, hat, ha, q⟩ := h
    refine ⟨_, pss_cons (ps_expr (pe_ownInit (x := "CrossError") (by rfl) T.g_CrossError T.ga_CE T.rd_CE T.fi_CE (pa_cons (pv 0) (pa_cons (pv 1) pa_nil)))) (pss_one (ps_ost (pv 0) (pv 1))), ?_⟩
    exact ⟨_, rfl, _, rfl, a, C, [.int n], rfl, (show 1 ≤ 1000 by decide), hC, ha, _, rfl, _, rfl, a, C, rfl, hC, hat, .inl ⟨ha, fun dx h1 h2 => q dx h1 h2⟩⟩
/-- why the event behind evs is refused -/
def Refu (K : PySem.W.Frag) (C : Addr) (r : Nat) (ws : List (List Bool)) (H : Hp) (es : List V) (evs : List Ev) (E : XK) : Prop := (100 ≤ evs.length ∨ ∃ tb bs, es[evs.length]? = some (.ref tb) ∧ H tb = some (.tup bs) ∧ (∀ x ∈ bs, Sn x) ∧ mayB r ws (pEnd r ws (ps0 r) evs).c bs = false) ∧ ∀ (d : Addr) (H' : Hp), H d = none → Ex H H' → H' d = some (.xd [("at", .int (evs.length : Int))]) → E (.ref C) (some d) H'
def sp_played (K : PySem.W.Frag) (C : Addr) : Sp := fun vs H Q E => ∃ (l pw pe : Addr) (r n : Nat) (ws : List (List Bool)) (es : List V) (evs : List Ev), vs = [.ref l, .ref pe] ∧ H l = some (.tup [.int (r : Int), .ref pw]) ∧ H pw = some (.lst (ws.map wv)) ∧ WW ws n r ∧ ws.Nodup ∧ H pe = some (.lst es) ∧ EvsAt H es evs ∧ VRun r ws ⟨0, 0, 0, 0⟩ evs ∧ evs.length ≤ 100 ∧ (fEnd r ws ⟨0, 0, 0, 0⟩ evs = true ∨ evs.length = es.length → RetL (pTold r ws (ps0 r) evs) H Q) ∧ (fEnd r ws ⟨0, 0, 0, 0⟩ evs = false → evs.length < es.length → Refu K C r ws H es evs E)
theorem ok_played (T : TX K mg) : FnOk P w K mg base (L2N.CX P w) 4 T.f_played T.fd_played ["lane", "events"] (sp_played K T.C_BadEvent) := by
  refine okN T.F_played sc_played (fun vs H Q E h => ?_) (fun cdv A outer s H vs Q E hr h => ?_)
  · obtain ⟨_, _, _, _, _, _, _, _, rfl, _⟩ := h
    rfl
  · obtain ⟨l, pw, pe, r, n, ws, es, evs, rfl, hl, hw, hW, nd, he, hE, hV, h100, hQ, hR⟩ := h
    refine ⟨_, (pss_cons (ps_expr (pe_call (ok_need_lane T) (hr.mono (by decide)) (by rfl) T.g_need_lane T.F_need_lane.kp T.b_need_lane .nil pass0 (pa_cons (pv 0) pa_nil)))
 (pss_cons (ps_set (i := 2) sc_played.nd rfl (by first | exact Or.inl rfl | exact Or.inr rfl) (pe_make T.mk_Lane (ok_Lane___init__ T) (hr.mono (by decide)) (by rfl) T.g_Lane T.b_Lane___init__ .nil pass0 (pa_cons (pe_ix ix_tup (pv 0) pe_int (fun _ _ => rfl)) (pa_cons (pe_ix ix_tup (pv 0) pe_int (fun _ _ => rfl)) pa_nil))))
 (pss_cons (ps_set (i := 3) sc_played.nd rfl (by first | exact Or.inl rfl | exact Or.inr rfl) (pe_lst pa_nil))
 (pss_cons (ps_for (passes_of rfl) rfl (pi_enum (by rfl) T.z_enumerate (pa_cons (pv 1) pa_nil)) (pg_tup (by rfl) (pgs_cons (pg_name (i := 4) sc_played.nd rfl (by first | exact Or.inl rfl | exact Or.inr rfl)) (pgs_cons (pg_name (i := 5) sc_played.nd rfl (by first | exact Or.inl rfl | exact Or.inr rfl)) pgs_nil)))
 (pss_cons (ps_if (PW.pt (pw_or (pt_cmpR op_ge (pv 4) (pe_glob (v := .int 100) (by rfl) T.c_MOST_EVENTS ⟨_, rfl⟩) (nomark _)) (pw_or1 (pt_not (pt_val (pe_meth (pv 2) T.cl_Lane T.m_Lane_may (ok_Lane_may T) (hr.mono (by decide)) T.b_Lane_may .nil pass0 (pa_cons (pv 5) pa_nil)))))))
 (pss_one (L2N.ps_raise rfl (L2N.takes_of rfl rfl rfl rfl) (pmk_oexN T.ox_BadEvent T.iC_BadEvent T.tI_BadEvent (ok_BadEvent___init__ T) (hr.mono (by decide)) T.b_BadEvent___init__ pass0 (by rfl) T.g_BadEvent (pa_cons (pv 4) pa_nil))))
 pss_nil)
 (pss_cons (ps_expr (pe_bm PySem.F.plainAttrs_list PySem.F.slot_list_append PySem.F.type_list_append mt_append (pv 3) (pa_cons (pe_meth (pv 2) T.cl_Lane T.m_Lane_do (ok_Lane_do T) (hr.mono (by decide)) T.b_Lane_do .nil pass0 (pa_cons (pv 5) pa_nil)) pa_nil)))
 (pss_one (ps_if (pt_cmpR op_notN (pe_fld (pv 2) rfl) pe_non (nomark _))
 (pss_one (ps_ret (pv 3)))
 pss_nil)))))
 (pss_one (ps_ret (pv 3))))))), ?_⟩
    have r1 := hW.r1
    have r6 := hW.r6
    refine ⟨_, rfl, l, pw, r, n, ws, rfl, hl, SqL.of hw, hW, nd, fun H1 e1 => ?_⟩
    refine ⟨_, rfl, l, _, _, _, rfl, rfl, SqT.of (e1 _ _ hl), rfl, _, rfl, l, _, _, _, rfl, rfl, SqT.of (e1 _ _ hl), rfl, fun x dx nx ndx ne => ?_⟩
    have e2 : Ex H1 (upd (upd H1 dx (.own x)) x (.ins T.C_Lane dx [])) := (Ex.new ndx).trans (Ex.new (by rw [upd_ne ne.symm]; exact nx))
    refine ⟨x, dx, r, pw, rfl, upd_same, r6, fun H3 pb npb e3 hx3 hb3 => ⟨rfl, ?_⟩⟩
    have npb1 : H1 pb = none := fresh_back e2 npb
    have e13 : Ex H1 H3 := fun a o h => e3 a o (e2 a o h) (ne_of_none h nx)
    have nxH : H x = none := fresh_back e1 nx
    have npbH : H pb = none := fresh_back e1 npb1
    have eH3 := e1.trans e13
    clear e2 e3 npb
    refine ⟨small9 (by simp), fun pf npf => ?_⟩
    have npfH : H pf = none := fresh_back eH3 npf
    have nfx : x ≠ pf := ne_of_none hx3 npf
    have nfb : pb ≠ pf := ne_of_none hb3 npf
    have nwb : pw ≠ pb := ne_of_none hw npbH
    refine ⟨_, rfl, pe, _, rfl, SqL.of (((eH3.trans (Ex.new npf))) _ _ he), ?_⟩
    refine for_it (walk_enum (K := K) (a := pe) (xs := es)) (fun i σ H' => ∃ y4 y5 dn rest, σ = [some (.ref l), some (.ref pe), some (.ref x), some (.ref pf), y4, y5] ∧ Ex H H' ∧ evs = dn ++ rest ∧ dn.length = i ∧ H' pf = some (.lst (pTold r ws (ps0 r) dn)) ∧ Ln T.C_Lane r pw pb H' x (pEnd r ws (ps0 r) dn).c (pEnd r ws (ps0 r) dn).m .non ∧ (pEnd r ws (ps0 r) dn).f = .non ∧ H' pb = some (.lst (pEnd r ws (ps0 r) dn).bx) ∧ (pEnd r ws (ps0 r) dn).bx.length = r ∧ CoOk r (pEnd r ws (ps0 r) dn).c ∧ VRun r ws (pEnd r ws (ps0 r) dn).c rest ∧ fEnd r ws (pEnd r ws (ps0 r) dn).c rest = fEnd r ws ⟨0, 0, 0, 0⟩ evs) ?_ ?_ ?_ ?_
    · refine ⟨_, _, [], evs, rfl, eH3.trans (Ex.new npf), rfl, rfl, upd_same, ?_, rfl, ?_, List.length_replicate, coOk_zero r1, hV, rfl⟩
      · refine ⟨dx, ?_⟩
        rw [upd_ne nfx]
        exact hx3
      · rw [upd_ne nfb]
        exact hb3
    · rintro i σ H4 _ ⟨_, _, _, _, _, e4, _⟩
      exact SqL.of (e4 _ _ he)
    · rintro i v σ H4 H5 hi ⟨y4, y5, dn, rest, rfl, e4, hev, hdn, hf4, ⟨dx, hx4⟩, hno, hb4, hbl, hco, hvr, hfe⟩ ⟨t, a, b, rfl, nt, rfl, ha, hb⟩
      have ha := Option.some.inj ha
      subst ha
      have e5 := Ex.new (o := HO.tup [.int ((i : Nat) : Int), b]) nt
      have e45 := e4.trans e5
      have hf5 := e5 _ _ hf4
      have hx5 := e5 _ _ hx4
      have hb5 := e5 _ _ hb4
      refine ⟨t, _, rfl, SqT.of upd_same, rfl, _, _, rfl, _, _, rfl, rfl, ?_⟩
      generalize upd H4 t (.tup [.int ((i : Nat) : Int), b]) = H5 at e5 e45 hf5 hx5 hb5 ⊢
      clear hf4 hx4 hb4 e4 e5
      cases rest with
      | nil =>
        have hev : evs = dn := by rw [hev, List.append_nil]
        subst hev
        have hi' : i < es.length := hi
        obtain ⟨why, hraise⟩ := hR hfe.symm (by omega)
        have hw5 := e45 _ _ hw
        subst hdn
        refine ⟨_, rfl, _, _, rfl, rfl, _, rfl, ?_⟩
        by_cases h1 : 100 ≤ evs.length
        · refine ifP (by simp; omega) ⟨_, rfl, (show 1 ≤ 1000 by decide), xinit_raise T.ox_BadEvent T.at_BadEvent fun d H' nd' e' hd' => hraise d H' (fresh_back e45 nd') (e45.trans e') hd'⟩
        · refine ifN (by simp; omega) ?_
          rcases why with why | ⟨tb, bs, htb, hbs, hsn, hmay⟩
          · omega
          have hb' : b = .ref tb := by
            have hb : es[evs.length]? = some b := hb
            rw [htb] at hb
            exact (Option.some.inj hb).symm
          subst hb'
          generalize hS : pEnd r ws (ps0 r) evs = S at *
          refine ⟨_, rfl, x, dx, _, rfl, hx5, rfl, _, rfl, x, r, pw, pb, S.c, S.m, .non, ws, n, tb, bs, rfl, e45 _ _ hbs, hsn, ⟨dx, hx5⟩, hw5, hW, hco, fun H6 e6 => ⟨_, rfl, ifP (by rw [hmay]; simp) ?_⟩⟩
          have e46 := e45.trans e6
          exact ⟨_, rfl, (show 1 ≤ 1000 by decide), xinit_raise T.ox_BadEvent T.at_BadEvent fun d H' nd' e' hd' => hraise d H' (fresh_back e46 nd') (e46.trans e') hd'⟩
      | cons e rest =>
        obtain ⟨hcan, hstop, hvr2⟩ := hvr
        obtain ⟨te, hte, hte2⟩ := hE.2 i e (by rw [hev, ← hdn]; simp)
        have hb' : b = .ref te := by
          have hb : es[i]? = some b := hb
          rw [hte] at hb
          exact (Option.some.inj hb).symm
        subst hb'
        have hte5 := e45 _ _ hte2
        have hw5 := e45 _ _ hw
        have hdn100 : dn.length < 100 := by
          rw [hev, List.length_append, List.length_cons] at h100
          omega
        refine ⟨_, rfl, _, _, rfl, rfl, _, rfl, ifN (by simp; omega) ?_⟩
        generalize hS : pEnd r ws (ps0 r) dn = S at *
        refine ⟨_, rfl, x, dx, _, rfl, hx5, rfl, _, rfl, x, r, pw, pb, S.c, S.m, .non, ws, n, te, evV e, rfl, hte5, sn_ev e, ⟨dx, hx5⟩, hw5, hW, hco, fun H6 e6 => ⟨_, rfl, ifN (by rw [mayB_can hcan]; simp) ?_⟩⟩
        have e46 := e45.trans e6
        have hx6 := e6 _ _ hx5
        have hb6 := e6 _ _ hb5
        have hf6 := e6 _ _ hf5
        refine ⟨_, rfl, .inl ⟨rfl, _, SqL.of hf6⟩, _, rfl, x, dx, _, rfl, hx6, rfl, _, rfl, x, r, pw, pb, S.c, S.m, .non, ws, n, S.bx, te, e, rfl, e6 _ _ hte5, ⟨dx, hx6⟩, e6 _ _ hw5, hb6, hbl, nwb, hW, hco, fun H7 e7 ⟨dx7, hx7⟩ hb7 => ?_⟩
        have hf7 := e7 _ _ hf6 nfx.symm nfb.symm
        have e47 := ex_of2 e46 e7 nxH npbH
        have hdn100 : dn.length < 100 := hdn100
        refine ⟨pf, _, _, rfl, rfl, hf7, by rw [pTold_len]; exact small1000 (by omega), ?_⟩
        have hx8 : upd H7 pf (.lst (pTold r ws (ps0 r) dn ++ [pAns r S.c S.m S.bx e])) x = some (.ins T.C_Lane dx7 (FS r pw pb (cst r ws S.c e) (pMany r S.c S.m e) (pFlt r S.c .non e))) := by
          rw [upd_ne nfx]
          exact hx7
        have hb8 : upd H7 pf (.lst (pTold r ws (ps0 r) dn ++ [pAns r S.c S.m S.bx e])) pb = some (.lst (pBox r S.c S.m S.bx e)) := by
          rw [upd_ne nfb]
          exact hb7
        have hT : pTold r ws (ps0 r) dn ++ [pAns r S.c S.m S.bx e] = pTold r ws (ps0 r) (dn ++ [e]) := by
          rw [pTold_app, hS]
          rfl
        have hS2 : pEnd r ws (ps0 r) (dn ++ [e]) = pstep r ws S e := by
          rw [pEnd_app, hS]
          rfl
        have hf8 : upd H7 pf (.lst (pTold r ws (ps0 r) dn ++ [pAns r S.c S.m S.bx e])) pf = some (.lst (pTold r ws (ps0 r) (dn ++ [e]))) := by
          rw [upd_same, hT]
        have e48 : Ex H (upd H7 pf (.lst (pTold r ws (ps0 r) dn ++ [pAns r S.c S.m S.bx e]))) := e47.mut npfH
        generalize upd H7 pf (.lst (pTold r ws (ps0 r) dn ++ [pAns r S.c S.m S.bx e])) = H8 at hx8 hb8 hf8 e48 ⊢
        refine ⟨_, rfl, x, _, _, _, _, rfl, hx8, T.cl_Lane, T.na_fault, fs_fault, rfl, _, rfl, ?_⟩
        cases hfl : flt r S.c e with
        | some p =>
          have hrest := hstop (by rw [hfl]; simp)
          subst hrest
          rw [pFlt_some hfl]
          refine ifP (by simp [fltV_some]) ⟨_, rfl, hQ (.inl ?_) pf _ npfH e48 ?_⟩
          · rw [← hfe]
            show ((flt r S.c e).isSome || _) = true
            rw [hfl]
            rfl
          rw [hf8, hev]
        | none =>
          rw [pFlt_none hfl] at hx8 ⊢
          refine ifN (by simp) ⟨_, _, dn ++ [e], rest, rfl, e48, by rw [hev]; simp, by simp [hdn], hf8, ?_, ?_, ?_, ?_, ?_, ?_, ?_⟩
          · rw [hS2]
            exact ⟨dx7, hx8⟩
          · rw [hS2]
            exact (pFlt_none hfl).trans hno
          · rw [hS2]
            exact hb8
          · rw [hS2]
            exact pBox_len hbl
          · rw [hS2]
            exact cst_ok r1 hW.len hco e
          · rw [hS2]
            exact hvr2
          · rw [hS2, ← hfe]
            show _ = ((flt r S.c e).isSome || _)
            rw [hfl]
            rfl
    · rintro σ H4 ⟨y4, y5, dn, rest, rfl, e4, hev, hdn, hf4, _⟩
      have : rest = [] := by
        have h1 := hE.1
        rw [hev, List.length_append] at h1
        exact List.length_eq_zero_iff.mp (by omega)
      subst this
      refine ⟨_, rfl, hQ (.inr (by rw [hev, List.append_nil]; exact hdn)) pf _ npfH e4 ?_⟩
      rw [hf4, hev, List.append_nil]
def sp_got (K : PySem.W.Frag) (C : Addr) : Sp := fun vs H Q E => ∃ (l pw pe : Addr) (r n : Nat) (ws : List (List Bool)) (es : List V) (evs : List Ev), vs = [.ref l, .ref pe] ∧ H l = some (.tup [.int (r : Int), .ref pw]) ∧ H pw = some (.lst (ws.map wv)) ∧ WW ws n r ∧ ws.Nodup ∧ H pe = some (.lst es) ∧ EvsAt H es evs ∧ VRun r ws ⟨0, 0, 0, 0⟩ evs ∧ evs.length ≤ 100 ∧ fEnd r ws ⟨0, 0, 0, 0⟩ evs = false ∧ evs.length < es.length ∧ Refu K C r ws H es evs E
theorem ok_got (T : TX K mg) : FnOk P w K mg base (L2N.CX P w) 5 T.f_got T.fd_got ["lane", "events"] (sp_got K T.C_BadEvent) := by
  refine okN T.F_got sc_got (fun vs H Q E h => ?_) (fun cdv A outer s H vs Q E hr h => ?_)
  · obtain ⟨_, _, _, _, _, _, _, _, rfl, _⟩ := h
    rfl
  · obtain ⟨l, pw, pe, r, n, ws, es, evs, rfl, hl, hw, hW, nd, he, hE, hV, h100, hF, hlt, hR⟩ := h
    refine ⟨_, (pss_cons (ps_set (i := 2) sc_got.nd rfl (by first | exact Or.inl rfl | exact Or.inr rfl) (pe_call (ok_played T) (hr.mono (by decide)) (by rfl) T.g_played T.F_played.kp T.b_played .nil (L2N.passes_call (L2N.takes_of rfl rfl rfl rfl) (fun _ _ _ _ h => h)) (pa_cons (pv 0) (pa_cons (pv 1) pa_nil))))
 (pss_one (ps_ret (pe_lc (own := [("at", 3)]) (g := gName 3) (by rfl) sc_got.nd (pi_range1 (by rfl) T.z_range (pa_cons (pe_callB call_len_seq (by rfl) T.z_len PySem.boot_len (pa_cons (pv 2) pa_nil)) pa_nil)) (blkOk_by (own := [("at", 3)]) (N := ["lane", "events", "told", "at"]) (sc := defScope s_got) (by decide +kernel)) (fun _ _ _ _ _ => pg_name (i := 3) sc_got.nd rfl (Or.inl rfl)) (fun _ _ _ _ _ => (pts_one (PW.pt (pw_and (pt_cmpR op_eq (pe_ix (r := rIx K) ix_seq (pe_ix (r := rIxL K) ix_list (pv 1) (pv 3) (fun _ _ => rfl)) pe_int (fun _ _ => rfl)) pe_str (nomark _)) (pw_and1 (pt_cmpR (r := rIn K true) op_notIn_seq (pe_ix (r := rIxL K) ix_list (pv 2) (pv 3) (fun _ _ => rfl)) (pe_tup (pa_cons pe_non (pa_cons (pe_glob (v := .str "under") (by rfl) T.c_UNDER ⟨_, rfl⟩) pa_nil))) (by rfl))))))) (fun _ _ _ _ _ => (pe_ix (r := rIxL K) ix_list (pv 2) (pv 3) (fun _ _ => rfl))))))), ?_⟩
    refine ⟨_, rfl, _, rfl, l, pw, pe, r, n, ws, es, evs, rfl, hl, hw, hW, nd, he, hE, hV, h100, fun h => ?_, fun _ _ => hR⟩
    rcases h with h | h
    · rw [hF] at h
      cases h
    · omega
/-! ### lambdas as values -/
/-- a made lambda: its words, the cells that it captured, its defaults, its code object -/
structure LamD where
  params : Arguments
  body : Expr
  scope : Scope
  q : Str
  cl : List (Str × Addr)
  dV : Value
  c : Addr
abbrev LamD.fd (L : LamD) (doc pm ctv : Value) : FuncData := PySem.W.kdv_fn "<lambda>" L.q L.params (.expr L.body) L.scope L.cl L.dV doc pm (.ref L.c) ctv
def LamO (f : Addr) (L : LamD) : HO := .ext fun h => ∃ doc pm ctv : Value, h.get? f = some (PySem.W.kdv_obj "<lambda>" L.q L.params (.expr L.body) L.scope L.cl L.dV doc pm L.c ctv)
/-- what a lambda's defaults come to: nothing, or a tuple -/
def DefOk (ds : List Expr) (dV : Value) (R : Addr → Prop) : Prop := match ds with
  | [] => dV = .none
  | _ :: _ => ∃ t, dV = .ref t ∧ R t
theorem DefOk.imp {ds : List Expr} {dV : Value} {R S : Addr → Prop} (k : ∀ t, R t → S t) (h : DefOk ds dV R) : DefOk ds dV S := by
  cases ds with
  | nil => exact h
  | cons d ds =>
    obtain ⟨t, e, r⟩ := h
    exact ⟨t, e, k t r⟩
/-- the lambda stands in a heap: its object, its code object, its one default (0), if it has one -/
def ThkH (H : Hp) (f : Addr) (L : LamD) : Prop := H f = some (LamO f L) ∧ H L.c = some (LamX.CodeO L.c L.q) ∧ DefOk L.params.defaults L.dV (fun t => H t = some (.tup [.int 0]))
theorem lamO_ok {P : Program} {w : World} {H : Hp} {h : Heap} {f : Addr} {L : LamD} {doc pm ctv : Value} (e : h.get? f = some (PySem.W.kdv_obj "<lambda>" L.q L.params (.expr L.body) L.scope L.cl L.dV doc pm L.c ctv)) : ObjOk P w H h f (LamO f L) :=
  ⟨⟨doc, pm, ctv, e⟩, ⟨_, e⟩, fun _ _ ⟨d, p, c, z⟩ st => ⟨d, p, c, st _ z⟩⟩
theorem lamO_tbl {f : Addr} {L : LamD} (ps : Array Value) : LamO f L ≠ .tbl ps := fun z => by
  unfold LamO at z
  cases z
theorem ThkH.extN {H H' : Hp} {f : Addr} {L : LamD} (e : LamX.ExtN H H') (h : ThkH H f L) : ThkH H' f L := by
  obtain ⟨h1, h2, h3⟩ := h
  exact ⟨e _ _ h1 lamO_tbl, e _ _ h2 LamX.codeO_ne, h3.imp fun t h4 => e _ _ h4 fun ps z => by cases z⟩
theorem ThkH.mono {H H' : Hp} {f : Addr} {L : LamD} (e : Ex H H') (h : ThkH H f L) : ThkH H' f L := h.extN (LamX.ExtN.of e)
section
variable {X : Cx} {pins : List (Addr × Obj)} {σ : L2.St} {H : Hp} {s : Shared}
/-- the function object is made, its defaults being known -/
theorem lam_tail {T : List (Addr × Str)} {c P : Addr} {params : Arguments} {body : Expr} {scope : Scope} {pos : Pos} {dV : Value} {fl : Nat} {E : Value → Shared → Prop} {Q : Value → Shared → Prop} (I : Inv X pins σ H s) (TB : LamX.TabB X.base X.mg c P) (hcode : X.env.code = .ref c)
    (hm : (P, X.env.qual ++ "<lambda>") ∈ T) (hu : ∀ p ∈ T, p.1 = P → p.2 = X.env.qual ++ "<lambda>") (hT : LamX.Tabs T H) (hfree : ∀ y ∈ scope.names, y.2 = .free → ∃ c, X.env.cells.lookup y.1 = some c)
    (k : ∀ (f c' : Addr) (H1 : Hp) (s' : Shared), Inv X pins σ H1 s' → LamX.ExtN H H1 → LamX.Tabs T H1 → H f = none → H1 f = some (LamO f ⟨params, body, scope, X.env.qual ++ "<lambda>", cloFrom X.env.cells scope.names [], dV, c'⟩) → H1 c' = some (LamX.CodeO c' (X.env.qual ++ "<lambda>")) → Q (.ref f) s') :
    wpAny (model X.prog X.w) X.A (makeTail "<lambda>" (X.env.qual ++ "<lambda>") params (.expr body) scope X.env dV .none none pos fl) Q E s := by
  obtain ⟨ps, hP, ht, ha⟩ := hT _ hm
  have bP : s.heap.BuiltinsAt X.mg P := TB.bm.keeps I.bk
  have hPs : s.heap.get? P = some { cls := .none, data := .fields ps } := I.hok P _ hP
  cases hc : codeAmong pos ps.toList with
  | none =>
    refine PySem.W.kdv_makeTail (mg := X.mg) (c := c) (P := P) (ps := ps) (closure_ok hfree) I.ok.glob (I.mod.glob.keeps I.bk) hcode (TB.code.keeps I.bk) hPs ht hc TB.gP bP fun c' ctv doc h' tk hx hge hlt hrec htb => ?_
    obtain ⟨c2, oc, vs, t, e2, hoc, hd, hv⟩ := hrec
    cases e2
    have hsz : s.heap.objs.size ≤ h'.objs.size := Nat.le_trans hge (Nat.le_of_lt hlt)
    have nC : H c' = none := I.hok.fresh hge
    have I1 := LamX.inv_table (t' := tk) (more := #[rawInt pos.line, rawInt pos.col, .ref c']) (h' := h') I hP (fun b o hb e => hx b o hb e) htb hge ⟨oc, vs, t, hoc, hd, hv⟩
    generalize hH1 : upd (upd H P (.tbl (ps ++ #[rawInt pos.line, rawInt pos.col, .ref c']))) c' (LamX.CodeO c' (X.env.qual ++ "<lambda>")) = H1 at I1
    have nF1 : H1 h'.objs.size = none := I1.hok.fresh (Nat.le_refl _)
    have I2 := I1.laid (t' := tk) (a := h'.objs.size) (o := LamO h'.objs.size ⟨params, body, scope, X.env.qual ++ "<lambda>", cloFrom X.env.cells scope.names [], dV, c'⟩) (h' := h'.push (PySem.W.kdv_obj "<lambda>" (X.env.qual ++ "<lambda>") params (.expr body) scope (cloFrom X.env.cells scope.names []) dV doc ((X.mg "__name__").getD .none) c' ctv)) (fun b o e => Heap.get?_push_of_some _ e) (Nat.le_refl _) (lamO_ok (Heap.get?_push_size _ rfl))
    have eH : LamX.ExtN H H1 := fun b o e n => by
      rw [← hH1, upd_ne (ne_of_none e nC), upd_ne (fun z => n ps (Option.some.inj (e.symm.trans (by rw [z]; exact hP))))]
      exact e
    have eF : Ex H1 (upd H1 h'.objs.size (LamO h'.objs.size ⟨params, body, scope, X.env.qual ++ "<lambda>", cloFrom X.env.cells scope.names [], dV, c'⟩)) := Ex.new nF1
    have eL : (ps ++ #[rawInt pos.line, rawInt pos.col, .ref c']).toList = ps.toList ++ [rawInt pos.line, rawInt pos.col, .ref c'] := by simp
    have T1 : LamX.Tabs T H1 := by
      intro p hp
      by_cases hb : p.1 = P
      · rw [hu p hp hb, hb]
        refine ⟨_, by rw [← hH1, upd_ne (ne_of_none hP nC), upd_same], by rw [eL]; exact PySem.TriplesOk_snoc _ _ _ _ ht, fun p' cv hcv => ?_⟩
        rw [eL] at hcv
        rcases LamX.among_app _ ht hcv with z | z
        · obtain ⟨c0, e1, e2⟩ := ha p' cv z
          exact ⟨c0, e1, eH _ _ e2 LamX.codeO_ne⟩
        · exact ⟨c', z, by rw [← hH1]; exact upd_same⟩
      · obtain ⟨ps', a1, a2, a3⟩ := hT p hp
        refine ⟨ps', by rw [← hH1, upd_ne (ne_of_none a1 nC), upd_ne hb]; exact a1, a2, fun p' cv hcv => ?_⟩
        obtain ⟨c0, e1, e2⟩ := a3 p' cv hcv
        exact ⟨c0, e1, eH _ _ e2 LamX.codeO_ne⟩
    have nF : H h'.objs.size = none := I.hok.fresh hsz
    refine k h'.objs.size c' _ _ I2 (eH.trans (LamX.ExtN.of eF)) (T1.ext eF) nF upd_same ?_
    rw [upd_ne (Nat.ne_of_lt hlt), ← hH1]
    exact upd_same
  | some cv =>
    obtain ⟨c', e, hco⟩ := ha pos cv hc
    subst e
    refine PySem.W.kdv_makeTailHit (mg := X.mg) (c := c) (P := P) (ps := ps) (closure_ok hfree) I.ok.glob (I.mod.glob.keeps I.bk) hcode (TB.code.keeps I.bk) hPs ht hc bP fun ctv doc h' tk hx hsz => ?_
    have nF : H h'.objs.size = none := I.hok.fresh hsz
    have I2 := I.laid (t' := tk) (a := h'.objs.size) (o := LamO h'.objs.size ⟨params, body, scope, X.env.qual ++ "<lambda>", cloFrom X.env.cells scope.names [], dV, c'⟩) (h' := h'.push (PySem.W.kdv_obj "<lambda>" (X.env.qual ++ "<lambda>") params (.expr body) scope (cloFrom X.env.cells scope.names []) dV doc ((X.mg "__name__").getD .none) c' ctv)) (fun b o e => Heap.get?_push_of_some _ (hx b o e)) hsz (lamO_ok (Heap.get?_push_size _ rfl))
    have eF : Ex H (upd H h'.objs.size (LamO h'.objs.size ⟨params, body, scope, X.env.qual ++ "<lambda>", cloFrom X.env.cells scope.names [], dV, c'⟩)) := Ex.new nF
    exact k h'.objs.size c' _ _ I2 (LamX.ExtN.of eF) (hT.ext eF) nF upd_same (eF _ _ hco)
end
/-- the lambda of a written expression, made in X -/
abbrev lamOf (X : Cx) (params : Arguments) (body : Expr) (scope : Scope) (dV : Value) (c' : Addr) : LamD := ⟨params, body, scope, X.env.qual ++ "<lambda>", cloFrom X.env.cells scope.names [], dV, c'⟩
def tLamV (X : Cx) (T : List (Addr × Str)) (params : Arguments) (body : Expr) (scope : Scope) : TE := fun _ H Q => LamX.Tabs T H ∧ ∀ (f c' : Addr) (dV : Value) (H1 : Hp), LamX.ExtN H H1 → LamX.Tabs T H1 → H f = none → ThkH H1 f (lamOf X params body scope dV c') → Q (.ref f) H1
section
variable {X : Cx}
/-- lambda: body -/
theorem pe_lam0 {T : List (Addr × Str)} {c P : Addr} {params : Arguments} {body : Expr} {scope : Scope} {pos : Pos} (TB : LamX.TabB X.base X.mg c P) (hcode : X.env.code = .ref c) (hm : (P, X.env.qual ++ "<lambda>") ∈ T) (hu : ∀ p ∈ T, p.1 = P → p.2 = X.env.qual ++ "<lambda>")
    (hfree : ∀ y ∈ scope.names, y.2 = .free → X.env.scope.names.lookup y.1 = some .cell ∨ X.env.scope.names.lookup y.1 = some .free) (hdef : defaultsOf params X.env = ([], []) := by rfl) (hd0 : params.defaults = [] := by rfl) : PE X (.Lambda params body scope pos) (tLamV X T params body scope) := by
  refine ⟨fun pins s σ H Q I h => ?_⟩
  obtain ⟨hT, h⟩ := h
  refine PySem.W.kla_eval hdef ?_
  rw [makeFunction_eq]
  simp only [List.zip_nil_right, List.filterMap_nil, List.isEmpty_nil, if_true, pure_bind]
  refine lam_tail I TB hcode hm hu hT (fun y hy e => I.ok.has _ (hfree y hy e)) fun f c' H1 s' I1 e1 T1 nf hf hc => ?_
  exact ⟨.ref f, H1, I1, rfl, h f c' .none H1 e1 T1 nf ⟨hf, hc, by show DefOk params.defaults _ _; rw [hd0]; rfl⟩⟩
end
section
variable {X : Cx}
/-- lambda a=0: body -/
theorem pe_lam1 {T : List (Addr × Str)} {c P : Addr} {params : Arguments} {body : Expr} {scope : Scope} {pos pk : Pos} {kk} (TB : LamX.TabB X.base X.mg c P) (hcode : X.env.code = .ref c) (hm : (P, X.env.qual ++ "<lambda>") ∈ T) (hu : ∀ p ∈ T, p.1 = P → p.2 = X.env.qual ++ "<lambda>")
    (hfree : ∀ y ∈ scope.names, y.2 = .free → X.env.scope.names.lookup y.1 = some .cell ∨ X.env.scope.names.lookup y.1 = some .free) (hdef : params.defaults = [.Constant (.int 0) kk pk] := by rfl) (hk0 : params.kw_defaults = [] := by rfl) : PE X (.Lambda params body scope pos) (tLamV X T params body scope) := by
  refine ⟨fun pins s σ H Q I h => ?_⟩
  obtain ⟨hT, h⟩ := h
  refine PySem.W.kdv_lam (by rw [hdef]; rfl) hk0 ?_
  rw [hdef]
  refine PySem.W.kdv_all1 (thn ((pe_int (X := X) (i := 0) (j := kk) (pos := pk)).run pins s σ H (fun v H1 => v = .int 0 ∧ H1 = H) I ⟨rfl, rfl⟩) fun u s1 ⟨v, H1, I1, r1, ev, eH⟩ => PySem.W.kdv_all0 ?_)
  subst ev
  rw [eH] at I1
  rw [makeFunction_eq]
  simp only [List.zip_nil_right, List.filterMap_nil, List.isEmpty_nil, List.isEmpty_cons, Bool.false_eq_true, if_false, if_true, pure_bind]
  refine wpAny_bind (wpAny_newTextTuple ?_)
  have nt : H s1.heap.objs.size = none := I1.hok.fresh (Nat.le_refl _)
  have I2 := I1.laid (t' := s1.toks) (a := s1.heap.objs.size) (o := HO.tup [.int 0]) (h' := s1.heap.push { cls := .type "tuple", data := .seq [u].toArray }) (fun b o e => Heap.get?_push_of_some _ e) (Nat.le_refl _) ⟨by rw [sizeLine_eq]; decide, [u], .cons r1 .nil, ⟨_, Heap.get?_push_size _ rfl, rfl, _, rfl⟩⟩
  have eT : Ex H (upd H s1.heap.objs.size (.tup [.int 0])) := Ex.new nt
  refine lam_tail I2 TB hcode hm hu (hT.ext eT) (fun y hy e => I.ok.has _ (hfree y hy e)) fun f c' H3 s' I3 e3 T3 nf hf hc => ?_
  exact ⟨.ref f, H3, I3, rfl, h f c' _ H3 ((LamX.ExtN.of eT).trans e3) T3 (fresh_back eT nf) ⟨hf, hc, by show DefOk params.defaults _ _; rw [hdef]; exact ⟨_, rfl, e3 _ _ upd_same (fun ps z => by cases z)⟩⟩⟩
end
/-! ### a lambda called -/
/-- no cell of its own; what is captured is captured -/
structure LScope (sc scope : Scope) : Prop where
  kind : scope.kind = .function
  co : scope.isCoroutine = false
  gen : scope.isGenerator = false
  own : ∀ y ∈ scope.names, y.2 ≠ .cell
  free : ∀ y ∈ scope.names, y.2 = .free → sc.names.lookup y.1 = some .cell ∨ sc.names.lookup y.1 = some .free
def lScopeB (sc scope : Scope) : Bool :=
  decide (scope.kind = .function) && (!scope.isCoroutine && (!scope.isGenerator && scope.names.all fun y => !decide (y.2 = .cell) && (!decide (y.2 = .free) || (decide (sc.names.lookup y.1 = some .cell) || decide (sc.names.lookup y.1 = some .free)))))
theorem lScope_by {sc scope : Scope} (h : lScopeB sc scope = true) : LScope sc scope := by
  unfold lScopeB at h
  simp only [Bool.and_eq_true, Bool.or_eq_true, Bool.not_eq_true', decide_eq_true_eq, decide_eq_false_iff_not, List.all_eq_true] at h
  obtain ⟨h1, h2, h3, h4⟩ := h
  refine ⟨h1, h2, h3, fun y hy => (h4 y hy).1, fun y hy e => ?_⟩
  rcases (h4 y hy).2 with z | z
  · exact absurd e z
  · exact z
/-- the cells of a context, as they stand in a heap -/
structure CellsOk (X : Cx) (σ : L2.St) (H : Hp) (h : Heap) : Prop where
  at' : ∀ x c, X.env.cells.lookup x = some c → H c = none ∧ ∃ v, h.IsCell c v
  val : ∀ (i : Nat) (x : Str) (v : V), X.N[i]? = some x → σ[i]? = some (some v) → (X.env.scope.names.lookup x = some .cell ∨ X.env.scope.names.lookup x = some .free) → ∃ u c, RelV v u ∧ X.env.cells.lookup x = some c ∧ h.IsCell c (some u)
  inj : ∀ x y c, X.env.cells.lookup x = some c → X.env.cells.lookup y = some c → x = y
  has : ∀ x, (X.env.scope.names.lookup x = some .cell ∨ X.env.scope.names.lookup x = some .free) → ∃ c, X.env.cells.lookup x = some c
  len : σ.length = X.N.length
theorem cellsOk_of {X : Cx} {pins : List (Addr × Obj)} {σ : L2.St} {H : Hp} {s : Shared} (I : Inv X pins σ H s) : CellsOk X σ H s.heap := by
  refine ⟨fun x c e => ⟨I.freeC x c e, I.cell x c e⟩, fun i x v e1 e2 e3 => ?_, I.ok.inj, I.ok.has, I.len⟩
  obtain ⟨m, _, hl⟩ := I.loc
  obtain ⟨u, r, q⟩ := hl i x v e1 e2 (.inr e3)
  rcases q with ⟨k, _⟩ | ⟨_, c, hc, z⟩
  · have k : X.env.scope.names.lookup x = some .local := k
    rcases e3 with e3 | e3 <;> rw [e3] at k <;> cases k
  · exact ⟨u, c, r, hc, z⟩
theorem CellsOk.un {X : Cx} {σ : L2.St} {fs ex : List Addr} {H H' : Hp} {h h' : Heap} (c : CellsOk X σ H h) (u : Un fs ex H H' h h') (hx : ∀ x d, X.env.cells.lookup x = some d → d ∉ ex) : CellsOk X σ H' h' := by
  have key : ∀ x d v, X.env.cells.lookup x = some d → h.IsCell d v → h'.IsCell d v := fun x d v e ⟨o, ho, hd⟩ => by
    obtain ⟨sl, q⟩ := u.any ho (c.at' x d e).1 (hx x d e)
    exact ⟨_, q, hd⟩
  refine ⟨fun x d e => ?_, fun i x v e1 e2 e3 => ?_, c.inj, c.has, c.len⟩
  · obtain ⟨n, v, z⟩ := c.at' x d e
    obtain ⟨o, ho, _⟩ := id z
    exact ⟨u.free d o ho n (hx x d e), v, key x d v e z⟩
  · obtain ⟨uu, d, r, e, z⟩ := c.val i x v e1 e2 e3
    exact ⟨uu, d, r, e, key x d _ e z⟩
abbrev thkEnv (L : LamD) (a f : Addr) : Env := PySem.W.envX L.q L.scope a f (.ref L.c) L.cl
/-- the context of a lambda's body -/
def thkCx (X : Cx) (L : LamD) (A : Around) (outer : List Env) (s : Shared) (H : Hp) (E : XK) (f : Addr) : Cx where
  prog := X.prog
  w := X.w
  K := X.K
  mg := X.mg
  base := X.base
  A := A.deeper (thkEnv L s.heap.objs.size f)
  N := X.N
  s_0 := s
  H_0 := H
  env := thkEnv L s.heap.objs.size f
  outer := outer
  stack := thkEnv L s.heap.objs.size f :: outer
  ex := []
  fn := fun _ => false
  calm := true
  pn := []
  xe := fun e s' => wpAny (model X.prog X.w) (A.deeper (thkEnv L s.heap.objs.size f)) (leaving (thkEnv L s.heap.objs.size f) e) (fun _ s2 => L2N.CX X.prog X.w outer H s E e s2) (fun e' s2 => L2N.CX X.prog X.w outer H s E e' s2) s'
section
variable {X : Cx} {σ : L2.St} {params : Arguments} {body : Expr} {scope : Scope} {dV : Value} {c' : Addr}
theorem clo_of (LS : LScope X.env.scope scope) {H : Hp} {h : Heap} (C : CellsOk X σ H h) {y : Str} {c : Addr} (e : (cloFrom X.env.cells scope.names []).lookup y = some c) : X.env.cells.lookup y = some c := by
  rcases cloFrom_mem (PySem.mem_of_lookup e) with hm | ⟨h1, h2⟩
  · cases hm
  · obtain ⟨c1, hc⟩ := C.has _ (LS.free _ h1 rfl)
    have hc : X.env.cells.lookup y = some c1 := hc
    rw [h2, hc]
    rfl
theorem clo_has {y : Str} (hl : scope.names.lookup y = some .free) : ∃ c, (cloFrom X.env.cells scope.names []).lookup y = some c :=
  mem_lookup (cloFrom_has (cells := X.env.cells) (acc := []) (PySem.mem_of_lookup hl))
theorem thk_start {A : Around} {outer : List Env} {E : XK} {f : Addr} {h1 : Heap} {tk : Nat} {H : Hp} {s : Shared} {m : Str → Option Value} (LS : LScope X.env.scope scope) (hloc : ∀ y ∈ scope.names, y.2 = .local → y.1 ∉ X.N) (C : CellsOk X σ H s.heap) (e0 : Env0 X.prog X.w X.K X.mg X.base A outer s H) (hd : A.handled = none)
    (hns : h1.Ns s.heap.objs.size m) (kp : ∀ b o, s.heap.get? b = some o → h1.get? b = some o) :
    Inv (thkCx X (lamOf X params body scope dV c') A outer s H E f) [] σ H { s with heap := h1, toks := tk } := by
  have noA : ∀ b : Addr, b ∉ (thkCx X (lamOf X params body scope dV c') A outer s H E f).ex := fun b z => absurd (show b ∈ ([] : List Addr) from z) (by simp)
  refine ⟨⟨e0.mod, LS.kind, rfl, rfl, Nat.le_refl _, fun y z c e1 e2 => C.inj y z c (clo_of LS C e1) (clo_of LS C e2), fun y hy => ?_, fun y c z _ => Bool.noConfusion (show false = true from z), fun _ => hd, Around.frames_deeper e0.frames, .inr ⟨rfl, rfl⟩, fun b z => absurd z (noA b), e0.bs, e0.bsz, fun b _ _ => noA b, fun b z => absurd z (noA b), e0.funs, e0.frf⟩,
    rfl, e0.bare, Un.kept kp, ⟨m, hns, fun i y v e1 e2 e3 => ?_⟩, fun y c e => ?_, e0.hok.fresh (Nat.le_refl _), fun y c e => ?_, fun q hq => absurd (show q ∈ ([] : List (Addr × Obj)) ++ [] from hq) (by simp), e0.hok.kept kp, C.len⟩
  · have hy : scope.names.lookup y = some .cell ∨ scope.names.lookup y = some .free := hy
    rcases hy with hy | hy
    · exact absurd rfl (LS.own _ (PySem.mem_of_lookup hy))
    · exact clo_has hy
  · have e3 : Vis scope y := e3
    rcases e3 with k | k | k
    · exact absurd (List.mem_of_getElem? e1) (hloc _ (PySem.mem_of_lookup k) rfl)
    · exact absurd rfl (LS.own _ (PySem.mem_of_lookup k))
    · obtain ⟨u, c, r, hc, z⟩ := C.val i y v e1 e2 (LS.free _ (PySem.mem_of_lookup k) rfl)
      obtain ⟨c2, h2⟩ := clo_has (X := X) k
      have h3 := clo_of LS C h2
      rw [hc] at h3
      cases h3
      exact ⟨u, r, .inr ⟨.inr k, c, h2, z.keeps kp⟩⟩
  · obtain ⟨_, v, z⟩ := C.at' y c (clo_of LS C e)
    exact ⟨v, z.keeps kp⟩
  · exact (C.at' y c (clo_of LS C e)).1
/-- what a lambda's arguments come to: none, or its default -/
def BindsL (params : Arguments) (body : Expr) (scope : Scope) (bs : List Str) : Prop :=
  ∀ (s : Shared) (q : Str) (cl : List (Str × Addr)) (dV doc pm cv ctv : Value), DefOk params.defaults dV (fun t => ∃ u, PyProof.Rows.IsTup s.heap t #[u]) → ∃ us : List Value, BindsTo s (PySem.W.kdv_fn "<lambda>" q params (.expr body) scope cl dV doc pm cv ctv) ⟨[], []⟩ (bs.zip us)
theorem thk_run {A : Around} {outer : List Env} {f : Addr} {H : Hp} {s : Shared} {Q : VK} {E : XK} {k : Nat} {bs : List Str} {tb : XK → TE} (LS : LScope X.env.scope scope) (hloc : ∀ y ∈ scope.names, y.2 = .local → y.1 ∉ X.N) (hb : BindsL params body scope bs) (hbs : ∀ y ∈ bs, scope.names.lookup y = some .local)
    (hbody : ∀ (dV : Value) (c' : Addr) (A : Around) (outer : List Env) (s : Shared) (H : Hp) (E : XK) (f : Addr), Room k (A.deeper (thkEnv (lamOf X params body scope dV c') s.heap.objs.size f)) → PE (thkCx X (lamOf X params body scope dV c') A outer s H E f) body (tb E))
    (hr : Room (k + 1) A) (e0 : Env0 X.prog X.w X.K X.mg X.base A outer s H) (C : CellsOk X σ H s.heap) (hT : ThkH H f (lamOf X params body scope dV c')) (ht : tb E σ H Q) :
    codeAny (model X.prog X.w) A (.call (.ref f) ⟨[], []⟩) (CR (L2N.CX X.prog X.w) outer X.prog X.w H s Q E) s := by
  obtain ⟨h1, h2, h3⟩ := hT
  obtain ⟨⟨doc, pm, ctv, of⟩, _, _⟩ := e0.hok f _ h1
  obtain ⟨⟨oc, vs, t, hoc, hdc, hvc⟩, _, _⟩ := e0.hok c' _ h2
  have lim : s.heap.NoLimit := e0.mod.nolimit.keeps fun b o e => (e0.bs b o e).1
  have hdv : DefOk params.defaults dV (fun t => ∃ u, PyProof.Rows.IsTup s.heap t #[u]) := h3.imp fun t h4 => by
    obtain ⟨_, its, rv, p⟩ := e0.hok t _ h4
    cases rv with
    | cons r rr =>
      cases rr
      exact ⟨_, p⟩
  obtain ⟨us, hbind⟩ := hb s (X.env.qual ++ "<lambda>") (cloFrom X.env.cells scope.names []) dV doc pm (.ref c') ctv hdv
  refine PySem.W.kla_callFunE hr.depth of rfl LS.co LS.gen rfl ⟨c', oc, vs, t, rfl, hoc, hdc, hvc⟩ (hbind _ _ _ _ ?_)
  refine wpAny_newFunctionEnv LS.own (fun y hy => hbs _ (List.of_mem_zip hy).1) (fun hh hns hsb => ⟨lim.fresh _ hsb, ?_⟩) LS.kind
  have kp : ∀ b o, s.heap.get? b = some o → hh.get? b = some o := fun b o e => hsb.extBut b o (Nat.ne_of_lt (Heap.lt_size e)) (Heap.get?_push_of_some _ e)
  have J := thk_start (params := params) (body := body) (dV := dV) (c' := c') (E := E) (f := f) (tk := s.toks + (bs.zip us).length) LS hloc C e0 hr.hd hns kp
  refine PySem.W.kla_codeExpr (wpAny_mono ((hbody dV c' A outer s H E f (hr.deeper _)).run [] _ σ H Q J ht) (fun v s' hq => ?_) fun e s' hq => hq)
  obtain ⟨w', H', J', rv, q⟩ := hq
  exact ⟨w', H', J'.os, J'.bare, J'.base, J'.hok, rv, q⟩
end
/-- a(), in a def that was handed a lambda: entered at s -/
theorem pe_thk {X : Cx} {σ : L2.St} {params : Arguments} {body : Expr} {scope : Scope} {dV : Value} {c' f : Addr} {k i : Nat} {bs : List Str} {tb : XK → TE} {CXg : CXT} {Eg : XK} {Ng : List Str} {qg a : Str} {sg : Scope} {g : Addr} {cdg : Value} {A : Around} {outer : List Env} {s : Shared} {H : Hp} {pn : List (Addr × Obj)} {xe : Value → Shared → Prop} {W : WX} {p1 p2 : Pos}
    (LS : LScope X.env.scope scope) (hloc : ∀ y ∈ scope.names, y.2 = .local → y.1 ∉ X.N) (hb : BindsL params body scope bs) (hbs : ∀ y ∈ bs, scope.names.lookup y = some .local)
    (hbody : ∀ (dV : Value) (c' : Addr) (A : Around) (outer : List Env) (s : Shared) (H : Hp) (E : XK) (f : Addr), Room k (A.deeper (thkEnv (lamOf X params body scope dV c') s.heap.objs.size f)) → PE (thkCx X (lamOf X params body scope dV c') A outer s H E f) body (tb E))
    (C : CellsOk X σ H s.heap) (hr : Room (k + 1) (A.deeper (PyProof.Rows.envOfC qg sg s.heap.objs.size g cdg)))
    (tk : L2N.Takes ((cxOf CXg X.prog X.w X.K X.mg X.base Ng qg sg g cdg A outer s H Eg).tr pn xe) W)
    (hN : Ng[i]? = some a) (hv : Vis sg a) (hd : (a == ("__debug__" : Str)) = false := by decide) (hcd : (a == ("__classdict__" : Str)) = false := by decide) :
    PE ((cxOf CXg X.prog X.w X.K X.mg X.base Ng qg sg g cdg A outer s H Eg).tr pn xe) (.Call (.Name a p1) [] [] p2)
      (fun σZ HZ Q => σZ[i]? = some (some (.ref f)) ∧ ThkH HZ f (lamOf X params body scope dV c') ∧ tb (fun cls d H' => W cls d σZ H') σ HZ Q) := by
  refine ⟨fun pinsZ sZ σZ HZ Q IZ h => ?_⟩
  obtain ⟨hs, hT, ht⟩ := h
  refine wpAny_Call_Name_kw (thn ((pe_var (pos := p1) (i := i) hN hv hd hcd).run pinsZ sZ σZ HZ (fun v H1 => v = .ref f ∧ H1 = HZ) IZ ⟨.ref f, hs, rfl, rfl⟩) fun u s1 ⟨v, H1, I1, r1, ev, eH⟩ => ?_)
  subst ev
  rw [eH] at I1
  obtain rfl : u = Value.ref f := r1
  obtain ⟨⟨doc, pm, ctv, of⟩, _, _⟩ := I1.hok f _ hT.1
  refine PySem.W.callWith_F0 ⟨_, _, _, _, of⟩ ?_
  have un : Un (frs outer) [] H HZ s.heap s1.heap := I1.base
  have C1 : CellsOk X σ HZ s1.heap := C.un un (fun _ _ _ => by simp)
  have rc := thk_run (Q := Q) (E := fun cls d H' => W cls d σZ H') LS hloc hb hbs hbody hr I1.env0 C1 hT ht
  refine wpAny_call (codeAny_mono rc fun r s' hq => ?_)
  cases r with
  | error e => exact L2N.passAt tk σZ pinsZ HZ s1 e s' I1 hq
  | ok fl =>
    cases fl with
    | ret u => exact I1.after hq
    | next => exact False.elim hq
    | brk => exact False.elim hq
    | cont => exact False.elim hq
/-! ### a list's end while an exception is handled -/
theorem next_end_hot {prog : Program} {w : World} {A : Around} {E : Value → Shared → Prop} {st : Shared} {ia la xa : Addr} {n : Nat} {its : Array Value} {Q : Option Value → Shared → Prop} (hot : HotX.HotAt A xa st.heap) (nx : xa ≠ ia) (hi : st.heap.IsListIter ia la n) (hl : st.heap.IsList la its) (hn : its[n]? = none)
    (q : ∀ h', Heap.ExtBut ia st.heap h' → Q none { st with heap := h' }) : wpAny (model prog w) A (pyNext (.ref ia)) Q E st := by
  obtain ⟨oi, hoi, _, hdi⟩ := id hi
  obtain ⟨oo, hoo, _, no, hdo⟩ := hl
  obtain ⟨hh, ox, vx, hox, hdx, hcx⟩ := hot
  unfold pyNext
  refine wpAny_bind (wpAny_attempt (wpAny_callSpecial?_slot (name := Str.ofString "__next__") hi.typeIs slot_listiter_next (wpAny_call_entry slot_listiter_next hi.typeIs entry_listiter_next ?_ (args_listiter_next _))))
  show wpAny _ _ (field (.ref ia) 0 >>= _) _ _ st
  refine wpAny_bind (wpAny_field hoi hdi (x := .ref la) rfl ?_)
  show wpAny _ _ (if (Value.ref la == Value.none) = true then _ else _) _ _ st
  rw [if_neg (show ¬ ((Value.ref la == Value.none) = true) from fun z => Bool.false_ne_true z)]
  show wpAny _ _ (field (.ref ia) 1 >>= _) _ _ st
  refine wpAny_bind (wpAny_field hoi hdi (x := .int n 0) rfl ?_)
  show wpAny _ _ (seqItems? (.ref la) >>= _) _ _ st
  refine wpAny_bind (wpAny_seqItems hoo hdo ?_)
  simp only [Int.toNat_natCast, hn]
  refine wpAny_bind (wpAny_rule (wpAny_bind (wpAny_setField hoi hdi (by simp) ?_)))
  generalize hU : st.heap.update ia _ = hu
  have ku : Heap.ExtBut ia st.heap hu := by
    rw [← hU]
    exact (Heap.SameBut.update ..).extBut
  have hxu : hu.get? xa = some ox := ku _ _ nx hox
  show wpAny _ _ (newExc (.type "StopIteration") [] >>= raiseNew) _ _ _
  refine wpAny_bind ?_
  simp only [newExc, newTuple]
  refine wpAny_bind (wpAny_newObj_type ?_ (by size_fits))
  refine wpAny_bind (m := firstArgMember _ _) (wpAny_of_eq (a := Value.none) (by first | rfl | simp only [firstArgMember]; rfl) ?_)
  refine wpAny_newObj_type ?_ (by size_fits)
  refine HotX.raiseNew_hot ⟨hh, ox, vx, Heap.get?_push_of_some _ (Heap.get?_push_of_some _ hxu), hdx, hcx⟩ (Nat.ne_of_lt (Heap.lt_size (Heap.get?_push_of_some _ hxu))) (Heap.get?_push_size _ rfl) rfl (by first | (simp; done) | (simp; omega) | (simp only [Array.size_append]; simp; omega)) ?_
  refine wpAny_bind (wpAny_isInstance (T := "StopIteration") (b := true) ⟨_, Heap.get?_update_self _ (Heap.get?_push_size _ rfl) rfl, rfl⟩ isSubtype_stop ?_)
  refine wpAny_pure (q _ fun b ob hb eb => ?_)
  have eu := ku b ob hb eb
  rw [Heap.get?_update_other _ _ (Nat.ne_of_gt (Heap.lt_size (Heap.get?_push_of_some _ eu)))]
  exact Heap.get?_push_of_some _ (Heap.get?_push_of_some _ eu)
/-! ### a comprehension over a list, its parts told of the state where it starts; an exception may be handled meanwhile -/
def EndOk (X : Cx) : Prop := X.calm = true ∨ L2H.HotC X
def tLcO (K : PySem.W.Frag) (tl : TE) (tt : L2.St → TT) (te : L2.St → TE) (j : Nat) : TE := fun σ H Q => tLc (iList K tl) (gName j) (tt σ) (te σ) [j] σ H Q
section
variable {X : Cx}
theorem pe_lcO {elt iter : Expr} {x : Str} {px pos : Pos} {ifs : List Expr} {scope : Scope} {j : Nat} {tl : TE} {tt : L2.St → TT} {te : L2.St → TE} (hE : EndOk X) (hN : X.N.Nodup) (hl : PE X iter tl) (ok : BlkOk X.N X.env.scope scope [(x, j)])
    (hg : ∀ (s : Shared) (H : Hp) (C : Addr) (cl : List (Str × Addr)) (fp : List Addr), PG (X.blk s H scope (compEnvC scope cl C X.env) fp) (.Name x px) (gName j))
    (ht : ∀ (pins : List (Addr × Obj)) (σ : L2.St) (s : Shared) (H : Hp) (C : Addr) (cl : List (Str × Addr)) (fp : List Addr), Inv X pins σ H s → (∀ y c, X.env.cells.lookup y = some c → c ∉ fp) → PTs (X.blk s H scope (compEnvC scope cl C X.env) fp) ifs (tt σ))
    (he : ∀ (pins : List (Addr × Obj)) (σ : L2.St) (s : Shared) (H : Hp) (C : Addr) (cl : List (Str × Addr)) (fp : List Addr), Inv X pins σ H s → (∀ y c, X.env.cells.lookup y = some c → c ∉ fp) → PE (X.blk s H scope (compEnvC scope cl C X.env) fp) elt (te σ))
    (hs : ∀ v, foldedSetIterable iter X.env v = pure v := by intro _; rfl) : PE X (.ListComp elt [⟨.Name x px, iter, ifs, 0⟩] scope pos) (tLcO X.K tl tt te j) := by
  refine ⟨fun pins s σ H Q I h => ?_⟩
  have hfr : ∀ y ∈ scope.names, y.2 = .free → ∃ c, X.env.cells.lookup y.1 = some c := fun y hy e => I.ok.has _ (ok.free y hy e)
  rw [eval_ListComp]
  refine wpAny_comprehension_free (use := none) rfl hs (closure_ok hfr) ok.kind (fun y hy e => by rw [ok.uniq y hy, e]) (thn (hl.run pins s σ H _ I h) fun v0 s1 ⟨lv, H1, I1, rl, la, el, ⟨xs0, hx0⟩, q⟩ => ?_)
  subst el
  cases rl
  obtain ⟨vs0, _, pl0, _⟩ := I1.list hx0
  refine wpAny_pyIter_list pl0.isList ?_
  -- the iterator, then the new list
  have fIt : FpOk X pins H1 s1.heap.objs.size := I1.fpOk (Nat.le_refl _) (I1.hok.fresh (Nat.le_refl _))
  generalize hia : s1.heap.objs.size = ia at fIt ⊢
  have I2 : Inv X pins σ H1 { s1 with heap := s1.heap.push { cls := .type "list_iterator", data := .fields #[.ref la, .int 0 0] } } := I1.kept (t' := s1.toks) fun b o e => Heap.get?_push_of_some _ e
  have st2 : (s1.heap.push { cls := .type "list_iterator", data := .fields #[.ref la, .int 0 0] }).IsListIter ia la 0 := by
    rw [← hia]
    exact ⟨_, Heap.get?_push_size _ rfl, rfl, rfl⟩
  have lt2 : ia < (s1.heap.push { cls := .type "list_iterator", data := .fields #[.ref la, .int 0 0] }).objs.size := by
    rw [Heap.size_push, ← hia]
    exact Nat.lt_succ_self _
  generalize hs2 : ({ s1 with heap := s1.heap.push { cls := .type "list_iterator", data := .fields #[.ref la, .int 0 0] } } : Shared) = s2 at I2 ⊢
  rw [show s1.heap.push { cls := .type "list_iterator", data := .fields #[.ref la, .int 0 0] } = s2.heap by rw [← hs2]] at st2 lt2
  refine wpAny_newObj_type (newEnv_comp ?_) (by show 0 ≤ sizeLine; decide)
  have nD : H1 s2.heap.objs.size = none := I2.hok.fresh (Nat.le_refl _)
  have nDi : ia ≠ s2.heap.objs.size := Nat.ne_of_lt lt2
  obtain ⟨W, ⟨m0, w0⟩, turn⟩ := q s2.heap.objs.size nD
  have I3 : Inv X pins σ (upd H1 s2.heap.objs.size (.lst [])) { s2 with heap := s2.heap.push { cls := .type "list", data := .seq ([] : List Value).toArray } } := I2.laid (t' := s2.toks) (fun b o e => Heap.get?_push_of_some _ e) (Nat.le_refl _) ⟨Nat.zero_le _, [], 0, .nil, Heap.get?_push_size _ rfl⟩
  generalize hDD : s2.heap.objs.size = D at nD nDi w0 turn I3 ⊢
  have st3 : (s2.heap.push { cls := .type "list", data := .seq ([] : List Value).toArray }).IsListIter ia la 0 := st2.at fun o e => Heap.get?_push_of_some _ e
  have lt3 : ia < (s2.heap.push { cls := .type "list", data := .seq ([] : List Value).toArray }).objs.size := by
    rw [Heap.size_push]
    omega
  generalize hs3 : ({ s2 with heap := s2.heap.push { cls := .type "list", data := .seq ([] : List Value).toArray } } : Shared) = s3 at I3 ⊢
  rw [show s2.heap.push { cls := .type "list", data := .seq ([] : List Value).toArray } = s3.heap by rw [← hs3]] at st3 lt3
  have f3 : FpOk X pins (upd H1 D (.lst [])) ia := ⟨by rw [upd_ne nDi]; exact fIt.1, fIt.2⟩
  generalize hH3 : upd H1 D (.lst []) = H3 at I3 w0 f3
  have I4 := block_start (fp := [ia]) I3 ok hN (fun b hb => by
    rw [List.mem_singleton.mp hb]
    exact ⟨f3, lt3⟩)
  have ncell : ∀ y c, X.env.cells.lookup y = some c → c ∉ [ia] := fun y c e z => f3.2.2.2.2.1 y c e (List.mem_singleton.mp z)
  have pg := hg s3 H3 s3.heap.objs.size (cellsFrom (s3.heap.objs.size + 1) scope.names (cloFrom X.env.cells scope.names [])) [ia]
  have pt := ht pins σ s3 H3 s3.heap.objs.size (cellsFrom (s3.heap.objs.size + 1) scope.names (cloFrom X.env.cells scope.names [])) [ia] I3 ncell
  have pe := he pins σ s3 H3 s3.heap.objs.size (cellsFrom (s3.heap.objs.size + 1) scope.names (cloFrom X.env.cells scope.names [])) [ia] I3 ncell
  show codeAny _ _ (.compStart (.ListComp elt [⟨.Name x px, iter, ifs, 0⟩] scope pos) 0 (.ref ia) (.ref D) (compEnvC scope (cellsFrom (s3.heap.objs.size + 1) scope.names (cloFrom X.env.cells scope.names [])) s3.heap.objs.size X.env)) (compPost (model X.prog X.w) X.A X.xe none (EP X pins σ Q) (.ref D) s3.heap.objs.size) { s3 with heap := pushCells (s3.heap.push { cls := .type "dict", data := .dict #[] }) scope.names }
  generalize hce : compEnvC scope (cellsFrom (s3.heap.objs.size + 1) scope.names (cloFrom X.env.cells scope.names [])) s3.heap.objs.size X.env = ce at I4 pg pt pe ⊢
  have hcl : ce.locals = s3.heap.objs.size := by rw [← hce]; rfl
  have st4 : (pushCells (s3.heap.push { cls := .type "dict", data := .dict #[] }) scope.names).IsListIter ia la 0 := st3.at fun o e => pushCells_keeps _ _ _ _ (Heap.get?_push_of_some _ e)
  generalize hs4 : ({ s3 with heap := pushCells (s3.heap.push { cls := .type "dict", data := .dict #[] }) scope.names } : Shared) = s4 at I4 ⊢
  rw [show pushCells (s3.heap.push { cls := .type "dict", data := .dict #[] }) scope.names = s4.heap by rw [← hs4]] at st4
  -- the iterator's object may turn within the block
  have fB : ∀ {σ' : L2.St} {H' : Hp} {s' : Shared} {pq : List (Addr × Obj)}, Inv (X.blk s3 H3 scope ce [ia]) [] σ' H' s' → H' ia = none → FpOk (X.blk s3 H3 scope ce [ia]) [] H' ia := fun I' hn =>
    ⟨hn, (I'.ok.exf ia (by simp)).1, I'.ok.exfs ia (by simp), .inl (by simp), fun y c e => (I'.ok.exf ia (by simp)).2 y c e, fun p hp => absurd (show p ∈ ([] : List (Addr × Obj)) ++ [] from hp) (by simp)⟩
  -- the walk's end, calm or not
  have fin : ∀ {σ' : L2.St} {H' : Hp} {s' : Shared} {i : Nat} {R : Option Value → Shared → Prop} {E : Value → Shared → Prop} {vs : List Value}, Inv (X.blk s3 H3 scope ce [ia]) [] σ' H' s' → s'.heap.IsListIter ia la i → s'.heap.IsList la vs.toArray → vs.toArray[i]? = none → (∀ h', Heap.ExtBut ia s'.heap h' → R none { s' with heap := h' }) → wpAny (model X.prog X.w) X.A (pyNext (.ref ia)) R E s' := by
    intro σ' H' s' i R E vs I' st hL hn k
    rcases hE with hE | ⟨p, ⟨hh, vx, hdx, hcx⟩, hp⟩
    · exact wpAny_pyNext_list_end (I.ok.hd hE) st hL hn k
    · obtain ⟨p1, p2, p3, p4, _⟩ := I3.pin p (List.mem_append_left _ hp)
      have pns : p.1 ∉ frs X.stack := fun z => by
        rcases List.mem_cons.mp (I3.stkSub _ z) with z | z
        · exact p3 z
        · exact p4 z
      have pni : p.1 ≠ ia := fun z => f3.2.2.2.2.2 p (List.mem_append_left _ hp) z
      have pk := I'.base.keep p.1 p.2 p1 p2 pns (fun z => pni (List.mem_singleton.mp z))
      exact next_end_hot ⟨hh, p.2, vx, pk, hdx, hcx⟩ pni st hL hn k
  have loop : codeAny (model X.prog X.w) X.A (.compLoop (.ListComp elt [⟨.Name x px, iter, ifs, 0⟩] scope pos) 0 (.ref ia) (.ref D) ce) (compPost (model X.prog X.w) X.A X.xe none (EP X pins σ Q) (.ref D) s3.heap.objs.size) s4 := by
    refine compLoop_any (fun n s' => ∃ i H', Inv (X.blk s3 H3 scope ce [ia]) [] (wipe σ [j]) H' s' ∧ s'.heap.IsListIter ia la i ∧ H' ia = none ∧ W i n H') ?_ m0 ⟨0, H3, I4, st4, f3.1, w0⟩
    rintro n s5 ⟨i, H5, I5, st5, n5, w5⟩
    obtain ⟨g0, g1, g2, g3, g4, g5⟩ := fB (pq := []) I5 n5
    rcases turn i n H5 w5 with ⟨⟨ys, hys, hyl⟩, qq⟩ | ⟨⟨ys, y, hys, hyi⟩, Nx, hNx, step⟩
    · obtain ⟨us, ru, pu, _⟩ := I5.list hys
      have hle := ru.length
      refine fin I5 st5 pu.isList (by simp; omega) fun h6 k6 => ?_
      have I6 : Inv (X.blk s3 H3 scope ce [ia]) [] (wipe σ [j]) H5 { s5 with heap := h6 } := I5.turned (t' := s5.toks) (fun b o hb e => k6 b o hb e) g0 g1 g3 g4 g5
      have I7 : Inv X pins σ H5 { s5 with heap := h6 } := I3.call' (ch := [ia]) I6.os I6.base I6.hok I6.bare fun b hb => by
        rw [List.mem_singleton.mp hb]
        exact ⟨f3.2.2.2.1, f3.2.1, f3.2.2.2.2.1, f3.2.2.2.2.2⟩
      have nC : H5 s3.heap.objs.size = none := by
        have z : H5 ce.locals = none := I6.free
        rwa [hcl] at z
      obtain ⟨m, hm, _⟩ := I6.loc
      have hm : h6.Ns ce.locals m := hm
      rw [hcl] at hm
      obtain ⟨e0, e1, e2, e3, e4, e5⟩ := I3.fpOk (H' := H5) (Nat.le_refl _) nC
      exact ⟨m, hm, fun h7 sb => ⟨.ref D, H5, I7.turned (t' := s5.toks) (fun b o hb e => (sb.2 b hb).trans e) e0 e1 e3 e4 e5, rfl, qq⟩⟩
    · obtain ⟨us, ru, pu, _⟩ := I5.list hys
      obtain ⟨u, hu, rr⟩ := ru.get hyi
      refine wpAny_pyNext_list_item st5 pu.isList (x := u) (by simpa using hu) fun h6 st6 sb => ?_
      have I6 : Inv (X.blk s3 H3 scope ce [ia]) [] (wipe σ [j]) H5 { s5 with heap := h6 } := I5.turned (t' := s5.toks) (fun b o hb e => (sb.2 b hb).trans e) g0 g1 g3 g4 g5
      refine wpAny_pure ?_
      obtain ⟨o6, ho6, _, hd6⟩ := id st6
      have I6p := I6.pinned (fp := [ia]) (fun b hb => by rw [List.mem_singleton.mp hb]; exact fB (pq := []) I6 n5) (fun b hb => by rw [List.mem_singleton.mp hb]; exact ⟨o6, ho6, fun v z => by rw [hd6] at z; cases z⟩)
      refine thnF (pg.run _ { s5 with heap := h6 } _ H5 y u _ I6p rr (step y H5 ⟨rfl, fun zs hz => by rw [I5.list_inj hz hys]; exact hyi⟩)) fun _ s8 ⟨σ8, H8, I8, hw8, q8⟩ => ?_
      refine thnF (pt.run _ s8 σ8 H8 _ I8 q8) fun b s9 ⟨H9, I9, q9⟩ => ?_
      have again : ∀ {s' : Shared} {H' : Hp}, Inv (X.blk s3 H3 scope ce [ia]) ([] ++ pinsAt [ia] h6) σ8 H' s' → Nx H' → ∃ m, m < n ∧ ∃ i H', Inv (X.blk s3 H3 scope ce [ia]) [] (wipe σ [j]) H' s' ∧ s'.heap.IsListIter ia la i ∧ H' ia = none ∧ W i m H' := fun {s' H'} I' nx => by
        obtain ⟨m', hm, w'⟩ := hNx H' nx
        obtain ⟨z1, z2, _⟩ := I'.pin (ia, o6) (List.mem_append_right _ (List.mem_append_right _ (mem_pinsAt (List.mem_singleton.mpr rfl) ho6)))
        refine ⟨m', hm, i + 1, H', (I'.unpinned (pins := [])).weak (by rw [← hw8, wipe_length]) (fun i' v e => ?_), st6.at fun o e => ?_, z2, w'⟩
        · rw [← hw8] at e
          exact (wipe_some e).1
        · rw [ho6] at e
          cases e
          exact z1
      cases b with
      | false =>
        rw [if_neg (by decide)] at q9 ⊢
        exact again I9 q9
      | true =>
        rw [if_pos rfl] at q9 ⊢
        refine thnF (pe.run _ s9 σ8 H9 _ I9 q9) fun z s10 ⟨yv, H10, I10, r10, acc, hD10, hz10, nx⟩ => ?_
        exact app_ok (X := X.blk s3 H3 scope ce [ia]) I10 hD10 hz10 r10 fun s11 I11 => again I11 nx
  exact codeAny_compStart_list loop (wpAny_pyIter_listiter st4 loop)
/-- the same, the written part named apart -/
theorem pe_lcK {K : PySem.W.Frag} {elt iter : Expr} {x : Str} {px pos : Pos} {ifs : List Expr} {scope : Scope} {j : Nat} {tl : TE} {tt : L2.St → TT} {te : L2.St → TE} (hE : EndOk X) (hN : X.N.Nodup) (hl : PE X iter tl) (ok : BlkOk X.N X.env.scope scope [(x, j)])
    (hg : ∀ (s : Shared) (H : Hp) (C : Addr) (cl : List (Str × Addr)) (fp : List Addr), PG (X.blk s H scope (compEnvC scope cl C X.env) fp) (.Name x px) (gName j))
    (ht : ∀ (pins : List (Addr × Obj)) (σ : L2.St) (s : Shared) (H : Hp) (C : Addr) (cl : List (Str × Addr)) (fp : List Addr), Inv X pins σ H s → (∀ y c, X.env.cells.lookup y = some c → c ∉ fp) → PTs (X.blk s H scope (compEnvC scope cl C X.env) fp) ifs (tt σ))
    (he : ∀ (pins : List (Addr × Obj)) (σ : L2.St) (s : Shared) (H : Hp) (C : Addr) (cl : List (Str × Addr)) (fp : List Addr), Inv X pins σ H s → (∀ y c, X.env.cells.lookup y = some c → c ∉ fp) → PE (X.blk s H scope (compEnvC scope cl C X.env) fp) elt (te σ))
    (hs : ∀ v, foldedSetIterable iter X.env v = pure v := by intro _; rfl) (hK : X.K = K := by rfl) : PE X (.ListComp elt [⟨.Name x px, iter, ifs, 0⟩] scope pos) (tLcO K tl tt te j) := by
  subst hK
  exact pe_lcO hE hN hl ok hg ht he hs
end
/-! ### the law's `refused` -/
theorem okHot {x qual : Str} {st : Stmt} {f : Addr} {fd : FuncData} {N ps : List Str} {k : Nat} {sp : Sp} (F : Fun K x qual st f fd) (S : FnScope N ps (defScope st)) (len : ∀ vs H Q E, sp vs H Q E → vs.length = ps.length)
    (hbody : ∀ (cdv : Value) (A : Around) (outer : List Env) (s : Shared) (H : Hp) (vs : List V) (Q : VK) (E : XK) (p : Addr × Obj), L2H.RoomH k (A.deeper (PyProof.Rows.envOfC qual (defScope st) s.heap.objs.size f cdv)) → sp vs H Q E →
      ∃ t, PSs (L2H.cxH CX0 P w K mg base N qual (defScope st) f cdv A outer s H E p) (defBody st) t ∧ t { nx := fun _ H' => Q .non H', rt := Q } (start N vs) H) : L2H.FnH P w K mg base CX0 (k + 1) f fd ps sp := by
  obtain ⟨oc, od, kV, doc, pm, an, cdv, ct, osl, rfl, lk, hcd⟩ := F.ex
  exact L2H.fn_ofH lk hcd S len fun A outer s H vs Q E p _ hr hsp => hbody cdv A outer s H vs Q E p hr hsp
def sp_alikeI : Sp := fun vs H Q _ => ∃ i : Int, vs = [.int i, .int i] ∧ Q (.bl true) H
theorem ok_alikeI (T : TX K mg) : L2H.FnH P w K mg base CX0 1 T.f_l_alike T.fd_l_alike ["_law_found", "_law_due"] sp_alikeI := by
  refine okHot (k := 0) T.F_l_alike sc_l_alike (fun vs H Q E h => ?_) (fun cdv A outer s H vs Q E p hr h => ?_)
  · obtain ⟨_, rfl, _⟩ := h
    rfl
  · obtain ⟨i, rfl, q⟩ := h
    refine ⟨_, (pss_cons (ps_if (pt_cmpR op_isN (pv 1) pe_non (nomark _)) pss_never pss_nil)
      (pss_cons (ps_if (pt_val (pe_callB call_isi (by rfl) T.z_isinstance (by decide +kernel) (pa_cons (pv 1) (pa_cons (pe_bltn (v := .ty "bool") (u := .type "bool") (by rfl) T.z_bool (by decide +kernel) rfl) pa_nil)))) pss_never pss_nil)
      (pss_cons (ps_if (pt_val (pe_callB call_isi (by rfl) T.z_isinstance (by decide +kernel) (pa_cons (pv 1) (pa_cons (pe_bltn (v := .ty "int") (u := .type "int") (by rfl) T.z_int (by decide +kernel) rfl) pa_nil))))
        (pss_one (ps_ret (pe_and (pe_callB call_isi (by rfl) T.z_isinstance (by decide +kernel) (pa_cons (pv 0) (pa_cons (pe_bltn (v := .ty "int") (u := .type "int") (by rfl) T.z_int (by decide +kernel) rfl) pa_nil))) (pe_and (pe_not (pe_callB call_isi (by rfl) T.z_isinstance (by decide +kernel) (pa_cons (pv 0) (pa_cons (pe_bltn (v := .ty "bool") (u := .type "bool") (by rfl) T.z_bool (by decide +kernel) rfl) pa_nil)))) (pe_one (pe_cmpR op_eq (pv 0) (pv 1) (nomark _)))))))
        pss_nil) pss_never))), ?_⟩
    refine ⟨_, rfl, rfl, _, rfl, ifN (by simp) ⟨_, rfl, _, _, _, _, _, rfl, .ty _, (.base (.int i)), kit_ty kb_ib, ⟨_, rfl, ifN (by simp) ⟨_, rfl, _, _, _, _, _, rfl, .ty _, (.base (.int i)), kit_ty kb_ii, ⟨_, rfl, ifP rfl ?_⟩⟩⟩⟩⟩
    refine ⟨_, rfl, _, _, _, _, _, rfl, .ty _, (.base (.int i)), kit_ty kb_ii, ⟨_, rfl, ifP rfl ⟨_, rfl, _, _, _, _, _, rfl, .ty _, (.base (.int i)), kit_ty kb_ib, ⟨_, rfl, _, rfl, ifP rfl ⟨_, rfl, _, rfl, rfl, ?_⟩⟩⟩⟩⟩
    rw [decide_eq_true rfl]
    exact q
theorem walk_ls {K : PySem.W.Frag} {α : Type} {a : Addr} (l : List α) (ev : α → V) : Walk (Itl K a) l.length (fun H => SqL K H a (l.map ev)) (fun i H x H' => H' = H ∧ ∃ y, l[i]? = some y ∧ x = ev y) := by
  have h := walk_list (K := K) (a := a) (xs := l.map ev)
  rw [List.length_map] at h
  refine h.mono (fun _ h => h) (fun i H x H' _ _ ⟨h1, h2⟩ => ⟨h1, ?_⟩)
  rw [List.getElem?_map] at h2
  cases e : l[i]? with
  | none => rw [e] at h2; cases h2
  | some y =>
    rw [e] at h2
    exact ⟨y, rfl, (Option.some.inj h2).symm⟩
theorem takesN0 {X : Cx} : L2N.Takes X (fun _ _ _ _ => False) := fun _ _ ⟨_, _, _, _, _, _, _, _, _, _, _, _, _, _, _, _, h⟩ => h.elim
theorem hot_suite {X : Cx} {a : Addr} {oe : Obj} {cls : Value} {d : Option Addr} {pn : List (Addr × Obj)} (hz : L2N.Zn cls d oe) (hf : ∃ vs, oe.data = .fields vs) : L2H.HotC (X.suite a ((a, oe) :: pn)) := by
  obtain ⟨vs, hv⟩ := hf
  exact ⟨(a, oe), ⟨rfl, vs, hv, hz.2.2 vs hv⟩, List.mem_cons_self⟩
section
variable {X : Cx} {σ : L2.St} {params : Arguments} {body : Expr} {scope : Scope} {dV : Value} {c' f : Addr} {bs : List Str} {tb : XK → TE}
theorem run_refused (T : TX X.K X.mg) (LS : LScope X.env.scope scope) (hloc : ∀ y ∈ scope.names, y.2 = .local → y.1 ∉ X.N) (hb : BindsL params body scope bs) (hbs : ∀ y ∈ bs, scope.names.lookup y = some .local)
    (hbody : ∀ (dV : Value) (c' : Addr) (A : Around) (outer : List Env) (s : Shared) (H : Hp) (E : XK) (f : Addr), Room 5 (A.deeper (thkEnv (lamOf X params body scope dV c') s.heap.objs.size f)) → PE (thkCx X (lamOf X params body scope dV c') A outer s H E f) body (tb E))
    {A : Around} {outer : List Env} {s : Shared} {H : Hp} {Q : VK} {E : XK} {n : Int} {us : List Value} {args : Args} (hr : Room 7 A) (e0 : Env0 X.prog X.w X.K X.mg X.base A outer s H) (hbt : BindsTo s T.fd_l_refused args ((["_law_work", "_law_word", "_law_value"] : List Str).zip us)) (r : Vals [.ref f, .str "event", .int n] us)
    (C : CellsOk X σ H s.heap) (hT : ThkH H f (lamOf X params body scope dV c')) (ht : ∀ (E : XK) (Qn : VK), (∀ (d : Addr) (H' : Hp), H d = none → Ex H H' → H' d = some (.xd [("at", .int n)]) → E (.ref T.C_BadEvent) (some d) H') → tb E σ H Qn) (q : ∀ H', Ex H H' → Q (.bl true) H') :
    codeAny (model X.prog X.w) A (.call (.ref T.f_l_refused) args) (CR CX0 outer X.prog X.w H s Q E) s := by
  have F := T.F_l_refused
  generalize T.fd_l_refused = fd at F hbt
  obtain ⟨oc, od, kV, doc, pm, an, cdv, ct, osl, rfl, lk, hcd⟩ := F.ex
  refine LamX.run_ofS (k := 6) lk hcd sc_l_refused hr e0 hbt r rfl fun hr => ?_
  refine ⟨_, pss_cons (L2N.ps_try_as (i := 3) (c := .ref T.C_CrossError) rfl rfl sc_l_refused.nd rfl rfl ⟨by rfl, by decide, .inl T.g_CrossError⟩ takesN0 (fun W pn xe tk _ => pss_one (ps_expr (pe_thk (k := 5) (i := 0) (f := f) (dV := dV) (c' := c') LS hloc hb hbs hbody C hr tk rfl (Or.inl rfl))))
    (fun a oe cls d pn hz hf => pss_cons (ps_set (i := 4) sc_l_refused.nd rfl (Or.inl rfl) (pe_lst
        (pa_cons (pe_callB (call_isX hz hf) (by rfl) T.z_isinstance (by decide +kernel) (pa_cons (pv 3) (pa_cons (pe_glob (v := .ref T.C_BadNumber) (by rfl) T.g_BadNumber rfl) pa_nil)))
        (pa_cons (pe_callB (call_isX hz hf) (by rfl) T.z_isinstance (by decide +kernel) (pa_cons (pv 3) (pa_cons (pe_glob (v := .ref T.C_BadLane) (by rfl) T.g_BadLane rfl) pa_nil)))
        (pa_cons (pe_callB (call_isX hz hf) (by rfl) T.z_isinstance (by decide +kernel) (pa_cons (pv 3) (pa_cons (pe_glob (v := .ref T.C_BadWords) (by rfl) T.g_BadWords rfl) pa_nil)))
        (pa_cons (pe_callB (call_isX hz hf) (by rfl) T.z_isinstance (by decide +kernel) (pa_cons (pv 3) (pa_cons (pe_glob (v := .ref T.C_BadEvent) (by rfl) T.g_BadEvent rfl) pa_nil))) pa_nil))))))
      (pss_cons (ps_set (i := 5) sc_l_refused.nd rfl (Or.inl rfl) (pe_lst (pa_cons pe_str (pa_cons pe_str (pa_cons pe_str (pa_cons pe_str pa_nil))))))
      (pss_cons (ps_if (PW.pt (pw_or (pt_not (pt_val (pe_callB (call_isX hz hf) (by rfl) T.z_isinstance (by decide +kernel) (pa_cons (pv 3) (pa_cons (pe_bltn (v := .ty "ValueError") (u := .type "ValueError") (by rfl) T.z_ValueError (by decide +kernel) rfl) pa_nil)))))
          (pw_or1 (pt_cmpR (r := rNeD X.K) (op_neD hr.units) (pv 4) (pe_lcK (K := X.K) (.inr (hot_suite hz hf)) sc_l_refused.nd (pv 5) (blkOk_by (own := [("_law_one", 6)]) (N := ["_law_work", "_law_word", "_law_value", "e", "_law_kinds", "_law_words_here", "_law_one"]) (sc := defScope s_l_refused) (by decide +kernel)) (fun _ _ _ _ _ => pg_name (i := 6) sc_l_refused.nd rfl (Or.inl rfl)) (fun _ _ _ _ _ _ _ _ _ => pts_nil) (fun _ _ _ _ _ _ _ _ _ => pe_cmpR op_eq (pv 1) (pv 6) (nomark _))) (nomark _)))))
        (pss_one (ps_ret pe_bl)) pss_nil)
      (pss_one (ps_ret (pe_or (pe_cmpR (r := rIn X.K false) op_in_seq (pv 1) (pe_tup (pa_cons pe_str (pa_cons pe_str pa_nil))) (by rfl))
        (pe_one (L2H.pe_callH (E := fun _ _ _ _ => False) (ok_alikeI T) (L2H.roomH_mark (hr.mono (by decide)) _) (hot_suite hz hf) (by rfl) T.g_l_alike T.F_l_alike.kp T.b_l_alike (fun _ _ _ _ _ _ _ h => h.elim) (pa_cons (pe_xf T.xf_BadEvent T.at_BadEvent hz.zc hf (pv 3)) (pa_cons (pv 2) pa_nil)))))))))))
    (pss_one (ps_ret pe_bl)), ?_⟩
  refine ⟨rfl, hT, ht _ _ fun d H' nd e' hd' => ⟨true, T.ex_BadEvent, fun _ a na => ?_, fun z => nomatch z⟩⟩
  refine ⟨_, rfl, T.C_BadEvent, .ref T.C_BadNumber, .ref T.C_BadNumber, _, rfl, rfl, T.is_BadEvent, fun _ h => h, T.ki_BadEvent_BadNumber, .inr ⟨_, _, rfl, hd'⟩, _, rfl, T.C_BadEvent, .ref T.C_BadLane, .ref T.C_BadLane, _, rfl, rfl, T.is_BadEvent, fun _ h => h, T.ki_BadEvent_BadLane, .inr ⟨_, _, rfl, hd'⟩, _, rfl, T.C_BadEvent, .ref T.C_BadWords, .ref T.C_BadWords, _, rfl, rfl, T.is_BadEvent, fun _ h => h, T.ki_BadEvent_BadWords, .inr ⟨_, _, rfl, hd'⟩, _, rfl, T.C_BadEvent, .ref T.C_BadEvent, .ref T.C_BadEvent, _, rfl, rfl, T.is_BadEvent, fun _ h => h, T.ki_BadEvent_BadEvent, .inr ⟨_, _, rfl, hd'⟩, small9 (by simp), fun pk npk => ⟨small9 (by simp), fun pw npw => ?_⟩⟩
  have e1 := e'.trans (Ex.new (o := .lst [.bl false, .bl false, .bl false, .bl true]) npk)
  have hk1 : (upd H' pk (.lst [.bl false, .bl false, .bl false, .bl true])) pk = some (.lst [.bl false, .bl false, .bl false, .bl true]) := upd_same
  have hd1 := (Ex.new (o := .lst [.bl false, .bl false, .bl false, .bl true]) npk) _ _ hd'
  generalize upd H' pk (.lst [.bl false, .bl false, .bl false, .bl true]) = H1 at *
  have e2 := Ex.new (o := .lst [.str "number", .str "lane", .str "words", .str "event"]) npw
  have hw2 : (upd H1 pw (.lst [.str "number", .str "lane", .str "words", .str "event"])) pw = some (.lst [.str "number", .str "lane", .str "words", .str "event"]) := upd_same
  have hk2 := e2 _ _ hk1
  have hd2 := e2 _ _ hd1
  have e02 := e1.trans e2
  generalize upd H1 pw (.lst [.str "number", .str "lane", .str "words", .str "event"]) = H2 at *
  refine ⟨_, rfl, T.C_BadEvent, .ty "ValueError", .type "ValueError", true, rfl, rfl, T.is_BadEvent, fun _ h => h, T.kv_BadEvent, .inr ⟨_, _, rfl, hd2⟩, _, rfl, ifN (by simp) ?_⟩
  refine ⟨_, rfl, _, rfl, pw, rfl, ⟨_, SqL.of hw2⟩, fun D nD => lcW [("number" : Str), "lane", "words", "event"] V.str (fun _ => true) (fun z => .bl (decide (V.str "event" = V.str z))) (walk_ls _ _) (fun H e => SqL.of (e _ _ hw2)) (by decide) nD (fun _ => rfl) (fun z _ H3 e3 Y N hY => ?_) (fun H3 e3 h3 => ?_)⟩
  · refine iteT (B := N H3) ⟨_, rfl, _, rfl, rfl, ?_⟩
    have := hY H3 (Ex.refl _)
    simpa using this
  · have h4 : H3 D = some (.lst [.bl false, .bl false, .bl false, .bl true]) := by
      rw [h3]
      refine congrArg (fun l => some (HO.lst l)) ?_
      decide +kernel
    refine ⟨.list [.bool false, .bool false, .bool false, .bool true], .list [.bool false, .bool false, .bool false, .bool true], .lst (SqL.of (e3 _ _ hk2)) (.cons (.bl _) (.cons (.bl _) (.cons (.bl _) (.cons (.bl _) .nil)))), .lst (SqL.of h4) (.cons (.bl _) (.cons (.bl _) (.cons (.bl _) (.cons (.bl _) .nil)))), rfl, rfl, _, rfl, ifN (by decide +kernel) ?_⟩
    refine ⟨_, rfl, small9 (by simp), fun p np => ⟨p, _, rfl, .inr (SqT.of upd_same), rfl, rfl, _, rfl, ifN (by decide +kernel) ?_⟩⟩
    have e5 := Ex.new (o := .tup [.str "number", .str "lane"]) np
    exact ⟨_, rfl, rfl, rfl, d, _, _, rfl, e5 _ _ (e3 _ _ hd2), rfl, _, rfl, n, rfl, q _ ((e02.trans e3).trans e5)⟩
end
/-! ### `_law_refused(f, 'event', n)`, called in the law, or in a comprehension of it -/
structure LamK (X : Cx) (params : Arguments) (body : Expr) (scope : Scope) (bs : List Str) (tb : XK → TE) : Prop where
  LS : LScope X.env.scope scope
  hloc : ∀ y ∈ scope.names, y.2 = .local → y.1 ∉ X.N
  hb : BindsL params body scope bs
  hbs : ∀ y ∈ bs, scope.names.lookup y = some .local
  hbody : ∀ (dV : Value) (c' : Addr) (A : Around) (outer : List Env) (s : Shared) (H : Hp) (E : XK) (f : Addr), Room 5 (A.deeper (thkEnv (lamOf X params body scope dV c') s.heap.objs.size f)) → PE (thkCx X (lamOf X params body scope dV c') A outer s H E f) body (tb E)
/-- f is a lambda of X that raises BadEvent with n -/
def RefOk (X : Cx) (CE : Addr) (σ : L2.St) (H : Hp) (f : Addr) (n : Int) : Prop := ∃ params body scope bs tb dV c', LamK X params body scope bs tb ∧ ThkH H f (lamOf X params body scope dV c') ∧
  ∀ (E : XK) (Qn : VK), (∀ (d : Addr) (H' : Hp), H d = none → Ex H H' → H' d = some (.xd [("at", .int n)]) → E (.ref CE) (some d) H') → tb E σ H Qn
theorem refOk_mk {X : Cx} {CE : Addr} {σ : L2.St} {H : Hp} {f : Addr} {n : Int} {params : Arguments} {body : Expr} {scope : Scope} {bs : List Str} {tb : XK → TE} {dV : Value} {c' : Addr} (th : ThkH H f (lamOf X params body scope dV c')) (L : LamK X params body scope bs tb)
    (rs : ∀ (E : XK) (Qn : VK), (∀ (d : Addr) (H' : Hp), H d = none → Ex H H' → H' d = some (.xd [("at", .int n)]) → E (.ref CE) (some d) H') → tb E σ H Qn) : RefOk X CE σ H f n := ⟨params, body, scope, bs, tb, dV, c', L, th, rs⟩
def tRef (X : Cx) (CE : Addr) (σ₀ : L2.St) (t : TA) : TE := fun σ H Q => t σ H fun vs H1 => ∃ (f : Addr) (n : Int), vs = [.ref f, .str "event", .int n] ∧ RefOk X CE σ₀ H1 f n ∧ ∀ H', Ex H1 H' → Q (.bl true) H'
section
variable {X : Cx} {e : Expr} {es : List Expr} {ta : TA} {p pos : Pos}
theorem ref_run {Z : Cx} (T : TX X.K X.mg) {σ₀ : L2.St} {pins : List (Addr × Obj)} {σ : L2.St} {H : Hp} {s : Shared} {Q : VK} {us : List Value} {f : Addr} {n : Int} (hp : Z.prog = X.prog) (hw : Z.w = X.w) (hK : Z.K = X.K) (hm : Z.mg = X.mg) (hB : Z.base = X.base) (hr : Room 7 Z.A) (I : Inv Z pins σ H s) (C : CellsOk X σ₀ H s.heap)
    (r : Vals [.ref f, .str "event", .int n] us) (h : RefOk X T.C_BadEvent σ₀ H f n) (q : ∀ H', Ex H H' → Q (.bl true) H') : wpAny (model Z.prog Z.w) Z.A (call (.ref T.f_l_refused) us) (EP Z pins σ Q) Z.xe s := by
  obtain ⟨params, body, scope, bs, tb, dV, c', L, hT, ht⟩ := h
  have hl : us.length = 3 := r.length.symm
  have kin : X.K.In s.heap := by rw [← hK]; exact I.kIn
  have b := T.b_l_refused s us kin (by rw [List.append_nil]; exact hl)
  rw [List.append_nil] at b
  have e0 : Env0 X.prog X.w X.K X.mg X.base Z.A Z.stack s H := by rw [← hp, ← hw, ← hK, ← hm, ← hB]; exact I.env0
  have rc := run_refused (E := fun _ _ _ => False) T L.LS L.hloc L.hb L.hbs L.hbody hr e0 b r C hT ht q
  rw [← hp, ← hw] at rc
  refine wpAny_call (codeAny_mono rc fun r s' hq => ?_)
  cases r with
  | error e => exact False.elim hq
  | ok fl =>
    cases fl with
    | ret u => exact I.after hq
    | next => exact False.elim hq
    | brk => exact False.elim hq
    | cont => exact False.elim hq
theorem pe_refX (T : TX X.K X.mg) (hr : Room 7 X.A) (hg : Gl X "_law_refused") (ha : PA X (e :: es) ta) (he : starEach (e :: es) X.env = (false, eval e X.env) :: starEach es X.env := by rfl) (hpl : (backTo pos (starEach es X.env)).any (·.1) = false := by rfl) :
    PE X (.Call (.Name "_law_refused" p) (e :: es) [] pos) (fun σ H Q => tRef X T.C_BadEvent σ ta σ H Q) := by
  refine ⟨fun pins s σ H Q I h => ?_⟩
  refine wpAny_Call_Name_kw (ld_glob I hg T.g_l_refused ?_ (by decide))
  refine PySem.W.callWith_K (h₀ := X.base) I.ok.mod.kin T.F_l_refused.kp (thn (ha.run pos pins s σ H _ I h) fun us s1 ⟨vs, H1, I1, r, f, n, ev, hR, q⟩ => ⟨I1.kIn, ?_⟩) he hpl
  subst ev
  exact ref_run (Z := X) T rfl rfl rfl rfl rfl hr I1 (cellsOk_of I1) r hR q
theorem pe_refB (T : TX X.K X.mg) (hr : Room 7 X.A) {pins0 : List (Addr × Obj)} {σ₀ : L2.St} {s0 : Shared} {H0 : Hp} {scope : Scope} {ce : Env} {fp : List Addr} (I0 : Inv X pins0 σ₀ H0 s0) (hfp : ∀ y c, X.env.cells.lookup y = some c → c ∉ fp)
    (hg : Gl (X.blk s0 H0 scope ce fp) "_law_refused") (ha : PA (X.blk s0 H0 scope ce fp) (e :: es) ta) (he : starEach (e :: es) ce = (false, eval e ce) :: starEach es ce := by rfl) (hpl : (backTo pos (starEach es ce)).any (·.1) = false := by rfl) :
    PE (X.blk s0 H0 scope ce fp) (.Call (.Name "_law_refused" p) (e :: es) [] pos) (tRef X T.C_BadEvent σ₀ ta) := by
  refine ⟨fun pins s σ H Q I h => ?_⟩
  refine wpAny_Call_Name_kw (ld_glob I hg T.g_l_refused ?_ (by decide))
  refine PySem.W.callWith_K (h₀ := X.base) I.ok.mod.kin T.F_l_refused.kp (thn (ha.run pos pins s σ H _ I h) fun us s1 ⟨vs, H1, I1, r, f, n, ev, hR, q⟩ => ⟨I1.kIn, ?_⟩) he hpl
  subst ev
  have C : CellsOk X σ₀ H1 s1.heap := (cellsOk_of I0).un I1.base fun y c e z => hfp y c e z
  exact ref_run (Z := X.blk s0 H0 scope ce fp) T rfl rfl rfl rfl rfl hr I1 C r hR q
end
theorem okLaw {x qual : Str} {st : Stmt} {f c : Addr} {fd : FuncData} {N ps : List Str} {k : Nat} {sp : Sp} (F : Fun K x qual st f fd) (hc : fd.code = .ref c) (S : FnScope N ps (defScope st)) (len : ∀ vs H Q E, sp vs H Q E → vs.length = ps.length)
    (hbody : ∀ (A : Around) (outer : List Env) (s : Shared) (H : Hp) (vs : List V) (Q : VK) (E : XK), Room k (A.deeper (PyProof.Rows.envOfC qual (defScope st) s.heap.objs.size f (.ref c))) → sp vs H Q E →
      ∃ t, PSs (cxOf CX0 P w K mg base N qual (defScope st) f (.ref c) A outer s H E).nox (defBody st) t ∧ t { nx := fun _ H' => Q .non H', rt := Q } (start N vs) H) : FnOk P w K mg base CX0 (k + 1) f fd ps sp := by
  obtain ⟨oc, od, kV, doc, pm, an, cdv, ct, osl, rfl, lk, hcd⟩ := F.ex
  have hc : cdv = .ref c := hc
  subst hc
  refine fn_of lk hcd S len fun A outer s H vs Q E hr hsp => ?_
  obtain ⟨t, hb, hq⟩ := hbody A outer s H vs Q E hr hsp
  exact ⟨t, hb.nox, hq⟩
def sp_lawT (K : PySem.W.Frag) (Pt : Addr) : Sp := fun vs H Q _ => ∃ (a : Addr) (ns : List Int), vs = [.ref a] ∧ SqL K H a (ns.map V.int) ∧ ns.length ≤ 63 ∧ H Pt = some (.tbl #[]) ∧ ∀ H', Q (.bl true) H'
def bitsN (k : Nat) : Nat → List Bool
  | 0 => []
  | m + 1 => (k / 2 ^ m % 2 == 1) :: bitsN k m
theorem bitsN_len (k : Nat) : ∀ m, (bitsN k m).length = m
  | 0 => rfl
  | m + 1 => by simp [bitsN, bitsN_len k m]
theorem bits_plain {n : Nat} (h : n ≤ 4) : (List.range (2 ^ n)).map (fun k => bitsN k n) = plainW n := by
  have : n = 0 ∨ n = 1 ∨ n = 2 ∨ n = 3 ∨ n = 4 := by omega
  rcases this with rfl | rfl | rfl | rfl | rfl <;> decide
theorem tab5 {n : Nat} (h : n ≤ 4) : atI ([.int 1, .int 2, .int 4, .int 8, .int 16] : List V) (n : Int) = some (.int ((2 ^ n : Nat) : Int)) := by
  have : n = 0 ∨ n = 1 ∨ n = 2 ∨ n = 3 ∨ n = 4 := by omega
  rcases this with rfl | rfl | rfl | rfl | rfl <;> rfl
theorem tab4 {n : Nat} (h : n < 4) : atI ([.int 1, .int 2, .int 4, .int 8] : List V) (n : Int) = some (.int ((2 ^ n : Nat) : Int)) := by
  have : n = 0 ∨ n = 1 ∨ n = 2 ∨ n = 3 := by omega
  rcases this with rfl | rfl | rfl | rfl <;> rfl
theorem at01 (b : Bool) : atI (("01" : Str)).cps.toList (if b then 1 else 0) = some (bit b) := by
  cases b <;> decide +kernel
theorem modBit (k m : Nat) : (k : Int) / ((2 ^ m : Nat) : Int) % 2 = if (k / 2 ^ m % 2 == 1) then 1 else 0 := by
  have h : (k : Int) / ((2 ^ m : Nat) : Int) % 2 = ((k / 2 ^ m % 2 : Nat) : Int) := by simp
  rw [h]
  have h2 : k / 2 ^ m % 2 < 2 := Nat.mod_lt _ (by decide)
  have : k / 2 ^ m % 2 = 0 ∨ k / 2 ^ m % 2 = 1 := by omega
  rcases this with e | e <;> rw [e] <;> rfl
def sp_l_plain : Sp := fun vs H Q _ => ∃ n : Nat, vs = [.int (n : Int)] ∧ n ≤ 4 ∧ RetL ((plainW n).map wv) H Q
theorem ok_l_plain (T : TX K mg) : FnOk P w K mg base CX0 1 T.f_l_plain T.fd_l_plain ["_law_wide"] sp_l_plain := by
  refine T.F_l_plain.ok sc_l_plain (fun vs H Q E h => ?_) (fun cdv A outer s H vs Q E hr h => ?_)
  · obtain ⟨n, rfl, _⟩ := h
    rfl
  · obtain ⟨n, rfl, hn, q⟩ := h
    have h16 := pow16 hn
    refine ⟨_, (pss_cons (ps_set (i := 1) sc_l_plain.nd rfl (by first | exact Or.inl rfl | exact Or.inr rfl) (pe_lst pa_nil))
 (pss_cons (ps_for PassesOwn.never rfl (pi_range1 (by rfl) T.z_range (pa_cons (pe_ix ix_list (pe_lst (pa_cons pe_int (pa_cons pe_int (pa_cons pe_int (pa_cons pe_int (pa_cons pe_int pa_nil)))))) (pv 0) (fun _ _ => rfl)) pa_nil)) (pg_name (i := 2) sc_l_plain.nd rfl (by first | exact Or.inl rfl | exact Or.inr rfl))
 (pss_cons (ps_set (i := 3) sc_l_plain.nd rfl (by first | exact Or.inl rfl | exact Or.inr rfl) pe_str)
 (pss_cons (ps_for PassesOwn.never rfl (pi_range1 (by rfl) T.z_range (pa_cons (pv 0) pa_nil)) (pg_name (i := 4) sc_l_plain.nd rfl (by first | exact Or.inl rfl | exact Or.inr rfl))
 (pss_one (ps_set (i := 3) sc_l_plain.nd rfl (by first | exact Or.inl rfl | exact Or.inr rfl) (pe_op op_add_str (pe_ix ix_str pe_str (pe_op op_mod (pe_op op_fdiv (pv 2) (pe_ix ix_list (pe_lst (pa_cons pe_int (pa_cons pe_int (pa_cons pe_int (pa_cons pe_int pa_nil))))) (pv 4) (fun _ _ => rfl))) pe_int) (fun _ _ => rfl)) (pv 3)))))
 (pss_one (ps_expr (pe_bm PySem.F.plainAttrs_list PySem.F.slot_list_append PySem.F.type_list_append mt_append (pv 1) (pa_cons (pv 3) pa_nil)))))))
 (pss_one (ps_ret (pv 1))))), ?_⟩
    refine ⟨small9 (by simp), fun p np => ⟨small9 (by simp), fun l nl => ⟨_, rfl, l, _, (n : Int), _, rfl, rfl, SqL.of upd_same, tab5 hn, _, rfl, lo62 _, hi62 (by omega), ?_⟩⟩⟩
    have e0 := (Ex.new (o := HO.lst []) np).trans (Ex.new (o := HO.lst [.int 1, .int 2, .int 4, .int 8, .int 16]) nl)
    refine for_range (fun i σ H' => i ≤ 2 ^ n ∧ ∃ y z u, σ = [some (.int (n : Int)), some (.ref p), y, z, u] ∧ Ex H H' ∧ H' p = some (.lst ((List.range i).map fun k => wv (bitsN k n))))
      ⟨Nat.zero_le _, none, none, none, rfl, e0, (Ex.new nl) _ _ upd_same⟩ ?_ ?_
    · rintro i σ H' hi ⟨_, y, z, u, rfl, e1, hp⟩
      refine ⟨_, rfl, n, rfl, by omega, by omega, for_range (lo := 0) (fun m σ H2 => m ≤ n ∧ ∃ u, σ = [some (.int (n : Int)), some (.ref p), some (.int (0 + (i : Int))), some (wv (bitsN i m)), u] ∧ Ex H' H2) ⟨Nat.zero_le _, u, by rw [strE]; rfl, Ex.refl _⟩ ?_ ?_⟩
      · rintro m σ H2 hm ⟨_, u, rfl, e2⟩
        refine ⟨_, rfl, small9 (by simp), fun l nl => ⟨_, rfl, l, _, (m : Int), _, rfl, by rw [Int.zero_add], SqL.of upd_same, tab4 (by omega), _, _, rfl, rfl, ?_, _, _, rfl, rfl, (by decide : (0 : Int) < 2), ?_⟩⟩
        · have : 2 ^ m ≤ 16 := pow16 (by omega)
          have : 0 < 2 ^ m := Nat.two_pow_pos m
          exact ⟨by omega, by omega⟩
        · refine ⟨"01", _, bit (i / 2 ^ m % 2 == 1), rfl, rfl, by decide +kernel, ?_, _, rfl, _, _, rfl, rfl, ?_, ?_⟩
          · rw [Int.zero_add, modBit]
            exact at01 _
          · rw [sgn, wd_len, wd_len, bitsN_len]
            exact small9 (by simp; omega)
          · refine ⟨by omega, some (.int (0 + (m : Int))), ?_, e2.trans (Ex.new nl)⟩
            rw [sgn, wd_app]
            rfl
      · rintro σ H2 ⟨_, u, rfl, e2⟩
        refine ⟨_, rfl, .inl ⟨rfl, _, SqL.of (e2 _ _ hp)⟩, _, rfl, p, _, _, rfl, rfl, e2 _ _ hp, ?_, by omega, some (.int (0 + (i : Int))), some (wv (bitsN i n)), u, rfl, (e1.trans e2).mut np, ?_⟩
        · rw [List.length_map, List.length_range]
          exact small1000 (by omega)
        · rw [upd_same, List.range_succ, List.map_append]
          rfl
    · rintro σ H' ⟨_, y, z, u, rfl, e1, hp⟩
      refine ⟨_, rfl, q p H' np e1 ?_⟩
      rw [hp, ← bits_plain hn, List.map_map]
      rfl
def grayOf (w : List Bool) : List Bool := (List.range w.length).map fun i => ((false :: w).getD i false != w.getD i false)
theorem gray_of {n : Nat} (h : n ≤ 4) : (plainW n).map grayOf = grayW n := by
  have : n = 0 ∨ n = 1 ∨ n = 2 ∨ n = 3 ∨ n = 4 := by omega
  rcases this with rfl | rfl | rfl | rfl | rfl <;> decide
theorem joinB : ∀ bs : List Bool, Txt.join (wd []) (bs.map fun b => wd [b]) = wd bs := by
  intro bs
  refine TL.ext_tl ?_
  rw [TL.join_eq, TL.tl_join, List.map_map]
  show TL.joinL [] (bs.map fun b => [bit b]) = bs.map bit
  induction bs with
  | nil => rfl
  | cons a r ih =>
    cases r with
    | nil => rfl
    | cons b r =>
      show [bit a] ++ ([] ++ TL.joinL [] ((b :: r).map fun b => [bit b])) = bit a :: (b :: r).map bit
      rw [ih]
      rfl
theorem sz_words {l : List (List Bool)} {n : Nat} (h : ∀ w ∈ l, w.length ≤ n) : (l.map fun w => (wd w).length).sum ≤ l.length * n := by
  induction l with
  | nil => simp
  | cons a r ih =>
    have h1 := h a (List.mem_cons_self)
    have h2 := ih fun w hw => h w (List.mem_cons_of_mem _ hw)
    simp only [List.map_cons, List.sum_cons, List.length_cons, wd_len, Nat.add_mul] at *
    omega
def sp_l_gray : Sp := fun vs H Q _ => ∃ n : Nat, vs = [.int (n : Int)] ∧ n ≤ 4 ∧ RetL ((grayW n).map wv) H Q
theorem ok_l_gray (T : TX K mg) : FnOk P w K mg base CX0 2 T.f_l_gray T.fd_l_gray ["_law_wide"] sp_l_gray := by
  refine T.F_l_gray.ok sc_l_gray (fun vs H Q E h => ?_) (fun cdv A outer s H vs Q E hr h => ?_)
  · obtain ⟨n, rfl, _⟩ := h
    rfl
  · obtain ⟨n, rfl, hn, q⟩ := h
    have h16 := pow16 hn
    refine ⟨_, (pss_cons (ps_set (i := 1) sc_l_gray.nd rfl (by first | exact Or.inl rfl | exact Or.inr rfl) (pe_lst pa_nil))
 (pss_cons (ps_for PassesOwn.never rfl (pi_list (pe_call (ok_l_plain T) (hr.mono (by decide)) (by rfl) T.g_l_plain T.F_l_plain.kp T.b_l_plain .nil pass0 (pa_cons (pv 0) pa_nil))) (pg_name (i := 2) sc_l_gray.nd rfl (by first | exact Or.inl rfl | exact Or.inr rfl))
 (pss_cons (ps_set (i := 3) sc_l_gray.nd rfl (by first | exact Or.inl rfl | exact Or.inr rfl) (pe_op op_add_str pe_str (pv 2)))
 (pss_one (ps_expr (pe_bm PySem.F.plainAttrs_list PySem.F.slot_list_append PySem.F.type_list_append mt_append (pv 1) (pa_cons (pe_join pe_str (pe_lc (own := [("_law_at", 4)]) (g := gName 4) (by rfl) sc_l_gray.nd (pi_range1 (by rfl) T.z_range (pa_cons (pv 0) pa_nil)) (blkOk_by (own := [("_law_at", 4)]) (N := ["_law_wide", "_law_found", "_law_word", "_law_marks", "_law_at"]) (sc := defScope s_l_gray) (by decide +kernel)) (fun _ _ _ _ _ => pg_name (i := 4) sc_l_gray.nd rfl (Or.inl rfl)) (fun _ _ _ _ _ => pts_nil) (fun _ _ _ _ _ => (pe_ix ix_str pe_str (pe_callTy call_int1 (by rfl) T.z_int (by decide +kernel) (pa_cons (pe_cmpR op_ne (pe_ix ix_str (pv 3) (pv 4) (fun _ _ => rfl)) (pe_ix ix_str (pv 3) (pe_op op_add (pv 4) pe_int) (fun _ _ => rfl)) (nomark _)) pa_nil)) (fun _ _ => rfl))))) pa_nil))))))
 (pss_one (ps_ret (pv 1))))), ?_⟩
    refine ⟨small9 (by simp), fun p np => ⟨_, rfl, n, rfl, hn, fun l H1 nl e1 hl => ⟨l, rfl, ⟨_, SqL.of hl⟩, ?_⟩⟩⟩
    have e0 := (Ex.new (o := HO.lst []) np).trans e1
    refine for_list (K := K) (a := l) (xs := (plainW n).map wv) (fun i σ H' => ∃ y z u, σ = [some (.int (n : Int)), some (.ref p), y, z, u] ∧ H' l = some (.lst ((plainW n).map wv)) ∧ Ex H H' ∧ H' p = some (.lst (((plainW n).take i).map fun w => wv (grayOf w))))
      ⟨none, none, none, rfl, hl, e0, e1 _ _ upd_same⟩ (fun i σ H' _ ⟨_, _, _, _, e, _⟩ => SqL.of e) ?_ ?_
    · rintro i x σ H' hi ⟨y, z, u, rfl, eL, e2, hp⟩
      obtain ⟨w, hw, rfl⟩ : ∃ w, (plainW n)[i]? = some w ∧ wv w = x := by
        rw [List.getElem?_map] at hi
        cases e : (plainW n)[i]? with
        | none => rw [e] at hi; cases hi
        | some y => rw [e] at hi; exact ⟨y, rfl, Option.some.inj hi⟩
      have hwl : w.length = n := plainW_wide n w (List.mem_of_getElem? hw)
      refine ⟨_, rfl, "0", wd w, rfl, rfl, ?_, ?_⟩
      · rw [str0, wd_len, wd_len]
        exact small9 (by simp; omega)
      rw [str0, wd_app]
      refine ⟨_, rfl, .inl ⟨rfl, _, SqL.of hp⟩, ⟨_, rfl⟩, _, rfl, n, rfl, by omega, by omega, fun D nD => lcR n (fun i => wv [((false :: w).getD i false != w.getD i false)]) rfl (by omega) nD (fun _ => rfl) (fun k hk H3 e3 Y hY => ?_) (fun H3 e3 h3 => ?_)⟩
      · refine ⟨_, rfl, _, rfl, _, _, bit ((false :: w).getD k false), rfl, rfl, ?_, atW (w := false :: w) rfl (by simp; omega), _, rfl, _, rfl, _, _, rfl, rfl, _, _, bit (w.getD k false), rfl, rfl, ?_, ?_, rfl, .inr ⟨_, rfl, "01", _, _, rfl, rfl, by decide +kernel, ?_, hY _ (Ex.refl _)⟩⟩
        · show (wd (false :: w)).length ≤ sizeLine
          rw [wd_len]
          exact small9 (by simp; omega)
        · show (wd (false :: w)).length ≤ sizeLine
          rw [wd_len]
          exact small9 (by simp; omega)
        · exact atW (w := false :: w) (i := k + 1) rfl (by simp; omega)
        · rw [dec_sgn]
          exact at01 _
      · refine ⟨"", D, (grayOf w).map (fun b => wd [b]), rfl, rfl, .inl (SqL.of ?_), ?_, ?_⟩
        · rw [h3, grayOf, List.map_map, List.map_map, hwl]
          rfl
        · have h1 := sz_words (l := (grayOf w).map fun b => [b]) (n := 1) (fun w hw => by obtain ⟨b, _, rfl⟩ := List.mem_map.mp hw; exact Nat.le_refl _)
          simp only [List.map_map, List.length_map, Function.comp_def] at *
          have : (grayOf w).length = n := by simp [grayOf, hwl]
          rw [strE, wd_len]
          simp at *
          omega
        · rw [strE, joinB]
          refine ⟨p, _, _, rfl, rfl, e3 _ _ hp, ?_, some (wv w), some (wv ([false] ++ w)), u, rfl, ?_, (e2.trans e3).mut np, ?_⟩
          · rw [List.length_map, List.length_take]
            have := plainW_len n
            exact small1000 (by omega)
          · rw [upd_ne (ne_of_none upd_same nl).symm]
            exact e3 _ _ eL
          · rw [upd_same, List.take_add_one, hw, List.map_append]
            rfl
    · rintro σ H' ⟨y, z, u, rfl, eL, e1, hp⟩
      refine ⟨_, rfl, q p H' np e1 ?_⟩
      rw [hp, ← gray_of hn, List.length_map, List.take_length, List.map_map]
      rfl
def okS (a b w : List Bool) : Bool := (List.range a.length).all fun k => w.getD k false == a.getD k false || w.getD k false == b.getD k false
theorem okS_cons (x y z : Bool) (a b w : List Bool) : okS (x :: a) (y :: b) (z :: w) = ((z == x || z == y) && okS a b w) := by
  unfold okS
  rw [List.length_cons, List.range_succ_eq_map, List.all_cons, List.all_map]
  rfl
theorem seen_filter : ∀ {n : Nat} {a b : List Bool}, a.length = n → b.length = n → (plainW n).filter (okS a b) = seenW a b
  | 0, [], [], _, _ => rfl
  | n + 1, x :: a, y :: b, ha, hb => by
    have ih := seen_filter (n := n) (a := a) (b := b) (by simpa using ha) (by simpa using hb)
    have h1 : ∀ z : Bool, ((plainW n).map (z :: ·)).filter (okS (x :: a) (y :: b)) = if (z == x || z == y) = true then (seenW a b).map (z :: ·) else [] := fun z => by
      rw [List.filter_map]
      by_cases hz : (z == x || z == y) = true
      · rw [if_pos hz, ← ih]
        congr 1
        refine List.filter_congr fun w _ => ?_
        show okS (x :: a) (y :: b) (z :: w) = _
        rw [okS_cons, hz, Bool.true_and]
      · rw [if_neg hz]
        have : ((plainW n).filter ((okS (x :: a) (y :: b)) ∘ (z :: ·))) = [] := by
          rw [List.filter_eq_nil_iff]
          intro w _
          show ¬ okS (x :: a) (y :: b) (z :: w) = true
          rw [okS_cons]
          simp only [Bool.not_eq_true] at hz
          rw [hz]
          simp
        rw [this]
        rfl
    show ((plainW n).map (false :: ·) ++ (plainW n).map (true :: ·)).filter _ = (mk2 x y).flatMap fun m => (seenZ (a.zip b)).map (m :: ·)
    rw [List.filter_append, h1, h1]
    cases x <;> cases y <;> simp [mk2, seenW]
def sp_l_seen : Sp := fun vs H Q _ => ∃ (a b : List Bool) (n : Nat), vs = [wv a, wv b] ∧ a.length = n ∧ b.length = n ∧ n ≤ 4 ∧ RetL ((seenW a b).map wv) H Q
theorem ok_l_seen (T : TX K mg) : FnOk P w K mg base CX0 2 T.f_l_seen T.fd_l_seen ["_law_one", "_law_other"] sp_l_seen := by
  refine T.F_l_seen.ok sc_l_seen (fun vs H Q E h => ?_) (fun cdv A outer s H vs Q E hr h => ?_)
  · obtain ⟨_, _, _, rfl, _⟩ := h
    rfl
  · obtain ⟨a, b, n, rfl, ha, hb, hn, q⟩ := h
    have h16 := pow16 hn
    refine ⟨_, (pss_cons (ps_set (i := 2) sc_l_seen.nd rfl (by first | exact Or.inl rfl | exact Or.inr rfl) (pe_lst pa_nil))
 (pss_cons (ps_for PassesOwn.never rfl (pi_list (pe_call (ok_l_plain T) (hr.mono (by decide)) (by rfl) T.g_l_plain T.F_l_plain.kp T.b_l_plain .nil pass0 (pa_cons (pe_callB call_len_str (by rfl) T.z_len PySem.boot_len (pa_cons (pv 0) pa_nil)) pa_nil))) (pg_name (i := 3) sc_l_seen.nd rfl (by first | exact Or.inl rfl | exact Or.inr rfl))
 (pss_one (ps_if (pt_cmpR (op_eqD hr.units) (pe_lc (own := [("_law_at", 4)]) (g := gName 4) (by rfl) sc_l_seen.nd (pi_range1 (by rfl) T.z_range (pa_cons (pe_callB call_len_str (by rfl) T.z_len PySem.boot_len (pa_cons (pv 0) pa_nil)) pa_nil)) (blkOk_by (own := [("_law_at", 4)]) (N := ["_law_one", "_law_other", "_law_found", "_law_word", "_law_at"]) (sc := defScope s_l_seen) (by decide +kernel)) (fun _ _ _ _ _ => pg_name (i := 4) sc_l_seen.nd rfl (Or.inl rfl)) (fun _ _ _ _ _ => (pts_one (pt_cmpR (r := rIn K true) op_notIn_seq (pe_ix ix_str (pv 3) (pv 4) (fun _ _ => rfl)) (pe_tup (pa_cons (pe_ix ix_str (pv 0) (pv 4) (fun _ _ => rfl)) (pa_cons (pe_ix ix_str (pv 1) (pv 4) (fun _ _ => rfl)) pa_nil))) (by rfl)))) (fun _ _ _ _ _ => (pv 4))) (pe_lst pa_nil) (nomark _))
 (pss_one (ps_expr (pe_bm PySem.F.plainAttrs_list PySem.F.slot_list_append PySem.F.type_list_append mt_append (pv 2) (pa_cons (pv 3) pa_nil))))
 pss_nil)))
 (pss_one (ps_ret (pv 2))))), ?_⟩
    refine ⟨small9 (by simp), fun p np => ?_⟩
    refine ⟨_, rfl, wd a, rfl, small9 (by rw [wd_len]; omega), n, ?_, hn, fun l H1 nl e1 hl => ⟨l, rfl, ⟨_, SqL.of hl⟩, ?_⟩⟩
    · show [V.int ((wd a).length : Int)] = _
      rw [wd_len, ha]
    have e01 := (Ex.new (o := HO.lst []) np).trans e1
    have npl : l ≠ p := (ne_of_none upd_same nl).symm
    refine for_list (K := K) (a := l) (xs := (plainW n).map wv) (fun i σ H' => ∃ y3 y4, σ = [some (wv a), some (wv b), some (.ref p), y3, y4] ∧ Ex H H' ∧ H' l = some (.lst ((plainW n).map wv)) ∧ H' p = some (.lst ((((plainW n).take i).filter (okS a b)).map wv)))
      ⟨_, _, rfl, e01, hl, e1 _ _ upd_same⟩ (fun i σ H' _ ⟨_, _, _, _, h, _⟩ => SqL.of h) ?_ ?_
    · rintro i x σ H2 hi ⟨y3, y4, rfl, e2, hl2, hp2⟩
      obtain ⟨u, hu, rfl⟩ : ∃ u, (plainW n)[i]? = some u ∧ wv u = x := by
        rw [List.getElem?_map] at hi
        cases e : (plainW n)[i]? with
        | none => rw [e] at hi; cases hi
        | some y => rw [e] at hi; exact ⟨y, rfl, Option.some.inj hi⟩
      have hul : u.length = n := plainW_wide n u (List.mem_of_getElem? hu)
      have ht : (plainW n).take (i + 1) = (plainW n).take i ++ [u] := by rw [List.take_add_one, hu]; rfl
      have hlen : (((plainW n).take i).filter (okS a b)).length ≤ 16 := by
        refine Nat.le_trans (List.length_filter_le _ _) ?_
        rw [List.length_take, plainW_len]
        omega
      refine ⟨_, rfl, wd a, rfl, small9 (by rw [wd_len]; omega), _, rfl, lo62 _, hi62 (by rw [wd_len]; omega), fun D nD => lcRF a.length (fun k => !(u.getD k false == a.getD k false || u.getD k false == b.getD k false)) (fun k => .int (k : Int)) (by rw [wd_len]) (by omega) nD (fun _ => rfl) (fun k hk H3 e3 Y N hY => ?_) (fun H3 e3 h3 => ?_)⟩
      · refine ⟨_, rfl, _, rfl, wd u, _, bit (u.getD k false), rfl, rfl, small9 (by rw [wd_len]; omega), atW rfl (by omega), _, rfl, _, rfl, wd a, _, bit (a.getD k false), rfl, rfl, small9 (by rw [wd_len]; omega), atW rfl hk, _, rfl, _, rfl, wd b, _, bit (b.getD k false), rfl, rfl, small9 (by rw [wd_len]; omega), atW rfl (by omega), small9 (by simp), fun t nt => ?_⟩
        refine ⟨t, _, rfl, .inr (SqT.of upd_same), rfl, rfl, _, rfl, ?_⟩
        have hY := hY _ (Ex.new (o := HO.tup [.str ⟨#[bit (a.getD k false)]⟩, .str ⟨#[bit (b.getD k false)]⟩]) nt)
        have ein : inV (.str ⟨#[bit (u.getD k false)]⟩) [.str ⟨#[bit (a.getD k false)]⟩, .str ⟨#[bit (b.getD k false)]⟩] = (u.getD k false == a.getD k false || u.getD k false == b.getD k false) := by
          cases u.getD k false <;> cases a.getD k false <;> cases b.getD k false <;> decide
        show if (!inV _ _) = true then _ else _
        rw [ein]
        cases hd : (u.getD k false == a.getD k false || u.getD k false == b.getD k false) with
        | true =>
          rw [hd] at hY
          exact hY
        | false =>
          rw [hd] at hY
          exact ⟨_, rfl, hY⟩
      · have lf : ∀ x ∈ ((List.range a.length).filter fun k => !(u.getD k false == a.getD k false || u.getD k false == b.getD k false)).map (fun k : Nat => V.int (k : Int)), LeafV x := fun x hx => by
          obtain ⟨k, _, rfl⟩ := List.mem_map.mp hx
          trivial
        refine ⟨small9 (by simp), fun o no => ?_⟩
        have eo := Ex.new (o := HO.lst []) no
        refine ⟨.list _, .list [], .lst (SqL.of (eo _ _ h3)) (dp_leaves lf), .lst (SqL.of upd_same) .nil, (sd_leaves (n := 0) lf).shaped (by decide), (sd_leaves (n := 0) (xs := []) (by simp)).shaped (by decide), _, rfl, ?_⟩
        rw [eqv_nil]
        have eok : ((((List.range a.length).filter fun k => !(u.getD k false == a.getD k false || u.getD k false == b.getD k false)).map (fun k : Nat => V.int (k : Int))).map datOf).isEmpty = okS a b u := by
          rw [Bool.eq_iff_iff, List.isEmpty_iff, List.map_eq_nil_iff, List.map_eq_nil_iff, List.filter_eq_nil_iff]
          unfold okS
          rw [List.all_eq_true]
          simp only [Bool.not_eq_true', Bool.not_eq_false]
        rw [eok]
        have e23 := e3.trans eo
        cases hok : okS a b u with
        | true =>
          refine ifP rfl ⟨_, rfl, .inl ⟨rfl, _, SqL.of (e23 _ _ hp2)⟩, _, rfl, p, _, _, rfl, rfl, e23 _ _ hp2, by rw [List.length_map]; exact small1000 (by omega), _, _, rfl, (e2.trans e23).mut np, ?_, ?_⟩
          · rw [upd_ne npl]
            exact e23 _ _ hl2
          · rw [upd_same, ht, List.filter_append, List.map_append]
            simp [hok]
        | false =>
          refine ifN (by simp) ⟨_, _, rfl, e2.trans e23, e23 _ _ hl2, ?_⟩
          rw [e23 _ _ hp2, ht, List.filter_append, List.map_append]
          simp [hok]
    · rintro σ H2 ⟨y3, y4, rfl, e2, hl2, hp2⟩
      rw [List.length_map, List.take_length, seen_filter ha hb] at hp2
      exact ⟨_, rfl, q p H2 np e2 hp2⟩
theorem nodup_gray {n : Nat} (h : n ≤ 4) : (grayW n).Nodup ∧ (plainW n).Nodup := by
  have : n = 0 ∨ n = 1 ∨ n = 2 ∨ n = 3 ∨ n = 4 := by omega
  rcases this with rfl | rfl | rfl | rfl | rfl <;> decide
theorem perm_map_inv {α : Type} {f : α → V} {ys zs : List V} (h : ys.Perm zs) : ∀ {l : List α}, zs = l.map f → ∃ l' : List α, ys = l'.map f ∧ l'.Perm l := by
  induction h with
  | nil =>
    intro l e
    exact ⟨[], rfl, by rw [List.map_eq_nil_iff.mp e.symm]⟩
  | cons x _ ih =>
    intro l e
    cases l with
    | nil => cases e
    | cons a l =>
      have e : _ :: _ = f a :: l.map f := e
      injection e with e1 e2
      obtain ⟨l', h1, h2⟩ := ih e2
      exact ⟨a :: l', by rw [h1, e1]; rfl, List.Perm.cons a h2⟩
  | swap x y r =>
    intro l e
    match l, e with
    | a :: b :: l, e =>
      have e : _ :: _ :: _ = f a :: f b :: l.map f := e
      injection e with e1 e2
      injection e2 with e2 e3
      exact ⟨b :: a :: l, by rw [e1, e2, e3]; rfl, List.Perm.swap a b l⟩
  | trans _ _ ih1 ih2 =>
    intro l e
    obtain ⟨l2, h1, h2⟩ := ih2 e
    obtain ⟨l1, h3, h4⟩ := ih1 h1
    exact ⟨l1, h3, h4.trans h2⟩
/-- words of a lane -/
structure WOk (ws : List (List Bool)) (n r : Nat) : Prop where
  nd : ws.Nodup
  len : ws.length = 2 * r
  wide : ∀ w ∈ ws, w.length = n
theorem wok_take {l : List (List Bool)} {n r : Nat} (nd : l.Nodup) (hl : 2 * r ≤ l.length) (hw : ∀ w ∈ l, w.length = n) : WOk (l.take (2 * r)) n r :=
  ⟨(List.take_sublist _ _).nodup nd, by rw [List.length_take]; omega, fun w h => hw w (List.mem_of_mem_take h)⟩
theorem wok_ends {l : List (List Bool)} {n r : Nat} (nd : l.Nodup) (hl : 2 * r ≤ l.length) (hw : ∀ w ∈ l, w.length = n) : WOk (l.take r ++ l.drop (l.length - r)) n r := by
  refine ⟨?_, ?_, fun w h => ?_⟩
  · have h1 : (l.take r ++ l.drop (l.length - r)).Sublist l := by
      have h2 : (l.drop (l.length - r)).Sublist (l.drop r) := by
        rw [show l.length - r = r + (l.length - 2 * r) by omega, ← List.drop_drop]
        exact List.drop_sublist _ _
      have h3 := List.Sublist.append (List.Sublist.refl (l.take r)) h2
      rw [List.take_append_drop] at h3
      exact h3
    exact h1.nodup nd
  · rw [List.length_append, List.length_take, List.length_drop]
    omega
  · rcases List.mem_append.mp h with h | h
    · exact hw w (List.mem_of_mem_take h)
    · exact hw w (List.mem_of_mem_drop h)
def swapN (a b k : Nat) : Nat := if k = a then b else if k = b then a else k
theorem swapN_lt {a b k m : Nat} (ha : a < m) (hb : b < m) (hk : k < m) : swapN a b k < m := by
  unfold swapN
  split
  · exact hb
  · split
    · exact ha
    · exact hk
theorem swapN_inj {a b i j : Nat} (h : swapN a b i = swapN a b j) : i = j := by
  unfold swapN at h
  split at h <;> split at h <;> (try split at h) <;> (try split at h) <;> omega
theorem getD_inj {ws : List (List Bool)} (nd : ws.Nodup) {i j : Nat} (hi : i < ws.length) (hj : j < ws.length) (h : ws.getD i [] = ws.getD j []) : i = j := by
  rw [List.getD_eq_getElem?_getD, List.getD_eq_getElem?_getD, List.getElem?_eq_getElem hi, List.getElem?_eq_getElem hj] at h
  exact (List.getElem_inj nd).mp h
theorem nodup_map_range {m : Nat} {f : Nat → List Bool} (h : ∀ i j, i < m → j < m → f i = f j → i = j) : ((List.range m).map f).Nodup := by
  refine List.pairwise_map.mpr (List.Pairwise.imp_of_mem (fun {a b} ha hb hab e => ?_) (List.pairwise_lt_range (n := m)))
  have := h a b (List.mem_range.mp ha) (List.mem_range.mp hb) e
  omega
theorem wok_swap {ws : List (List Bool)} {n r a b : Nat} (h : WOk ws n r) (ha : a < 2 * r) (hb : b < 2 * r) : WOk ((List.range (2 * r)).map fun k => ws.getD (swapN a b k) []) n r := by
  refine ⟨nodup_map_range fun i j hi hj e => swapN_inj (getD_inj h.nd (by rw [h.len]; exact swapN_lt ha hb hi) (by rw [h.len]; exact swapN_lt ha hb hj) e), by simp, fun w hw => ?_⟩
  obtain ⟨k, hk, rfl⟩ := List.mem_map.mp hw
  exact h.wide _ (getD_mem (by rw [h.len]; exact swapN_lt ha hb (List.mem_range.mp hk)))
/-- marks exchanged and turned -/
def newW (n t : Nat) (os : List Nat) (w : List Bool) : List Bool := (List.range n).map fun k => (w.getD (os.getD k 0) false != (t / 2 ^ k % 2 == 1))
theorem newW_inj {n t : Nat} {os : List Nat} (ho : os.Perm (List.range n)) {w u : List Bool} (hw : w.length = n) (hu : u.length = n) (h : newW n t os w = newW n t os u) : w = u := by
  have hol : os.length = n := by rw [ho.length_eq, List.length_range]
  refine List.ext_getElem (by omega) fun i h1 h2 => ?_
  obtain ⟨k, hk, e⟩ := List.mem_iff_getElem.mp (ho.mem_iff.mpr (List.mem_range.mpr (show i < n by omega)))
  have q := congrArg (fun l => l.getD k false) h
  simp only [newW] at q
  rw [List.getD_eq_getElem?_getD, List.getD_eq_getElem?_getD, List.getElem?_map, List.getElem?_map, List.getElem?_range (by omega)] at q
  have e2 : os.getD k 0 = i := by rw [List.getD_eq_getElem?_getD, List.getElem?_eq_getElem hk]; exact e
  simp only [Option.map_some, Option.getD_some, e2] at q
  have e3 : w.getD i false = w[i] := by rw [List.getD_eq_getElem?_getD, List.getElem?_eq_getElem h1]; rfl
  have e4 : u.getD i false = u[i] := by rw [List.getD_eq_getElem?_getD, List.getElem?_eq_getElem h2]; rfl
  rw [e3, e4] at q
  revert q
  cases w[i] <;> cases u[i] <;> cases (t / 2 ^ k % 2 == 1) <;> decide
theorem wok_new {ws : List (List Bool)} {n r t : Nat} {os : List Nat} (h : WOk ws n r) (ho : os.Perm (List.range n)) : WOk (ws.map (newW n t os)) n r := by
  refine ⟨List.pairwise_map.mpr (List.Pairwise.imp_of_mem (fun {a b} ha hb hab e => hab (newW_inj ho (h.wide a ha) (h.wide b hb) e)) h.nd), by rw [List.length_map]; exact h.len, fun w hw => ?_⟩
  obtain ⟨u, _, rfl⟩ := List.mem_map.mp hw
  simp [newW]
theorem int_sgn (b : Bool) : PySem.intText? (wd [b]) = some (if b then 1 else 0) := by cases b <;> decide +kernel
theorem str_sgn (m : Int) : (toString (m % 2) : Str) = wd [m % 2 == 1] := by
  have : m % 2 = 0 ∨ m % 2 = 1 := by omega
  rcases this with e | e <;> rw [e] <;> decide +kernel
theorem mark_bit0 (b : Bool) (q : Nat) : (((if b then 1 else 0 : Int) + (q : Int)) % 2 == 1) = (b != (q % 2 == 1)) := by
  have : q % 2 = 0 ∨ q % 2 = 1 := by omega
  cases b with
  | false =>
    rcases this with e | e <;> rw [e]
    · rw [show ((if false = true then 1 else 0 : Int) + (q : Int)) % 2 = 0 by simp only [Bool.false_eq_true, if_false]; omega]
      rfl
    · rw [show ((if false = true then 1 else 0 : Int) + (q : Int)) % 2 = 1 by simp only [Bool.false_eq_true, if_false]; omega]
      rfl
  | true =>
    rcases this with e | e <;> rw [e]
    · rw [show ((if true = true then 1 else 0 : Int) + (q : Int)) % 2 = 1 by simp only [if_true]; omega]
      rfl
    · rw [show ((if true = true then 1 else 0 : Int) + (q : Int)) % 2 = 0 by simp only [if_true]; omega]
      rfl
theorem mark_bit (b : Bool) (t k : Nat) : (((if b then 1 else 0 : Int) + (t : Int) / ((2 ^ k : Nat) : Int)) % 2 == 1) = (b != (t / 2 ^ k % 2 == 1)) := by
  rw [show (t : Int) / ((2 ^ k : Nat) : Int) = ((t / 2 ^ k : Nat) : Int) by simp]
  exact mark_bit0 b _
theorem emod_two {x m : Int} (h0 : 0 ≤ x) (h : x < 2 * m) : x % m = if x < m then x else x - m := by
  by_cases hx : x < m
  · rw [if_pos hx, Int.emod_eq_of_lt h0 hx]
  · rw [if_neg hx, ← Int.sub_emod_right, Int.emod_eq_of_lt (by omega) (by omega)]
theorem swap_val {a b : Nat} (hab : a ≠ b) (k : Nat) : (valV (mergeK [] [((Sum.inl (a : Int) : Key), V.int (b : Int)), (Sum.inl (b : Int), V.int (a : Int))]) (Sum.inl (k : Int))).getD (.int (k : Int)) = .int ((swapN a b k : Nat) : Int) := by
  show (valV (putK (putK [] (Sum.inl (a : Int)) (V.int (b : Int))) (Sum.inl (b : Int)) (V.int (a : Int))) (Sum.inl (k : Int))).getD _ = _
  rw [valV_put, valV_put]
  unfold swapN
  by_cases h1 : k = a
  · subst h1
    have h2 : ¬ (Sum.inl (k : Int) : Key) = Sum.inl (b : Int) := fun e => hab (by have := Sum.inl.inj e; omega)
    rw [if_neg h2, if_pos rfl, if_pos rfl]
    rfl
  · have h2 : ¬ (Sum.inl (k : Int) : Key) = Sum.inl (a : Int) := fun e => h1 (by have := Sum.inl.inj e; omega)
    rw [if_neg h1]
    by_cases h3 : k = b
    · subst h3
      rw [if_pos rfl, if_pos rfl]
      rfl
    · have h4 : ¬ (Sum.inl (k : Int) : Key) = Sum.inl (b : Int) := fun e => h3 (by have := Sum.inl.inj e; omega)
      rw [if_neg h4, if_neg h2, if_neg h3]
      rfl
def sp_l_words : Sp := fun vs H Q _ => ∃ (d : Addr) (r : Nat), vs = [.ref d, .int (r : Int)] ∧ Dice H d ∧ 1 ≤ r ∧ r ≤ 6 ∧
  ∀ (p : Addr) (ws : List (List Bool)) (n : Nat) (H' : Hp), H p = none → p ≠ d → Exd d H H' → Dice H' d → WOk ws n r → 1 ≤ n → n ≤ 4 → H' p = some (.lst (ws.map wv)) → Q (.ref p) H'
theorem ok_l_words (T : TX K mg) : FnOk P w K mg base CX0 3 T.f_l_words T.fd_l_words ["_law_d", "_law_room"] sp_l_words := by
  refine T.F_l_words.ok sc_l_words (fun vs H Q E h => ?_) (fun cdv A outer s H vs Q E hr h => ?_)
  · obtain ⟨_, _, rfl, _⟩ := h
    rfl
  · obtain ⟨d, r, rfl, hd, hr1, hr6, q⟩ := h
    refine ⟨_, (pss_cons (ps_set (i := 2) sc_l_words.nd rfl (by first | exact Or.inl rfl | exact Or.inr rfl) pe_int)
 (pss_cons (ps_while PassesOwn.never (pt_cmpR op_lt (pe_ix ix_list (pe_lst (pa_cons pe_int (pa_cons pe_int (pa_cons pe_int (pa_cons pe_int (pa_cons pe_int pa_nil)))))) (pv 2) (fun _ _ => rfl)) (pe_op op_mul pe_int (pv 1)) (nomark _))
 (pss_one (ps_set (i := 2) sc_l_words.nd rfl (by first | exact Or.inl rfl | exact Or.inr rfl) (pe_op op_add (pv 2) pe_int))))
 (pss_cons (ps_set (i := 2) sc_l_words.nd rfl (by first | exact Or.inl rfl | exact Or.inr rfl) (pe_callB (call_min2 rfl) (by rfl) T.z_min (by decide +kernel) (pa_cons pe_int (pa_cons (pe_op op_add (pv 2) (pe_callTy call_int1 (by rfl) T.z_int (by decide +kernel) (pa_cons (pe_cmpR op_eq (pe_call (ok_l_off T) (hr.mono (by decide)) (by rfl) T.g_l_off T.F_l_off.kp T.b_l_off .nil pass0 (pa_cons (pv 0) (pa_cons pe_int pa_nil))) pe_int (nomark _)) pa_nil))) pa_nil))))
 (pss_cons (ps_set (i := 3) sc_l_words.nd rfl (by first | exact Or.inl rfl | exact Or.inr rfl) (pe_call (ok_l_gray T) (hr.mono (by decide)) (by rfl) T.g_l_gray T.F_l_gray.kp T.b_l_gray .nil pass0 (pa_cons (pv 2) pa_nil)))
 (pss_cons (ps_set (i := 4) sc_l_words.nd rfl (by first | exact Or.inl rfl | exact Or.inr rfl) (pe_op op_cat (pe_slice sl_list (pv 3) po_none (po_some (pv 1))) (pe_slice sl_list (pv 3) (po_some (pe_op op_sub (pe_callB call_len_seq (by rfl) T.z_len PySem.boot_len (pa_cons (pv 3) pa_nil)) (pv 1))) po_none)))
 (pss_cons (ps_set (i := 5) sc_l_words.nd rfl (by first | exact Or.inl rfl | exact Or.inr rfl) (pe_call (ok_l_off T) (hr.mono (by decide)) (by rfl) T.g_l_off T.F_l_off.kp T.b_l_off .nil pass0 (pa_cons (pv 0) (pa_cons pe_int pa_nil))))
 (pss_cut (ps_if (pt_cmpR op_eq (pv 5) pe_int (nomark _))
 (pss_one (ps_set (i := 4) sc_l_words.nd rfl (by first | exact Or.inl rfl | exact Or.inr rfl) (pe_slice sl_list (pe_call (ok_l_plain T) (hr.mono (by decide)) (by rfl) T.g_l_plain T.F_l_plain.kp T.b_l_plain .nil pass0 (pa_cons (pv 2) pa_nil)) po_none (po_some (pe_op op_mul pe_int (pv 1))))))
 pss_nil)
 (pss_cut (ps_if (pt_cmpR op_eq (pv 5) pe_int (nomark _))
 (pss_one (ps_set (i := 4) sc_l_words.nd rfl (by first | exact Or.inl rfl | exact Or.inr rfl) (pe_slice sl_list (pe_call (ok_l_mixed T) (hr.mono (by decide)) (by rfl) T.g_l_mixed T.F_l_mixed.kp T.b_l_mixed .nil pass0 (pa_cons (pv 0) (pa_cons (pv 3) pa_nil))) po_none (po_some (pe_op op_mul pe_int (pv 1))))))
 pss_nil)
 (pss_cut (ps_if (pt_cmpR op_eq (pv 5) pe_int (nomark _))
 (pss_cons (ps_set (i := 6) sc_l_words.nd rfl (by first | exact Or.inl rfl | exact Or.inr rfl) (pe_call (ok_l_off T) (hr.mono (by decide)) (by rfl) T.g_l_off T.F_l_off.kp T.b_l_off .nil pass0 (pa_cons (pv 0) (pa_cons (pe_op op_mul pe_int (pv 1)) pa_nil))))
 (pss_cons (ps_set (i := 7) sc_l_words.nd rfl (by first | exact Or.inl rfl | exact Or.inr rfl) (pe_op op_mod (pe_op op_add (pe_op op_add (pv 6) pe_int) (pe_call (ok_l_off T) (hr.mono (by decide)) (by rfl) T.g_l_off T.F_l_off.kp T.b_l_off .nil pass0 (pa_cons (pv 0) (pa_cons (pe_op op_sub (pe_op op_mul pe_int (pv 1)) pe_int) pa_nil)))) (pe_op op_mul pe_int (pv 1))))
 (pss_one (ps_set (i := 4) sc_l_words.nd rfl (by first | exact Or.inl rfl | exact Or.inr rfl) (pe_lc (own := [("_law_k", 8)]) (g := gName 8) (by rfl) sc_l_words.nd (pi_range1 (by rfl) T.z_range (pa_cons (pe_op op_mul pe_int (pv 1)) pa_nil)) (blkOk_by (own := [("_law_k", 8)]) (N := ["_law_d", "_law_room", "_law_wide", "_law_every", "_law_words_here", "_law_kind", "_law_at", "_law_by", "_law_k", "_law_order", "_law_turn_here", "_law_found", "_law_word", "_law_marks", "_law_mark"]) (sc := defScope s_l_words) (by decide +kernel)) (fun _ _ _ _ _ => pg_name (i := 8) sc_l_words.nd rfl (Or.inl rfl)) (fun _ _ _ _ _ => pts_nil) (fun _ _ _ _ _ => (pe_ix (r := rIxL K) ix_list (pv 4) (pe_dget2 (hu_of hr) (pe_disp (pps_cons (pv 6) (pv 7) (pps_cons (pv 7) (pv 6) pps_nil)) (by rfl) (by rfl) (fun z => by cases z) (by decide)) (pv 8) (pv 8) ⟨rfl, rfl, rfl, rfl⟩) (fun _ _ => rfl))))))))
 pss_nil)
 (pss_cons (ps_set (i := 9) sc_l_words.nd rfl (by first | exact Or.inl rfl | exact Or.inr rfl) (pe_call (ok_l_mixed T) (hr.mono (by decide)) (by rfl) T.g_l_mixed T.F_l_mixed.kp T.b_l_mixed .nil pass0 (pa_cons (pv 0) (pa_cons (pe_listRg rfl (by rfl) T.z_list (prg_1 (by rfl) T.z_range (pv 2))) pa_nil))))
 (pss_cons (ps_set (i := 10) sc_l_words.nd rfl (by first | exact Or.inl rfl | exact Or.inr rfl) (pe_call (ok_l_off T) (hr.mono (by decide)) (by rfl) T.g_l_off T.F_l_off.kp T.b_l_off .nil pass0 (pa_cons (pv 0) (pa_cons pe_int pa_nil))))
 (pss_cons (ps_set (i := 11) sc_l_words.nd rfl (by first | exact Or.inl rfl | exact Or.inr rfl) (pe_lst pa_nil))
 (pss_cons (ps_for PassesOwn.never rfl (pi_list (pv 4)) (pg_name (i := 12) sc_l_words.nd rfl (by first | exact Or.inl rfl | exact Or.inr rfl))
 (pss_cons (ps_setLc (i := 13) (own := [("_law_k", 8)]) (g := gName 8) (by rfl) sc_l_words.nd rfl rfl (sw_true rfl rfl rfl (by decide +kernel)) (pi_range1 (by rfl) T.z_range (pa_cons (pv 2) pa_nil)) (blkOk_by (own := [("_law_k", 8)]) (N := ["_law_d", "_law_room", "_law_wide", "_law_every", "_law_words_here", "_law_kind", "_law_at", "_law_by", "_law_k", "_law_order", "_law_turn_here", "_law_found", "_law_word", "_law_marks", "_law_mark"]) (sc := defScope s_l_words) (by decide +kernel)) (fun _ _ _ _ _ => pg_name (i := 8) sc_l_words.nd rfl (Or.inl rfl)) (fun _ _ _ _ _ => pts_nil) (fun _ _ _ _ _ => (pe_op op_add (pe_callTy call_int_str (by rfl) T.z_int (by decide +kernel) (pa_cons (pe_ix ix_str (pv 12) (pe_ix (r := rIxL K) ix_list (pv 9) (pv 8) (fun _ _ => rfl)) (fun _ _ => rfl)) pa_nil)) (pe_op op_fdiv (pv 10) (pe_ix (r := rIxL K) ix_list (pe_lst (pa_cons pe_int (pa_cons pe_int (pa_cons pe_int (pa_cons pe_int pa_nil))))) (pv 8) (fun _ _ => rfl))))))
 (pss_one (ps_expr (pe_bm PySem.F.plainAttrs_list PySem.F.slot_list_append PySem.F.type_list_append mt_append (pv 11) (pa_cons (pe_join pe_str (pe_lc (own := [("_law_mark", 14)]) (g := gName 14) (by rfl) sc_l_words.nd (pi_list (pv 13)) (blkOk_by (own := [("_law_mark", 14)]) (N := ["_law_d", "_law_room", "_law_wide", "_law_every", "_law_words_here", "_law_kind", "_law_at", "_law_by", "_law_k", "_law_order", "_law_turn_here", "_law_found", "_law_word", "_law_marks", "_law_mark"]) (sc := defScope s_l_words) (by decide +kernel)) (fun _ _ _ _ _ => pg_name (i := 14) sc_l_words.nd rfl (Or.inl rfl)) (fun _ _ _ _ _ => pts_nil) (fun _ _ _ _ _ => (pe_callTy call_str_int (by rfl) T.z_str (by decide +kernel) (pa_cons (pe_op op_mod (pv 14) pe_int) pa_nil))))) pa_nil))))))
 (pss_one (ps_ret (pv 11)))))))))))))))), ?_⟩
    refine ⟨fun f σ H' => ∃ n : Nat, σ = [some (.ref d), some (.int (r : Int)), some (.int (n : Int)), none, none, none, none, none, none, none, none, none, none, none, none] ∧ Ex H H' ∧ 1 ≤ n ∧ n + f = 4, ⟨3, 1, rfl, Ex.refl _, by omega, by omega⟩, ?_⟩
    rintro f σ H1 ⟨n, rfl, e1, n1, hnf⟩
    refine ⟨small9 (by simp), fun l nl => ?_⟩
    have el := Ex.new (o := HO.lst [.int 1, .int 2, .int 4, .int 8, .int 16]) nl
    refine ⟨_, rfl, l, _, _, _, rfl, rfl, SqL.of upd_same, tab5 (by omega), _, rfl, _, _, rfl, rfl, .inl ⟨by decide, by decide⟩, _, _, rfl, rfl, _, rfl, ?_⟩
    have e1 := e1.trans el
    generalize upd H1 l (.lst [.int 1, .int 2, .int 4, .int 8, .int 16]) = H1 at e1 ⊢
    by_cases hlt : 2 ^ n < 2 * r
    · have hn4 : n < 4 := by
        rcases Nat.lt_or_ge n 4 with h | h
        · exact h
        · have : n = 4 := by omega
          subst this
          omega
      refine ifP (decide_eq_true (by exact_mod_cast hlt)) ⟨fun σ' H' => ∃ n : Nat, σ' = [some (.ref d), some (.int (r : Int)), some (.int (n : Int)), none, none, none, none, none, none, none, none, none, none, none, none] ∧ Ex H H' ∧ 1 ≤ n ∧ n + f = 5 ∧ 0 < f, fun σ' H' ⟨n', a1, a2, a3, a4, a5⟩ => ⟨f - 1, by omega, n', a1, a2, a3, by omega⟩, ?_⟩
      exact ⟨_, rfl, _, _, rfl, rfl, n + 1, rfl, e1, by omega, by omega, by omega⟩
    refine ifN (by simp; exact_mod_cast Nat.le_of_not_lt hlt) ?_
    have hd := hd.mono e1
    have e1 := Exd.of (d := d) e1
    -- wide
    refine ⟨_, rfl, _, rfl, d, 4, rfl, hd, by decide, by decide, fun x H2 x0 x1 e2 hd2 => ⟨rfl, .inr ⟨_, rfl, _, _, rfl, rfl, _, _, rfl, ?_⟩⟩⟩
    obtain ⟨m, hm, hm1, hm4⟩ : ∃ m : Nat, (if (n : Int) + (if decide (V.int x = V.int 0) = true then (1 : Int) else 0) < 4 then (n : Int) + (if decide (V.int x = V.int 0) = true then (1 : Int) else 0) else 4) = (m : Int) ∧ n ≤ m ∧ m ≤ 4 := by
      cases decide (V.int x = V.int 0) with
      | true =>
        by_cases h : (n : Int) + 1 < 4
        · exact ⟨n + 1, by simp [h], by omega, by omega⟩
        · exact ⟨4, by simp [h], by omega, by omega⟩
      | false =>
        by_cases h : (n : Int) < 4
        · exact ⟨n, by simp [h], by omega, by omega⟩
        · exact ⟨4, by simp [h], by omega, by omega⟩
    have hpow : 2 * r ≤ 2 ^ m := Nat.le_trans (Nat.le_of_not_lt hlt) (Nat.pow_le_pow_right (by decide) hm1)
    have h16 := pow16 hm4
    have ev : V.int (if (n : Int) + (if decide (V.int x = V.int 0) = true then (1 : Int) else 0) < 4 then (n : Int) + (if decide (V.int x = V.int 0) = true then (1 : Int) else 0) else 4) = .int (m : Int) := congrArg V.int hm
    dsimp only
    rw [ev]
    obtain ⟨ndg, ndp⟩ := nodup_gray hm4
    have lg : (grayW m).length = 2 ^ m := grayW_len m
    -- every
    refine ⟨_, rfl, m, rfl, hm4, fun ey H3 ney e3 hey => ?_⟩
    have hd := hd2.mono e3
    have neyH : H ey = none := e1.fresh (e2.fresh ney (hd2.neN ney)) (hd2.neN ney)
    have neyd := hd2.neN ney
    have e13 := (e1.trans e2).trans (Exd.of e3)
    -- words_here
    refine ⟨_, rfl, _, rfl, _, rfl, ey, _, rfl, SqL.of hey, fun s1 ns1 => ?_⟩
    have es1 := Ex.new (o := HO.lst (cutV ((grayW m).map wv) none (some (r : Int)))) ns1
    have ex : (((grayW m).map wv).length : Int) - (r : Int) = ((2 ^ m - r : Nat) : Int) := by
      rw [List.length_map, lg]
      omega
    refine ⟨_, rfl, _, rfl, ey, _, rfl, .inl (SqL.of (es1 _ _ hey)), _, rfl, _, _, rfl, rfl, _, rfl, ey, _, rfl, SqL.of (es1 _ _ hey), fun s2 ns2 => ?_⟩
    have es2 := es1.trans (Ex.new (o := HO.lst (cutV ((grayW m).map wv) (some ((((grayW m).map wv).length : Int) - (r : Int))) none)) ns2)
    refine ⟨s1, s2, _, _, rfl, rfl, (Ex.new ns2) _ _ upd_same, upd_same, ?_, fun p np => ?_⟩
    · rw [ex, cutTake, cutDrop, List.length_take, List.length_drop, List.length_map, lg]
      exact small9 (by omega)
    have es3 := es2.trans (Ex.new (o := HO.lst (cutV ((grayW m).map wv) none (some (r : Int)) ++ cutV ((grayW m).map wv) (some ((((grayW m).map wv).length : Int) - (r : Int))) none)) np)
    have w0 : WOk ((grayW m).take r ++ (grayW m).drop ((grayW m).length - r)) m r := wok_ends ndg (by omega) (grayW_wide m)
    have hp := upd_same (H := upd (upd H3 s1 (.lst (cutV ((grayW m).map wv) none (some (r : Int))))) s2 (.lst (cutV ((grayW m).map wv) (some ((((grayW m).map wv).length : Int) - (r : Int))) none))) (a := p) (o := HO.lst (cutV ((grayW m).map wv) none (some (r : Int)) ++ cutV ((grayW m).map wv) (some ((((grayW m).map wv).length : Int) - (r : Int))) none))
    have hey4 := es3 _ _ hey
    have hd4 := hd.mono es3
    have npd : p ≠ d := (hd.mono es2).neN np
    have npH : H p = none := e13.fresh (fresh_back es2 np) npd
    have e14 := e13.trans (Exd.of es3)
    generalize upd (upd (upd H3 s1 (.lst (cutV ((grayW m).map wv) none (some (r : Int))))) s2 (.lst (cutV ((grayW m).map wv) (some ((((grayW m).map wv).length : Int) - (r : Int))) none))) p (.lst (cutV ((grayW m).map wv) none (some (r : Int)) ++ cutV ((grayW m).map wv) (some ((((grayW m).map wv).length : Int) - (r : Int))) none)) = H4 at hp hey4 hd4 e14 ⊢
    rw [ex, cutTake, cutDrop, ← List.map_take, ← List.map_drop, ← List.map_append, ← lg] at hp
    generalize (grayW m).take r ++ (grayW m).drop ((grayW m).length - r) = ws at hp w0
    clear es1 es2 es3 e13 e3 hey hd hd2 e1 e2
    -- kind
    refine ⟨_, rfl, d, 4, rfl, hd4, by decide, by decide, fun kd H5 k0 k1 e5 hd5 => ?_⟩
    have hp := e5 _ _ hp npd
    have hey := e5 _ _ hey4 neyd
    have e15 := e14.trans e5
    clear e14 e5 hey4 hd4
    -- kind 1
    refine ⟨fun σ H' => ∃ p ws, σ = [some (.ref d), some (.int (r : Int)), some (.int (m : Int)), some (.ref ey), some (.ref p), some (.int kd), none, none, none, none, none, none, none, none, none] ∧ Exd d H H' ∧ Dice H' d ∧ H' ey = some (.lst ((grayW m).map wv)) ∧ p ≠ d ∧ H p = none ∧ H' p = some (.lst (ws.map wv)) ∧ WOk ws m r, ?_, ?_⟩
    · refine ⟨_, rfl, rfl, _, rfl, ite2 (fun _ => ?_) (fun _ => ⟨p, ws, rfl, e15, hd5, hey, npd, npH, hp, w0⟩)⟩
      refine ⟨_, rfl, m, rfl, hm4, fun l H6 nl e6 hl => ?_⟩
      refine ⟨_, rfl, _, _, rfl, rfl, .inl ⟨by decide, by decide⟩, _, rfl, l, _, rfl, SqL.of hl, fun p2 np2 => ?_⟩
      have n2 := (hd5.mono e6).neN np2
      have e7 := e6.trans (Ex.new (o := HO.lst (cutV ((plainW m).map wv) none (some (2 * (r : Int))))) np2)
      refine ⟨p2, (plainW m).take (2 * r), rfl, e15.trans (Exd.of e7), hd5.mono e7, e7 _ _ hey, n2, e15.fresh (fresh_back e6 np2) n2, ?_, wok_take ndp (by rw [plainW_len]; exact hpow) (plainW_wide m)⟩
      rw [upd_same, show 2 * (r : Int) = ((2 * r : Nat) : Int) by omega, cutTake, List.map_take]
    rintro σ H6 ⟨p, ws, rfl, e6, hd6, hey, npd, npH, hp, w0⟩
    -- kind 2
    refine ⟨fun σ H' => ∃ p ws, σ = [some (.ref d), some (.int (r : Int)), some (.int (m : Int)), some (.ref ey), some (.ref p), some (.int kd), none, none, none, none, none, none, none, none, none] ∧ Exd d H H' ∧ Dice H' d ∧ p ≠ d ∧ H p = none ∧ H' p = some (.lst (ws.map wv)) ∧ WOk ws m r, ?_, ?_⟩
    · refine ⟨_, rfl, rfl, _, rfl, ite2 (fun _ => ?_) (fun _ => ⟨p, ws, rfl, e6, hd6, npd, npH, hp, w0⟩)⟩
      refine ⟨_, rfl, _, rfl, d, ey, _, rfl, hd6, neyd, SqL.of hey, fun x hx => ?_, by rw [List.length_map, lg]; omega, fun l ys H7 nl e7 hd7 pm hl => ?_⟩
      · obtain ⟨u, _, rfl⟩ := List.mem_map.mp hx
        exact strOk_wd u
      obtain ⟨us, rfl, pu⟩ := perm_map_inv pm rfl
      refine ⟨_, rfl, _, _, rfl, rfl, .inl ⟨by decide, by decide⟩, _, rfl, l, _, rfl, SqL.of hl, fun p2 np2 => ?_⟩
      have n2 := hd7.neN np2
      have e8 := Ex.new (o := HO.lst (cutV (us.map wv) none (some (2 * (r : Int))))) np2
      refine ⟨p2, us.take (2 * r), rfl, (e6.trans e7).trans (Exd.of e8), hd7.mono e8, n2, (e6.trans e7).fresh np2 n2, ?_, wok_take (pu.nodup_iff.mpr ndg) (by rw [pu.length_eq, lg]; exact hpow) (fun w hw => grayW_wide m w (pu.mem_iff.mp hw))⟩
      rw [upd_same, show 2 * (r : Int) = ((2 * r : Nat) : Int) by omega, cutTake, List.map_take]
    rintro σ H7 ⟨p, ws, rfl, e7, hd7, npd, npH, hp, w0⟩
    -- kind 3
    refine ⟨fun σ H' => ∃ p ws y6 y7 y8, σ = [some (.ref d), some (.int (r : Int)), some (.int (m : Int)), some (.ref ey), some (.ref p), some (.int kd), y6, y7, y8, none, none, none, none, none, none] ∧ Exd d H H' ∧ Dice H' d ∧ p ≠ d ∧ H p = none ∧ H' p = some (.lst (ws.map wv)) ∧ WOk ws m r, ?_, ?_⟩
    · refine ⟨_, rfl, rfl, _, rfl, ite2 (fun _ => ?_) (fun _ => ⟨p, ws, _, _, _, rfl, e7, hd7, npd, npH, hp, w0⟩)⟩
      refine ⟨_, rfl, _, rfl, _, _, rfl, rfl, .inl ⟨by decide, by decide⟩, d, _, rfl, hd7, by omega, by omega, fun x1 H8 x10 x11 e8 hd8 => ?_⟩
      refine ⟨_, rfl, _, _, rfl, rfl, _, rfl, _, rfl, _, _, rfl, rfl, .inl ⟨by decide, by decide⟩, _, _, rfl, rfl, d, _, rfl, hd8, by omega, by omega, fun x2 H9 x20 x21 e9 hd9 => ?_⟩
      refine ⟨_, _, rfl, rfl, _, rfl, _, _, rfl, rfl, .inl ⟨by decide, by decide⟩, _, _, rfl, rfl, by show (0 : Int) < 2 * (r : Int); omega, ?_⟩
      obtain ⟨a, rfl⟩ : ∃ a : Nat, x1 = (a : Int) := ⟨x1.toNat, by omega⟩
      obtain ⟨b, hb, hb2⟩ : ∃ b : Nat, ((a : Int) + 1 + x2) % (2 * (r : Int)) = (b : Int) ∧ b < 2 * r := by
        have h1 := Int.emod_nonneg ((a : Int) + 1 + x2) (show (2 * (r : Int)) ≠ 0 by omega)
        have h2 := Int.emod_lt_of_pos ((a : Int) + 1 + x2) (show (0 : Int) < 2 * (r : Int) by omega)
        exact ⟨(((a : Int) + 1 + x2) % (2 * (r : Int))).toNat, by omega, by omega⟩
      have ha2 : a < 2 * r := by omega
      have hab : a ≠ b := by
        intro e
        rw [emod_two (by omega) (by omega)] at hb
        split at hb <;> omega
      dsimp only
      rw [hb]
      have hp9 := e9 _ _ (e8 _ _ hp npd) npd
      have e79 := (e7.trans e8).trans e9
      refine ⟨_, rfl, _, _, rfl, rfl, .inl ⟨by decide, by decide⟩, _, rfl, by omega, by omega, fun D nD => lcR (2 * r) (fun k => wv (ws.getD (swapN a b k) [])) (by omega) (by omega) nD (fun _ => rfl) (fun k hk H10 e10 Y hY => ?_) (fun H10 e10 h10 => ?_)⟩
      · have hsw := swapN_lt ha2 hb2 hk
        refine ⟨_, rfl, fun dp ndp => ⟨_, rfl, _, rfl, _, rfl, _, rfl, upd_same, [((Sum.inl (a : Int) : Key), V.int (b : Int)), (Sum.inl (b : Int), V.int (a : Int))], rfl, by simp, dp, rfl, .inl ⟨_, .inl upd_same⟩, _, rfl, _, rfl, _, DGet.k (k := Sum.inl (k : Int)) upd_same, p, _, ((swapN a b k : Nat) : Int), wv (ws.getD (swapN a b k) []), rfl, swap_val hab k, ?_, atI_nat (getDW (by rw [w0.len]; exact hsw)), ?_⟩⟩
        · have := ((Ex.refl H10).mut (o := HO.dK []) ndp)
          exact SqL.of (((Ex.mut (Ex.new (o := HO.dK []) ndp) ndp) _ _ (e10 _ _ hp9)))
        · exact hY _ (Ex.mut (Ex.new (o := HO.dK []) ndp) ndp)
      · have nDd := hd9.neN nD
        refine ⟨D, (List.range (2 * r)).map fun k => ws.getD (swapN a b k) [], _, _, _, rfl, e79.trans (Exd.of e10), hd9.mono e10, nDd, e79.fresh nD nDd, ?_, wok_swap w0 ha2 hb2⟩
        rw [h10, List.map_map]
        rfl
    rintro σ H8 ⟨p, ws, y6, y7, y8, rfl, e8, hd8, npd, npH, hp, w0⟩
    -- order, turn
    refine ⟨_, rfl, _, rfl, _, rfl, RgOk.of_le (by omega) (by omega) (by omega) (by omega), fun l nl => ?_⟩
    have el := Ex.new (o := HO.lst (rgV 0 (m : Int))) nl
    have nld := hd8.neN nl
    have erg : rgV 0 (m : Int) = (List.range m).map fun i : Nat => V.int (0 + (i : Nat)) := by
      unfold rgV
      rw [show ((m : Int) - 0).toNat = m by omega]
    refine ⟨d, l, _, rfl, hd8.mono el, nld, SqL.of upd_same, fun x hx => ?_, by rw [erg, List.length_map, List.length_range]; omega, fun po ys H9 npo e9 hd9 pm hpo => ?_⟩
    · rw [erg] at hx
      obtain ⟨u, _, rfl⟩ := List.mem_map.mp hx
      trivial
    rw [erg] at pm
    obtain ⟨os, rfl, pos⟩ := perm_map_inv pm rfl
    have hol : os.length = m := by rw [pos.length_eq, List.length_range]
    have npod : po ≠ d := by
      intro e
      subst e
      obtain ⟨_, _, _, h1, _⟩ := hd8
      rw [el _ _ h1] at npo
      cases npo
    have hp9 := e9 _ _ (el _ _ hp) npd
    have e89 := (e8.trans (Exd.of el)).trans e9
    have npoH : H po = none := e8.fresh (fresh_back el npo) npod
    have npop : p ≠ po := ne_of_none (el _ _ hp) npo
    refine ⟨_, rfl, d, 16, rfl, hd9, by decide, by decide, fun t0 H10 t00 t01 e10 hd10 => ?_⟩
    obtain ⟨t, rfl⟩ : ∃ t : Nat, t0 = (t : Int) := ⟨t0.toNat, by omega⟩
    have hp10 := e10 _ _ hp9 npd
    have hpo10 := e10 _ _ hpo npod
    have e810 := e89.trans e10
    refine ⟨small9 (by simp), fun fo nfo => ?_⟩
    have efo := Ex.new (o := HO.lst []) nfo
    have nfod := hd10.neN nfo
    have nfoH : H fo = none := e810.fresh nfo nfod
    have nfop : p ≠ fo := ne_of_none hp10 nfo
    have nfopo : po ≠ fo := ne_of_none hpo10 nfo
    refine ⟨_, rfl, p, rfl, ⟨_, SqL.of (efo _ _ hp10)⟩, ?_⟩
    refine for_list (K := K) (a := p) (xs := ws.map wv) (fun i σ H' => ∃ y8 y12 y13 y14, σ = [some (.ref d), some (.int (r : Int)), some (.int (m : Int)), some (.ref ey), some (.ref p), some (.int kd), y6, y7, y8, some (.ref po), some (.int (t : Int)), some (.ref fo), y12, y13, y14] ∧ Exd d H H' ∧ Dice H' d ∧ H' p = some (.lst (ws.map wv)) ∧ H' po = some (.lst (os.map fun i : Nat => V.int (0 + (i : Nat)))) ∧ H' fo = some (.lst (((ws.take i).map (newW m t os)).map wv)))
      ⟨_, _, _, _, rfl, e810.trans (Exd.of efo), hd10.mono efo, efo _ _ hp10, efo _ _ hpo10, upd_same⟩ (fun i σ H' _ ⟨_, _, _, _, _, _, _, h, _⟩ => SqL.of h) ?_ ?_
    · rintro i x σ H11 hi ⟨y8, y12, y13, y14, rfl, e11, hd11, hp11, hpo11, hfo11⟩
      obtain ⟨u, hu, rfl⟩ : ∃ u, ws[i]? = some u ∧ wv u = x := by
        rw [List.getElem?_map] at hi
        cases e : ws[i]? with
        | none => rw [e] at hi; cases hi
        | some y => rw [e] at hi; exact ⟨y, rfl, Option.some.inj hi⟩
      have hul : u.length = m := w0.wide u (List.mem_of_getElem? hu)
      have hil : i < ws.length := (List.getElem?_eq_some_iff.mp hu).1
      have hwl := w0.len
      -- marks
      refine ⟨_, rfl, _, rfl, lo62 _, hi62 (by omega), fun D nD => lcR m (fun k => V.int ((if u.getD (os.getD k 0) false then 1 else 0 : Int) + (t : Int) / ((2 ^ k : Nat) : Int))) rfl (by omega) nD (fun _ => rfl) (fun k hk H12 e12 Y hY => ?_) (fun H12 e12 h12 => ?_)⟩
      · have hok : os.getD k 0 < m := by
          have h1 : os.getD k 0 ∈ os := by
            rw [List.getD_eq_getElem?_getD, List.getElem?_eq_getElem (by omega)]
            exact List.getElem_mem _
          exact List.mem_range.mp (pos.mem_iff.mp h1)
        have hat : (os.map fun i : Nat => V.int (0 + (i : Nat)))[k]? = some (V.int ((os.getD k 0 : Nat) : Int)) := by
          rw [List.getElem?_map, List.getD_eq_getElem?_getD, List.getElem?_eq_getElem (by omega)]
          show some (V.int (0 + _)) = some (V.int _)
          rw [Int.zero_add]
          rfl
        refine ⟨_, rfl, _, rfl, _, rfl, po, _, _, V.int ((os.getD k 0 : Nat) : Int), rfl, rfl, SqL.of (e12 _ _ hpo11), atI_nat hat, wd u, _, bit (u.getD (os.getD k 0) false), rfl, rfl, small9 (by rw [wd_len]; omega), atW rfl (by omega), ⟨#[bit (u.getD (os.getD k 0) false)]⟩, _, rfl, int_sgn _, by show 1 ≤ 640; decide, _, rfl, small9 (by simp), fun tb ntb => ?_⟩
        have h2k : 2 ^ k ≤ 16 := pow16 (by omega)
        have h2k0 : 0 < 2 ^ k := Nat.two_pow_pos k
        refine ⟨_, rfl, tb, _, _, _, rfl, rfl, SqL.of upd_same, tab4 (by omega), _, _, rfl, rfl, ⟨by omega, by omega⟩, _, _, rfl, rfl, ?_⟩
        exact hY _ (Ex.new ntb)
      -- joined
      have e1112 := e11.trans (Exd.of e12)
      refine ⟨_, rfl, .inl ⟨rfl, _, SqL.of (e12 _ _ hfo11)⟩, ⟨_, rfl⟩, _, rfl, D, rfl, ⟨_, SqL.of h12⟩, fun D2 nD2 => lcM (List.range m) (fun k => V.int ((if u.getD (os.getD k 0) false then 1 else 0 : Int) + (t : Int) / ((2 ^ k : Nat) : Int))) (fun k => wv [(u.getD (os.getD k 0) false != (t / 2 ^ k % 2 == 1))]) (SqL.of h12) (by rw [List.length_range]; omega) nD2 (fun _ => rfl) (fun k hk H13 e13 Y hY => ?_) (fun H13 e13 h13 => ?_)⟩
      · refine ⟨_, rfl, _, _, rfl, rfl, (by decide : (0 : Int) < 2), _, rfl, ?_, ?_⟩
        · have h1 := Int.emod_nonneg ((if u.getD (os.getD k 0) false then 1 else 0 : Int) + (t : Int) / ((2 ^ k : Nat) : Int)) (show (2 : Int) ≠ 0 by decide)
          have h2 := Int.emod_lt_of_pos ((if u.getD (os.getD k 0) false then 1 else 0 : Int) + (t : Int) / ((2 ^ k : Nat) : Int)) (show (0 : Int) < 2 by decide)
          have : (((if u.getD (os.getD k 0) false then 1 else 0 : Int) + (t : Int) / ((2 ^ k : Nat) : Int)) % 2).natAbs < 2 := by omega
          rcases (show _ = 0 ∨ _ = 1 by omega : (((if u.getD (os.getD k 0) false then 1 else 0 : Int) + (t : Int) / ((2 ^ k : Nat) : Int)) % 2).natAbs = 0 ∨ (((if u.getD (os.getD k 0) false then 1 else 0 : Int) + (t : Int) / ((2 ^ k : Nat) : Int)) % 2).natAbs = 1) with e | e <;> rw [e] <;> decide
        · rw [str_sgn, mark_bit]
          exact hY _ (Ex.refl _)
      · refine ⟨"", D2, (newW m t os u).map (fun b => wd [b]), rfl, rfl, .inl (SqL.of ?_), ?_, ?_⟩
        · rw [h13, newW, List.map_map, List.map_map]
          rfl
        · have h1 := sz_words (l := (newW m t os u).map fun b => [b]) (n := 1) (fun w hw => by obtain ⟨b, _, rfl⟩ := List.mem_map.mp hw; exact Nat.le_refl _)
          simp only [List.map_map, List.length_map, Function.comp_def] at *
          have : (newW m t os u).length = m := by simp [newW]
          rw [strE, wd_len]
          simp at *
          omega
        · rw [strE, joinB]
          have e123 := e12.trans e13
          refine ⟨fo, _, _, rfl, rfl, e123 _ _ hfo11, ?_, _, _, _, _, rfl, (e11.trans (Exd.of e123)).mut nfoH, (hd11.mono e123).upd nfod.symm, ?_, ?_, ?_⟩
          · rw [List.length_map, List.length_map, List.length_take]
            exact small1000 (by omega)
          · rw [upd_ne nfop]
            exact e123 _ _ hp11
          · rw [upd_ne nfopo]
            exact e123 _ _ hpo11
          · rw [upd_same, List.take_add_one, hu]
            simp
    · rintro σ H11 ⟨y8, y12, y13, y14, rfl, e11, hd11, hp11, hpo11, hfo11⟩
      rw [List.length_map, List.take_length] at hfo11
      exact ⟨_, rfl, q fo _ m H11 nfoH nfod e11 hd11 (wok_new w0 pos) (by omega) hm4 hfo11⟩
/-! ### the law's own lane -/
def LK (pl : Addr) (c : Co) (n : Nat) (f : V) : List (Key × V) :=
  [(.inr "put", .int (c.put : Int)), (.inr "got", .int (c.got : Int)), (.inr "seen_put", .int (c.sp : Int)), (.inr "seen_got", .int (c.sg : Int)), (.inr "letters", .ref pl), (.inr "next", .int (n : Int)), (.inr "over", f)]
section
variable {H : Hp} {d : Addr} {pl : Addr} {c : Co} {n : Nat} {f : V}
theorem lk_put (h : H d = some (.dK (LK pl c n f))) : DGet H d (.str "put") (some (.int (c.put : Int))) := DGet.k (k := .inr "put") h
theorem lk_got (h : H d = some (.dK (LK pl c n f))) : DGet H d (.str "got") (some (.int (c.got : Int))) := DGet.k (k := .inr "got") h
theorem lk_sp (h : H d = some (.dK (LK pl c n f))) : DGet H d (.str "seen_put") (some (.int (c.sp : Int))) := DGet.k (k := .inr "seen_put") h
theorem lk_sg (h : H d = some (.dK (LK pl c n f))) : DGet H d (.str "seen_got") (some (.int (c.sg : Int))) := DGet.k (k := .inr "seen_got") h
theorem lk_letters (h : H d = some (.dK (LK pl c n f))) : DGet H d (.str "letters") (some (.ref pl)) := DGet.k (k := .inr "letters") h
theorem lk_next (h : H d = some (.dK (LK pl c n f))) : DGet H d (.str "next") (some (.int (n : Int))) := DGet.k (k := .inr "next") h
theorem lk_over (h : H d = some (.dK (LK pl c n f))) : DGet H d (.str "over") (some f) := DGet.k (k := .inr "over") h
theorem lk_len : (LK pl c n f).length < sizeLine := small1000 (by simp [LK])
theorem ls_put {z : Nat} (h : H d = some (.dK (LK pl c n f))) : DPut H d (.str "put") (.int (z : Int)) (upd H d (.dK (LK pl { c with put := z } n f))) := DPut.k (k := .inr "put") h lk_len
theorem ls_got {z : Nat} (h : H d = some (.dK (LK pl c n f))) : DPut H d (.str "got") (.int (z : Int)) (upd H d (.dK (LK pl { c with got := z } n f))) := DPut.k (k := .inr "got") h lk_len
theorem ls_sp {z : Nat} (h : H d = some (.dK (LK pl c n f))) : DPut H d (.str "seen_put") (.int (z : Int)) (upd H d (.dK (LK pl { c with sp := z } n f))) := DPut.k (k := .inr "seen_put") h lk_len
theorem ls_sg {z : Nat} (h : H d = some (.dK (LK pl c n f))) : DPut H d (.str "seen_got") (.int (z : Int)) (upd H d (.dK (LK pl { c with sg := z } n f))) := DPut.k (k := .inr "seen_got") h lk_len
theorem ls_letters {z : Addr} (h : H d = some (.dK (LK pl c n f))) : DPut H d (.str "letters") (.ref z) (upd H d (.dK (LK z c n f))) := DPut.k (k := .inr "letters") h lk_len
theorem ls_next {z : Nat} (h : H d = some (.dK (LK pl c n f))) : DPut H d (.str "next") (.int (z : Int)) (upd H d (.dK (LK pl c z f))) := DPut.k (k := .inr "next") h lk_len
theorem ls_over {z : V} (h : H d = some (.dK (LK pl c n f))) : DPut H d (.str "over") z (upd H d (.dK (LK pl c n z))) := DPut.k (k := .inr "over") h lk_len
end
structure LS where
  c : Co
  n : Nat
  ls : List Nat
  f : V
def lLet (r : Nat) (c : Co) (n : Nat) (ls : List Nat) (e : Ev) : List Nat :=
  match movs r c e with
  | some true => ls ++ [n]
  | some false => ls.tail
  | none => ls
def lAns (r : Nat) (c : Co) (n : Nat) (ls : List Nat) (e : Ev) : V :=
  match movs r c e with
  | some true => .int (n : Int)
  | some false => .int ((ls.headD 0 : Nat) : Int)
  | none => fltV (flt r c e)
def lstep (r : Nat) (ws : List (List Bool)) (s : LS) (e : Ev) : LS := ⟨cst r ws s.c e, pMany r s.c s.n e, lLet r s.c s.n s.ls e, pFlt r s.c s.f e⟩
def lans (r : Nat) (s : LS) (e : Ev) : V := lAns r s.c s.n s.ls e
def lEnd (r : Nat) (ws : List (List Bool)) : LS → List Ev → LS
  | s, [] => s
  | s, e :: es => lEnd r ws (lstep r ws s e) es
def lTold (r : Nat) (ws : List (List Bool)) : LS → List Ev → List V
  | _, [] => []
  | s, e :: es => lans r s e :: lTold r ws (lstep r ws s e) es
def ls0 : LS := ⟨⟨0, 0, 0, 0⟩, 0, [], .non⟩
theorem lTold_len (r : Nat) (ws : List (List Bool)) : ∀ (es : List Ev) (s : LS), (lTold r ws s es).length = es.length
  | [], _ => rfl
  | e :: es, s => congrArg (· + 1) (lTold_len r ws es (lstep r ws s e))
theorem lTold_app (r : Nat) (ws : List (List Bool)) : ∀ (es fs : List Ev) (s : LS), lTold r ws s (es ++ fs) = lTold r ws s es ++ lTold r ws (lEnd r ws s es) fs
  | [], _, _ => rfl
  | e :: es, fs, s => congrArg (lans r s e :: ·) (lTold_app r ws es fs (lstep r ws s e))
theorem lEnd_app (r : Nat) (ws : List (List Bool)) : ∀ (es fs : List Ev) (s : LS), lEnd r ws s (es ++ fs) = lEnd r ws (lEnd r ws s es) fs
  | [], _, _ => rfl
  | e :: es, fs, s => lEnd_app r ws es fs (lstep r ws s e)
/-- as many letters as stand inside -/
def Ins (r : Nat) (c : Co) (k : Nat) : Prop := insd r c = (k : Int) ∧ k ≤ r
theorem ins_sees {r : Nat} {ws : List (List Bool)} {c : Co} {p : Bool} {o : Option (List Bool)} {k : Nat} (h : Ins r c k) : Ins r (sees ws p o c) k := by
  have h1 : (sees ws p o c).put = c.put ∧ (sees ws p o c).got = c.got := by
    unfold sees
    cases o with
    | none => exact ⟨rfl, rfl⟩
    | some w =>
      by_cases hm : w ∈ ws
      · simp only [if_pos hm]
        cases p <;> exact ⟨rfl, rfl⟩
      · simp only [if_neg hm]
        exact ⟨trivial, trivial⟩
  unfold Ins insd at *
  rw [h1.1, h1.2]
  exact h
theorem r_cases {r : Nat} (h1 : 1 ≤ r) (h6 : r ≤ 6) : r = 1 ∨ r = 2 ∨ r = 3 ∨ r = 4 ∨ r = 5 ∨ r = 6 := by omega
theorem ins_put {r : Nat} {c : Co} {k : Nat} (h1 : 1 ≤ r) (h6 : r ≤ 6) (h : Ins r c k) (hb : bad r c true = false) : Ins r (adv r c true) (k + 1) := by
  have hb : ¬ insd r c = r := by simpa [bad] using hb
  unfold Ins insd at *
  show (((nxt r c.put : Nat) : Int) - (c.got : Int)) % (2 * r) = _ ∧ _
  unfold nxt
  rcases r_cases h1 h6 with rfl | rfl | rfl | rfl | rfl | rfl <;> omega
theorem ins_get {r : Nat} {c : Co} {k : Nat} (h1 : 1 ≤ r) (h6 : r ≤ 6) (h : Ins r c k) (hb : bad r c false = false) : Ins r (adv r c false) (k - 1) ∧ 1 ≤ k := by
  have hb : ¬ insd r c = 0 := by simpa [bad] using hb
  unfold Ins insd at *
  show ((((c.put : Nat) : Int) - ((nxt r c.got : Nat) : Int)) % (2 * r) = _ ∧ _) ∧ _
  unfold nxt
  rcases r_cases h1 h6 with rfl | rfl | rfl | rfl | rfl | rfl <;> omega
theorem ins_step {r : Nat} {ws : List (List Bool)} {c : Co} {n : Nat} {ls : List Nat} (h1 : 1 ≤ r) (h6 : r ≤ 6) (h : Ins r c ls.length) (e : Ev) : Ins r (cst r ws c e) (lLet r c n ls e).length := by
  unfold lLet
  cases e with
  | look w => cases w <;> exact h
  | tp p o =>
    cases hg : goes r c p with
    | false =>
      rw [cst_stay hg, movs_stay hg]
      exact ins_sees h
    | true =>
      cases hb : bad r c p with
      | true =>
        rw [cst_bad hg hb, movs_bad hb]
        exact h
      | false =>
        rw [cst_go hg hb, movs_go hg hb]
        refine ins_sees ?_
        cases p with
        | true =>
          rw [List.length_append]
          exact ins_put h1 h6 h hb
        | false =>
          rw [List.length_tail]
          exact (ins_get h1 h6 h hb).1
def Rel (r : Nat) (s : LS) (p : PS) : Prop := s.c = p.c ∧ s.n = p.m ∧ s.f = p.f ∧ p.bx.length = r ∧ ∀ i, i < s.ls.length → p.bx[(s.c.got + i) % r]? = some (.int ((s.ls.getD i 0 : Nat) : Int))
theorem sees_got {ws : List (List Bool)} {c : Co} {p : Bool} {o : Option (List Bool)} : (sees ws p o c).got = c.got := by
  unfold sees
  cases o with
  | none => rfl
  | some w =>
    by_cases hm : w ∈ ws
    · simp only [if_pos hm]
      cases p <;> rfl
    · simp only [if_neg hm]
theorem rel_step {r : Nat} {ws : List (List Bool)} {s : LS} {p : PS} (h1 : 1 ≤ r) (h6 : r ≤ 6) (hi : Ins r s.c s.ls.length) (h : Rel r s p) (e : Ev) : Rel r (lstep r ws s e) (pstep r ws p e) ∧ lans r s e = pans r p e := by
  obtain ⟨sc, sn, sl, sf⟩ := s
  obtain ⟨pc, pm, pb, pf⟩ := p
  obtain ⟨e1, e2, e3, hl, hb⟩ := h
  dsimp only at e1 e2 e3 hl hb hi
  subst e1 e2 e3
  unfold lstep pstep lans pans Rel lLet lAns pAns pBox
  dsimp only
  cases e with
  | look w =>
    cases w <;> exact ⟨⟨rfl, rfl, rfl, hl, hb⟩, rfl⟩
  | tp q o =>
    cases hg : goes r sc q with
    | false =>
      rw [cst_stay hg, movs_stay hg]
      refine ⟨⟨rfl, rfl, rfl, hl, ?_⟩, rfl⟩
      rw [sees_got]
      exact hb
    | true =>
      cases hbd : bad r sc q with
      | true =>
        rw [cst_bad hg hbd, movs_bad hbd]
        exact ⟨⟨rfl, rfl, rfl, hl, hb⟩, rfl⟩
      | false =>
        rw [cst_go hg hbd, movs_go hg hbd]
        cases q with
        | true =>
          refine ⟨⟨rfl, rfl, rfl, by rw [if_pos rfl, List.length_set]; exact hl, fun i hi2 => ?_⟩, rfl⟩
          have hi2 : i < (sl ++ [sn]).length := hi2
          show (if some true = some true then pb.set (sc.put % r) (.int (sn : Int)) else pb)[((sees ws true o (adv r sc true)).got + i) % r]? = some (.int (((sl ++ [sn]).getD i 0 : Nat) : Int))
          rw [sees_got, if_pos rfl]
          show (pb.set (sc.put % r) (.int (sn : Int)))[(sc.got + i) % r]? = _
          rw [List.length_append] at hi2
          have hi2 : i < sl.length + 1 := hi2
          have hbd' : ¬ insd r sc = r := by simpa [bad] using hbd
          unfold Ins insd at hi
          unfold insd at hbd'
          by_cases hlast : i = sl.length
          · have hpos : (sc.got + i) % r = sc.put % r := by
              subst hlast
              generalize sl.length = k at *
              rcases r_cases h1 h6 with h | h | h | h | h | h <;> subst h <;> omega
            rw [hpos, List.getElem?_set_self (by rw [hl]; exact Nat.mod_lt _ h1), hlast]
            simp
          · have hne : ¬ (sc.put % r = (sc.got + i) % r) := by
              have : i < sl.length := by omega
              generalize sl.length = k at *
              rcases r_cases h1 h6 with h | h | h | h | h | h <;> subst h <;> omega
            rw [List.getElem?_set_ne hne, hb i (by omega)]
            simp [List.getD_eq_getElem?_getD, List.getElem?_append_left (show i < sl.length by omega)]
        | false =>
          obtain ⟨_, hk⟩ := ins_get h1 h6 hi hbd
          match sl, hk with
          | y :: ys, _ =>
            refine ⟨⟨rfl, rfl, rfl, hl, fun i hi2 => ?_⟩, ?_⟩
            · have hi2 : i < ys.length := hi2
              show (if some false = some true then _ else pb)[((sees ws false o (adv r sc false)).got + i) % r]? = some (.int ((ys.getD i 0 : Nat) : Int))
              rw [sees_got, if_neg (by decide)]
              show pb[(nxt r sc.got + i) % r]? = _
              have hpos : (nxt r sc.got + i) % r = (sc.got + (i + 1)) % r := by
                unfold nxt
                rcases r_cases h1 h6 with h | h | h | h | h | h <;> subst h <;> omega
              rw [hpos, hb (i + 1) (by simpa using hi2)]
              simp
            · show V.int (y : Int) = pb.getD (sc.got % r) .non
              have := hb 0 (by simp)
              rw [Nat.add_zero] at this
              rw [List.getD_eq_getElem?_getD, this]
              simp
theorem told_eq {r : Nat} {ws : List (List Bool)} (h1 : 1 ≤ r) (h6 : r ≤ 6) : ∀ (es : List Ev) (s : LS) (p : PS), Ins r s.c s.ls.length → Rel r s p → lTold r ws s es = pTold r ws p es
  | [], _, _, _, _ => rfl
  | e :: es, s, p, hi, hr => by
    obtain ⟨h2, h3⟩ := rel_step (ws := ws) h1 h6 hi hr e
    show lans r s e :: lTold r ws (lstep r ws s e) es = pans r p e :: pTold r ws (pstep r ws p e) es
    rw [h3, told_eq h1 h6 es _ _ (ins_step h1 h6 hi e) h2]
theorem rel0 (r : Nat) : Rel r ls0 (ps0 r) := ⟨rfl, rfl, rfl, List.length_replicate, fun i h => absurd h (Nat.not_lt_zero _)⟩
theorem ins0 (r : Nat) : Ins r ls0.c ls0.ls.length := ⟨by show ((0 : Int) - 0) % (2 * r) = 0; simp, Nat.zero_le _⟩
theorem told0 {r : Nat} {ws : List (List Bool)} (h1 : 1 ≤ r) (h6 : r ≤ 6) (es : List Ev) : lTold r ws ls0 es = pTold r ws (ps0 r) es := told_eq h1 h6 es _ _ (ins0 r) (rel0 r)
/-- what the law tells of a get -/
theorem lans_ok (r : Nat) (s : LS) (e : Ev) : (lans r s e = .non ∨ lans r s e = fltV (flt r s.c e) ∨ ∃ k : Int, lans r s e = .int k) := by
  unfold lans lAns
  cases movs r s.c e with
  | none => exact .inr (.inl rfl)
  | some p => cases p <;> exact .inr (.inr ⟨_, rfl⟩)
theorem flt_get {r : Nat} {c : Co} {e : Ev} (h : isGet e = true) : flt r c e = none ∨ flt r c e = some false := by
  cases e with
  | look w => cases h
  | tp p o =>
    cases p with
    | true => cases h
    | false =>
      show (if _ then some false else none) = none ∨ (if _ then some false else none) = some false
      split
      · exact .inr rfl
      · exact .inl rfl
theorem getOk_told (r : Nat) (ws : List (List Bool)) : ∀ (es : List Ev) (s : LS), GetOk es (lTold r ws s es)
  | [], _, i, hi, _ => absurd hi (Nat.not_lt_zero _)
  | e :: es, s, 0, _, hg => by
    show lans r s e = .non ∨ lans r s e = .str "under" ∨ ∃ k : Int, lans r s e = .int k
    rcases lans_ok r s e with h | h | h
    · exact .inl h
    · rcases flt_get (r := r) (c := s.c) (e := e) hg with h2 | h2
      · exact .inl (by rw [h, h2]; rfl)
      · exact .inr (.inl (by rw [h, h2]; rfl))
    · exact .inr (.inr h)
  | e :: es, s, i + 1, hi, hg => getOk_told r ws es (lstep r ws s e) i (Nat.lt_of_succ_lt_succ hi) hg
theorem vrun_snoc {r : Nat} {ws : List (List Bool)} : ∀ {es : List Ev} {c : Co} {s : LS} {e : Ev}, s.c = c → VRun r ws c es → fEnd r ws c es = false → e ∈ canE r ws (lEnd r ws s es).c → VRun r ws c (es ++ [e]) ∧ fEnd r ws c (es ++ [e]) = (flt r (lEnd r ws s es).c e).isSome
  | [], c, s, e, hs, _, _, h => by
    subst hs
    refine ⟨⟨h, fun _ => rfl, trivial⟩, ?_⟩
    show (_ || false) = _
    rw [Bool.or_false]
    rfl
  | x :: es, c, s, e, hs, hv, hf, h => by
    subst hs
    have hf : ((flt r s.c x).isSome || fEnd r ws (cst r ws s.c x) es) = false := hf
    rw [Bool.or_eq_false_iff] at hf
    obtain ⟨g1, g2⟩ := vrun_snoc (s := lstep r ws s x) rfl hv.2.2 hf.2 h
    refine ⟨⟨hv.1, fun hn => ?_, g1⟩, ?_⟩
    · have := hf.1
      cases hx : flt r s.c x with
      | none => exact absurd hx hn
      | some y => rw [hx] at this; cases this
    · show ((flt r s.c x).isSome || fEnd r ws (cst r ws s.c x) (es ++ [e])) = _
      rw [hf.1, Bool.false_or]
      exact g2
/-- the events as they stand in a heap -/
def EvL (H : Hp) (vs : List V) (evs : List Ev) : Prop := Paired (fun v e => ∃ t, v = .ref t ∧ H t = some (.tup (evV e))) vs evs
theorem EvL.mono {H H' : Hp} {vs : List V} {evs : List Ev} (x : Ex H H') (h : EvL H vs evs) : EvL H' vs evs := paired_imp (fun v e ⟨t, h1, h2⟩ => ⟨t, h1, x _ _ h2⟩) h
theorem paired_app {α β : Type} {R : α → β → Prop} : ∀ {xs : List α} {ys : List β} {as : List α} {bs : List β}, Paired R xs ys → Paired R as bs → Paired R (xs ++ as) (ys ++ bs)
  | _, _, _, _, .nil, h => h
  | _, _, _, _, .cons r t, h => .cons r (paired_app t h)
theorem EvL.len {H : Hp} {vs : List V} {evs : List Ev} (h : EvL H vs evs) : vs.length = evs.length := paired_len h
/-- a list is changed: the tuples stay -/
theorem EvL.upd {H : Hp} {vs : List V} {evs : List Ev} {p : Addr} {ys : List V} {o : HO} (hp : H p = some (.lst ys)) (h : EvL H vs evs) : EvL (L2.upd H p o) vs evs := paired_imp (fun v e ⟨t, h1, h2⟩ => ⟨t, h1, by
  rw [upd_ne (by rintro rfl; rw [hp] at h2; cases h2)]
  exact h2⟩) h
/-- a dict or the dice are changed -/
theorem EvL.updD {H H' : Hp} {vs : List V} {evs : List Ev} {d : Addr} (hd : ∀ xs, H d ≠ some (.tup xs)) (e : Exd d H H') (h : EvL H vs evs) : EvL H' vs evs := paired_imp (fun v x ⟨t, h1, h2⟩ => ⟨t, h1, e _ _ h2 (by rintro rfl; exact hd _ h2)⟩) h
theorem EvL.at {H : Hp} {vs : List V} {evs : List Ev} {i : Nat} (h : EvL H vs evs) (hi : i < evs.length) : ∃ t e, vs[i]? = some (.ref t) ∧ evs[i]? = some e ∧ H t = some (.tup (evV e)) := by
  obtain ⟨x, y, h1, h2, t, rfl, h3⟩ := paired_at h hi
  exact ⟨t, y, h1, h2, h3⟩
section
variable {K : PySem.W.Frag}
/-- a comprehension that makes events -/
theorem lcE {α : Type} {a : Addr} (l : List α) (ev : α → V) (g : α → Ev) {j : Nat} {te : TE} {vs : List Nat} {σ : L2.St} {H1 : Hp} {D : Addr} {Qd : Hp → Prop}
    (hx : SqL K H1 a (l.map ev)) (hz : l.length ≤ 1000) (hD : H1 D = none) (hw : ∀ x, wipe ((wipe σ vs).set j (some x)) vs = wipe σ vs)
    (hs : ∀ x ∈ l, ∀ H, Ex H1 H → ∀ (Y : VK), (∀ t H2, H t = none → Ex H H2 → H2 t = some (.tup (evV (g x))) → Y (.ref t) H2) → te ((wipe σ vs).set j (some (ev x))) H Y)
    (hd : ∀ H2 ys, Ex H1 H2 → H2 D = some (.lst ys) → EvL H2 ys (l.map g) → Qd H2) :
    ∃ W : Nat → Nat → Hp → Prop, (∃ m, W 0 m (upd H1 D (.lst []))) ∧ ∀ i m H, W i m H →
      ((Itl K a).stop i H ∧ Qd H) ∨ ((Itl K a).go i H ∧ ∃ Nx : Hp → Prop, (∀ H', Nx H' → ∃ m', m' < m ∧ W (i + 1) m' H') ∧ ∀ x H', (Itl K a).yld i H x H' → (gName j) x (wipe σ vs) H' fun σ2 H2 => wipe σ2 vs = wipe σ vs ∧ tYes σ2 H2 fun b H3 =>
        if b = true then te σ2 H3 fun y H4 => ∃ acc, H4 D = some (.lst acc) ∧ acc.length < sizeLine ∧ Nx (upd H4 D (.lst (acc ++ [y]))) else Nx H3) := by
  refine lc_list (xs := l.map ev) (fun i H => Ex H1 H ∧ ∃ ys, H D = some (.lst ys) ∧ EvL H ys ((l.take i).map g)) ⟨Ex.new hD, [], upd_same, .nil⟩ (fun i H _ h => ex_l h.1 hx) (fun i x H hi h => ?_) (fun H h => ?_)
  · obtain ⟨e1, ys, hy, hp⟩ := h
    obtain ⟨y, hy2, rfl⟩ : ∃ y, l[i]? = some y ∧ ev y = x := by
      rw [List.getElem?_map] at hi
      cases e : l[i]? with
      | none => rw [e] at hi; cases hi
      | some y => rw [e] at hi; exact ⟨y, rfl, Option.some.inj hi⟩
    have hm : y ∈ l := List.mem_of_getElem? hy2
    have ht : l.take (i + 1) = l.take i ++ [y] := by rw [List.take_add_one, hy2]; rfl
    refine ⟨hw _, ?_⟩
    refine iteT (B := Ex H1 H ∧ ∃ ys, H D = some (HO.lst ys) ∧ EvL H ys (List.map g (List.take (i + 1) l))) ?_
    refine hs y hm H e1 _ fun t H2 nt e2 h2 => ?_
    have hy3 := e2 _ _ hy
    have hlen : ys.length < sizeLine := by
      rw [hp.len, List.length_map, List.length_take]
      exact small1000 (by omega)
    refine ⟨ys, hy3, hlen, Ex.mut (e1.trans e2) hD, _, upd_same, ?_⟩
    rw [ht, List.map_append]
    refine paired_app ((hp.mono e2).upd hy3) (.cons ⟨t, rfl, ?_⟩ .nil)
    rw [upd_ne (by rintro rfl; rw [hy3] at h2; cases h2)]
    exact h2
  · obtain ⟨e1, ys, hy, hp⟩ := h
    rw [List.length_map, List.take_length] at hp
    exact hd H ys e1 hy hp
end
theorem exd_mut {d p : Addr} {H H1 : Hp} {o : HO} (a : Exd d H H1) (h : H p = none) : Exd d H (L2.upd H1 p o) := fun x o h1 n => by
  rw [upd_ne (ne_of_none h1 h)]
  exact a x o h1 n
theorem exd_sub {d p : Addr} {H H1 H2 : Hp} (a : Exd d H H1) (b : Exd p H1 H2) (h : H p = none) : Exd d H H2 := fun x o h1 n => b x o (a x o h1 n) (ne_of_none h1 h)
theorem Dice.exd {d p : Addr} {H H' : Hp} (h : Dice H d) (e : Exd p H H') (n : d ≠ p) : Dice H' d := by
  obtain ⟨s, c, r, h, h1⟩ := h
  exact ⟨s, c, r, e _ _ h n, h1⟩
theorem Dice.notTup {d : Addr} {H : Hp} (h : Dice H d) (xs : List V) : H d ≠ some (.tup xs) := by
  obtain ⟨s, c, r, h, _⟩ := h
  rw [h]
  intro h
  cases h
theorem Dice.notD {d p : Addr} {H : Hp} {kvs : List (Key × V)} (h : Dice H d) (hp : H p = some (.dK kvs)) : d ≠ p := by
  rintro rfl
  obtain ⟨s, c, r, h, _⟩ := h
  rw [hp] at h
  cases h
theorem can_non (r : Nat) (ws : List (List Bool)) (c : Co) (p : Bool) : Ev.tp p none ∈ canE r ws c := by
  unfold canE
  cases p
  · exact List.mem_append_right _ List.mem_cons_self
  · exact List.mem_append_left _ (List.mem_append_right _ List.mem_cons_self)
theorem ls_ok {r : Nat} {ws : List (List Bool)} {n : Nat} (hW : WW ws n r) : ∀ (evs : List Ev) (s : LS), CoOk r s.c → Ins r s.c s.ls.length → CoOk r (lEnd r ws s evs).c ∧ Ins r (lEnd r ws s evs).c (lEnd r ws s evs).ls.length
  | [], _, h1, h2 => ⟨h1, h2⟩
  | e :: es, s, h1, h2 => ls_ok hW es (lstep r ws s e) (cst_ok hW.r1 hW.len h1 e) (ins_step hW.r1 hW.r6 h2 e)
/-- no fault yet, or one just now -/
def FOk (r : Nat) (ws : List (List Bool)) (evs : List Ev) : Prop := ((lEnd r ws ls0 evs).f = .non ∧ fEnd r ws ⟨0, 0, 0, 0⟩ evs = false) ∨ ((lEnd r ws ls0 evs).f ≠ .non ∧ fEnd r ws ⟨0, 0, 0, 0⟩ evs = true)
/-! ### answers and events as data -/
def AnsV (v : V) : Prop := v = .non ∨ (∃ i : Int, v = .int i) ∨ v = .str "over" ∨ v = .str "under"
def ansD : V → PyData
  | .int i => .int i
  | .str x => .str x
  | _ => .none
theorem AnsV.leaf {v : V} (h : AnsV v) : Leaf v (ansD v) := by
  rcases h with rfl | ⟨i, rfl⟩ | rfl | rfl
  · exact .inl ⟨rfl, rfl⟩
  · exact .inr (.inl ⟨i, rfl, rfl⟩)
  · exact .inr (.inr ⟨_, rfl, rfl⟩)
  · exact .inr (.inr ⟨_, rfl, rfl⟩)
theorem AnsV.sd {v : V} {n : Nat} (h : AnsV v) : Sd n (ansD v) := by
  rcases h with rfl | ⟨i, rfl⟩ | rfl | rfl
  · cases n <;> exact trivial
  · cases n <;> exact trivial
  · cases n <;> exact (show PyData.strOk "over" = true by decide +kernel)
  · cases n <;> exact (show PyData.strOk "under" = true by decide +kernel)
theorem AnsV.flat {v : V} (h : AnsV v) : flatV v = true := by
  rcases h with rfl | ⟨i, rfl⟩ | rfl | rfl <;> rfl
theorem fltV_ans (o : Option Bool) : AnsV (fltV o) := by
  cases o with
  | none => exact .inl rfl
  | some p =>
    cases p
    · exact .inr (.inr (.inr rfl))
    · exact .inr (.inr (.inl rfl))
theorem lans_ans (r : Nat) (s : LS) (e : Ev) : AnsV (lans r s e) := by
  rcases lans_ok r s e with h | h | ⟨k, h⟩
  · rw [h]
    exact .inl rfl
  · rw [h]
    exact fltV_ans _
  · rw [h]
    exact .inr (.inl ⟨k, rfl⟩)
theorem told_ans (r : Nat) (ws : List (List Bool)) : ∀ (es : List Ev) (s : LS), ∀ v ∈ lTold r ws s es, AnsV v
  | e :: es, s, v, hv => by
    rcases List.mem_cons.mp hv with rfl | hv
    · exact lans_ans r s e
    · exact told_ans r ws es _ v hv
theorem told_flt (r : Nat) (ws : List (List Bool)) : ∀ (es : List Ev) (s : LS), ∀ v ∈ lTold r ws s es, (v = .str "over" ∨ v = .str "under") → fEnd r ws s.c es = true
  | e :: es, s, v, hv, h => by
    show ((flt r s.c e).isSome || fEnd r ws (cst r ws s.c e) es) = true
    rcases List.mem_cons.mp hv with rfl | hv
    · cases hf : flt r s.c e with
      | some p => rfl
      | none =>
        rcases lans_ok r s e with h2 | h2 | ⟨k, h2⟩
        · rw [h2] at h
          rcases h with h | h <;> cases h
        · rw [h2, hf] at h
          rcases h with h | h <;> cases h
        · rw [h2] at h
          rcases h with h | h <;> cases h
    · have := told_flt r ws es (lstep r ws s e) v hv h
      rw [show fEnd r ws (cst r ws s.c e) es = true from this, Bool.or_true]
theorem ans_list {H : Hp} {n : Nat} {p : Addr} {vs : List V} (h : H p = some (.lst vs)) (hl : vs.length ≤ 1000) (hv : ∀ v ∈ vs, AnsV v) : Da H (n + 1) (.ref p) (.list (vs.map ansD)) :=
  Da.lst h hl (by
    have := paired_map (R := Da H n) (fun v : V => v) ansD vs fun v h => Da.leaf (hv v h).leaf
    rwa [List.map_id'] at this)
theorem ans_sd {n : Nat} {vs : List V} (hv : ∀ v ∈ vs, AnsV v) : Sd (n + 1) (.list (vs.map ansD)) := fun d hd => by
  obtain ⟨v, h, rfl⟩ := List.mem_map.mp hd
  exact (hv v h).sd
theorem eqv_rfl {n : Nat} {d : PyData} (h : Sd n d) : PyData.eqv d d = true := PySem.SeqAt.eqv_refl d h.ok.1
/-- texts and None as data -/
theorem Sn.leaf {v : V} (h : Sn v) : Leaf v (ansD v) := by
  rcases h with rfl | ⟨z, rfl⟩
  · exact .inl ⟨rfl, rfl⟩
  · exact .inr (.inr ⟨_, rfl, rfl⟩)
/-- a tuple of texts and Nones, each text fit -/
def TupD (H : Hp) (v : V) (d : PyData) : Prop := ∃ t xs, v = .ref t ∧ H t = some (.tup xs) ∧ xs.length ≤ 1000 ∧ (∀ x ∈ xs, Sn x ∧ Sd 0 (ansD x)) ∧ d = .tuple (xs.map ansD)
theorem TupD.mono {H H' : Hp} {v : V} {d : PyData} (e : Ex H H') (h : TupD H v d) : TupD H' v d := by
  obtain ⟨t, xs, h1, h2, h3⟩ := h
  exact ⟨t, xs, h1, e _ _ h2, h3⟩
theorem TupD.da {H : Hp} {v : V} {d : PyData} (h : TupD H v d) : Da H 1 v d := by
  obtain ⟨t, xs, rfl, h2, h3, h4, rfl⟩ := h
  refine Da.tup h2 h3 ?_
  have := paired_map (R := Da H 0) (fun v : V => v) ansD xs fun v h => (h4 v h).1.leaf
  rwa [List.map_id'] at this
theorem TupD.sd {H : Hp} {v : V} {d : PyData} (h : TupD H v d) : Sd 1 d := by
  obtain ⟨t, xs, rfl, h2, h3, h4, rfl⟩ := h
  intro d hd
  obtain ⟨x, hx, rfl⟩ := List.mem_map.mp hd
  exact (h4 x hx).2
def evWide (n : Nat) : Ev → Prop
  | .tp _ (some u) => u.length = n
  | _ => True
theorem sd_ev (e : Ev) : ∀ x ∈ evV e, Sn x ∧ Sd 0 (ansD x) := by
  intro x hx
  refine ⟨sn_ev e x hx, ?_⟩
  cases e with
  | look w =>
    rcases List.mem_cons.mp hx with rfl | hx
    · exact (show PyData.strOk "look" = true by decide +kernel)
    · rw [List.mem_singleton.mp hx]
      cases w
      · exact (show PyData.strOk "reader" = true by decide +kernel)
      · exact (show PyData.strOk "writer" = true by decide +kernel)
  | tp p o =>
    rcases List.mem_cons.mp hx with rfl | hx
    · cases p
      · exact (show PyData.strOk "get" = true by decide +kernel)
      · exact (show PyData.strOk "put" = true by decide +kernel)
    · rw [List.mem_singleton.mp hx]
      cases o with
      | none => exact trivial
      | some u => exact strOk_wd u
theorem ev_tupD {H : Hp} {t : Addr} {e : Ev} (h : H t = some (.tup (evV e))) : TupD H (.ref t) (.tuple ((evV e).map ansD)) := ⟨t, _, rfl, h, by cases e <;> simp [evV], sd_ev e, rfl⟩
theorem EvL.dat {H : Hp} : ∀ {vs : List V} {evs : List Ev}, EvL H vs evs → Paired (TupD H) vs (evs.map fun e => .tuple ((evV e).map ansD))
  | _, _, .nil => .nil
  | _, _, .cons ⟨_, h1, h2⟩ t => .cons (by rw [h1]; exact ev_tupD h2) (EvL.dat t)
theorem EvL.evsAt {H : Hp} {vs : List V} {evs : List Ev} (h : EvL H vs evs) : EvsAt H vs evs := ⟨by rw [h.len]; exact Nat.le_refl _, fun i e he => by
  obtain ⟨hi, _⟩ := List.getElem?_eq_some_iff.mp he
  obtain ⟨t, e', h1, h2, h3⟩ := h.at hi
  rw [he] at h2
  cases h2
  exact ⟨t, h1, h3⟩⟩
/-- the list of tuples as data -/
theorem tups_da {H : Hp} {p : Addr} {vs : List V} {ds : List PyData} (h : H p = some (.lst vs)) (hl : vs.length ≤ 1000) (hp : Paired (TupD H) vs ds) : Da H 2 (.ref p) (.list ds) := Da.lst h hl (paired_imp (fun _ _ => TupD.da) hp)
theorem tups_sd {H : Hp} : ∀ {vs : List V} {ds : List PyData}, Paired (TupD H) vs ds → ∀ d ∈ ds, Sd 1 d
  | _, _, .cons h t, d, hd => by
    rcases List.mem_cons.mp hd with rfl | hd
    · exact h.sd
    · exact tups_sd t d hd
theorem wds_da {H : Hp} {p : Addr} {ws : List (List Bool)} (h : H p = some (.lst (ws.map wv))) (hl : ws.length ≤ 1000) : Da H 2 (.ref p) (.list (ws.map fun w => .str (wd w))) := Da.strs h hl
theorem wds_sd {n : Nat} (ws : List (List Bool)) : Sd (n + 1) (.list (ws.map fun w => PyData.str (wd w))) := fun d hd => by
  obtain ⟨w, _, rfl⟩ := List.mem_map.mp hd
  cases n <;> exact strOk_wd w
theorem paired_take {α β : Type} {R : α → β → Prop} : ∀ {xs : List α} {ys : List β} (n : Nat), Paired R xs ys → Paired R (xs.take n) (ys.take n)
  | _, _, 0, _ => by
    rw [List.take_zero, List.take_zero]
    exact .nil
  | _, _, n + 1, .nil => .nil
  | _, _, n + 1, .cons r t => .cons r (paired_take n t)
theorem kb_ni : kitB "NoneType" "int" = some false := by decide +kernel
def sp_l_lane : Sp := fun vs H Q _ => ∃ (dd : Addr), vs = [.ref dd] ∧ Dice H dd ∧ ∀ (l pw : Addr) (r n : Nat) (ws : List (List Bool)) (H' : Hp), H pw = none → H l = none → pw ≠ dd → Exd dd H H' → Dice H' dd → H' l = some (.tup [.int (r : Int), .ref pw]) → H' pw = some (.lst (ws.map wv)) → WW ws n r → ws.Nodup → Q (.ref l) H'
theorem ok_l_lane (T : TX K mg) : FnOk P w K mg base CX0 4 T.f_l_lane T.fd_l_lane ["_law_d"] sp_l_lane := by
  refine T.F_l_lane.ok sc_l_lane (fun vs H Q E h => ?_) (fun cdv A outer s H vs Q E hr h => ?_)
  · obtain ⟨_, rfl, _⟩ := h
    rfl
  · obtain ⟨dd, rfl, hdd, q⟩ := h
    refine ⟨_, (pss_cons (ps_set (i := 1) sc_l_lane.nd rfl (by first | exact Or.inl rfl | exact Or.inr rfl) (pe_ix ix_list (pe_lst (pa_cons pe_int (pa_cons pe_int (pa_cons pe_int (pa_cons (pe_op op_add pe_int (pe_call (ok_l_off T) (hr.mono (by decide)) (by rfl) T.g_l_off T.F_l_off.kp T.b_l_off .nil pass0 (pa_cons (pv 0) (pa_cons pe_int pa_nil)))) pa_nil))))) (pe_call (ok_l_off T) (hr.mono (by decide)) (by rfl) T.g_l_off T.F_l_off.kp T.b_l_off .nil pass0 (pa_cons (pv 0) (pa_cons pe_int pa_nil))) (fun _ _ => rfl)))
 (pss_one (ps_ret (pe_tup (pa_cons (pv 1) (pa_cons (pe_call (ok_l_words T) (hr.mono (by decide)) (by rfl) T.g_l_words T.F_l_words.kp T.b_l_words .nil pass0 (pa_cons (pv 0) (pa_cons (pv 1) pa_nil))) pa_nil)))))), ?_⟩
    refine ⟨_, rfl, dd, 6, rfl, hdd, by decide, by decide, fun x1 H1 x10 x11 e1 hdd1 => ⟨_, _, rfl, rfl, small9 (by simp), fun p np => ?_⟩⟩
    have x := Ex.new (o := HO.lst [.int 2, .int 3, .int 1, .int (1 + x1)]) np
    refine ⟨_, rfl, dd, 4, rfl, hdd1.mono x, by decide, by decide, fun x2 H2 x20 x21 e2 hdd2 => ?_⟩
    have hp := e2 _ _ (upd_same (H := H1) (a := p) (o := HO.lst [.int 2, .int 3, .int 1, .int (1 + x1)])) (hdd1.neN np)
    obtain ⟨r, hr1, hr6, hat⟩ : ∃ r : Nat, 1 ≤ r ∧ r ≤ 6 ∧ atI [V.int 2, V.int 3, V.int 1, V.int (1 + x1)] x2 = some (.int (r : Int)) := by
      have : x2 = 0 ∨ x2 = 1 ∨ x2 = 2 ∨ x2 = 3 := by omega
      rcases this with rfl | rfl | rfl | rfl
      · exact ⟨2, by decide, by decide, rfl⟩
      · exact ⟨3, by decide, by decide, rfl⟩
      · exact ⟨1, by decide, by decide, rfl⟩
      · refine ⟨(1 + x1).toNat, by omega, by omega, ?_⟩
        rw [show (((1 + x1).toNat : Nat) : Int) = 1 + x1 by omega]
        rfl
    refine ⟨p, _, _, .int (r : Int), rfl, rfl, SqL.of hp, hat, ?_⟩
    have e02 := (e1.trans (Exd.of x)).trans e2
    refine ⟨_, rfl, _, rfl, _, rfl, dd, r, rfl, hdd2, hr1, hr6, fun pw ws n H3 npw npd e3 hdd3 hW n1 n4 hpw => ⟨small9 (by simp), fun l nl => ?_⟩⟩
    have y := Ex.new (o := HO.tup [.int (r : Int), .ref pw]) nl
    have nld : l ≠ dd := hdd3.neN nl
    exact q l pw r n ws _ (e02.fresh npw npd) ((e02.trans e3).fresh nl nld) npd ((e02.trans e3).trans (Exd.of y)) (hdd3.mono y) upd_same (y _ _ hpw) ⟨hr1, hr6, n1, n4, hW.len, hW.wide⟩ hW.nd
def sp_l_begun : Sp := fun vs H Q _ => vs = [] ∧ ∀ (d pl : Addr) (H' : Hp), H d = none → H pl = none → d ≠ pl → Ex H H' → H' d = some (.dK (LK pl ⟨0, 0, 0, 0⟩ 0 .non)) → H' pl = some (.lst []) → Q (.ref d) H'
theorem ok_l_begun (T : TX K mg) : FnOk P w K mg base CX0 1 T.f_l_begun T.fd_l_begun [] sp_l_begun := by
  refine T.F_l_begun.ok sc_l_begun (fun vs H Q E h => ?_) (fun cdv A outer s H vs Q E hr h => ?_)
  · obtain ⟨rfl, _⟩ := h
    rfl
  · obtain ⟨rfl, q⟩ := h
    refine ⟨_, (pss_one (ps_ret (pe_disp (pps_cons pe_str pe_int (pps_cons pe_str pe_int (pps_cons pe_str pe_int (pps_cons pe_str pe_int (pps_cons pe_str (pe_lst pa_nil) (pps_cons pe_str pe_int (pps_cons pe_str pe_non pps_nil))))))) (by rfl) (by rfl) (fun z => by cases z) (by decide)))), ?_⟩
    refine fun d nd => ⟨small9 (by simp), fun pl npl => ?_⟩
    have ndl : d ≠ pl := ne_of_none upd_same npl
    have npl0 : H pl = none := by
      rw [upd_ne ndl.symm] at npl
      exact npl
    refine ⟨by rw [upd_ne ndl]; exact upd_same, LK pl ⟨0, 0, 0, 0⟩ 0 .non, rfl, by simp [LK], ?_⟩
    refine q d pl _ nd npl0 ndl (Ex.mut ((Ex.new nd).trans (Ex.new npl)) nd) ?_ ?_
    · rw [upd_same]
      rfl
    · rw [upd_ne ndl.symm]
      exact upd_same
def sp_l_turn : Sp := fun vs H Q _ => ∃ (l d pw pl : Addr) (r n : Nat) (ws : List (List Bool)) (c : Co) (nx : Nat) (f : V) (p : Bool), vs = [.ref l, .ref d, .str (pS p)] ∧ H l = some (.tup [.int (r : Int), .ref pw]) ∧ H pw = some (.lst (ws.map wv)) ∧ WW ws n r ∧ H d = some (.dK (LK pl c nx f)) ∧ CoOk r c ∧ ∀ (t q : Addr) (H' : Hp), H t = none → H q = none → Ex H H' → H' t = some (.tup [.bl (goes r c p), .ref q]) → H' q = some (.lst ((mayW r ws c p).map wv)) → Q (.ref t) H'
theorem turn_other {r : Nat} {c : Co} (h : CoOk r c) (p : Bool) : ((here c p : Int) + (if goes r c p then 1 else 0)) % (2 * (r : Int)) = ((other r c p : Nat) : Int) := by
  unfold other
  cases hg : goes r c p with
  | true =>
    simp only [if_pos]
    exact (nxt_int _ _).symm
  | false =>
    have := here_lt h p
    simp only [Bool.false_eq_true, if_false]
    rw [Int.add_zero]
    exact Int.emod_eq_of_lt (by omega) (by omega)
theorem ok_l_turn (T : TX K mg) : FnOk P w K mg base CX0 3 T.f_l_turn T.fd_l_turn ["_law_lane_here", "_law_s", "_law_word"] sp_l_turn := by
  refine T.F_l_turn.ok sc_l_turn (fun vs H Q E h => ?_) (fun cdv A outer s H vs Q E hr h => ?_)
  · obtain ⟨_, _, _, _, _, _, _, _, _, _, _, rfl, _⟩ := h
    rfl
  · obtain ⟨l, d, pw, pl, r, n, ws, c, nx, f, p, rfl, hl, hw, hW, hd, hc, q⟩ := h
    have r1 := hW.r1
    refine ⟨_, (pss_cons (ps_asg (pv 0) (pg_tup (by rfl) (pgs_cons (pg_name (i := 3) sc_l_turn.nd rfl (by first | exact Or.inl rfl | exact Or.inr rfl)) (pgs_cons (pg_name (i := 4) sc_l_turn.nd rfl (by first | exact Or.inl rfl | exact Or.inr rfl)) pgs_nil))))
 (pss_cons (ps_set (i := 5) sc_l_turn.nd rfl (by first | exact Or.inl rfl | exact Or.inr rfl) (pe_op op_mul pe_int (pv 3)))
 (pss_cut (ps_if (pt_cmpR op_eq (pv 2) pe_str (nomark _))
 (pss_cons (ps_set (i := 6) sc_l_turn.nd rfl (by first | exact Or.inl rfl | exact Or.inr rfl) (pe_dget (hu_of hr) (pv 1) pe_str (fun _ _ => rfl)))
 (pss_one (ps_set (i := 7) sc_l_turn.nd rfl (by first | exact Or.inl rfl | exact Or.inr rfl) (pe_cmpR op_lt (pe_op op_mod (pe_op op_sub (pv 6) (pe_dget (hu_of hr) (pv 1) pe_str (fun _ _ => rfl))) (pv 5)) (pv 3) (nomark _)))))
 (pss_cons (ps_set (i := 6) sc_l_turn.nd rfl (by first | exact Or.inl rfl | exact Or.inr rfl) (pe_dget (hu_of hr) (pv 1) pe_str (fun _ _ => rfl)))
 (pss_one (ps_set (i := 7) sc_l_turn.nd rfl (by first | exact Or.inl rfl | exact Or.inr rfl) (pe_cmpR op_ne (pv 6) (pe_dget (hu_of hr) (pv 1) pe_str (fun _ _ => rfl)) (nomark _))))))
 (pss_cons (ps_set (i := 8) sc_l_turn.nd rfl (by first | exact Or.inl rfl | exact Or.inr rfl) (pe_op op_mod (pe_op op_add (pv 6) (pe_callTy call_int1 (by rfl) T.z_int (by decide +kernel) (pa_cons (pv 7) pa_nil))) (pv 5)))
 (pss_one (ps_ret (pe_tup (pa_cons (pv 7) (pa_cons (pe_call (ok_l_seen T) (hr.mono (by decide)) (by rfl) T.g_l_seen T.F_l_seen.kp T.b_l_seen .nil pass0 (pa_cons (pe_ix ix_seq (pv 4) (pv 6) (fun _ _ => rfl)) (pa_cons (pe_ix ix_seq (pv 4) (pv 8) (fun _ _ => rfl)) pa_nil))) pa_nil))))))))), ?_⟩
    refine ⟨_, rfl, l, _, rfl, SqT.of hl, rfl, _, _, rfl, _, _, rfl, rfl, ?_⟩
    refine ⟨_, rfl, _, _, rfl, rfl, .inl ⟨by decide, by decide⟩, ?_⟩
    refine ⟨fun σ H' => σ = [some (.ref l), some (.ref d), some (.str (pS p)), some (.int (r : Int)), some (.ref pw), some (.int (2 * (r : Int))), some (.int (here c p : Int)), some (.bl (goes r c p)), none] ∧ H' = H, ?_, ?_⟩
    · cases p with
      | true =>
        refine ⟨_, rfl, rfl, _, rfl, ifP (by decide +kernel) ?_⟩
        exact ⟨_, rfl, d, _, rfl, lk_put hd, _, rfl, _, rfl, d, _, rfl, lk_sg hd, _, _, rfl, rfl, _, rfl, _, _, rfl, rfl, by omega, _, rfl, _, _, rfl, rfl, rfl, rfl⟩
      | false =>
        refine ⟨_, rfl, rfl, _, rfl, ifN (by decide +kernel) ?_⟩
        refine ⟨_, rfl, d, _, rfl, lk_got hd, _, rfl, _, rfl, d, _, rfl, lk_sp hd, rfl, ?_, rfl⟩
        rw [goes_get, show decide (V.int (c.sp : Int) = V.int (c.got : Int)) = decide (V.int (c.got : Int) = V.int (c.sp : Int)) from decide_eq_decide.mpr ⟨Eq.symm, Eq.symm⟩]
        rfl
    · rintro σ H1 ⟨rfl, rfl⟩
      refine ⟨_, rfl, _, rfl, .inr ⟨_, rfl, _, _, rfl, rfl, _, rfl, _, _, rfl, rfl, by omega, ?_⟩⟩
      dsimp only
      rw [turn_other hc p]
      refine ⟨_, rfl, _, rfl, _, rfl, .inl ⟨pw, _, _, _, rfl, rfl, SqL.of hw, atI_nat (hW.at (here_lt hc p)), _, rfl, _, rfl, .inl ⟨pw, _, _, _, rfl, rfl, SqL.of hw, atI_nat (hW.at (other_lt r1 hc p)), _, _, n, rfl, hW.wat (here_lt hc p), hW.wat (other_lt r1 hc p), hW.n4, fun q1 H2 nq e2 hq => ⟨small9 (by simp), fun t nt => ?_⟩⟩⟩⟩
      exact q t q1 _ (fresh_back e2 nt) nq (e2.trans (Ex.new nt)) upd_same ((Ex.new nt) _ _ hq)
def sp_l_can : Sp := fun vs H Q _ => ∃ (l d pw pl : Addr) (r n : Nat) (ws : List (List Bool)) (c : Co) (nx : Nat) (f : V), vs = [.ref l, .ref d] ∧ H l = some (.tup [.int (r : Int), .ref pw]) ∧ H pw = some (.lst (ws.map wv)) ∧ WW ws n r ∧ H d = some (.dK (LK pl c nx f)) ∧ CoOk r c ∧ ∀ (q : Addr) (es : List V) (H' : Hp), H q = none → Ex H H' → H' q = some (.lst es) → EvL H' es (canE r ws c) → Q (.ref q) H'
theorem canP_len {ws : List (List Bool)} {n r : Nat} {c : Co} (h : WW ws n r) (hc : CoOk r c) (p : Bool) : (canP r ws c p).length ≤ 17 := by
  have := mayW_len h hc p
  unfold canP
  simp
  omega
def canUp (r : Nat) (ws : List (List Bool)) (c : Co) : Nat → List Ev
  | 0 => [.look true, .look false]
  | 1 => [.look true, .look false] ++ canP r ws c true
  | _ => canE r ws c
theorem canUp_len {ws : List (List Bool)} {n r : Nat} {c : Co} (h : WW ws n r) (hc : CoOk r c) (i : Nat) : (canUp r ws c i).length ≤ 36 := by
  have h1 := canP_len h hc true
  have h2 := canP_len h hc false
  match i with
  | 0 => simp [canUp]
  | 1 => simp [canUp]; omega
  | _ + 2 => simp [canUp, canE]; omega
theorem ok_l_can (T : TX K mg) : FnOk P w K mg base CX0 4 T.f_l_can T.fd_l_can ["_law_lane_here", "_law_s"] sp_l_can := by
  refine T.F_l_can.ok sc_l_can (fun vs H Q E h => ?_) (fun cdv A outer s H vs Q E hr h => ?_)
  · obtain ⟨_, _, _, _, _, _, _, _, _, _, rfl, _⟩ := h
    rfl
  · obtain ⟨l, d, pw, pl, r, n, ws, c, nx, f, rfl, hl, hw, hW, hd, hc, q⟩ := h
    refine ⟨_, (pss_cons (ps_set (i := 2) sc_l_can.nd rfl (by first | exact Or.inl rfl | exact Or.inr rfl) (pe_lst (pa_cons (pe_tup (pa_cons pe_str (pa_cons pe_str pa_nil))) (pa_cons (pe_tup (pa_cons pe_str (pa_cons pe_str pa_nil))) pa_nil))))
 (pss_cons (ps_for PassesOwn.never rfl (pi_list (pe_lst (pa_cons pe_str (pa_cons pe_str pa_nil)))) (pg_name (i := 3) sc_l_can.nd rfl (by first | exact Or.inl rfl | exact Or.inr rfl))
 (pss_one (ps_set (i := 2) sc_l_can.nd rfl (by first | exact Or.inl rfl | exact Or.inr rfl) (pe_op op_cat (pe_op op_cat (pv 2) (pe_lst (pa_cons (pe_tup (pa_cons (pv 3) (pa_cons pe_non pa_nil))) pa_nil))) (pe_lc (own := [("_law_seen_here", 4)]) (g := gName 4) (by rfl) sc_l_can.nd (pi_list (pe_ix ix_tup (pe_call (ok_l_turn T) (hr.mono (by decide)) (by rfl) T.g_l_turn T.F_l_turn.kp T.b_l_turn .nil pass0 (pa_cons (pv 0) (pa_cons (pv 1) (pa_cons (pv 3) pa_nil)))) pe_int (fun _ _ => rfl))) (blkOk_by (own := [("_law_seen_here", 4)]) (N := ["_law_lane_here", "_law_s", "_law_found", "_law_word", "_law_seen_here"]) (sc := defScope s_l_can) (by decide +kernel)) (fun _ _ _ _ _ => pg_name (i := 4) sc_l_can.nd rfl (Or.inl rfl)) (fun _ _ _ _ _ => pts_nil) (fun _ _ _ _ _ => (pe_tup (pa_cons (pv 3) (pa_cons (pv 4) pa_nil)))))))))
 (pss_one (ps_ret (pv 2))))), ?_⟩
    refine ⟨small9 (by simp), fun t1 n1 => ⟨small9 (by simp), fun t2 n2 => ⟨small9 (by simp), fun q0 nq0 => ?_⟩⟩⟩
    have x1 := Ex.new (o := HO.tup [.str "look", .str "writer"]) n1
    have x2 := Ex.new (o := HO.tup [.str "look", .str "reader"]) n2
    have x3 := Ex.new (o := HO.lst [.ref t1, .ref t2]) nq0
    have e1 := (x1.trans x2).trans x3
    have nq0H := fresh_back (x1.trans x2) nq0
    have hq0 := upd_same (H := upd (upd H t1 (.tup [.str "look", .str "writer"])) t2 (.tup [.str "look", .str "reader"])) (a := q0) (o := HO.lst [.ref t1, .ref t2])
    have hE0 : EvL (upd (upd (upd H t1 (.tup [.str "look", .str "writer"])) t2 (.tup [.str "look", .str "reader"])) q0 (.lst [.ref t1, .ref t2])) [.ref t1, .ref t2] [.look true, .look false] := .cons ⟨t1, rfl, x3 _ _ (x2 _ _ upd_same)⟩ (.cons ⟨t2, rfl, x3 _ _ upd_same⟩ .nil)
    generalize upd (upd (upd H t1 (.tup [.str "look", .str "writer"])) t2 (.tup [.str "look", .str "reader"])) q0 (.lst [.ref t1, .ref t2]) = H1 at e1 hq0 hE0 ⊢
    clear x1 x2 x3
    refine ⟨small9 (by simp), fun wl nwl => ⟨wl, rfl, ⟨_, SqL.of upd_same⟩, ?_⟩⟩
    have ewl := Ex.new (o := HO.lst [.str "put", .str "get"]) nwl
    have nwlH := fresh_back e1 nwl
    refine for_it (walk_list (K := K) (a := wl) (xs := [.str "put", .str "get"])) (fun i σ H' => ∃ q1 es y3, σ = [some (.ref l), some (.ref d), some (.ref q1), y3, none] ∧ Ex H H' ∧ H' wl = some (.lst [.str "put", .str "get"]) ∧ H q1 = none ∧ H' q1 = some (.lst es) ∧ EvL H' es (canUp r ws c i)) ?_ ?_ ?_ ?_
    · exact ⟨q0, _, _, rfl, e1.trans ewl, upd_same, nq0H, ewl _ _ hq0, hE0.mono ewl⟩
    · rintro i σ H2 _ ⟨_, _, _, _, _, h, _⟩
      exact SqL.of h
    · rintro i v σ H2 H3 hi ⟨q1, es, y3, rfl, e2, hwl, nq1, hq1, hE⟩ ⟨rfl, hv⟩
      obtain ⟨p, rfl, hp⟩ : ∃ p, v = .str (pS p) ∧ canUp r ws c (i + 1) = canUp r ws c i ++ canP r ws c p := by
        match i, hi with
        | 0, _ => exact ⟨true, (Option.some.inj hv).symm, rfl⟩
        | 1, _ => exact ⟨false, (Option.some.inj hv).symm, rfl⟩
      refine ⟨_, rfl, _, rfl, small9 (by simp), fun t nt => ⟨small9 (by simp), fun b nb => ?_⟩⟩
      have x1 := Ex.new (o := HO.tup [.str (pS p), .non]) nt
      have x2 := Ex.new (o := HO.lst [.ref t]) nb
      have e12 := x1.trans x2
      have lb : es.length + 1 ≤ sizeLine := by
        rw [hE.len]
        have := canUp_len hW hc i
        exact small9 (by omega)
      refine ⟨q1, b, _, _, rfl, rfl, e12 _ _ hq1, upd_same, lb, fun o no => ?_⟩
      have e3 := (e2.trans e12).trans (Ex.new (o := HO.lst (es ++ [.ref t])) no)
      have ho := upd_same (H := upd (upd H3 t (.tup [.str (pS p), .non])) b (.lst [.ref t])) (a := o) (o := HO.lst (es ++ [.ref t]))
      have hEo : EvL (upd (upd (upd H3 t (.tup [.str (pS p), .non])) b (.lst [.ref t])) o (.lst (es ++ [.ref t]))) (es ++ [.ref t]) (canUp r ws c i ++ [.tp p none]) := paired_app (hE.mono (e12.trans (Ex.new no))) (.cons ⟨t, rfl, (Ex.new no) _ _ (x2 _ _ upd_same)⟩ .nil)
      have hwl3 := (e12.trans (Ex.new (o := HO.lst (es ++ [.ref t])) no)) _ _ hwl
      generalize upd (upd (upd H3 t (.tup [.str (pS p), .non])) b (.lst [.ref t])) o (.lst (es ++ [.ref t])) = H4 at e3 ho hEo hwl3 ⊢
      refine ⟨_, rfl, _, rfl, _, rfl, l, d, pw, pl, r, n, ws, c, nx, f, p, rfl, e3 _ _ hl, e3 _ _ hw, hW, e3 _ _ hd, hc, fun tt sq H5 ntt nsq e5 htt hsq => ?_⟩
      have hml := mayW_len hW hc p
      refine ⟨tt, _, _, _, rfl, rfl, SqT.of htt, rfl, sq, rfl, ⟨_, SqL.of hsq⟩, fun D nD => lcE (mayW r ws c p) wv (fun u => .tp p (some u)) (SqL.of hsq) (by omega) nD (fun _ => rfl) (fun u hu H6 e6 Y hY => ?_) (fun H6 ys e6 h6 hys => ?_)⟩
      · exact ⟨_, rfl, _, rfl, small9 (by simp), fun t6 n6 => hY _ _ n6 (Ex.new n6) upd_same⟩
      · have e36 := (e3.trans e5).trans e6
        have e46 := e5.trans e6
        have hcl := canUp_len hW hc i
        have l1 := hEo.len
        have l2 := hys.len
        rw [List.length_map] at l2
        refine ⟨o, D, _, _, rfl, rfl, e46 _ _ ho, h6, small9 (by rw [l1, l2]; simp; omega), fun o2 no2 => ?_⟩
        refine ⟨o2, _, _, rfl, e36.trans (Ex.new no2), (Ex.new no2) _ _ (e46 _ _ hwl3), fresh_back e36 no2, upd_same, ?_⟩
        rw [hp, show canUp r ws c i ++ canP r ws c p = (canUp r ws c i ++ [.tp p none]) ++ (mayW r ws c p).map fun u => .tp p (some u) by simp [canP]]
        exact paired_app (hEo.mono (e46.trans (Ex.new no2))) (hys.mono (Ex.new no2))
    · rintro σ H2 ⟨q1, es, y3, rfl, e2, hwl, nq1, hq1, hE⟩
      exact ⟨_, rfl, q q1 es H2 nq1 e2 hq1 hE⟩
def lV (ls : List Nat) : List V := ls.map fun k : Nat => V.int (k : Int)
def sp_l_do : Sp := fun vs H Q _ => ∃ (l d t pw pl : Addr) (r n : Nat) (ws : List (List Bool)) (c : Co) (nx : Nat) (f : V) (ls : List Nat) (e : Ev), vs = [.ref l, .ref d, .ref t] ∧ H l = some (.tup [.int (r : Int), .ref pw]) ∧ H pw = some (.lst (ws.map wv)) ∧ WW ws n r ∧ H d = some (.dK (LK pl c nx f)) ∧ H pl = some (.lst (lV ls)) ∧ ls.length ≤ 1000 ∧ CoOk r c ∧ Ins r c ls.length ∧ H t = some (.tup (evV e)) ∧
  ∀ (pl' : Addr) (H' : Hp), (pl' = pl ∨ H pl' = none) → Exd d H H' → H' d = some (.dK (LK pl' (cst r ws c e) (pMany r c nx e) (pFlt r c f e))) → H' pl' = some (.lst (lV (lLet r c nx ls e))) → Q (lAns r c nx ls e) H'
theorem oV_in (ws : List (List Bool)) (o : Option (List Bool)) : inV (oV o) (ws.map wv) = (match o with | none => false | some u => decide (u ∈ ws)) := by
  cases o with
  | some u => exact inV_wv u ws
  | none =>
    show inV .non (ws.map wv) = false
    unfold inV
    rw [List.any_map, List.any_eq_false]
    intro x _ h
    cases h
theorem oV_flat (o : Option (List Bool)) : flatV (oV o) = true := by cases o <;> rfl
def lM2 (l d t pw pl : Addr) (r : Nat) (ws : List (List Bool)) (c : Co) (nx : Nat) (f : V) (ls : List Nat) (p : Bool) (o : Option (List Bool)) (H : Hp) (σ : L2.St) (H' : Hp) : Prop :=
  ∃ (pl' : Addr) (c1 : Co), (pl' = pl ∨ H pl' = none) ∧ σ = [some (.ref l), some (.ref d), some (.ref t), some (.int (r : Int)), some (.ref pw), some (.bl (goes r c p)), some (.int (insd r c)), some (lAns r c nx ls (.tp p o)), none] ∧ Exd d H H' ∧ H' d = some (.dK (LK pl' c1 (pMany r c nx (.tp p o)) f)) ∧ H' pl' = some (.lst (lV (lLet r c nx ls (.tp p o)))) ∧ sees ws p o c1 = cst r ws c (.tp p o)
theorem ok_l_do (T : TX K mg) : FnOk P w K mg base CX0 4 T.f_l_do T.fd_l_do ["_law_lane_here", "_law_s", "_law_event"] sp_l_do := by
  refine T.F_l_do.ok sc_l_do (fun vs H Q E h => ?_) (fun cdv A outer s H vs Q E hr h => ?_)
  · obtain ⟨_, _, _, _, _, _, _, _, _, _, _, _, _, rfl, _⟩ := h
    rfl
  · obtain ⟨l, d, t, pw, pl, r, n, ws, c, nx, f, ls, e, rfl, hl, hw, hW, hd, hpl, hll, hc, hI, ht, q⟩ := h
    have r1 := hW.r1
    have npl : pl ≠ d := by
      rintro rfl
      rw [hd] at hpl
      cases hpl
    have nw : pw ≠ d := by
      rintro rfl
      rw [hd] at hw
      cases hw
    have nt : t ≠ d := by
      rintro rfl
      rw [hd] at ht
      cases ht
    have nl : l ≠ d := by
      rintro rfl
      rw [hd] at hl
      cases hl
    refine ⟨_, (pss_cons (ps_asg (pv 0) (pg_tup (by rfl) (pgs_cons (pg_name (i := 3) sc_l_do.nd rfl (by first | exact Or.inl rfl | exact Or.inr rfl)) (pgs_cons (pg_name (i := 4) sc_l_do.nd rfl (by first | exact Or.inl rfl | exact Or.inr rfl)) pgs_nil))))
 (pss_cons (ps_if (pt_cmpR op_eq (pe_ix ix_tup (pv 2) pe_int (fun _ _ => rfl)) pe_str (nomark _))
 (pss_cut (ps_if (pt_cmpR op_eq (pe_ix ix_tup (pv 2) pe_int (fun _ _ => rfl)) pe_str (nomark _))
 (pss_one (ps_dput (hu_of hr) (pv 1) pe_str (pe_dget (hu_of hr) (pv 1) pe_str (fun _ _ => rfl)) rfl))
 (pss_one (ps_dput (hu_of hr) (pv 1) pe_str (pe_dget (hu_of hr) (pv 1) pe_str (fun _ _ => rfl)) rfl)))
 (pss_one (ps_ret pe_non)))
 pss_nil)
 (pss_cons (ps_set (i := 5) sc_l_do.nd rfl (by first | exact Or.inl rfl | exact Or.inr rfl) (pe_ix ix_tup (pe_call (ok_l_turn T) (hr.mono (by decide)) (by rfl) T.g_l_turn T.F_l_turn.kp T.b_l_turn .nil pass0 (pa_cons (pv 0) (pa_cons (pv 1) (pa_cons (pe_ix ix_tup (pv 2) pe_int (fun _ _ => rfl)) pa_nil)))) pe_int (fun _ _ => rfl)))
 (pss_cons (ps_set (i := 6) sc_l_do.nd rfl (by first | exact Or.inl rfl | exact Or.inr rfl) (pe_op op_mod (pe_op op_sub (pe_dget (hu_of hr) (pv 1) pe_str (fun _ _ => rfl)) (pe_dget (hu_of hr) (pv 1) pe_str (fun _ _ => rfl))) (pe_op op_mul pe_int (pv 3))))
 (pss_cut (ps_if (PW.pt (pw_and (pt_val (pv 5)) (pw_and1 (pt_cmpR op_eq (pv 6) (pe_ix ix_list (pe_lst (pa_cons pe_int (pa_cons (pv 3) pa_nil))) (pe_callTy call_int1 (by rfl) T.z_int (by decide +kernel) (pa_cons (pe_cmpR op_eq (pe_ix ix_tup (pv 2) pe_int (fun _ _ => rfl)) pe_str (nomark _)) pa_nil)) (fun _ _ => rfl)) (nomark _)))))
 (pss_cons (ps_dput (hu_of hr) (pv 1) pe_str (pe_ix ix_list (pe_lst (pa_cons pe_str (pa_cons pe_str pa_nil))) (pe_callTy call_int1 (by rfl) T.z_int (by decide +kernel) (pa_cons (pe_cmpR op_eq (pe_ix ix_tup (pv 2) pe_int (fun _ _ => rfl)) pe_str (nomark _)) pa_nil)) (fun _ _ => rfl)) rfl)
 (pss_one (ps_ret (pe_dget (hu_of hr) (pv 1) pe_str (fun _ _ => rfl)))))
 pss_nil)
 (pss_cons (ps_set (i := 7) sc_l_do.nd rfl (by first | exact Or.inl rfl | exact Or.inr rfl) pe_non)
 (pss_cut (ps_if (PW.pt (pw_and (pt_val (pv 5)) (pw_and1 (pt_cmpR op_eq (pe_ix ix_tup (pv 2) pe_int (fun _ _ => rfl)) pe_str (nomark _)))))
 (pss_cons (ps_set (i := 7) sc_l_do.nd rfl (by first | exact Or.inl rfl | exact Or.inr rfl) (pe_dget (hu_of hr) (pv 1) pe_str (fun _ _ => rfl)))
 (pss_cons (ps_dput (hu_of hr) (pv 1) pe_str (pe_op op_add (pv 7) pe_int) rfl)
 (pss_cons (ps_dput (hu_of hr) (pv 1) pe_str (pe_op op_cat (pe_dget (hu_of hr) (pv 1) pe_str (fun _ _ => rfl)) (pe_lst (pa_cons (pv 7) pa_nil))) rfl)
 (pss_one (ps_dput (hu_of hr) (pv 1) pe_str (pe_op op_mod (pe_op op_add (pe_dget (hu_of hr) (pv 1) pe_str (fun _ _ => rfl)) pe_int) (pe_op op_mul pe_int (pv 3))) rfl)))))
 pss_nil)
 (pss_cut (ps_if (PW.pt (pw_and (pt_val (pv 5)) (pw_and1 (pt_cmpR op_eq (pe_ix ix_tup (pv 2) pe_int (fun _ _ => rfl)) pe_str (nomark _)))))
 (pss_cons (ps_set (i := 7) sc_l_do.nd rfl (by first | exact Or.inl rfl | exact Or.inr rfl) (pe_ix ix_list (pe_dget (hu_of hr) (pv 1) pe_str (fun _ _ => rfl)) pe_int (fun _ _ => rfl)))
 (pss_cons (ps_dput (hu_of hr) (pv 1) pe_str (pe_slice sl_list (pe_dget (hu_of hr) (pv 1) pe_str (fun _ _ => rfl)) (po_some pe_int) po_none) rfl)
 (pss_one (ps_dput (hu_of hr) (pv 1) pe_str (pe_op op_mod (pe_op op_add (pe_dget (hu_of hr) (pv 1) pe_str (fun _ _ => rfl)) pe_int) (pe_op op_mul pe_int (pv 3))) rfl))))
 pss_nil)
 (pss_cut (ps_if (pt_cmpR op_in_seq (pe_ix ix_tup (pv 2) pe_int (fun _ _ => rfl)) (pv 4) (by rfl))
 (pss_cons (ps_set (i := 8) sc_l_do.nd rfl (by first | exact Or.inl rfl | exact Or.inr rfl) (pe_ix ix_list (pe_lst (pa_cons pe_str (pa_cons pe_str pa_nil))) (pe_callTy call_int1 (by rfl) T.z_int (by decide +kernel) (pa_cons (pe_cmpR op_eq (pe_ix ix_tup (pv 2) pe_int (fun _ _ => rfl)) pe_str (nomark _)) pa_nil)) (fun _ _ => rfl)))
 (pss_one (ps_dput (hu_of hr) (pv 1) (pv 8) (pe_bm PySem.F.plainAttrs_list PySem.F.slot_list_index PySem.F.type_list_index mt_index (pv 4) (pa_cons (pe_ix ix_tup (pv 2) pe_int (fun _ _ => rfl)) pa_nil)) rfl)))
 pss_nil)
 (pss_one (ps_ret (pv 7)))))))))))), ?_⟩
    refine ⟨_, rfl, l, _, rfl, SqT.of hl, rfl, _, _, rfl, _, _, rfl, rfl, ?_⟩
    cases e with
    | look b =>
      refine ⟨_, rfl, t, _, _, _, rfl, rfl, SqT.of ht, rfl, rfl, _, rfl, ifP (by decide +kernel) ?_⟩
      refine ⟨fun σ H' => Exd d H H' ∧ H' d = some (.dK (LK pl (cst r ws c (.look b)) nx f)) ∧ H' pl = some (.lst (lV ls)), ?_, ?_⟩
      · cases b with
        | true =>
          refine ⟨_, rfl, t, _, _, _, rfl, rfl, SqT.of ht, rfl, rfl, _, rfl, ifP (by decide +kernel) ?_⟩
          refine ⟨_, rfl, d, _, rfl, lk_got hd, _, rfl, d, _, rfl, ls_sg hd, (Exd.refl d H).upd, upd_same, ?_⟩
          rw [upd_ne npl]
          exact hpl
        | false =>
          refine ⟨_, rfl, t, _, _, _, rfl, rfl, SqT.of ht, rfl, rfl, _, rfl, ifN (by decide +kernel) ?_⟩
          refine ⟨_, rfl, d, _, rfl, lk_put hd, _, rfl, d, _, rfl, ls_sp hd, (Exd.refl d H).upd, upd_same, ?_⟩
          rw [upd_ne npl]
          exact hpl
      · rintro σ H1 ⟨e1, hd1, hp1⟩
        exact q pl H1 (.inl rfl) e1 hd1 hp1
    | tp p o =>
      refine ⟨_, rfl, t, _, _, _, rfl, rfl, SqT.of ht, rfl, rfl, _, rfl, ifN (by cases p <;> decide +kernel) ?_⟩
      refine ⟨_, rfl, _, rfl, _, rfl, t, _, _, _, rfl, rfl, SqT.of ht, rfl, l, d, pw, pl, r, n, ws, c, nx, f, p, rfl, hl, hw, hW, hd, hc, fun tt sq H1 ntt nsq e1 htt hsq => ?_⟩
      refine ⟨tt, _, _, _, rfl, rfl, SqT.of htt, rfl, ?_⟩
      have hd1 := e1 _ _ hd
      have ht1 := e1 _ _ ht
      have hw1 := e1 _ _ hw
      have hpl1 := e1 _ _ hpl
      refine ⟨_, rfl, d, _, rfl, lk_put hd1, _, rfl, d, _, rfl, lk_got hd1, _, _, rfl, rfl, _, rfl, _, _, rfl, rfl, .inl ⟨by decide, by decide⟩, _, _, rfl, rfl, by omega, ?_⟩
      have hpd : decide (V.str (pS p) = V.str "put") = p := by cases p <;> decide +kernel
      have hgd : decide (V.str (pS p) = V.str "get") = !p := by cases p <;> decide +kernel
      have hz : atI [V.int 0, V.int (r : Int)] (if p = true then 1 else 0) = some (.int (if p = true then (r : Int) else 0)) := by cases p <;> rfl
      refine ⟨fun σ H' => σ = [some (.ref l), some (.ref d), some (.ref t), some (.int (r : Int)), some (.ref pw), some (.bl (goes r c p)), some (.int (insd r c)), none, none] ∧ Ex H H' ∧ (goes r c p = true → bad r c p = false), ?_, ?_⟩
      · refine ⟨_, rfl, _, rfl, ?_⟩
        cases hg : goes r c p with
        | false => exact ifN (by simp) (ifN (by simp) ⟨rfl, e1, fun h => by cases h⟩)
        | true =>
          refine ifP rfl ⟨_, rfl, _, rfl, small9 (by simp), fun p2 n2 => ?_⟩
          have x2 := Ex.new (o := HO.lst [.int 0, .int (r : Int)]) n2
          refine ⟨_, rfl, t, _, _, _, rfl, rfl, SqT.of (x2 _ _ ht1), rfl, rfl, .inr ⟨_, rfl, p2, _, _, .int (if p = true then (r : Int) else 0), rfl, rfl, SqL.of upd_same, ?_, rfl, _, rfl, ?_⟩⟩
          · rw [hpd]
            exact hz
          rw [int_dec]
          have hbd : decide (((c.put : Int) - (c.got : Int)) % (2 * (r : Int)) = (if p = true then (r : Int) else 0)) = bad r c p := by
            cases p <;> rfl
          rw [hbd]
          cases hb : bad r c p with
          | false => exact ifN (by simp) ⟨rfl, e1.trans x2, fun _ => rfl⟩
          | true =>
            refine ifP rfl ⟨small9 (by simp), fun p3 n3 => ?_⟩
            have x3 := Ex.new (o := HO.lst [.str "under", .str "over"]) n3
            have e13 := (e1.trans x2).trans x3
            have hz3 : atI [V.str "under", V.str "over"] (if p = true then 1 else 0) = some (fltV (some p)) := by cases p <;> rfl
            refine ⟨_, rfl, t, _, _, _, rfl, rfl, SqT.of (e13 _ _ ht), rfl, rfl, .inr ⟨_, rfl, p3, _, _, fltV (some p), rfl, rfl, SqL.of upd_same, ?_, ?_⟩⟩
            · rw [hpd]
              exact hz3
            refine ⟨_, rfl, d, _, rfl, ls_over (e13 _ _ hd), ?_⟩
            refine ⟨_, rfl, d, _, rfl, lk_over upd_same, ?_⟩
            have hA : lAns r c nx ls (.tp p o) = fltV (some p) := by
              unfold lAns
              rw [movs_bad hb, flt_bad hg hb]
            rw [hA] at q
            refine q pl _ (.inl rfl) (Exd.of e13).upd ?_ ?_
            · rw [upd_same, cst_bad hg hb, pFlt_some (flt_bad hg hb)]
              unfold pMany
              rw [movs_bad hb]
              rfl
            · rw [upd_ne npl, e13 _ _ hpl]
              unfold lLet
              rw [movs_bad hb]
      · rintro σ H2 ⟨rfl, e2, hgb⟩
        have hd2 := e2 _ _ hd
        have ht2 := e2 _ _ ht
        have hw2 := e2 _ _ hw
        have hpl2 := e2 _ _ hpl
        refine ⟨fun σ H' => (p = true ∧ lM2 l d t pw pl r ws c nx f ls p o H σ H') ∨ (p = false ∧ σ = [some (.ref l), some (.ref d), some (.ref t), some (.int (r : Int)), some (.ref pw), some (.bl (goes r c p)), some (.int (insd r c)), some .non, none] ∧ H' = H2), ?_, ?_⟩
        · refine ⟨_, rfl, _, rfl, ?_⟩
          cases hg : goes r c p with
          | false =>
            refine ifN (by simp) (ifN (by simp) ?_)
            cases p with
            | true =>
              refine .inl ⟨rfl, pl, c, .inl rfl, ?_, Exd.of e2, ?_, ?_, (cst_stay hg).symm⟩
              · unfold lAns
                rw [movs_stay hg, flt_stay hg, hg]
                rfl
              · unfold pMany
                rw [movs_stay hg]
                exact hd2
              · unfold lLet
                rw [movs_stay hg]
                exact hpl2
            | false => exact .inr ⟨rfl, rfl, rfl⟩
          | true =>
            have hb := hgb hg
            refine ifP rfl ⟨_, rfl, t, _, _, _, rfl, rfl, SqT.of ht2, rfl, rfl, _, rfl, ?_⟩
            cases p with
            | false => exact ifN (by decide +kernel) (.inr ⟨rfl, rfl, rfl⟩)
            | true =>
              refine ifP (by decide +kernel) ⟨_, rfl, d, _, rfl, lk_next hd2, ?_⟩
              refine ⟨_, rfl, _, _, rfl, rfl, _, rfl, d, _, rfl, ls_next (z := nx + 1) hd2, ?_⟩
              have hd3 := upd_same (H := H2) (a := d) (o := HO.dK (LK pl c (nx + 1) f))
              have e3 := (Exd.of (d := d) e2).upd (o := HO.dK (LK pl c (nx + 1) f))
              generalize upd H2 d (.dK (LK pl c (nx + 1) f)) = H3 at hd3 e3 ⊢
              refine ⟨_, rfl, d, _, rfl, lk_letters hd3, _, rfl, small9 (by simp), fun b nb => ⟨pl, b, lV ls, _, rfl, rfl, ?_, upd_same, ?_, fun o2 no2 => ?_⟩⟩
              · exact (Ex.new nb) _ _ (e3 _ _ hpl npl)
              · simp [lV]
                exact small9 (by have := hI.2; have := hW.r6; omega)
              have x4 := (Ex.new (o := HO.lst [.int (nx : Int)]) nb).trans (Ex.new (o := HO.lst (lV ls ++ [.int (nx : Int)])) no2)
              have ho2 := upd_same (H := upd H3 b (.lst [.int (nx : Int)])) (a := o2) (o := HO.lst (lV ls ++ [.int (nx : Int)]))
              have hd4 := x4 _ _ hd3
              have e4 := e3.trans (Exd.of x4)
              generalize upd (upd H3 b (.lst [.int (nx : Int)])) o2 (.lst (lV ls ++ [.int (nx : Int)])) = H4 at ho2 hd4 e4 ⊢
              have nod : o2 ≠ d := by
                rintro rfl
                rw [hd4] at ho2
                cases ho2
              refine ⟨_, rfl, d, _, rfl, ls_letters hd4, ?_⟩
              refine ⟨_, rfl, d, _, rfl, lk_put upd_same, _, _, rfl, rfl, _, rfl, _, _, rfl, rfl, .inl ⟨by decide, by decide⟩, _, _, rfl, rfl, by omega, ?_⟩
              dsimp only
              rw [← nxt_int]
              refine ⟨_, rfl, d, _, rfl, ls_put upd_same, .inl ⟨rfl, o2, adv r c true, .inr (e3.fresh (fresh_back (Ex.new nb) no2) nod), ?_, e4.upd.upd, ?_, ?_, (cst_go hg hb).symm⟩⟩
              · unfold lAns
                rw [movs_go hg hb, hg]
                rfl
              · rw [upd_same]
                unfold pMany
                rw [movs_go hg hb]
                rfl
              · rw [upd_ne nod, upd_ne nod, ho2]
                unfold lLet
                rw [movs_go hg hb]
                simp [lV]
        · rintro σ H3 h3
          refine ⟨fun σ H' => lM2 l d t pw pl r ws c nx f ls p o H σ H', ?_, ?_⟩
          · rcases h3 with ⟨rfl, pl', c1, hor, rfl, h4⟩ | ⟨rfl, rfl, rfl⟩
            · obtain ⟨e3, hd3, hp3, hs3⟩ := h4
              refine ⟨_, rfl, _, rfl, ?_⟩
              have fin : lM2 l d t pw pl r ws c nx f ls true o H [some (.ref l), some (.ref d), some (.ref t), some (.int (r : Int)), some (.ref pw), some (.bl (goes r c true)), some (.int (insd r c)), some (lAns r c nx ls (.tp true o)), none] H3 := ⟨pl', c1, hor, rfl, e3, hd3, hp3, hs3⟩
              refine ite2 (fun _ => ?_) (fun _ => ifN (by simp) fin)
              exact ⟨_, rfl, t, _, _, _, rfl, rfl, SqT.of (e3 _ _ ht nt), rfl, rfl, _, rfl, ifN (by decide +kernel) fin⟩
            · refine ⟨_, rfl, _, rfl, ?_⟩
              cases hg : goes r c false with
              | false =>
                refine ifN (by simp) (ifN (by simp) ?_)
                refine ⟨pl, c, .inl rfl, ?_, Exd.of e2, ?_, ?_, (cst_stay hg).symm⟩
                · unfold lAns
                  rw [movs_stay hg, flt_stay hg, hg]
                  rfl
                · unfold pMany
                  rw [movs_stay hg]
                  exact hd2
                · unfold lLet
                  rw [movs_stay hg]
                  exact hpl2
              | true =>
                have hb := hgb hg
                refine ifP rfl ⟨_, rfl, t, _, _, _, rfl, rfl, SqT.of ht2, rfl, rfl, _, rfl, ifP (by decide +kernel) ?_⟩
                obtain ⟨_, hk⟩ := ins_get r1 hW.r6 hI hb
                match ls, hk, hll, hI, hpl, hpl2, q with
                | y :: ys, _, hll, hI, hpl, hpl2, q =>
                  refine ⟨_, rfl, d, _, rfl, lk_letters hd2, pl, _, _, .int (y : Int), rfl, rfl, SqL.of hpl2, atI_nat (j := 0) rfl, ?_⟩
                  refine ⟨_, rfl, d, _, rfl, lk_letters hd2, _, rfl, pl, _, rfl, SqL.of hpl2, fun o2 no2 => ?_⟩
                  have hcut : cutV (lV (y :: ys)) (some 1) none = lV ys := (cutDrop (n := 1)).trans rfl
                  have x4 := Ex.new (o := HO.lst (cutV (lV (y :: ys)) (some 1) none)) no2
                  have ho2 := upd_same (H := H3) (a := o2) (o := HO.lst (cutV (lV (y :: ys)) (some 1) none))
                  have hd4 := x4 _ _ hd2
                  have e4 := Exd.of (d := d) (e2.trans x4)
                  generalize upd H3 o2 (.lst (cutV (lV (y :: ys)) (some 1) none)) = H4 at ho2 hd4 e4 ⊢
                  rw [hcut] at ho2
                  have nod : o2 ≠ d := by
                    rintro rfl
                    rw [hd4] at ho2
                    cases ho2
                  refine ⟨_, rfl, d, _, rfl, ls_letters hd4, ?_⟩
                  refine ⟨_, rfl, d, _, rfl, lk_got upd_same, _, _, rfl, rfl, _, rfl, _, _, rfl, rfl, .inl ⟨by decide, by decide⟩, _, _, rfl, rfl, by omega, ?_⟩
                  dsimp only
                  rw [← nxt_int]
                  refine ⟨_, rfl, d, _, rfl, ls_got upd_same, o2, adv r c false, .inr (fresh_back e2 no2), ?_, e4.upd.upd, ?_, ?_, (cst_go hg hb).symm⟩
                  · unfold lAns
                    rw [movs_go hg hb, hg]
                    rfl
                  · rw [upd_same]
                    unfold pMany
                    rw [movs_go hg hb]
                    rfl
                  · rw [upd_ne nod, upd_ne nod, ho2]
                    unfold lLet
                    rw [movs_go hg hb]
                    rfl
          · rintro σ H4 ⟨pl', c1, hor, rfl, e4, hd4, hp4, hs4⟩
            have hw4 := e4 _ _ hw nw
            have ht4 := e4 _ _ ht nt
            have hfl : flt r c (.tp p o) = none := by
              cases hg : goes r c p with
              | false => exact flt_stay hg
              | true => exact flt_go (hgb hg)
            rw [pFlt_none hfl] at q
            refine ⟨fun σ H' => ∃ y8, σ = [some (.ref l), some (.ref d), some (.ref t), some (.int (r : Int)), some (.ref pw), some (.bl (goes r c p)), some (.int (insd r c)), some (lAns r c nx ls (.tp p o)), y8] ∧ Exd d H H' ∧ H' d = some (.dK (LK pl' (cst r ws c (.tp p o)) (pMany r c nx (.tp p o)) f)) ∧ H' pl' = some (.lst (lV (lLet r c nx ls (.tp p o)))), ?_, ?_⟩
            · refine ⟨_, rfl, t, _, _, _, rfl, rfl, SqT.of ht4, rfl, _, rfl, pw, _, rfl, .inl (SqL.of hw4), oV_flat o, flatW _, _, rfl, ?_⟩
              show if inV (oV o) (ws.map wv) = true then _ else _
              rw [oV_in]
              rw [← hs4]
              have npd : pl' ≠ d := by
                rintro rfl
                rw [hd4] at hp4
                cases hp4
              cases o with
              | none => exact ifN (by simp) ⟨_, rfl, e4, hd4, hp4⟩
              | some u =>
                by_cases hm : u ∈ ws
                · refine ifP (decide_eq_true hm) ⟨small9 (by simp), fun p3 n3 => ?_⟩
                  have x3 := Ex.new (o := HO.lst [.str "seen_got", .str "seen_put"]) n3
                  have hz3 : atI [V.str "seen_got", V.str "seen_put"] (if p = true then 1 else 0) = some (.str (if p = true then "seen_put" else "seen_got")) := by cases p <;> rfl
                  refine ⟨_, rfl, t, _, _, _, rfl, rfl, SqT.of (x3 _ _ ht4), rfl, rfl, .inr ⟨_, rfl, p3, _, _, .str (if p = true then "seen_put" else "seen_got"), rfl, rfl, SqL.of upd_same, ?_, ?_⟩⟩
                  · rw [hpd]
                    exact hz3
                  have hd5 := x3 _ _ hd4
                  have hp5 := x3 _ _ hp4
                  have ht5 := x3 _ _ ht4
                  have hw5 := x3 _ _ hw4
                  have e5 := e4.trans (Exd.of x3)
                  generalize upd H4 p3 (.lst [.str "seen_got", .str "seen_put"]) = H5 at hd5 hp5 ht5 hw5 e5 ⊢
                  obtain ⟨g1, g2⟩ := idx_spec hm
                  refine ⟨_, rfl, .inl ⟨rfl, _, SqL.of hw5⟩, _, rfl, t, _, _, _, rfl, rfl, SqT.of ht5, rfl, pw, _, _, _, _, rfl, rfl, SqL.of hw5, rfl, flatW _, g1, by simp [eqV, oV], g2, _, rfl, _, rfl, ?_⟩
                  cases p with
                  | true =>
                    refine ⟨d, _, rfl, ls_sp hd5, _, rfl, e5.upd, ?_, ?_⟩
                    · rw [upd_same]
                      unfold sees
                      simp only [if_pos hm]
                    · rw [upd_ne npd]
                      exact hp5
                  | false =>
                    refine ⟨d, _, rfl, ls_sg hd5, _, rfl, e5.upd, ?_, ?_⟩
                    · rw [upd_same]
                      unfold sees
                      simp only [if_pos hm]
                    · rw [upd_ne npd]
                      exact hp5
                · refine ifN (by simpa using hm) ⟨_, rfl, e4, ?_, hp4⟩
                  rw [hd4]
                  unfold sees
                  simp only [if_neg hm]
            · rintro σ H6 ⟨y8, rfl, e6, hd6, hp6⟩
              exact ⟨_, rfl, q pl' H6 hor e6 hd6 hp6⟩
def sp_l_events : Sp := fun vs H Q _ => ∃ (dd l pw : Addr) (r n m : Nat) (ws : List (List Bool)), vs = [.ref dd, .ref l, .int (m : Int)] ∧ Dice H dd ∧ H l = some (.tup [.int (r : Int), .ref pw]) ∧ H pw = some (.lst (ws.map wv)) ∧ pw ≠ dd ∧ WW ws n r ∧ m ≤ 100 ∧
  ∀ (t pe pt : Addr) (es : List V) (evs : List Ev) (H' : Hp), H pe = none → H pt = none → pe ≠ dd → pt ≠ dd → pe ≠ pt → Exd dd H H' → Dice H' dd → H' t = some (.tup [.ref pe, .ref pt]) → H' pe = some (.lst es) → EvL H' es evs → H' pt = some (.lst (lTold r ws ls0 evs)) → VRun r ws ⟨0, 0, 0, 0⟩ evs → evs.length ≤ m → FOk r ws evs → Q (.ref t) H'
theorem ok_l_events (T : TX K mg) : FnOk P w K mg base CX0 5 T.f_l_events T.fd_l_events ["_law_d", "_law_lane_here", "_law_most"] sp_l_events := by
  refine T.F_l_events.ok sc_l_events (fun vs H Q E h => ?_) (fun cdv A outer s H vs Q E hr h => ?_)
  · obtain ⟨_, _, _, _, _, _, _, rfl, _⟩ := h
    rfl
  · obtain ⟨dd, l, pw, r, n, m, ws, rfl, hdd, hl, hw, nwd, hW, hm, q⟩ := h
    have r1 := hW.r1
    have nld : l ≠ dd := by
      rintro rfl
      exact hdd.notTup _ hl
    refine ⟨_, (pss_cons (ps_set (i := 3) sc_l_events.nd rfl (by first | exact Or.inl rfl | exact Or.inr rfl) (pe_call0 (ok_l_begun T) (hr.mono (by decide)) (by rfl) T.g_l_begun T.F_l_begun.kp T.b_l_begun .nil pass0))
 (pss_cons (ps_set (i := 4) sc_l_events.nd rfl (by first | exact Or.inl rfl | exact Or.inr rfl) (pe_lst pa_nil))
 (pss_cons (ps_set (i := 5) sc_l_events.nd rfl (by first | exact Or.inl rfl | exact Or.inr rfl) (pe_lst pa_nil))
 (pss_cons (ps_for PassesOwn.never rfl (pi_range1 (by rfl) T.z_range (pa_cons (pe_call (ok_l_off T) (hr.mono (by decide)) (by rfl) T.g_l_off T.F_l_off.kp T.b_l_off .nil pass0 (pa_cons (pv 0) (pa_cons (pe_op op_add (pv 2) pe_int) pa_nil))) pa_nil)) (pg_name (i := 6) sc_l_events.nd rfl (by first | exact Or.inl rfl | exact Or.inr rfl))
 (pss_one (ps_if (pt_cmpR op_isN (pe_dget (hu_of hr) (pv 3) pe_str (fun _ _ => rfl)) pe_non (nomark _))
 (pss_cons (ps_set (i := 7) sc_l_events.nd rfl (by first | exact Or.inl rfl | exact Or.inr rfl) (pe_call (ok_l_can T) (hr.mono (by decide)) (by rfl) T.g_l_can T.F_l_can.kp T.b_l_can .nil pass0 (pa_cons (pv 1) (pa_cons (pv 3) pa_nil))))
 (pss_cons (ps_set (i := 8) sc_l_events.nd rfl (by first | exact Or.inl rfl | exact Or.inr rfl) (pe_ix ix_list (pv 7) (pe_call (ok_l_off T) (hr.mono (by decide)) (by rfl) T.g_l_off T.F_l_off.kp T.b_l_off .nil pass0 (pa_cons (pv 0) (pa_cons (pe_callB call_len_seq (by rfl) T.z_len PySem.boot_len (pa_cons (pv 7) pa_nil)) pa_nil))) (fun _ _ => rfl)))
 (pss_cut (ps_if (pt_cmpR op_eq (pe_call (ok_l_off T) (hr.mono (by decide)) (by rfl) T.g_l_off T.F_l_off.kp T.b_l_off .nil pass0 (pa_cons (pv 0) (pa_cons pe_int pa_nil))) pe_int (nomark _))
 (pss_one (ps_set (i := 8) sc_l_events.nd rfl (by first | exact Or.inl rfl | exact Or.inr rfl) (pe_ix ix_list (pe_lst (pa_cons (pe_tup (pa_cons pe_str (pa_cons pe_non pa_nil))) (pa_cons (pe_tup (pa_cons pe_str (pa_cons pe_non pa_nil))) pa_nil))) (pe_call (ok_l_off T) (hr.mono (by decide)) (by rfl) T.g_l_off T.F_l_off.kp T.b_l_off .nil pass0 (pa_cons (pv 0) (pa_cons pe_int pa_nil))) (fun _ _ => rfl))))
 pss_nil)
 (pss_cons (ps_expr (pe_bm PySem.F.plainAttrs_list PySem.F.slot_list_append PySem.F.type_list_append mt_append (pv 4) (pa_cons (pv 8) pa_nil)))
 (pss_one (ps_expr (pe_bm PySem.F.plainAttrs_list PySem.F.slot_list_append PySem.F.type_list_append mt_append (pv 5) (pa_cons (pe_call (ok_l_do T) (hr.mono (by decide)) (by rfl) T.g_l_do T.F_l_do.kp T.b_l_do .nil pass0 (pa_cons (pv 1) (pa_cons (pv 3) (pa_cons (pv 8) pa_nil)))) pa_nil))))))))
 pss_nil)))
 (pss_one (ps_ret (pe_tup (pa_cons (pv 4) (pa_cons (pv 5) pa_nil))))))))), ?_⟩
    refine ⟨rfl, fun d pl H1 nd npl ndpl e1 hd1 hpl1 => ?_⟩
    refine ⟨small9 (by simp), fun pe npe => ⟨small9 (by simp), fun pt npt => ?_⟩⟩
    have x1 := Ex.new (o := HO.lst []) npe
    have x2 := Ex.new (o := HO.lst []) npt
    have npeH := fresh_back e1 npe
    have nptH := fresh_back (e1.trans x1) npt
    have npept : pe ≠ pt := ne_of_none upd_same npt
    have npd : d ≠ pe := ne_of_none hd1 npe
    have npd2 : d ≠ pt := ne_of_none (x1 _ _ hd1) npt
    have e3 := e1.trans (x1.trans x2)
    have hdd3 := hdd.mono e3
    have hd3 := (x1.trans x2) _ _ hd1
    have hpl3 := (x1.trans x2) _ _ hpl1
    have hpe3 := x2 _ _ (upd_same (H := H1) (a := pe) (o := HO.lst []))
    have hpt3 := upd_same (H := upd H1 pe (.lst [])) (a := pt) (o := HO.lst [])
    generalize upd (upd H1 pe (.lst [])) pt (.lst []) = H3 at e3 hdd3 hd3 hpl3 hpe3 hpt3 ⊢
    have npedd : pe ≠ dd := by
      rintro rfl
      obtain ⟨_, _, _, h, _⟩ := hdd
      rw [npeH] at h
      cases h
    have nptdd : pt ≠ dd := by
      rintro rfl
      obtain ⟨_, _, _, h, _⟩ := hdd
      rw [nptH] at h
      cases h
    have nddd : d ≠ dd := by
      rintro rfl
      obtain ⟨_, _, _, h, _⟩ := hdd
      rw [nd] at h
      cases h
    clear x1 x2
    refine ⟨_, rfl, _, rfl, _, _, rfl, rfl, dd, _, rfl, hdd3, by omega, by omega, fun k H4 k0 k1 e4 hdd4 => ?_⟩
    obtain ⟨k, rfl⟩ : ∃ j : Nat, k = (j : Int) := ⟨k.toNat, by omega⟩
    refine ⟨_, rfl, lo62 _, hi62 (by omega), for_range (lo := 0) (n := k) (fun i σ H' => ∃ evs es pl y6 y7 y8, σ = [some (.ref dd), some (.ref l), some (.int (m : Int)), some (.ref d), some (.ref pe), some (.ref pt), y6, y7, y8] ∧ Exd dd H H' ∧ Dice H' dd ∧ H' d = some (.dK (LK pl (lEnd r ws ls0 evs).c (lEnd r ws ls0 evs).n (lEnd r ws ls0 evs).f)) ∧ H' pl = some (.lst (lV (lEnd r ws ls0 evs).ls)) ∧ H' pe = some (.lst es) ∧ EvL H' es evs ∧ H' pt = some (.lst (lTold r ws ls0 evs)) ∧ VRun r ws ⟨0, 0, 0, 0⟩ evs ∧ evs.length ≤ i ∧ FOk r ws evs ∧ pl ≠ dd ∧ pl ≠ pe ∧ pl ≠ pt) ?_ ?_ ?_⟩
    · refine ⟨[], [], pl, _, _, _, rfl, (Exd.of e3).trans e4, hdd4, e4 _ _ hd3 nddd, e4 _ _ hpl3 ?_, e4 _ _ hpe3 npedd, .nil, e4 _ _ hpt3 nptdd, trivial, Nat.zero_le _, .inl ⟨rfl, rfl⟩, ?_, ?_, ?_⟩
      · exact hdd.neN npl
      · exact hdd.neN npl
      · exact ne_of_none hpl1 npe
      · exact ne_of_none ((Ex.new npe) _ _ hpl1) npt
    · rintro i σ H5 hi ⟨evs, es, pl, y6, y7, y8, rfl, e5, hdd5, hd5, hpl5, hpe5, hE5, hpt5, hv5, hl5, hf5, np1, np2, np3⟩
      obtain ⟨hco, hins⟩ := ls_ok hW evs ls0 (coOk_zero r1) (ins0 r)
      have hw5 := e5 _ _ hw nwd
      have hl5' := e5 _ _ hl nld
      refine ⟨_, rfl, d, _, rfl, lk_over hd5, rfl, _, rfl, ?_⟩
      rcases hf5 with ⟨hno, hfe⟩ | ⟨hno, hfe⟩
      · refine ifP (decide_eq_true hno) ?_
        generalize hS : lEnd r ws ls0 evs = S at *
        refine ⟨_, rfl, _, rfl, l, d, pw, pl, r, n, ws, S.c, S.n, S.f, rfl, hl5', hw5, hW, hd5, hco, fun ps os H6 nps e6 hps hos => ?_⟩
        have hlen := hos.len
        have hcl : (canE r ws S.c).length ≤ 36 := canUp_len hW hco 2
        have hcp : 0 < (canE r ws S.c).length := by simp [canE]
        have hdd6 := hdd5.mono e6
        refine ⟨_, rfl, _, rfl, _, rfl, ps, _, rfl, .inl (SqL.of hps), dd, _, rfl, hdd6, by omega, by omega, fun x1 H7 x10 x11 e7 hdd7 => ?_⟩
        obtain ⟨x1, rfl⟩ : ∃ j : Nat, x1 = (j : Int) := ⟨x1.toNat, by omega⟩
        have npsdd : ps ≠ dd := by
          rintro rfl
          exact hdd5.neN nps rfl
        obtain ⟨te, ee, hte, hee, htt⟩ := hos.at (i := x1) (by omega)
        have ntedd : te ≠ dd := by
          rintro rfl
          exact hdd6.notTup _ htt
        refine ⟨ps, _, _, _, rfl, rfl, SqL.of (e7 _ _ hps npsdd), atI_nat hte, ?_⟩
        refine ⟨fun σ H' => ∃ te e y7, σ = [some (.ref dd), some (.ref l), some (.int (m : Int)), some (.ref d), some (.ref pe), some (.ref pt), some (.int ((0 : Int) + (i : Int))), y7, some (.ref te)] ∧ H' te = some (.tup (evV e)) ∧ e ∈ canE r ws S.c ∧ Exd dd H5 H' ∧ Dice H' dd, ?_, ?_⟩
        · refine ⟨_, rfl, dd, 3, rfl, hdd7, by decide, by decide, fun x2 H8 _ _ e8 hdd8 => ⟨rfl, _, rfl, ite2 (fun _ => ?_) (fun _ => ?_)⟩⟩
          · refine ⟨small9 (by simp), fun t1 n1 => ⟨small9 (by simp), fun t2 n2 => ⟨small9 (by simp), fun p3 n3 => ?_⟩⟩⟩
            have y1 := Ex.new (o := HO.tup [.str "put", .non]) n1
            have y2 := Ex.new (o := HO.tup [.str "get", .non]) n2
            have y3 := Ex.new (o := HO.lst [.ref t1, .ref t2]) n3
            have e9 := (y1.trans y2).trans y3
            have h1 := y3 _ _ (y2 _ _ (upd_same (H := H8) (a := t1) (o := HO.tup [.str "put", .non])))
            have h2 := y3 _ _ (upd_same (H := upd H8 t1 (.tup [.str "put", .non])) (a := t2) (o := HO.tup [.str "get", .non]))
            have h3 := upd_same (H := upd (upd H8 t1 (.tup [.str "put", .non])) t2 (.tup [.str "get", .non])) (a := p3) (o := HO.lst [.ref t1, .ref t2])
            have hdd9 := hdd8.mono e9
            have n3dd : p3 ≠ dd := (hdd8.mono (y1.trans y2)).neN n3
            generalize upd (upd (upd H8 t1 (.tup [.str "put", .non])) t2 (.tup [.str "get", .non])) p3 (.lst [.ref t1, .ref t2]) = H9 at e9 h1 h2 h3 hdd9 ⊢
            refine ⟨_, rfl, dd, 2, rfl, hdd9, by decide, by decide, fun x3 H10 x30 x31 e10 hdd10 => ?_⟩
            have eX := ((((Exd.of (d := dd) e6).trans e7).trans e8).trans (Exd.of e9)).trans e10
            have hx : x3 = 0 ∨ x3 = 1 := by omega
            rcases hx with rfl | rfl
            · exact ⟨p3, _, _, .ref t1, rfl, rfl, SqL.of (e10 _ _ h3 n3dd), rfl, t1, .tp true none, _, rfl, e10 _ _ h1 (by rintro rfl; exact hdd9.notTup _ h1), can_non _ _ _ _, eX, hdd10⟩
            · exact ⟨p3, _, _, .ref t2, rfl, rfl, SqL.of (e10 _ _ h3 n3dd), rfl, t2, .tp false none, _, rfl, e10 _ _ h2 (by rintro rfl; exact hdd9.notTup _ h2), can_non _ _ _ _, eX, hdd10⟩
          · exact ⟨te, ee, _, rfl, e8 _ _ (e7 _ _ htt ntedd) ntedd, List.mem_of_getElem? hee, ((Exd.of e6).trans e7).trans e8, hdd8⟩
        · rintro σ H8 ⟨te, e, y7, rfl, hte8, hcan, e8, hdd8⟩
          have e58 := e5.trans e8
          have hd8 := e8 _ _ hd5 nddd
          have hpl8 := e8 _ _ hpl5 np1
          have hpe8 := e8 _ _ hpe5 npedd
          have hpt8 := e8 _ _ hpt5 nptdd
          have hE8 := hE5.updD hdd5.notTup e8
          have hles := hE5.len
          refine ⟨_, rfl, .inl ⟨rfl, _, SqL.of hpe8⟩, _, rfl, pe, _, _, rfl, rfl, hpe8, small1000 (by omega), ?_⟩
          have ntepe : te ≠ pe := by
            rintro rfl
            rw [hpe8] at hte8
            cases hte8
          have hE9 : EvL (upd H8 pe (.lst (es ++ [.ref te]))) (es ++ [.ref te]) (evs ++ [e]) := paired_app (hE8.upd hpe8) (.cons ⟨te, rfl, by rw [upd_ne ntepe]; exact hte8⟩ .nil)
          have hpe9 := upd_same (H := H8) (a := pe) (o := HO.lst (es ++ [.ref te]))
          have e59 := e58.mut (o := HO.lst (es ++ [.ref te])) npeH
          have hdd9 := hdd8.upd (o := HO.lst (es ++ [.ref te])) npedd.symm
          have hd9 : upd H8 pe (.lst (es ++ [.ref te])) d = _ := (upd_ne npd).trans hd8
          have hpl9 : upd H8 pe (.lst (es ++ [.ref te])) pl = _ := (upd_ne np2).trans hpl8
          have hpt9 : upd H8 pe (.lst (es ++ [.ref te])) pt = _ := (upd_ne npept.symm).trans hpt8
          have hte9 : upd H8 pe (.lst (es ++ [.ref te])) te = _ := (upd_ne ntepe).trans hte8
          generalize upd H8 pe (.lst (es ++ [.ref te])) = H9 at hE9 hpe9 e59 hdd9 hd9 hpl9 hpt9 hte9 ⊢
          have hlt := lTold_len r ws evs ls0
          refine ⟨_, rfl, .inl ⟨rfl, _, SqL.of hpt9⟩, _, rfl, _, rfl, _, rfl, l, d, te, pw, pl, r, n, ws, S.c, S.n, S.f, S.ls, e, rfl, e59 _ _ hl nld, e59 _ _ hw nwd, hW, hd9, hpl9, by have := hins.2; have := hW.r6; omega, hco, hins, hte9, fun pl' H10 hor e10 hd10 hpl10 => ?_⟩
          have hpt10 := e10 _ _ hpt9 npd2.symm
          have hpe10 := e10 _ _ hpe9 npd.symm
          have hdd10 := hdd9.exd e10 nddd.symm
          have hE10 := hE9.updD (fun xs h => by rw [hd9] at h; cases h) e10
          have e510 := exd_sub e59 e10 nd
          refine ⟨pt, _, _, rfl, rfl, hpt10, small1000 (by omega), ?_⟩
          have hpl' : pl' ≠ dd ∧ pl' ≠ pe ∧ pl' ≠ pt := by
            rcases hor with rfl | hn
            · exact ⟨np1, np2, np3⟩
            · refine ⟨hdd9.neN hn, ?_, ?_⟩
              · rintro rfl
                rw [hpe9] at hn
                cases hn
              · rintro rfl
                rw [hpt9] at hn
                cases hn
          have hS2 : lEnd r ws ls0 (evs ++ [e]) = lstep r ws S e := by
            rw [lEnd_app, hS]
            rfl
          have hT2 : lTold r ws ls0 evs ++ [lAns r S.c S.n S.ls e] = lTold r ws ls0 (evs ++ [e]) := by
            rw [lTold_app, hS]
            rfl
          obtain ⟨v1, v2⟩ := vrun_snoc (r := r) (ws := ws) (es := evs) (c := ⟨0, 0, 0, 0⟩) (s := ls0) (e := e) rfl hv5 hfe (by rw [hS]; exact hcan)
          refine ⟨evs ++ [e], es ++ [.ref te], pl', _, _, _, rfl, e510.mut nptH, hdd10.upd nptdd.symm, ?_, ?_, ?_, hE10.upd hpt10, ?_, v1, by rw [List.length_append]; exact Nat.succ_le_succ hl5, ?_, hpl'.1, hpl'.2.1, hpl'.2.2⟩
          · rw [upd_ne npd2, hd10, hS2]
            rfl
          · rw [upd_ne hpl'.2.2, hpl10, hS2]
            rfl
          · rw [upd_ne npept]
            exact hpe10
          · rw [upd_same, hT2]
          · unfold FOk
            rw [hS2, v2, hS]
            cases hfl : flt r S.c e with
            | none => exact .inl ⟨(pFlt_none hfl).trans hno, rfl⟩
            | some p => exact .inr ⟨by rw [show (lstep r ws S e).f = pFlt r S.c S.f e from rfl, pFlt_some hfl]; exact fltV_some p, rfl⟩
      · refine ifN (by simpa using hno) ?_
        exact ⟨evs, es, pl, _, _, _, rfl, e5, hdd5, hd5, hpl5, hpe5, hE5, hpt5, hv5, by omega, .inr ⟨hno, hfe⟩, np1, np2, np3⟩
    · rintro σ H5 ⟨evs, es, pl, y6, y7, y8, rfl, e5, hdd5, hd5, hpl5, hpe5, hE5, hpt5, hv5, hl5, hf5, np1, np2, np3⟩
      refine ⟨_, rfl, _, rfl, small9 (by simp), fun t nt => ?_⟩
      have x := Ex.new (o := HO.tup [.ref pe, .ref pt]) nt
      exact q t pe pt es evs _ npeH nptH npedd nptdd npept (e5.trans (Exd.of x)) (hdd5.mono x) upd_same (x _ _ hpe5) (hE5.mono x) (x _ _ hpt5) hv5 (by omega) hf5
/-! ### events that cannot be -/
theorem vrun_take {r : Nat} {ws : List (List Bool)} : ∀ {es : List Ev} {c : Co} (k : Nat), VRun r ws c es → VRun r ws c (es.take k)
  | [], _, k, _ => by rw [List.take_nil]; trivial
  | e :: es, c, 0, _ => trivial
  | e :: es, c, k + 1, ⟨h1, h2, h3⟩ => ⟨h1, fun h => by rw [h2 h]; exact List.take_nil, vrun_take k h3⟩
theorem fEnd_take {r : Nat} {ws : List (List Bool)} : ∀ {es : List Ev} {c : Co} (k : Nat), VRun r ws c es → k < es.length ∨ fEnd r ws c es = false → fEnd r ws c (es.take k) = false
  | [], _, k, _, _ => by rw [List.take_nil]; rfl
  | e :: es, c, 0, _, _ => rfl
  | e :: es, c, k + 1, ⟨h1, h2, h3⟩, h => by
    show ((flt r c e).isSome || fEnd r ws (cst r ws c e) (es.take k)) = false
    have hf : flt r c e = none := by
      rcases h with h | h
      · cases hf : flt r c e with
        | none => rfl
        | some p =>
          have h2 := h2 (by rw [hf]; simp)
          rw [h2] at h
          simp at h
      · have h : ((flt r c e).isSome || fEnd r ws (cst r ws c e) es) = false := h
        cases hf : flt r c e with
        | none => rfl
        | some p => rw [hf] at h; cases h
    rw [hf]
    refine fEnd_take k h3 ?_
    rcases h with h | h
    · left
      simpa using h
    · right
      have h : ((flt r c e).isSome || fEnd r ws (cst r ws c e) es) = false := h
      rw [hf] at h
      exact h
theorem told_has (r : Nat) (ws : List (List Bool)) : ∀ (es : List Ev) (s : LS), fEnd r ws s.c es = true → ∃ v ∈ lTold r ws s es, inV v [.str "over", .str "under"] = true
  | [], s, h => by cases h
  | e :: es, s, h => by
    have h : ((flt r s.c e).isSome || fEnd r ws (cst r ws s.c e) es) = true := h
    cases hf : flt r s.c e with
    | some p =>
      refine ⟨lans r s e, List.mem_cons_self, ?_⟩
      have : lans r s e = fltV (some p) := by
        show lAns r s.c s.n s.ls e = _
        unfold lAns
        rw [hf]
        have hm : movs r s.c e = none := by
          cases e with
          | look w => rfl
          | tp q o =>
            unfold flt at hf
            unfold movs
            cases hg : goes r s.c q <;> cases hb : bad r s.c q <;> simp_all
        rw [hm]
      rw [this]
      cases p <;> decide +kernel
    | none =>
      rw [hf] at h
      obtain ⟨v, h1, h2⟩ := told_has r ws es (lstep r ws s e) h
      exact ⟨v, List.mem_cons_of_mem _ h1, h2⟩
theorem filt_lt {α : Type} (p : α → Bool) : ∀ (l : List α), (∃ x ∈ l, p x = false) → (l.filter p).length < l.length
  | [], ⟨_, h, _⟩ => by cases h
  | a :: l, ⟨x, hx, hp⟩ => by
    rw [List.filter_cons]
    rcases List.mem_cons.mp hx with rfl | hx
    · rw [if_neg (by rw [hp]; decide)]
      exact Nat.lt_succ_of_le (List.length_filter_le _ _)
    · have := filt_lt p l ⟨x, hx, hp⟩
      by_cases h : p a = true
      · rw [if_pos h]
        simpa using this
      · rw [if_neg h]
        exact Nat.lt_succ_of_lt this
theorem end_c (r : Nat) (ws : List (List Bool)) : ∀ (es : List Ev) (s : LS) (p : PS), s.c = p.c → (lEnd r ws s es).c = (pEnd r ws p es).c
  | [], _, _, h => h
  | e :: es, s, p, h => end_c r ws es (lstep r ws s e) (pstep r ws p e) (by show cst r ws s.c e = cst r ws p.c e; rw [h])
/-- looks -/
theorem looks_run {r : Nat} {ws : List (List Bool)} (w : Bool) : ∀ (k : Nat) (c : Co), VRun r ws c (List.replicate k (.look w)) ∧ fEnd r ws c (List.replicate k (.look w)) = false
  | 0, _ => ⟨trivial, rfl⟩
  | k + 1, c => by
    obtain ⟨h1, h2⟩ := looks_run (r := r) (ws := ws) w k (cst r ws c (.look w))
    rw [List.replicate_succ]
    refine ⟨⟨?_, fun h => absurd rfl h, h1⟩, h2⟩
    cases w
    · exact List.mem_append_left _ (List.mem_append_left _ (List.mem_cons_of_mem _ List.mem_cons_self))
    · exact List.mem_append_left _ (List.mem_append_left _ List.mem_cons_self)
theorem looks_told {r : Nat} {ws : List (List Bool)} (w : Bool) : ∀ (k : Nat) (s : PS), pTold r ws s (List.replicate k (.look w)) = List.replicate k .non
  | 0, _ => rfl
  | k + 1, s => by
    rw [List.replicate_succ, List.replicate_succ]
    exact congrArg (V.non :: ·) (looks_told w k _)
/-- a tuple that is no event that may be -/
def BadT (r : Nat) (ws : List (List Bool)) (c : Co) (bs : List V) : Prop := (∀ x ∈ bs, Sn x) ∧ mayB r ws c bs = false
def BadV (r : Nat) (ws : List (List Bool)) (c : Co) (H : Hp) (v : V) : Prop := ∃ t bs, v = .ref t ∧ H t = some (.tup bs) ∧ BadT r ws c bs
theorem BadV.mono {r : Nat} {ws : List (List Bool)} {c : Co} {H H' : Hp} {v : V} (e : Ex H H') (h : BadV r ws c H v) : BadV r ws c H' v := by
  obtain ⟨t, bs, h1, h2, h3⟩ := h
  exact ⟨t, bs, h1, e _ _ h2, h3⟩
theorem BadV.exd {r : Nat} {ws : List (List Bool)} {c : Co} {H H' : Hp} {v : V} {d : Addr} (hd : ∀ xs, H d ≠ some (.tup xs)) (e : Exd d H H') (h : BadV r ws c H v) : BadV r ws c H' v := by
  obtain ⟨t, bs, h1, h2, h3⟩ := h
  exact ⟨t, bs, h1, e _ _ h2 (by rintro rfl; exact hd _ h2), h3⟩
section
variable {r n : Nat} {ws : List (List Bool)} {c : Co}
theorem bad_look {b : V} (hs : Sn b) (h : inV b [.str "writer", .str "reader"] = false) : BadT r ws c [.str "look", b] := by
  refine ⟨fun x hx => ?_, (mayB_look b).trans h⟩
  rcases List.mem_cons.mp hx with rfl | hx
  · exact .inr ⟨_, rfl⟩
  · rw [List.mem_singleton.mp hx]; exact hs
theorem bad_tp (p : Bool) (z : Str) (h : inV (.str z) ((mayW r ws c p).map wv) = false) : BadT r ws c [.str (pS p), .str z] := by
  refine ⟨fun x hx => ?_, (mayB_tp p _).trans (by rw [h]; rfl)⟩
  rcases List.mem_cons.mp hx with rfl | hx
  · exact .inr ⟨_, rfl⟩
  · rw [List.mem_singleton.mp hx]; exact .inr ⟨_, rfl⟩
theorem bad_word (p : Bool) (u : List Bool) (h : u ∉ mayW r ws c p) : BadT r ws c [.str (pS p), wv u] := bad_tp p _ (by rw [inV_wv, decide_eq_false h])
theorem bad_wide (hW : WW ws n r) (hc : CoOk r c) (p : Bool) (u : List Bool) (h : u.length ≠ n) : BadT r ws c [.str (pS p), wv u] := bad_word p u fun hm => h (mayW_wide hW hc p u hm)
theorem bad_two : BadT r ws c [.str (pS false), .str "2"] := by
  refine bad_tp false _ ?_
  unfold inV
  rw [List.any_map, List.any_eq_false]
  intro u _ he
  have he : eqV (wv u) (.str "2") = true := he
  have he : wd u = ("2" : Str) := by simpa [eqV] using he
  have h1 : u.map bit = [50] := by
    rw [← wd_toList, he]
    decide +kernel
  cases u with
  | nil => cases h1
  | cons a u =>
    have h2 : bit a = 50 := (List.cons.inj h1).1
    cases a <;> exact absurd h2 (by decide)
theorem bad_other (a b : V) (ha : Sn a) (hb : Sn b) (h1 : decide (a = .str "look") = false) (h2 : inV a [.str "put", .str "get"] = false) : BadT r ws c [a, b] := by
  refine ⟨fun x hx => ?_, ?_⟩
  · rcases List.mem_cons.mp hx with rfl | hx
    · exact ha
    · rw [List.mem_singleton.mp hx]; exact hb
  · rw [mayB, h1, h2]
    rfl
end
/-- a comprehension that makes such tuples, or leaves them out -/
theorem lcB {K : PySem.W.Frag} {α : Type} {a : Addr} (l : List α) (ev : α → V) {r : Nat} {ws : List (List Bool)} {c : Co} {j : Nat} {tt : TT} {te : TE} {vs : List Nat} {σ : L2.St} {H1 : Hp} {D : Addr} {Qd : Hp → Prop}
    (hx : SqL K H1 a (l.map ev)) (hz : l.length ≤ 1000) (hD : H1 D = none) (hw : ∀ x, wipe ((wipe σ vs).set j (some x)) vs = wipe σ vs)
    (hs : ∀ x ∈ l, ∀ H, Ex H1 H → ∀ (Y : VK) (N : Hp → Prop), (∀ t H2, Ex H H2 → BadV r ws c H2 (.ref t) → Y (.ref t) H2) → (∀ H2, Ex H H2 → N H2) → tt ((wipe σ vs).set j (some (ev x))) H fun b H3 => if b = true then te ((wipe σ vs).set j (some (ev x))) H3 Y else N H3)
    (hd : ∀ H2 ys, Ex H1 H2 → H2 D = some (.lst ys) → ys.length ≤ l.length → (∀ v ∈ ys, BadV r ws c H2 v) → Qd H2) :
    ∃ W : Nat → Nat → Hp → Prop, (∃ m, W 0 m (upd H1 D (.lst []))) ∧ ∀ i m H, W i m H →
      ((Itl K a).stop i H ∧ Qd H) ∨ ((Itl K a).go i H ∧ ∃ Nx : Hp → Prop, (∀ H', Nx H' → ∃ m', m' < m ∧ W (i + 1) m' H') ∧ ∀ x H', (Itl K a).yld i H x H' → (gName j) x (wipe σ vs) H' fun σ2 H2 => wipe σ2 vs = wipe σ vs ∧ tt σ2 H2 fun b H3 =>
        if b = true then te σ2 H3 fun y H4 => ∃ acc, H4 D = some (.lst acc) ∧ acc.length < sizeLine ∧ Nx (upd H4 D (.lst (acc ++ [y]))) else Nx H3) := by
  refine lc_list (xs := l.map ev) (fun i H => Ex H1 H ∧ ∃ ys, H D = some (.lst ys) ∧ ys.length ≤ i ∧ ∀ v ∈ ys, BadV r ws c H v) ⟨Ex.new hD, [], upd_same, Nat.le_refl _, by simp⟩ (fun i H _ h => ex_l h.1 hx) (fun i x H hi h => ?_) (fun H h => ?_)
  · obtain ⟨e1, ys, hy, hyl, hp⟩ := h
    have hil : i < l.length := by
      have := (List.getElem?_eq_some_iff.mp hi).1
      rwa [List.length_map] at this
    obtain ⟨y, hy2, rfl⟩ : ∃ y, l[i]? = some y ∧ ev y = x := by
      rw [List.getElem?_map] at hi
      cases e : l[i]? with
      | none => rw [e] at hi; cases hi
      | some y => rw [e] at hi; exact ⟨y, rfl, Option.some.inj hi⟩
    refine ⟨hw _, hs y (List.mem_of_getElem? hy2) H e1 _ _ (fun t H2 e2 hb => ?_) (fun H2 e2 => ?_)⟩
    · have hy3 := e2 _ _ hy
      refine ⟨ys, hy3, small1000 (by omega), Ex.mut (e1.trans e2) hD, _, upd_same, by simp; omega, fun v hv => ?_⟩
      have up : ∀ v, BadV r ws c H2 v → BadV r ws c (L2.upd H2 D (.lst (ys ++ [.ref t]))) v := by
        rintro v ⟨t', bs, h1, h2, h3⟩
        exact ⟨t', bs, h1, by rw [upd_ne (by rintro rfl; rw [hy3] at h2; cases h2)]; exact h2, h3⟩
      rcases List.mem_append.mp hv with hv | hv
      · exact up v ((hp v hv).mono e2)
      · rw [List.mem_singleton.mp hv]
        exact up _ hb
    · exact ⟨e1.trans e2, ys, e2 _ _ hy, by omega, fun v hv => (hp v hv).mono e2⟩
  · obtain ⟨e1, ys, hy, hyl, hp⟩ := h
    rw [List.length_map] at hyl
    exact hd H ys e1 hy hyl hp
abbrev qlam : Str := (("law" : Str) ++ ".<locals>.") ++ "<lambda>"
/-- what stands in the law's heap -/
structure Sit6 (dd l pw pe pt Pt : Addr) (r : Nat) (ws : List (List Bool)) (es : List V) (evs : List Ev) (told : List V) (H : Hp) : Prop where
  dice : Dice H dd
  lane : H l = some (.tup [.int (r : Int), .ref pw])
  words : H pw = some (.lst (ws.map wv))
  evl : H pe = some (.lst es)
  evs : EvL H es evs
  told : H pt = some (.lst told)
  tab : LamX.Tabs [(Pt, qlam)] H
  n1 : l ≠ dd
  n2 : pw ≠ dd
  n3 : pe ≠ dd
  n4 : pt ≠ dd
theorem tabs_exd {T : List (Addr × Str)} {dd : Addr} {H H' : Hp} (h : LamX.Tabs T H) (hd : Dice H dd) (e : Exd dd H H') : LamX.Tabs T H' := fun p hp => by
  obtain ⟨ps, a1, a2, a3⟩ := h p hp
  obtain ⟨s, c, r, hd, _⟩ := hd
  refine ⟨ps, e _ _ a1 (by rintro z; rw [← z, a1] at hd; cases hd), a2, fun pos cv hc => ?_⟩
  obtain ⟨c, e1, e2⟩ := a3 pos cv hc
  refine ⟨c, e1, e _ _ e2 ?_⟩
  rintro rfl
  rw [e2] at hd
  have hd := Option.some.inj hd
  unfold LamX.CodeO at hd
  cases hd
section
variable {dd l pw pe pt Pt : Addr} {r : Nat} {ws : List (List Bool)} {es : List V} {evs : List Ev} {told : List V} {H H' : Hp}
theorem Sit6.ex (h : Sit6 dd l pw pe pt Pt r ws es evs told H) (e : Ex H H') : Sit6 dd l pw pe pt Pt r ws es evs told H' :=
  ⟨h.dice.mono e, e _ _ h.lane, e _ _ h.words, e _ _ h.evl, h.evs.mono e, e _ _ h.told, h.tab.ext e, h.n1, h.n2, h.n3, h.n4⟩
theorem Sit6.exd (h : Sit6 dd l pw pe pt Pt r ws es evs told H) (e : Exd dd H H') (hd : Dice H' dd) : Sit6 dd l pw pe pt Pt r ws es evs told H' :=
  ⟨hd, e _ _ h.lane h.n1, e _ _ h.words h.n2, e _ _ h.evl h.n3, h.evs.updD h.dice.notTup e, e _ _ h.told h.n4, tabs_exd h.tab h.dice e, h.n1, h.n2, h.n3, h.n4⟩
theorem Sit6.extN (h : Sit6 dd l pw pe pt Pt r ws es evs told H) (e : LamX.ExtN H H') (ht : LamX.Tabs [(Pt, qlam)] H') : Sit6 dd l pw pe pt Pt r ws es evs told H' := by
  obtain ⟨⟨s, c, rr, hd, hr⟩, h1, h2, h3, h4, h5, _, n1, n2, n3, n4⟩ := h
  exact ⟨⟨s, c, rr, e _ _ hd (fun ps z => by cases z), hr⟩, e _ _ h1 (fun ps z => by cases z), e _ _ h2 (fun ps z => by cases z), e _ _ h3 (fun ps z => by cases z), paired_imp (fun v x ⟨t, q1, q2⟩ => ⟨t, q1, e _ _ q2 (fun ps z => by cases z)⟩) h4, e _ _ h5 (fun ps z => by cases z), ht, n1, n2, n3, n4⟩
end
theorem hloc_by {N : List Str} {scope : Scope} (h : (scope.names.all fun y => !decide (y.2 = .local) || !N.contains y.1) = true) : ∀ y ∈ scope.names, y.2 = .local → y.1 ∉ N := fun y hy e hm => by
  have := List.all_eq_true.mp h y hy
  rw [decide_eq_true e, show N.contains y.1 = true from by simpa using hm] at this
  cases this
theorem badl_snoc {r : Nat} {ws : List (List Bool)} {c : Co} {H H' : Hp} {vs : List V} {v : V} (h : ∀ u ∈ vs, BadV r ws c H u) (e : Ex H H') (hv : BadV r ws c H' v) : ∀ u ∈ vs ++ [v], BadV r ws c H' u := fun u hu => by
  rcases List.mem_append.mp hu with hu | hu
  · exact (h u hu).mono e
  · rw [List.mem_singleton.mp hu]
    exact hv
theorem ok_law (T : TX K mg) {cL Pt : Addr} (hcode : T.fd_law.code = .ref cL) (TB : LamX.TabB base mg cL Pt) : FnOk P w K mg base CX0 8 T.f_law T.fd_law ["_law_script"] (sp_lawT K Pt) := by
  refine okLaw T.F_law hcode sc_law (fun vs H Q E h => ?_) (fun A outer s H vs Q E hr h => ?_)
  · obtain ⟨a, ns, rfl, _⟩ := h
    rfl
  · obtain ⟨a, ns, rfl, hS, hlen, hPt, q⟩ := h
    refine ⟨_, (pss_cons (ps_set (i := 1) sc_law.nd rfl (by first | exact Or.inl rfl | exact Or.inr rfl) (pe_call (ok_l_dice T) (hr.mono (by decide)) (by rfl) T.g_l_dice T.F_l_dice.kp T.b_l_dice .nil pass0 (pa_cons (pv 0) (pa_cons pe_int pa_nil))))
 (pss_cons (ps_set (i := 2) sc_law.nd rfl (by first | exact Or.inl rfl | exact Or.inr rfl) (pe_call (ok_l_lane T) (hr.mono (by decide)) (by rfl) T.g_l_lane T.F_l_lane.kp T.b_l_lane .nil pass0 (pa_cons (pv 1) pa_nil)))
 (pss_cons (ps_asg (pe_call (ok_l_events T) (hr.mono (by decide)) (by rfl) T.g_l_events T.F_l_events.kp T.b_l_events .nil pass0 (pa_cons (pv 1) (pa_cons (pv 2) (pa_cons (pe_ix ix_list (pe_lst (pa_cons pe_int (pa_cons pe_int pa_nil))) (pe_call (ok_l_off T) (hr.mono (by decide)) (by rfl) T.g_l_off T.F_l_off.kp T.b_l_off .nil pass0 (pa_cons (pv 1) (pa_cons pe_int pa_nil))) (fun _ _ => rfl)) pa_nil)))) (pg_tup (by rfl) (pgs_cons (pg_name (i := 3) sc_law.nd rfl (by first | exact Or.inl rfl | exact Or.inr rfl)) (pgs_cons (pg_name (i := 4) sc_law.nd rfl (by first | exact Or.inl rfl | exact Or.inr rfl)) pgs_nil))))
 (pss_cons (ps_set (i := 5) sc_law.nd rfl (by first | exact Or.inl rfl | exact Or.inr rfl) (pe_callB call_len_seq (by rfl) T.z_len PySem.boot_len (pa_cons (pe_lc (own := [("_law_one", 6)]) (g := gName 6) (by rfl) sc_law.nd (pi_list (pv 4)) (blkOk_by (own := [("_law_one", 6)]) (N := ["_law_script", "_law_d", "_law_lane_here", "_law_events_here", "_law_told", "_law_many", "_law_one", "_law_at", "_law_s", "_law_event", "_law_seen_here", "_law_got_seen", "_law_every", "_law_others", "_law_word", "_law_some", "_law_bad", "_law_works", "_law_work", "_law_long"]) (sc := defScope s_law) (by decide +kernel)) (fun _ _ _ _ _ => pg_name (i := 6) sc_law.nd rfl (Or.inl rfl)) (fun _ _ _ _ _ => (pts_one (pt_cmpR (r := rIn K true) op_notIn_seq (pv 6) (pe_tup (pa_cons pe_str (pa_cons pe_str pa_nil))) (by rfl)))) (fun _ _ _ _ _ => (pv 6))) pa_nil)))
 (pss_cons (ps_set (i := 7) sc_law.nd rfl (by first | exact Or.inl rfl | exact Or.inr rfl) (pe_call (ok_l_off T) (hr.mono (by decide)) (by rfl) T.g_l_off T.F_l_off.kp T.b_l_off .nil pass0 (pa_cons (pv 1) (pa_cons (pe_op op_add (pv 5) pe_int) pa_nil))))
 (pss_cons (ps_set (i := 8) sc_law.nd rfl (by first | exact Or.inl rfl | exact Or.inr rfl) (pe_call0 (ok_l_begun T) (hr.mono (by decide)) (by rfl) T.g_l_begun T.F_l_begun.kp T.b_l_begun .nil pass0))
 (pss_cons (ps_for PassesOwn.never rfl (pi_list (pe_slice sl_list (pv 3) po_none (po_some (pv 7)))) (pg_name (i := 9) sc_law.nd rfl (by first | exact Or.inl rfl | exact Or.inr rfl))
 (pss_one (ps_expr (pe_call (ok_l_do T) (hr.mono (by decide)) (by rfl) T.g_l_do T.F_l_do.kp T.b_l_do .nil pass0 (pa_cons (pv 2) (pa_cons (pv 8) (pa_cons (pv 9) pa_nil)))))))
 (pss_cons (ps_set (i := 10) sc_law.nd rfl (by first | exact Or.inl rfl | exact Or.inr rfl) (pe_ix ix_tup (pe_call (ok_l_turn T) (hr.mono (by decide)) (by rfl) T.g_l_turn T.F_l_turn.kp T.b_l_turn .nil pass0 (pa_cons (pv 2) (pa_cons (pv 8) (pa_cons pe_str pa_nil)))) pe_int (fun _ _ => rfl)))
 (pss_cons (ps_set (i := 11) sc_law.nd rfl (by first | exact Or.inl rfl | exact Or.inr rfl) (pe_ix ix_tup (pe_call (ok_l_turn T) (hr.mono (by decide)) (by rfl) T.g_l_turn T.F_l_turn.kp T.b_l_turn .nil pass0 (pa_cons (pv 2) (pa_cons (pv 8) (pa_cons pe_str pa_nil)))) pe_int (fun _ _ => rfl)))
 (pss_cons (ps_set (i := 12) sc_law.nd rfl (by first | exact Or.inl rfl | exact Or.inr rfl) (pe_call (ok_l_plain T) (hr.mono (by decide)) (by rfl) T.g_l_plain T.F_l_plain.kp T.b_l_plain .nil pass0 (pa_cons (pe_callB call_len_str (by rfl) T.z_len PySem.boot_len (pa_cons (pe_ix ix_seq (pe_ix ix_tup (pv 2) pe_int (fun _ _ => rfl)) pe_int (fun _ _ => rfl)) pa_nil)) pa_nil)))
 (pss_cons (ps_setLc (i := 13) (own := [("_law_word", 14)]) (g := gName 14) (by rfl) sc_law.nd rfl rfl (sw_true rfl rfl rfl (by decide +kernel)) (pi_list (pv 12)) (blkOk_by (own := [("_law_word", 14)]) (N := ["_law_script", "_law_d", "_law_lane_here", "_law_events_here", "_law_told", "_law_many", "_law_one", "_law_at", "_law_s", "_law_event", "_law_seen_here", "_law_got_seen", "_law_every", "_law_others", "_law_word", "_law_some", "_law_bad", "_law_works", "_law_work", "_law_long"]) (sc := defScope s_law) (by decide +kernel)) (fun _ _ _ _ _ => pg_name (i := 14) sc_law.nd rfl (Or.inl rfl)) (fun _ _ _ _ _ => (pts_one (pt_cmpR (r := rIn K true) op_notIn_seq (pv 14) (pv 10) (by rfl)))) (fun _ _ _ _ _ => (pe_tup (pa_cons pe_str (pa_cons (pv 14) pa_nil)))))
 (pss_cons (ps_set (i := 13) sc_law.nd rfl (by first | exact Or.inl rfl | exact Or.inr rfl) (pe_op op_cat (pv 13) (pe_lc (own := [("_law_word", 14)]) (g := gName 14) (by rfl) sc_law.nd (pi_list (pv 12)) (blkOk_by (own := [("_law_word", 14)]) (N := ["_law_script", "_law_d", "_law_lane_here", "_law_events_here", "_law_told", "_law_many", "_law_one", "_law_at", "_law_s", "_law_event", "_law_seen_here", "_law_got_seen", "_law_every", "_law_others", "_law_word", "_law_some", "_law_bad", "_law_works", "_law_work", "_law_long"]) (sc := defScope s_law) (by decide +kernel)) (fun _ _ _ _ _ => pg_name (i := 14) sc_law.nd rfl (Or.inl rfl)) (fun _ _ _ _ _ => (pts_one (pt_cmpR (r := rIn K true) op_notIn_seq (pv 14) (pv 11) (by rfl)))) (fun _ _ _ _ _ => (pe_tup (pa_cons pe_str (pa_cons (pv 14) pa_nil)))))))
 (pss_cons (ps_set (i := 15) sc_law.nd rfl (by first | exact Or.inl rfl | exact Or.inr rfl) (pe_lst (pa_cons (pe_tup (pa_cons pe_str (pa_cons pe_str pa_nil))) (pa_cons (pe_tup (pa_cons pe_str (pa_cons pe_non pa_nil))) (pa_cons (pe_tup (pa_cons pe_str (pa_cons pe_str pa_nil))) (pa_cons (pe_tup (pa_cons pe_str (pa_cons pe_str pa_nil))) (pa_cons (pe_tup (pa_cons pe_str (pa_cons pe_non pa_nil))) (pa_cons (pe_tup pa_nil) (pa_cons (pe_tup (pa_cons pe_str pa_nil)) (pa_cons (pe_tup (pa_cons pe_str pa_nil)) pa_nil))))))))))
 (pss_cons (ps_set (i := 15) sc_law.nd rfl (by first | exact Or.inl rfl | exact Or.inr rfl) (pe_op op_cat (pe_op op_cat (pv 15) (pe_lst (pa_cons (pe_tup (pa_cons pe_str (pa_cons pe_non (pa_cons pe_non pa_nil)))) (pa_cons (pe_tup (pa_cons pe_str (pa_cons pe_str pa_nil))) (pa_cons (pe_tup (pa_cons pe_str (pa_cons (pe_op op_add_str (pe_ix ix_seq (pe_ix ix_tup (pv 2) pe_int (fun _ _ => rfl)) pe_int (fun _ _ => rfl)) pe_str) pa_nil))) pa_nil))))) (pv 13)))
 (pss_cons (ps_set (i := 16) sc_law.nd rfl (by first | exact Or.inl rfl | exact Or.inr rfl) (pe_op op_cat (pe_op op_cat (pe_op op_cat (pe_slice sl_list (pv 3) po_none (po_some (pv 7))) (pe_lst (pa_cons (pe_ix ix_list (pv 15) (pe_call (ok_l_off T) (hr.mono (by decide)) (by rfl) T.g_l_off T.F_l_off.kp T.b_l_off .nil pass0 (pa_cons (pv 1) (pa_cons (pe_callB call_len_seq (by rfl) T.z_len PySem.boot_len (pa_cons (pv 15) pa_nil)) pa_nil))) (fun _ _ => rfl)) pa_nil))) (pe_slice sl_list (pv 3) (po_some (pv 7)) po_none)) (pe_op op_rep (pe_lst (pa_cons (pe_tup pa_nil) pa_nil)) (pe_call (ok_l_off T) (hr.mono (by decide)) (by rfl) T.g_l_off T.F_l_off.kp T.b_l_off .nil pass0 (pa_cons (pv 1) (pa_cons pe_int pa_nil))))))
 (pss_cons (ps_set (i := 17) sc_law.nd rfl (by first | exact Or.inl rfl | exact Or.inr rfl) (pe_lst (pa_cons (pe_lam0 (T := [(Pt, qlam)]) TB rfl (List.mem_singleton.mpr rfl) (fun p hp _ => by rw [List.mem_singleton.mp hp]; rfl) (lScope_by (sc := defScope s_law) (by decide +kernel)).free) (pa_cons (pe_lam1 (T := [(Pt, qlam)]) TB rfl (List.mem_singleton.mpr rfl) (fun p hp _ => by rw [List.mem_singleton.mp hp]; rfl) (lScope_by (sc := defScope s_law) (by decide +kernel)).free) pa_nil))))
 (pss_cons (ps_if (pt_cmpR (op_neD hr.units) (pe_lcO (.inl rfl) sc_law.nd (pv 17) (blkOk_by (own := [("_law_work", 18)]) (N := ["_law_script", "_law_d", "_law_lane_here", "_law_events_here", "_law_told", "_law_many", "_law_one", "_law_at", "_law_s", "_law_event", "_law_seen_here", "_law_got_seen", "_law_every", "_law_others", "_law_word", "_law_some", "_law_bad", "_law_works", "_law_work", "_law_long"]) (sc := defScope s_law) (by decide +kernel)) (fun _ _ _ _ _ => pg_name (i := 18) sc_law.nd rfl (Or.inl rfl)) (fun _ _ _ _ _ _ _ I0 hfp => pts_one (pt_not (pt_val (pe_refB T (hr.mono (by decide)) I0 hfp (by rfl) (pa_cons (pv 18) (pa_cons pe_str (pa_cons (pv 7) pa_nil))))))) (fun _ _ _ _ _ _ _ _ _ => pv 18)) (pe_lst pa_nil) (nomark _))
 (pss_one (ps_ret pe_bl))
 pss_nil)
 (pss_cons (ps_set (i := 19) sc_law.nd rfl (by first | exact Or.inl rfl | exact Or.inr rfl) (pe_op op_rep (pe_lst (pa_cons (pe_tup (pa_cons pe_str (pa_cons (pe_ix ix_list (pe_lst (pa_cons pe_str (pa_cons pe_str pa_nil))) (pe_call (ok_l_off T) (hr.mono (by decide)) (by rfl) T.g_l_off T.F_l_off.kp T.b_l_off .nil pass0 (pa_cons (pv 1) (pa_cons pe_int pa_nil))) (fun _ _ => rfl)) pa_nil))) pa_nil)) (pe_op op_add pe_int (pe_call (ok_l_off T) (hr.mono (by decide)) (by rfl) T.g_l_off T.F_l_off.kp T.b_l_off .nil pass0 (pa_cons (pv 1) (pa_cons pe_int pa_nil))))))
 (pss_cons (ps_if (pt_not (pt_val (pe_refX T (hr.mono (by decide)) (by rfl) (pa_cons (pe_lam1 (T := [(Pt, qlam)]) TB rfl (List.mem_singleton.mpr rfl) (fun p hp _ => by rw [List.mem_singleton.mp hp]; rfl) (lScope_by (sc := defScope s_law) (by decide +kernel)).free) (pa_cons pe_str (pa_cons pe_int pa_nil))))))
 (pss_one (ps_ret pe_bl))
 pss_nil)
 (pss_one (ps_ret (pe_and (pe_call (ok_l_alike T) (hr.mono (by decide)) (by rfl) T.g_l_alike T.F_l_alike.kp T.b_l_alike .nil pass0 (pa_cons (pe_call (ok_played T) (hr.mono (by decide)) (by rfl) T.g_played T.F_played.kp T.b_played .nil (L2N.passes_call (E := fun _ _ _ => False) (W := fun _ _ _ _ => False) takesN0 (fun _ _ _ _ h => h)) (pa_cons (pv 2) (pa_cons (pv 3) pa_nil))) (pa_cons (pv 4) pa_nil))) (pe_one (pe_call (ok_l_alike T) (hr.mono (by decide)) (by rfl) T.g_l_alike T.F_l_alike.kp T.b_l_alike .nil pass0 (pa_cons (pe_call (ok_played T) (hr.mono (by decide)) (by rfl) T.g_played T.F_played.kp T.b_played .nil (L2N.passes_call (E := fun _ _ _ => False) (W := fun _ _ _ _ => False) takesN0 (fun _ _ _ _ h => h)) (pa_cons (pv 2) (pa_cons (pe_slice sl_list (pv 19) po_none (po_some pe_int)) pa_nil))) (pa_cons (pe_op op_rep (pe_lst (pa_cons pe_non pa_nil)) pe_int) pa_nil)))))))))))))))))))))))))), ?_⟩
    refine ⟨.ref a, rfl, a, ns, rfl, hS, hlen, fun dd H1 nd1 e1 hd1 => ?_⟩
    have nPd : Pt ≠ dd := ne_of_none hPt nd1
    have hP1 := e1 _ _ hPt
    refine ⟨_, rfl, dd, rfl, hd1, fun l pw r n ws H2 npw nl npd e2 hd2 hl2 hw2 hW hnd => ?_⟩
    have r1 := hW.r1
    have r6 := hW.r6
    have nld : l ≠ dd := by
      rintro rfl
      exact hd2.notTup _ hl2
    have hP2 := e2 _ _ hP1 nPd
    refine ⟨_, rfl, _, rfl, small9 (by simp), fun p np => ?_⟩
    have x := Ex.new (o := HO.lst [.int 50, .int 97]) np
    refine ⟨_, rfl, dd, 2, rfl, hd2.mono x, by decide, by decide, fun x2 H3 x20 x21 e3 hd3 => ?_⟩
    have hp := e3 _ _ (upd_same (H := H2) (a := p) (o := HO.lst [.int 50, .int 97])) (hd2.neN np)
    have hl3 := e3 _ _ (x _ _ hl2) nld
    have hw3 := e3 _ _ (x _ _ hw2) npd
    have hP3 := e3 _ _ (x _ _ hP2) nPd
    obtain ⟨m, hm, hat⟩ : ∃ m : Nat, m ≤ 97 ∧ atI [V.int 50, V.int 97] x2 = some (.int (m : Int)) := by
      have : x2 = 0 ∨ x2 = 1 := by omega
      rcases this with rfl | rfl
      · exact ⟨50, by decide, rfl⟩
      · exact ⟨97, by decide, rfl⟩
    refine ⟨p, _, _, .int (m : Int), rfl, rfl, SqL.of hp, hat, dd, l, pw, r, n, m, ws, rfl, hd3, hl3, hw3, npd, hW, by omega, fun t pe pt es evs H5 _ _ npe npt npept e5 hd5 ht5 hpe5 hE5 hpt5 hV hle hF => ?_⟩
    have hl5 := e5 _ _ hl3 nld
    have hw5 := e5 _ _ hw3 npd
    have hP5 := e5 _ _ hP3 nPd
    have hles := hE5.len
    refine ⟨t, _, rfl, SqT.of ht5, rfl, _, _, rfl, _, _, rfl, rfl, ?_⟩
    have hlt := lTold_len r ws evs ls0
    have hans := told_ans r ws evs ls0
    have heq := told0 (ws := ws) r1 r6 evs
    have hhas := told_has r ws evs ls0
    generalize lTold r ws ls0 evs = told at *
    refine ⟨_, rfl, pt, rfl, ⟨_, SqL.of hpt5⟩, fun D nD => lcW told (fun v => v) (fun v => !inV v [.str "over", .str "under"]) (fun v => v) (walk_ls _ _) (fun H e => by rw [List.map_id']; exact SqL.of (e _ _ hpt5)) (by omega) nD (fun _ => rfl) (fun v hv H6 e6 Y N hY => ?_) (fun H6 e6 h6 => ?_)⟩
    · refine ⟨_, rfl, small9 (by simp), fun p2 np2 => ⟨p2, _, rfl, .inr (SqT.of upd_same), (hans v hv).flat, rfl, _, rfl, ?_⟩⟩
      have hY := hY _ (Ex.new (o := .tup [.str "over", .str "under"]) np2)
      cases hin : inV v [.str "over", .str "under"] with
      | true =>
        rw [hin] at hY
        refine ifN (by simp) ?_
        simpa using hY
      | false =>
        rw [hin] at hY
        refine ifP rfl ⟨_, rfl, ?_⟩
        simpa using hY
    have hd6 := hd5.mono e6
    have hE6 := hE5.mono e6
    have hpe6 := e6 _ _ hpe5
    have hpt6 := e6 _ _ hpt5
    have hl6 := e6 _ _ hl5
    have hw6 := e6 _ _ hw5
    have hP6 := e6 _ _ hP5
    refine ⟨D, _, rfl, .inl (SqL.of h6), ?_⟩
    have hmany : ((told.filter (fun v => !inV v [.str "over", .str "under"])).map fun v => v).length ≤ evs.length ∧ (fEnd r ws ⟨0, 0, 0, 0⟩ evs = true → ((told.filter (fun v => !inV v [.str "over", .str "under"])).map fun v => v).length < evs.length) := by
      rw [List.length_map, ← hlt]
      refine ⟨List.length_filter_le _ _, fun h => filt_lt _ _ ?_⟩
      obtain ⟨v, h1, h2⟩ := hhas h
      exact ⟨v, h1, by rw [h2]; rfl⟩
    generalize ((told.filter (fun v => !inV v [.str "over", .str "under"])).map fun v => v).length = many at hmany ⊢
    refine ⟨_, rfl, _, rfl, _, _, rfl, rfl, dd, _, rfl, hd6, by omega, by omega, fun k H7 k0 k1 e7 hd7 => ?_⟩
    obtain ⟨k, rfl⟩ : ∃ j : Nat, k = (j : Int) := ⟨k.toNat, by omega⟩
    have hk : k ≤ evs.length := by have := hmany.1; omega
    have hfk : fEnd r ws ⟨0, 0, 0, 0⟩ (evs.take k) = false := by
      refine fEnd_take k hV ?_
      cases hfe : fEnd r ws ⟨0, 0, 0, 0⟩ evs with
      | false => exact .inr rfl
      | true =>
        have := hmany.2 hfe
        left
        omega
    have hE7 := hE6.updD hd6.notTup e7
    have hpe7 := e7 _ _ hpe6 npe
    have hpt7 := e7 _ _ hpt6 npt
    have hl7 := e7 _ _ hl6 nld
    have hw7 := e7 _ _ hw6 npd
    have hP7 := e7 _ _ hP6 nPd
    clear hE6 hpe6 hpt6 hl6 hw6 hP6 hE5 hpe5 hpt5 hl5 hw5 hP5 hP3 hl3 hw3 hP2 hl2 hw2 hP1
    refine ⟨rfl, fun d pl H8 nd npl ndpl e8 hdk8 hpl8 => ?_⟩
    refine ⟨_, rfl, _, rfl, _, rfl, pe, _, rfl, SqL.of (e8 _ _ hpe7), fun o no => ?_⟩
    have x9 := Ex.new (o := HO.lst (cutV es none (some (k : Int)))) no
    have ho9 : upd H8 o (.lst (cutV es none (some (k : Int)))) o = some (.lst (es.take k)) := by rw [upd_same, cutTake]
    have ndo : d ≠ o := ne_of_none hdk8 no
    have hdk9 := x9 _ _ hdk8
    have hpl9 := x9 _ _ hpl8
    have e9 := e8.trans x9
    generalize upd H8 o (.lst (cutV es none (some (k : Int)))) = H9 at x9 ho9 hdk9 hpl9 e9 ⊢
    have hetk : (es.take k).length = k := by rw [List.length_take]; omega
    refine ⟨o, rfl, ⟨_, SqL.of ho9⟩, for_list (K := K) (a := o) (xs := es.take k) (fun i σ H' => ∃ lp y9, σ = [some (.ref a), some (.ref dd), some (.ref l), some (.ref pe), some (.ref pt), some (.int (many : Int)), none, some (.int (k : Int)), some (.ref d), y9, none, none, none, none, none, none, none, none, none, none] ∧ Ex H7 H' ∧ H' o = some (.lst (es.take k)) ∧ H' d = some (.dK (LK lp (lEnd r ws ls0 (evs.take i)).c (lEnd r ws ls0 (evs.take i)).n (lEnd r ws ls0 (evs.take i)).f)) ∧ H' lp = some (.lst (lV (lEnd r ws ls0 (evs.take i)).ls))) ⟨pl, _, rfl, e9, ho9, hdk9, hpl9⟩ (fun i σ H' _ ⟨_, _, _, _, h, _⟩ => SqL.of h) ?_ ?_⟩
    · rintro i v σ H10 hi ⟨lp, y9, rfl, e10, ho10, hdk10, hlp10⟩
      have hik : i < k := by
        have := (List.getElem?_eq_some_iff.mp hi).1
        omega
      have hi : es[i]? = some v := by rwa [List.getElem?_take_of_lt hik] at hi
      obtain ⟨te, e, hte1, hev, hte⟩ := (hE7.mono e10).at (i := i) (by omega)
      rw [hi] at hte1
      cases hte1
      obtain ⟨hco, hins⟩ := ls_ok hW (evs.take i) ls0 (coOk_zero r1) (ins0 r)
      have htk : evs.take (i + 1) = evs.take i ++ [e] := by rw [List.take_add_one, hev]; rfl
      have hS2 : lEnd r ws ls0 (evs.take (i + 1)) = lstep r ws (lEnd r ws ls0 (evs.take i)) e := by
        rw [htk, lEnd_app]
        rfl
      rw [hS2]
      generalize lEnd r ws ls0 (evs.take i) = S at *
      refine ⟨_, rfl, _, rfl, _, rfl, l, d, te, pw, lp, r, n, ws, S.c, S.n, S.f, S.ls, e, rfl, e10 _ _ hl7, e10 _ _ hw7, hW, hdk10, hlp10, by have := hins.2; omega, hco, hins, hte, fun lp' H11 hor e11 hdk11 hlp11 => ?_⟩
      exact ⟨lp', _, rfl, fun a o ho => e11 a o (e10 a o ho) (ne_of_none ho nd), e11 _ _ ho10 ndo.symm, hdk11, hlp11⟩
    rw [hetk]
    rintro σ H10 ⟨lp, y9, rfl, e10, _, hdk10, hlp10⟩
    obtain ⟨hco, hins⟩ := ls_ok hW (evs.take k) ls0 (coOk_zero r1) (ins0 r)
    have hcc : (lEnd r ws ls0 (evs.take k)).c = (pEnd r ws (ps0 r) (evs.take k)).c := end_c r ws _ _ _ rfl
    rw [hcc] at hdk10 hco
    generalize hc : (pEnd r ws (ps0 r) (evs.take k)).c = c at hdk10 hco
    generalize (lEnd r ws ls0 (evs.take k)).n = nx at hdk10
    generalize (lEnd r ws ls0 (evs.take k)).f = fx at hdk10
    refine ⟨_, rfl, _, rfl, l, d, pw, lp, r, n, ws, c, nx, fx, true, rfl, e10 _ _ hl7, e10 _ _ hw7, hW, hdk10, hco, fun t1 q1 H11 nt1 nq1 e11 ht1 hq1 => ?_⟩
    refine ⟨t1, _, _, _, rfl, rfl, SqT.of ht1, rfl, ?_⟩
    have e711 := e10.trans e11
    refine ⟨_, rfl, _, rfl, l, d, pw, lp, r, n, ws, c, nx, fx, false, rfl, e711 _ _ hl7, e711 _ _ hw7, hW, e11 _ _ hdk10, hco, fun t2 q2 H12 nt2 nq2 e12 ht2 hq2 => ⟨t2, _, _, _, rfl, rfl, SqT.of ht2, rfl, ?_⟩⟩
    have e712 := e711.trans e12
    have hq1 := e12 _ _ hq1
    have S12 : Sit6 dd l pw pe pt Pt r ws es evs told H12 := ⟨hd7.mono e712, e712 _ _ hl7, e712 _ _ hw7, e712 _ _ hpe7, hE7.mono e712, e712 _ _ hpt7, fun p hp => by rw [List.mem_singleton.mp hp]; exact LamX.TabS.nil (e712 _ _ hP7), nld, npd, npe, npt⟩
    clear hdk10 hlp10 hdk9 hpl9 ho9 e9 x9 e8 hdk8 hpl8 e7 e6 h6 ht1 ht2 hpe7 hpt7 hl7 hw7 hP7 hE7 hd7 hd6 e11 e10 e711 e712 e12
    have hw0 := hW.at (i := 0) (by omega)
    have hw0n := hW.wat (i := 0) (by omega)
    generalize ws.getD 0 [] = w0 at hw0 hw0n
    refine ⟨_, rfl, l, _, _, _, rfl, rfl, SqT.of S12.lane, rfl, .inl ⟨pw, _, _, _, rfl, rfl, SqL.of S12.words, atI_nat hw0, _, rfl, Nat.le_of_lt (small1000 (by rw [wd_len, hw0n]; have := hW.n4; omega)), n, by rw [wd_len, hw0n]; rfl, hW.n4, fun pQ H13 npv e13 hpv => ?_⟩⟩
    have S13 := S12.ex e13
    have hq1 := e13 _ _ hq1
    have hq2 := e13 _ _ hq2
    have hpl16 : (plainW n).length ≤ 16 := by
      rw [plainW_len]
      exact Nat.pow_le_pow_right (by decide) hW.n4
    clear e13 S12 npv
    refine ⟨_, rfl, pQ, rfl, ⟨_, SqL.of hpv⟩, fun D1 nD1 => lcB (r := r) (ws := ws) (c := c) (plainW n) wv (SqL.of hpv) (by omega) nD1 (fun _ => rfl) (fun x hx H14 e14 Y N hY hN => ?_) (fun H14 ys1 e14 hys1 hyl1 hb1 => ?_)⟩
    · refine ⟨_, rfl, _, rfl, q1, _, rfl, .inl (SqL.of (e14 _ _ hq1)), rfl, flatW _, _, rfl, ?_⟩
      by_cases hxm : x ∈ mayW r ws c true
      · exact ifN (by rw [inV_wv, decide_eq_true hxm]; simp) (hN _ (Ex.refl _))
      · exact ifP (by rw [inV_wv, decide_eq_false hxm]; simp) ⟨_, rfl, small9 (by simp), fun t nt => hY t _ (Ex.new nt) ⟨t, _, rfl, upd_same, bad_word true x hxm⟩⟩
    have S14 := S13.ex e14
    have hq2 := e14 _ _ hq2
    have hpv := e14 _ _ hpv
    clear e14 S13 hq1
    refine ⟨_, rfl, _, rfl, pQ, rfl, ⟨_, SqL.of hpv⟩, fun D2 nD2 => lcB (r := r) (ws := ws) (c := c) (plainW n) wv (SqL.of hpv) (by omega) nD2 (fun _ => rfl) (fun x hx H15 e15 Y N hY hN => ?_) (fun H15 ys2 e15 hys2 hyl2 hb2 => ?_)⟩
    · refine ⟨_, rfl, _, rfl, q2, _, rfl, .inl (SqL.of (e15 _ _ hq2)), rfl, flatW _, _, rfl, ?_⟩
      by_cases hxm : x ∈ mayW r ws c false
      · exact ifN (by rw [inV_wv, decide_eq_true hxm]; simp) (hN _ (Ex.refl _))
      · exact ifP (by rw [inV_wv, decide_eq_false hxm]; simp) ⟨_, rfl, small9 (by simp), fun t nt => hY t _ (Ex.new nt) ⟨t, _, rfl, upd_same, bad_word false x hxm⟩⟩
    have S15 := S14.ex e15
    have hb1 : ∀ v ∈ ys1, BadV r ws c H15 v := fun v hv => (hb1 v hv).mono e15
    refine ⟨D1, D2, _, _, rfl, rfl, e15 _ _ hys1, hys2, small9 (by omega), fun O nO => ?_⟩
    have xO := Ex.new (o := HO.lst (ys1 ++ ys2)) nO
    have S16 := S15.ex xO
    have hO : upd H15 O (.lst (ys1 ++ ys2)) O = some (.lst (ys1 ++ ys2)) := upd_same
    have hbO : ∀ v ∈ ys1 ++ ys2, BadV r ws c (upd H15 O (.lst (ys1 ++ ys2))) v := fun v hv => by
      rcases List.mem_append.mp hv with hv | hv
      · exact (hb1 v hv).mono xO
      · exact (hb2 v hv).mono xO
    have hyl : (ys1 ++ ys2).length ≤ 32 := by rw [List.length_append]; omega
    generalize upd H15 O (.lst (ys1 ++ ys2)) = G0 at xO S16 hO hbO ⊢
    generalize ys1 ++ ys2 = ys at hO hbO hyl ⊢
    clear xO S15 S14 hb1 hb2 hys1 hys2 e15 hpv hq2
    have hB0 : ∀ u ∈ ([] : List V), BadV r ws c G0 u := by simp
    refine ⟨small9 (by simp), fun s1 n1 => ?_⟩
    have x1 := Ex.new (o := HO.tup [.str "look", .str "none"]) n1
    have hB1 := badl_snoc hB0 x1 (v := .ref s1) ⟨s1, _, rfl, upd_same, bad_look (.inr ⟨_, rfl⟩) (by decide +kernel)⟩
    have T1 := S16.ex x1
    have hO := x1 _ _ hO
    have hbO : ∀ v ∈ ys, BadV r ws c (upd G0 s1 (.tup [.str "look", .str "none"])) v := fun v hv => (hbO v hv).mono x1
    generalize upd G0 s1 (.tup [.str "look", .str "none"]) = G1 at x1 hB1 T1 hO hbO ⊢
    clear x1 hB0
    refine ⟨small9 (by simp), fun s2 n2 => ?_⟩
    have x2 := Ex.new (o := HO.tup [.str "look", .non]) n2
    have hB2 := badl_snoc hB1 x2 (v := .ref s2) ⟨s2, _, rfl, upd_same, bad_look (.inl rfl) (by decide +kernel)⟩
    have T2 := T1.ex x2
    have hO := x2 _ _ hO
    have hbO : ∀ v ∈ ys, BadV r ws c (upd G1 s2 (.tup [.str "look", .non])) v := fun v hv => (hbO v hv).mono x2
    generalize upd G1 s2 (.tup [.str "look", .non]) = G2 at x2 hB2 T2 hO hbO ⊢
    clear x2 hB1
    refine ⟨small9 (by simp), fun s3 n3 => ?_⟩
    have x3 := Ex.new (o := HO.tup [.str "put", .str ""]) n3
    have hB3 := badl_snoc hB2 x3 (v := .ref s3) ⟨s3, _, rfl, upd_same, bad_wide hW hco true [] (by have := hW.n1; simp; omega)⟩
    have T3 := T2.ex x3
    have hO := x3 _ _ hO
    have hbO : ∀ v ∈ ys, BadV r ws c (upd G2 s3 (.tup [.str "put", .str ""])) v := fun v hv => (hbO v hv).mono x3
    generalize upd G2 s3 (.tup [.str "put", .str ""]) = G3 at x3 hB3 T3 hO hbO ⊢
    clear x3 hB2
    refine ⟨small9 (by simp), fun s4 n4 => ?_⟩
    have x4 := Ex.new (o := HO.tup [.str "get", .str "2"]) n4
    have hB4 := badl_snoc hB3 x4 (v := .ref s4) ⟨s4, _, rfl, upd_same, bad_two⟩
    have T4 := T3.ex x4
    have hO := x4 _ _ hO
    have hbO : ∀ v ∈ ys, BadV r ws c (upd G3 s4 (.tup [.str "get", .str "2"])) v := fun v hv => (hbO v hv).mono x4
    generalize upd G3 s4 (.tup [.str "get", .str "2"]) = G4 at x4 hB4 T4 hO hbO ⊢
    clear x4 hB3
    refine ⟨small9 (by simp), fun s5 n5 => ?_⟩
    have x5 := Ex.new (o := HO.tup [.str "Put", .non]) n5
    have hB5 := badl_snoc hB4 x5 (v := .ref s5) ⟨s5, _, rfl, upd_same, bad_other _ _ (.inr ⟨_, rfl⟩) (.inl rfl) (by decide +kernel) (by decide +kernel)⟩
    have T5 := T4.ex x5
    have hO := x5 _ _ hO
    have hbO : ∀ v ∈ ys, BadV r ws c (upd G4 s5 (.tup [.str "Put", .non])) v := fun v hv => (hbO v hv).mono x5
    generalize upd G4 s5 (.tup [.str "Put", .non]) = G5 at x5 hB5 T5 hO hbO ⊢
    clear x5 hB4
    refine ⟨small9 (by simp), fun s6 n6 => ?_⟩
    have x6 := Ex.new (o := HO.tup []) n6
    have hB6 := badl_snoc hB5 x6 (v := .ref s6) ⟨s6, _, rfl, upd_same, ⟨by simp, rfl⟩⟩
    have T6 := T5.ex x6
    have hO := x6 _ _ hO
    have hbO : ∀ v ∈ ys, BadV r ws c (upd G5 s6 (.tup [])) v := fun v hv => (hbO v hv).mono x6
    generalize upd G5 s6 (.tup []) = G6 at x6 hB6 T6 hO hbO ⊢
    clear x6 hB5
    refine ⟨small9 (by simp), fun s7 n7 => ?_⟩
    have x7 := Ex.new (o := HO.tup [.str "put"]) n7
    have hB7 := badl_snoc hB6 x7 (v := .ref s7) ⟨s7, _, rfl, upd_same, ⟨fun x hx => by rw [List.mem_singleton.mp hx]; exact .inr ⟨_, rfl⟩, rfl⟩⟩
    have T7 := T6.ex x7
    have hO := x7 _ _ hO
    have hbO : ∀ v ∈ ys, BadV r ws c (upd G6 s7 (.tup [.str "put"])) v := fun v hv => (hbO v hv).mono x7
    generalize upd G6 s7 (.tup [.str "put"]) = G7 at x7 hB7 T7 hO hbO ⊢
    clear x7 hB6
    refine ⟨small9 (by simp), fun s8 n8 => ?_⟩
    have x8 := Ex.new (o := HO.tup [.str "look"]) n8
    have hB8 := badl_snoc hB7 x8 (v := .ref s8) ⟨s8, _, rfl, upd_same, ⟨fun x hx => by rw [List.mem_singleton.mp hx]; exact .inr ⟨_, rfl⟩, rfl⟩⟩
    have T8 := T7.ex x8
    have hO := x8 _ _ hO
    have hbO : ∀ v ∈ ys, BadV r ws c (upd G7 s8 (.tup [.str "look"])) v := fun v hv => (hbO v hv).mono x8
    generalize upd G7 s8 (.tup [.str "look"]) = G8 at x8 hB8 T8 hO hbO ⊢
    clear x8 hB7
    refine ⟨small9 (by simp), fun L8 nL8 => ?_⟩
    have x9 := Ex.new (o := HO.lst [.ref s1, .ref s2, .ref s3, .ref s4, .ref s5, .ref s6, .ref s7, .ref s8]) nL8
    have T9 := T8.ex x9
    have hO := x9 _ _ hO
    have hbO : ∀ v ∈ ys, BadV r ws c (upd G8 L8 (.lst [.ref s1, .ref s2, .ref s3, .ref s4, .ref s5, .ref s6, .ref s7, .ref s8])) v := fun v hv => (hbO v hv).mono x9
    have hB9 : ∀ v ∈ [.ref s1, .ref s2, .ref s3, .ref s4, .ref s5, .ref s6, .ref s7, .ref s8], BadV r ws c (upd G8 L8 (.lst [.ref s1, .ref s2, .ref s3, .ref s4, .ref s5, .ref s6, .ref s7, .ref s8])) v := fun v hv => (hB8 v hv).mono x9
    have hL8 : upd G8 L8 (.lst [.ref s1, .ref s2, .ref s3, .ref s4, .ref s5, .ref s6, .ref s7, .ref s8]) L8 = some (.lst [.ref s1, .ref s2, .ref s3, .ref s4, .ref s5, .ref s6, .ref s7, .ref s8]) := upd_same
    obtain ⟨so, hso⟩ : ∃ so : List V, so = [.ref s1, .ref s2, .ref s3, .ref s4, .ref s5, .ref s6, .ref s7, .ref s8] := ⟨_, rfl⟩
    have hsl : so.length = 8 := by rw [hso]; rfl
    rw [← hso] at hB9 hL8 T9 hO hbO ⊢
    generalize upd G8 L8 (.lst so) = G9 at T9 hO hbO hB9 hL8 ⊢
    clear x9 hso hB8
    refine ⟨_, rfl, ?_⟩
    refine ⟨small9 (by simp), fun s9 n9 => ?_⟩
    have x9 := Ex.new (o := HO.tup [.str "get", .non, .non]) n9
    have hC9 := badl_snoc hB9 x9 (v := .ref s9) ⟨s9, _, rfl, upd_same, ⟨fun x hx => by
      rcases List.mem_cons.mp hx with rfl | hx
      · exact .inr ⟨_, rfl⟩
      · rcases List.mem_cons.mp hx with rfl | hx
        · exact .inl rfl
        · rw [List.mem_singleton.mp hx]; exact .inl rfl, rfl⟩⟩
    have T10 := T9.ex x9
    have hO := x9 _ _ hO
    have hL8 := x9 _ _ hL8
    have hbO : ∀ v ∈ ys, BadV r ws c (upd G9 s9 (.tup [.str "get", .non, .non])) v := fun v hv => (hbO v hv).mono x9
    generalize upd G9 s9 (.tup [.str "get", .non, .non]) = G10 at x9 hC9 T10 hO hL8 hbO ⊢
    clear x9
    refine ⟨small9 (by simp), fun s10 n10 => ?_⟩
    have x10 := Ex.new (o := HO.tup [.str "", .str ""]) n10
    have hC10 := badl_snoc hC9 x10 (v := .ref s10) ⟨s10, _, rfl, upd_same, bad_other _ _ (.inr ⟨_, rfl⟩) (.inr ⟨_, rfl⟩) (by decide +kernel) (by decide +kernel)⟩
    have T11 := T10.ex x10
    have hO := x10 _ _ hO
    have hL8 := x10 _ _ hL8
    have hbO : ∀ v ∈ ys, BadV r ws c (upd G10 s10 (.tup [.str "", .str ""])) v := fun v hv => (hbO v hv).mono x10
    generalize upd G10 s10 (.tup [.str "", .str ""]) = G11 at x10 hC10 T11 hO hL8 hbO ⊢
    clear x10
    refine ⟨_, rfl, l, _, _, _, rfl, rfl, SqT.of T11.lane, rfl, .inl ⟨pw, _, _, _, rfl, rfl, SqL.of T11.words, atI_nat hw0, _, _, rfl, rfl, small9 (by rw [str0, wd_len, wd_len, hw0n]; have := hW.n4; simp; omega), small9 (by simp), fun s11 n11 => ?_⟩⟩
    have x11 := Ex.new (o := HO.tup [.str "get", .str (wd w0 ++ "0")]) n11
    have hC11 := badl_snoc hC10 x11 (v := .ref s11) ⟨s11, _, rfl, upd_same, by rw [str0, wd_app]; exact bad_wide hW hco false _ (by simp; omega)⟩
    have T12 := T11.ex x11
    have hO := x11 _ _ hO
    have hL8 := x11 _ _ hL8
    have hbO : ∀ v ∈ ys, BadV r ws c (upd G11 s11 (.tup [.str "get", .str (wd w0 ++ "0")])) v := fun v hv => (hbO v hv).mono x11
    generalize upd G11 s11 (.tup [.str "get", .str (wd w0 ++ "0")]) = G12 at x11 hC11 T12 hO hL8 hbO ⊢
    clear x11
    refine ⟨small9 (by simp), fun L3 nL3 => ?_⟩
    have x12 := Ex.new (o := HO.lst [.ref s9, .ref s10, .ref s11]) nL3
    have T13 := T12.ex x12
    have hO := x12 _ _ hO
    have hL8 := x12 _ _ hL8
    have hL3 : upd G12 L3 (.lst [.ref s9, .ref s10, .ref s11]) L3 = some (.lst [.ref s9, .ref s10, .ref s11]) := upd_same
    have hbO : ∀ v ∈ ys, BadV r ws c (upd G12 L3 (.lst [.ref s9, .ref s10, .ref s11])) v := fun v hv => (hbO v hv).mono x12
    have hC : ∀ v ∈ so ++ [.ref s9, .ref s10, .ref s11], BadV r ws c (upd G12 L3 (.lst [.ref s9, .ref s10, .ref s11])) v := fun v hv => (hC11 v (by simpa using hv)).mono x12
    generalize upd G12 L3 (.lst [.ref s9, .ref s10, .ref s11]) = G13 at x12 T13 hO hL8 hL3 hbO hC ⊢
    clear hC9 hC10 hC11 x12
    refine ⟨L8, L3, _, _, rfl, rfl, hL8, hL3, small9 (by rw [hsl]; simp), fun LM nLM => ?_⟩
    have x13 := Ex.new (o := HO.lst (so ++ [.ref s9, .ref s10, .ref s11])) nLM
    refine ⟨_, rfl, LM, O, _, _, rfl, rfl, upd_same, x13 _ _ hO, small9 (by rw [List.length_append, hsl]; simp; omega), fun SS nSS => ?_⟩
    have x14 := Ex.new (o := HO.lst ((so ++ [.ref s9, .ref s10, .ref s11]) ++ ys)) nSS
    have T14 := (T13.ex x13).ex x14
    have nSd : SS ≠ dd := (T13.ex x13).dice.neN nSS
    have hSS : upd (upd G13 LM (.lst (so ++ [.ref s9, .ref s10, .ref s11]))) SS (.lst ((so ++ [.ref s9, .ref s10, .ref s11]) ++ ys)) SS = some (.lst ((so ++ [.ref s9, .ref s10, .ref s11]) ++ ys)) := upd_same
    have hBS : ∀ v ∈ (so ++ [.ref s9, .ref s10, .ref s11]) ++ ys, BadV r ws c (upd (upd G13 LM (.lst (so ++ [.ref s9, .ref s10, .ref s11]))) SS (.lst ((so ++ [.ref s9, .ref s10, .ref s11]) ++ ys))) v := fun v hv => by
      rcases List.mem_append.mp hv with hv | hv
      · exact (hC v hv).mono (x13.trans x14)
      · exact (hbO v hv).mono (x13.trans x14)
    have hSl : 1 ≤ ((so ++ [V.ref s9, V.ref s10, V.ref s11]) ++ ys).length ∧ ((so ++ [V.ref s9, V.ref s10, V.ref s11]) ++ ys).length ≤ 50 := by
      rw [List.length_append, List.length_append, hsl]
      simp
      omega
    generalize upd (upd G13 LM (.lst (so ++ [V.ref s9, V.ref s10, V.ref s11]))) SS (.lst ((so ++ [V.ref s9, V.ref s10, V.ref s11]) ++ ys)) = J0 at T14 hSS hBS ⊢
    generalize (so ++ [V.ref s9, V.ref s10, V.ref s11]) ++ ys = sm at hSS hBS hSl ⊢
    clear x13 x14 hO hbO hC hL8 hL3 T13 T12 T11 T10 T9 T8 T7 T6 T5 T4 T3 T2 T1 S16
    refine ⟨_, rfl, _, rfl, _, rfl, pe, _, rfl, SqL.of T14.evl, fun o1 no1 => ?_⟩
    have y1 := Ex.new (o := HO.lst (cutV es none (some (k : Int)))) no1
    have U1 := T14.ex y1
    have no1d : o1 ≠ dd := T14.dice.neN no1
    have ho1 : upd J0 o1 (.lst (cutV es none (some (k : Int)))) o1 = some (.lst (es.take k)) := by rw [upd_same, cutTake]
    have hSS := y1 _ _ hSS
    have hBS : ∀ v ∈ sm, BadV r ws c (upd J0 o1 (.lst (cutV es none (some (k : Int))))) v := fun v hv => (hBS v hv).mono y1
    generalize upd J0 o1 (.lst (cutV es none (some (k : Int)))) = J1 at U1 ho1 hSS hBS ⊢
    clear y1 T14
    refine ⟨_, rfl, _, rfl, _, rfl, SS, _, rfl, .inl (SqL.of hSS), dd, _, rfl, U1.dice, by omega, by omega, fun j J2 j0 j1 ee hdj => ?_⟩
    obtain ⟨j, rfl⟩ : ∃ z : Nat, j = (z : Int) := ⟨j.toNat, by omega⟩
    have hjl : j < sm.length := by omega
    have hv : sm[j]? = some sm[j] := List.getElem?_eq_getElem hjl
    obtain ⟨tb, bs, hvt, htb, hsn, hmay⟩ := (hBS _ (List.getElem_mem hjl)).exd U1.dice.notTup ee
    rw [hvt] at hv
    have U2 := U1.exd ee hdj
    have ho1 := ee _ _ ho1 no1d
    have hSS := ee _ _ hSS nSd
    clear hBS U1 ee hvt
    refine ⟨SS, _, _, _, rfl, rfl, SqL.of hSS, atI_nat hv, small9 (by simp), fun o2 no2 => ?_⟩
    have y2 := Ex.new (o := HO.lst [.ref tb]) no2
    have hek : (es.take k).length ≤ 100 := by omega
    have hed : (es.drop k).length ≤ 100 := by rw [List.length_drop]; omega
    refine ⟨o1, o2, _, _, rfl, rfl, y2 _ _ ho1, upd_same, small9 (by simp only [List.length_singleton]; omega), fun o3 no3 => ?_⟩
    have y3 := Ex.new (o := HO.lst (es.take k ++ [.ref tb])) no3
    have U3 := (U2.ex y2).ex y3
    have htb := y3 _ _ (y2 _ _ htb)
    have ho3 : upd (upd J2 o2 (.lst [.ref tb])) o3 (.lst (es.take k ++ [.ref tb])) o3 = some (.lst (es.take k ++ [.ref tb])) := upd_same
    generalize upd (upd J2 o2 (.lst [.ref tb])) o3 (.lst (es.take k ++ [.ref tb])) = J3 at U3 htb ho3 ⊢
    clear y2 y3 U2 ho1 hSS
    refine ⟨_, rfl, _, rfl, _, rfl, pe, _, rfl, SqL.of U3.evl, fun o4 no4 => ?_⟩
    have y4 := Ex.new (o := HO.lst (cutV es (some (k : Int)) none)) no4
    have ho4 : upd J3 o4 (.lst (cutV es (some (k : Int)) none)) o4 = some (.lst (es.drop k)) := by rw [upd_same, cutDrop]
    have U4 := U3.ex y4
    have htb := y4 _ _ htb
    have ho3 := y4 _ _ ho3
    generalize upd J3 o4 (.lst (cutV es (some (k : Int)) none)) = J4 at U4 htb ho3 ho4 ⊢
    clear y4 U3
    refine ⟨o3, o4, _, _, rfl, rfl, ho3, ho4, small9 (by rw [List.length_append]; simp only [List.length_singleton]; omega), fun o5 no5 => ?_⟩
    have y5 := Ex.new (o := HO.lst ((es.take k ++ [.ref tb]) ++ es.drop k)) no5
    have ho5 : upd J4 o5 (.lst ((es.take k ++ [.ref tb]) ++ es.drop k)) o5 = some (.lst ((es.take k ++ [.ref tb]) ++ es.drop k)) := upd_same
    have no5d : o5 ≠ dd := U4.dice.neN no5
    have U5 := U4.ex y5
    have htb := y5 _ _ htb
    generalize upd J4 o5 (.lst ((es.take k ++ [.ref tb]) ++ es.drop k)) = J5 at U5 htb ho5 ⊢
    clear y5 U4 ho3 ho4
    refine ⟨small9 (by simp), fun tu ntu => ⟨small9 (by simp), fun o6 no6 => ?_⟩⟩
    have y6 := Ex.new (o := HO.tup []) ntu
    have y7 := Ex.new (o := HO.lst [.ref tu]) no6
    have no6d : o6 ≠ dd := (U5.ex y6).dice.neN no6
    have ho6 : upd (upd J5 tu (.tup [])) o6 (.lst [.ref tu]) o6 = some (.lst [.ref tu]) := upd_same
    have U7 := (U5.ex y6).ex y7
    have htb := y7 _ _ (y6 _ _ htb)
    have ho5 := y7 _ _ (y6 _ _ ho5)
    generalize upd (upd J5 tu (.tup [])) o6 (.lst [.ref tu]) = J7 at U7 htb ho5 ho6 ⊢
    clear y6 y7 U5
    refine ⟨_, rfl, dd, 2, rfl, U7.dice, by decide, by decide, fun z J8 z0 z1 ez hdz => ?_⟩
    have U8 := U7.exd ez hdz
    have htb := ez _ _ htb (by rintro rfl; exact U7.dice.notTup _ htb)
    have ho5 := ez _ _ ho5 no5d
    have ho6 := ez _ _ ho6 no6d
    clear ez U7
    refine ⟨o6, z, _, rfl, rfl, ho6, by omega, by omega, small9 (by simp only [List.length_singleton]; omega), fun o7 no7 => ?_⟩
    have y8 := Ex.new (o := HO.lst (List.replicate z.toNat [V.ref tu]).flatten) no7
    have hfl : (List.replicate z.toNat [V.ref tu]).flatten.length ≤ 2 := by
      have : z = 0 ∨ z = 1 := by omega
      rcases this with rfl | rfl <;> simp
    refine ⟨o5, o7, _, _, rfl, rfl, y8 _ _ ho5, upd_same, small9 (by rw [List.length_append, List.length_append]; simp only [List.length_singleton]; omega), fun BB nBB => ?_⟩
    have y9 := Ex.new (o := HO.lst (((es.take k ++ [.ref tb]) ++ es.drop k) ++ (List.replicate z.toNat [V.ref tu]).flatten)) nBB
    have U9 := (U8.ex y8).ex y9
    have htb := y9 _ _ (y8 _ _ htb)
    have hBB : upd (upd J8 o7 (.lst (List.replicate z.toNat [V.ref tu]).flatten)) BB (.lst (((es.take k ++ [.ref tb]) ++ es.drop k) ++ (List.replicate z.toNat [V.ref tu]).flatten)) BB = some (.lst (((es.take k ++ [.ref tb]) ++ es.drop k) ++ (List.replicate z.toNat [V.ref tu]).flatten)) := upd_same
    generalize upd (upd J8 o7 (.lst (List.replicate z.toNat [V.ref tu]).flatten)) BB (.lst (((es.take k ++ [.ref tb]) ++ es.drop k) ++ (List.replicate z.toNat [V.ref tu]).flatten)) = J9 at U9 htb hBB ⊢
    clear y8 y9 U8 ho5 ho6
    have hlk : (evs.take k).length = k := by rw [List.length_take]; omega
    have hbk : (((es.take k ++ [V.ref tb]) ++ es.drop k) ++ (List.replicate z.toNat [V.ref tu]).flatten)[k]? = some (.ref tb) := by
      rw [List.append_assoc, List.append_assoc, List.getElem?_append_right (by omega), hetk, Nat.sub_self]
      rfl
    have hbl : k < (((es.take k ++ [V.ref tb]) ++ es.drop k) ++ (List.replicate z.toNat [V.ref tu]).flatten).length := (List.getElem?_eq_some_iff.mp hbk).1
    have hbe : ∀ i, i < k → (((es.take k ++ [V.ref tb]) ++ es.drop k) ++ (List.replicate z.toNat [V.ref tu]).flatten)[i]? = es[i]? := fun i hi => by
      rw [List.append_assoc, List.append_assoc, List.getElem?_append_left (by omega), List.getElem?_take_of_lt hi]
    generalize ((es.take k ++ [V.ref tb]) ++ es.drop k) ++ (List.replicate z.toNat [V.ref tu]).flatten = bad at hBB hbk hbl hbe ⊢
    -- refused, wherever these things stand
    have hAt : ∀ {H' : Hp}, EvL H' es evs → EvsAt H' bad (evs.take k) := fun {H'} hE => ⟨by omega, fun i e he => by
      have hi : i < k := by
        have := (List.getElem?_eq_some_iff.mp he).1
        omega
      rw [List.getElem?_take_of_lt hi] at he
      obtain ⟨t, e', h1, h2, h3⟩ := hE.at (i := i) (by omega)
      rw [he] at h2
      cases h2
      exact ⟨t, by rw [hbe i hi]; exact h1, h3⟩⟩
    have U9t := U9.tab
    refine ⟨U9t, fun f0 c0 dV0 K1 en0 hT0 nf0 th0 => ⟨hT0, fun f1 c1 dV1 K2 en1 hT1 nf1 th1 => ⟨small9 (by simp), fun WA nWA => ?_⟩⟩⟩
    have yw := Ex.new (o := HO.lst [.ref f0, .ref f1]) nWA
    have V1 := (((U9.extN en0 hT0).extN en1 hT1).ex yw)
    have th0 := (th0.extN en1).mono yw
    have th1 := th1.mono yw
    have htb := yw _ _ (en1 _ _ (en0 _ _ htb (fun ps z => by cases z)) (fun ps z => by cases z))
    have hBB := yw _ _ (en1 _ _ (en0 _ _ hBB (fun ps z => by cases z)) (fun ps z => by cases z))
    have hWA : upd K2 WA (.lst [.ref f0, .ref f1]) WA = some (.lst [.ref f0, .ref f1]) := upd_same
    generalize upd K2 WA (.lst [.ref f0, .ref f1]) = K3 at V1 th0 th1 htb hBB hWA ⊢
    clear en0 en1 hT0 hT1 yw U9 U9t
    refine ⟨_, rfl, WA, rfl, ⟨_, SqL.of hWA⟩, fun D nD => lcW [f0, f1] V.ref (fun _ => false) V.ref (walk_ls _ _) (fun H e => SqL.of (e _ _ hWA)) (by simp) nD (fun _ => rfl) (fun f hf H' e' Y N hY => ?_) (fun H' e' h' => ?_)⟩
    · have V2 := V1.ex e'
      have why : ∀ (E : XK), (∀ (d : Addr) (H2 : Hp), H' d = none → Ex H' H2 → H2 d = some (.xd [("at", .int (k : Int))]) → E (.ref T.C_BadEvent) (some d) H2) → Refu K T.C_BadEvent r ws H' bad (evs.take k) E := fun E hE => ⟨.inr ⟨tb, bs, by rw [hlk]; exact hbk, e' _ _ htb, hsn, by rw [hc]; exact hmay⟩, fun d H2 n2 e2 h2 => hE d H2 n2 e2 (by rw [hlk] at h2; exact h2)⟩
      refine ⟨_, rfl, _, rfl, f, (k : Int), rfl, ?_, fun H2 e2 => ⟨_, rfl, ifN (by simp) (by have := hY H2 e2; simpa using this)⟩⟩
      have run := vrun_take k hV
      rcases List.mem_cons.mp hf with rfl | hf
      · refine refOk_mk (bs := []) (th0.mono e') ⟨lScope_by (sc := defScope s_law) (by decide +kernel), hloc_by (N := ["_law_script", "_law_d", "_law_lane_here", "_law_events_here", "_law_told", "_law_many", "_law_one", "_law_at", "_law_s", "_law_event", "_law_seen_here", "_law_got_seen", "_law_every", "_law_others", "_law_word", "_law_some", "_law_bad", "_law_works", "_law_work", "_law_long"]) (by decide +kernel), fun s q cl dV doc pm cv ctv h => by
          cases (show dV = .none from h)
          exact ⟨[], BindsTo.of_eq rfl⟩, by simp,
          fun dV c' A outer s H E f hr' => pe_call (ok_played T) (hr'.mono (by decide)) (by rfl) T.g_played T.F_played.kp T.b_played .nil (L2N.passes_call (L2N.takes_of rfl rfl rfl rfl) (fun _ _ _ _ h => h)) (pa_cons (pv 2) (pa_cons (pv 16) pa_nil))⟩ ?_
        exact fun E Qn hE => ⟨_, rfl, _, rfl, l, pw, BB, r, n, ws, bad, evs.take k, rfl, V2.lane, V2.words, hW, hnd, e' _ _ hBB, hAt V2.evs, run, by omega, fun h => by
          rcases h with h | h
          · rw [hfk] at h
            cases h
          · omega, fun _ _ => why E hE⟩
      · rw [List.mem_singleton] at hf
        subst hf
        refine refOk_mk (bs := ["_law_a"]) (th1.mono e') ⟨lScope_by (sc := defScope s_law) (by decide +kernel), hloc_by (N := ["_law_script", "_law_d", "_law_lane_here", "_law_events_here", "_law_told", "_law_many", "_law_one", "_law_at", "_law_s", "_law_event", "_law_seen_here", "_law_got_seen", "_law_every", "_law_others", "_law_word", "_law_some", "_law_bad", "_law_works", "_law_work", "_law_long"]) (by decide +kernel), fun s q cl dV doc pm cv ctv h => by
          obtain ⟨t, rfl, u, o, ho, _, n, hs⟩ := h
          exact ⟨[u], BindsTo.of_defaults rfl ho hs rfl rfl⟩, fun y hy => by rw [List.mem_singleton.mp hy]; rfl,
          fun dV c' A outer s H E f hr' => pe_call (ok_got T) (hr'.mono (by decide)) (by rfl) T.g_got T.F_got.kp T.b_got .nil (L2N.passes_call (L2N.takes_of rfl rfl rfl rfl) (fun _ _ _ _ h => h)) (pa_cons (pv 2) (pa_cons (pv 16) pa_nil))⟩ ?_
        exact fun E Qn hE => ⟨_, rfl, _, rfl, l, pw, BB, r, n, ws, bad, evs.take k, rfl, V2.lane, V2.words, hW, hnd, e' _ _ hBB, hAt V2.evs, run, by omega, hfk, by omega, why E hE⟩
    · have h' : H' D = some (.lst []) := h'
      refine ⟨small9 (by simp), fun E0 nE0 => ⟨.list [], .list [], .lst (SqL.of ((Ex.new nE0) _ _ h')) .nil, .lst (SqL.of upd_same) .nil, rfl, rfl, _, rfl, ifN (by decide) ?_⟩⟩
      have V3 := (V1.ex e').ex (Ex.new (o := HO.lst []) nE0)
      generalize upd H' E0 (.lst []) = K4 at V3 ⊢
      clear h' e' V1 th0 th1 htb hBB hWA hAt hbe hbk hbl
      refine ⟨small9 (by simp), fun p1 np1 => ?_⟩
      have u1 := Ex.new (o := HO.lst [.str "writer", .str "reader"]) np1
      have V4 := V3.ex u1
      refine ⟨_, rfl, dd, 2, rfl, V4.dice, by decide, by decide, fun y K5 y0 y1 e5 hd5 => ?_⟩
      have hp1 := e5 _ _ (upd_same (H := K4) (a := p1) (o := HO.lst [.str "writer", .str "reader"])) (V3.dice.neN np1)
      have V5 := V4.exd e5 hd5
      obtain ⟨w, hw⟩ : ∃ w : Bool, atI [V.str "writer", V.str "reader"] y = some (.str (wS w)) := by
        have : y = 0 ∨ y = 1 := by omega
        rcases this with rfl | rfl
        · exact ⟨true, rfl⟩
        · exact ⟨false, rfl⟩
      refine ⟨p1, _, _, _, rfl, rfl, SqL.of hp1, hw, small9 (by simp), fun tl ntl => ⟨small9 (by simp), fun o1 no1 => ?_⟩⟩
      have u2 := Ex.new (o := HO.tup (evV (.look w))) ntl
      have u3 := Ex.new (o := HO.lst [.ref tl]) no1
      have V6 := (V5.ex u2).ex u3
      have no1d : o1 ≠ dd := (V5.ex u2).dice.neN no1
      have htl := u3 _ _ (upd_same (H := K5) (a := tl) (o := HO.tup (evV (.look w))))
      have ho1 : upd (upd K5 tl (.tup (evV (.look w)))) o1 (.lst [.ref tl]) o1 = some (.lst [.ref tl]) := upd_same
      refine ⟨_, rfl, dd, 3, rfl, V6.dice, by decide, by decide, fun y2 K6 y20 y21 e6 hd6 => ?_⟩
      have V7 := V6.exd e6 hd6
      have htl := e6 _ _ htl (by rintro rfl; exact V6.dice.notTup _ htl)
      have ho1 := e6 _ _ ho1 no1d
      clear u1 u2 u3 V3 V4 V5 V6 e5 e6 hp1
      obtain ⟨N, rfl⟩ : ∃ j : Nat, y2 = (j : Int) := ⟨y2.toNat, by omega⟩
      have hN : (101 + (N : Int)).toNat = 101 + N := by omega
      refine ⟨_, _, rfl, rfl, o1, _, _, rfl, rfl, ho1, by omega, by omega, small9 (by rw [hN]; simp only [List.length_singleton]; omega), fun LL nLL => ?_⟩
      have hfr : (List.replicate (101 + (N : Int)).toNat [V.ref tl]).flatten = List.replicate (101 + N) (.ref tl) := by rw [hN]; simp
      rw [hfr]
      have u4 := Ex.new (o := HO.lst (List.replicate (101 + N) (.ref tl))) nLL
      have V8 := V7.ex u4
      have htl := u4 _ _ htl
      have hLL : upd K6 LL (.lst (List.replicate (101 + N) (.ref tl))) LL = some (.lst (List.replicate (101 + N) (.ref tl))) := upd_same
      generalize upd K6 LL (.lst (List.replicate (101 + N) (.ref tl))) = K7 at V8 htl hLL ⊢
      clear u4 V7 ho1
      obtain ⟨lrun, lend⟩ := looks_run (r := r) (ws := ws) w 100 ⟨0, 0, 0, 0⟩
      have hLt : ∀ {H' : Hp} {vs : List V}, H' tl = some (.tup (evV (.look w))) → 100 ≤ vs.length → (∀ i, i < 100 → vs[i]? = some (.ref tl)) → EvsAt H' vs (List.replicate 100 (.look w)) := fun {H' vs} h1 h2 h3 => ⟨by rw [List.length_replicate]; exact h2, fun i e he => by
        obtain ⟨hi, he⟩ := List.getElem?_eq_some_iff.mp he
        rw [List.length_replicate] at hi
        rw [List.getElem_replicate] at he
        subst he
        exact ⟨tl, h3 i hi, h1⟩⟩
      have hrep : ∀ i, i < 100 → (List.replicate (101 + N) (V.ref tl))[i]? = some (.ref tl) := fun i hi => by
        rw [List.getElem?_replicate, if_pos (by omega)]
      refine ⟨V8.tab, fun f2 c2 dV2 K8 en hT2 nf2 th2 => ⟨f2, 100, rfl, ?_, fun K9 e9 => ⟨_, rfl, ifN (by simp) ?_⟩⟩⟩
      · have V9 := V8.extN en hT2
        have htl := en _ _ htl (fun ps z => by cases z)
        have hLL := en _ _ hLL (fun ps z => by cases z)
        refine refOk_mk (bs := ["_law_a"]) (th2) ⟨lScope_by (sc := defScope s_law) (by decide +kernel), hloc_by (N := ["_law_script", "_law_d", "_law_lane_here", "_law_events_here", "_law_told", "_law_many", "_law_one", "_law_at", "_law_s", "_law_event", "_law_seen_here", "_law_got_seen", "_law_every", "_law_others", "_law_word", "_law_some", "_law_bad", "_law_works", "_law_work", "_law_long"]) (by decide +kernel), fun s q cl dV doc pm cv ctv h => by
          obtain ⟨t, rfl, u, o, ho, _, n, hs⟩ := h
          exact ⟨[u], BindsTo.of_defaults rfl ho hs rfl rfl⟩, fun y hy => by rw [List.mem_singleton.mp hy]; rfl,
          fun dV c' A outer s H E f hr' => pe_call (ok_played T) (hr'.mono (by decide)) (by rfl) T.g_played T.F_played.kp T.b_played .nil (L2N.passes_call (L2N.takes_of rfl rfl rfl rfl) (fun _ _ _ _ h => h)) (pa_cons (pv 2) (pa_cons (pv 19) pa_nil))⟩ ?_
        exact fun E Qn hE => ⟨_, rfl, _, rfl, l, pw, LL, r, n, ws, _, List.replicate 100 (.look w), rfl, V9.lane, V9.words, hW, hnd, hLL, hLt htl (by rw [List.length_replicate]; omega) hrep, lrun, by simp, fun h => by
          rcases h with h | h
          · rw [lend] at h
            cases h
          · rw [List.length_replicate, List.length_replicate] at h
            omega, fun _ _ => ⟨.inl (by simp), fun d H' n2 e2 h2 => hE d H' n2 e2 (by rw [List.length_replicate] at h2; exact h2)⟩⟩
      · have V9 := (V8.extN en hT2).ex e9
        have htl := e9 _ _ (en _ _ htl (fun ps z => by cases z))
        have hLL := e9 _ _ (en _ _ hLL (fun ps z => by cases z))
        clear en e9 V8
        refine ⟨_, rfl, _, rfl, l, pw, pe, r, n, ws, es, evs, rfl, V9.lane, V9.words, hW, hnd, V9.evl, V9.evs.evsAt, hV, by omega, fun _ => fun pf H10 npf e10 hpf => ?_, fun _ h => absurd h (by omega)⟩
        rw [← heq] at hpf
        have V10 := V9.ex e10
        refine ⟨_, rfl, .ref pf, .ref pt, .list (told.map ansD), rfl, ans_list (n := 4) hpf (by omega) hans, ans_list (n := 4) V10.told (by omega) hans, fun H11 e11 => ⟨_, rfl, ifP rfl ?_⟩⟩
        have V11 := V10.ex e11
        have htl := e11 _ _ (e10 _ _ htl)
        have hLL := e11 _ _ (e10 _ _ hLL)
        clear V9 V10 e10 e11 hpf
        refine ⟨_, rfl, _, rfl, _, rfl, LL, _, rfl, SqL.of hLL, fun o no => ?_⟩
        have u5 := Ex.new (o := HO.lst (cutV (List.replicate (101 + N) (.ref tl)) none (some 100))) no
        have V12 := V11.ex u5
        have htl := u5 _ _ htl
        have ho : upd H11 o (.lst (cutV (List.replicate (101 + N) (.ref tl)) none (some 100))) o = some (.lst (List.replicate 100 (.ref tl))) := by
          rw [upd_same, show (100 : Int) = ((100 : Nat) : Int) from rfl, cutTake, List.take_replicate, Nat.min_eq_left (by omega)]
        generalize upd H11 o (.lst (cutV (List.replicate (101 + N) (.ref tl)) none (some 100))) = H12 at V12 htl ho ⊢
        refine ⟨l, pw, o, r, n, ws, _, List.replicate 100 (.look w), rfl, V12.lane, V12.words, hW, hnd, ho, hLt htl (by simp) (fun i hi => by rw [List.getElem?_replicate, if_pos hi]), lrun, by simp, fun _ => fun pf H13 npf e13 hpf => ?_, fun _ h => absurd h (by simp)⟩
        rw [looks_told] at hpf
        refine ⟨small9 (by simp), fun p3 np3 => ⟨p3, _, _, rfl, rfl, upd_same, by decide, by decide, small9 (by decide), fun p4 np4 => ?_⟩⟩
        have u6 := Ex.new (o := HO.lst [.non]) np3
        have u7 := Ex.new (o := HO.lst (List.replicate (100 : Int).toNat [V.non]).flatten) np4
        have hp4 : upd (upd H13 p3 (.lst [.non])) p4 (.lst (List.replicate (100 : Int).toNat [V.non]).flatten) p4 = some (.lst (List.replicate 100 .non)) := by
          rw [upd_same]
          rfl
        have hna : ∀ v ∈ List.replicate 100 V.non, AnsV v := fun v hv => .inl (List.eq_of_mem_replicate hv)
        exact ⟨.ref pf, .ref p4, .list ((List.replicate 100 V.non).map ansD), rfl, ans_list (n := 4) (u7 _ _ (u6 _ _ hpf)) (by simp) hna, ans_list (n := 4) hp4 (by simp) hna, fun H' e => q _⟩
end
theorem all_mk {l : PySem.W.OpenLaw} {w : World} {K : PySem.W.Frag} {h : Heap} {mg : Str → Option Value} {fa : Addr} (X : K.In h) (G : h.Ns mainGlobals mg) (hfa : mg "law" = some (.ref fa)) (own : LamX.OwnTab K fa h)
    {f_l_alike : Addr} {od_l_alike an_l_alike : Option Addr} {sl_l_alike : Array (Option Value)} {oc_l_alike kV_l_alike dc_l_alike pm_l_alike cd_l_alike ct_l_alike : Value}
    {f_l_begun : Addr} {od_l_begun an_l_begun : Option Addr} {sl_l_begun : Array (Option Value)} {oc_l_begun kV_l_begun dc_l_begun pm_l_begun cd_l_begun ct_l_begun : Value}
    {f_l_dice : Addr} {od_l_dice an_l_dice : Option Addr} {sl_l_dice : Array (Option Value)} {oc_l_dice kV_l_dice dc_l_dice pm_l_dice cd_l_dice ct_l_dice : Value}
    {f_l_plain : Addr} {od_l_plain an_l_plain : Option Addr} {sl_l_plain : Array (Option Value)} {oc_l_plain kV_l_plain dc_l_plain pm_l_plain cd_l_plain ct_l_plain : Value}
    {f_l_seen : Addr} {od_l_seen an_l_seen : Option Addr} {sl_l_seen : Array (Option Value)} {oc_l_seen kV_l_seen dc_l_seen pm_l_seen cd_l_seen ct_l_seen : Value}
    {f_l_turn : Addr} {od_l_turn an_l_turn : Option Addr} {sl_l_turn : Array (Option Value)} {oc_l_turn kV_l_turn dc_l_turn pm_l_turn cd_l_turn ct_l_turn : Value}
    {f_l_do : Addr} {od_l_do an_l_do : Option Addr} {sl_l_do : Array (Option Value)} {oc_l_do kV_l_do dc_l_do pm_l_do cd_l_do ct_l_do : Value}
    {f_l_can : Addr} {od_l_can an_l_can : Option Addr} {sl_l_can : Array (Option Value)} {oc_l_can kV_l_can dc_l_can pm_l_can cd_l_can ct_l_can : Value}
    {f_l_off : Addr} {od_l_off an_l_off : Option Addr} {sl_l_off : Array (Option Value)} {oc_l_off kV_l_off dc_l_off pm_l_off cd_l_off ct_l_off : Value}
    {f_l_events : Addr} {od_l_events an_l_events : Option Addr} {sl_l_events : Array (Option Value)} {oc_l_events kV_l_events dc_l_events pm_l_events cd_l_events ct_l_events : Value}
    {f_l_gray : Addr} {od_l_gray an_l_gray : Option Addr} {sl_l_gray : Array (Option Value)} {oc_l_gray kV_l_gray dc_l_gray pm_l_gray cd_l_gray ct_l_gray : Value}
    {f_l_mixed : Addr} {od_l_mixed an_l_mixed : Option Addr} {sl_l_mixed : Array (Option Value)} {oc_l_mixed kV_l_mixed dc_l_mixed pm_l_mixed cd_l_mixed ct_l_mixed : Value}
    {f_l_words : Addr} {od_l_words an_l_words : Option Addr} {sl_l_words : Array (Option Value)} {oc_l_words kV_l_words dc_l_words pm_l_words cd_l_words ct_l_words : Value}
    {f_l_lane : Addr} {od_l_lane an_l_lane : Option Addr} {sl_l_lane : Array (Option Value)} {oc_l_lane kV_l_lane dc_l_lane pm_l_lane cd_l_lane ct_l_lane : Value}
    {f_l_refused : Addr} {od_l_refused an_l_refused : Option Addr} {sl_l_refused : Array (Option Value)} {oc_l_refused kV_l_refused dc_l_refused pm_l_refused cd_l_refused ct_l_refused : Value}
    {f_BadEvent___init__ : Addr} {od_BadEvent___init__ an_BadEvent___init__ : Option Addr} {sl_BadEvent___init__ : Array (Option Value)} {oc_BadEvent___init__ kV_BadEvent___init__ dc_BadEvent___init__ pm_BadEvent___init__ cd_BadEvent___init__ ct_BadEvent___init__ : Value}
    {f_Lane___init__ : Addr} {od_Lane___init__ an_Lane___init__ : Option Addr} {sl_Lane___init__ : Array (Option Value)} {oc_Lane___init__ kV_Lane___init__ dc_Lane___init__ pm_Lane___init__ cd_Lane___init__ ct_Lane___init__ : Value}
    {f_Lane_behind : Addr} {od_Lane_behind an_Lane_behind : Option Addr} {sl_Lane_behind : Array (Option Value)} {oc_Lane_behind kV_Lane_behind dc_Lane_behind pm_Lane_behind cd_Lane_behind ct_Lane_behind : Value}
    {f_Lane_can_get : Addr} {od_Lane_can_get an_Lane_can_get : Option Addr} {sl_Lane_can_get : Array (Option Value)} {oc_Lane_can_get kV_Lane_can_get dc_Lane_can_get pm_Lane_can_get cd_Lane_can_get ct_Lane_can_get : Value}
    {f_Lane_inside : Addr} {od_Lane_inside an_Lane_inside : Option Addr} {sl_Lane_inside : Array (Option Value)} {oc_Lane_inside kV_Lane_inside dc_Lane_inside pm_Lane_inside cd_Lane_inside ct_Lane_inside : Value}
    {f_Lane_place_of : Addr} {od_Lane_place_of an_Lane_place_of : Option Addr} {sl_Lane_place_of : Array (Option Value)} {oc_Lane_place_of kV_Lane_place_of dc_Lane_place_of pm_Lane_place_of cd_Lane_place_of ct_Lane_place_of : Value}
    {f_Lane_do_get : Addr} {od_Lane_do_get an_Lane_do_get : Option Addr} {sl_Lane_do_get : Array (Option Value)} {oc_Lane_do_get kV_Lane_do_get dc_Lane_do_get pm_Lane_do_get cd_Lane_do_get ct_Lane_do_get : Value}
    {f_Lane_can_put : Addr} {od_Lane_can_put an_Lane_can_put : Option Addr} {sl_Lane_can_put : Array (Option Value)} {oc_Lane_can_put kV_Lane_can_put dc_Lane_can_put pm_Lane_can_put cd_Lane_can_put ct_Lane_can_put : Value}
    {f_Lane_do_put : Addr} {od_Lane_do_put an_Lane_do_put : Option Addr} {sl_Lane_do_put : Array (Option Value)} {oc_Lane_do_put kV_Lane_do_put dc_Lane_do_put pm_Lane_do_put cd_Lane_do_put ct_Lane_do_put : Value}
    {f_Lane_do : Addr} {od_Lane_do an_Lane_do : Option Addr} {sl_Lane_do : Array (Option Value)} {oc_Lane_do kV_Lane_do dc_Lane_do pm_Lane_do cd_Lane_do ct_Lane_do : Value}
    {f_Lane_turns : Addr} {od_Lane_turns an_Lane_turns : Option Addr} {sl_Lane_turns : Array (Option Value)} {oc_Lane_turns kV_Lane_turns dc_Lane_turns pm_Lane_turns cd_Lane_turns ct_Lane_turns : Value}
    {f_seen_of : Addr} {od_seen_of an_seen_of : Option Addr} {sl_seen_of : Array (Option Value)} {oc_seen_of kV_seen_of dc_seen_of pm_seen_of cd_seen_of ct_seen_of : Value}
    {f_Lane_may : Addr} {od_Lane_may an_Lane_may : Option Addr} {sl_Lane_may : Array (Option Value)} {oc_Lane_may kV_Lane_may dc_Lane_may pm_Lane_may cd_Lane_may ct_Lane_may : Value}
    {f_is_word : Addr} {od_is_word an_is_word : Option Addr} {sl_is_word : Array (Option Value)} {oc_is_word kV_is_word dc_is_word pm_is_word cd_is_word ct_is_word : Value}
    {f_need_words : Addr} {od_need_words an_need_words : Option Addr} {sl_need_words : Array (Option Value)} {oc_need_words kV_need_words dc_need_words pm_need_words cd_need_words ct_need_words : Value}
    {f_need_lane : Addr} {od_need_lane an_need_lane : Option Addr} {sl_need_lane : Array (Option Value)} {oc_need_lane kV_need_lane dc_need_lane pm_need_lane cd_need_lane ct_need_lane : Value}
    {f_played : Addr} {od_played an_played : Option Addr} {sl_played : Array (Option Value)} {oc_played kV_played dc_played pm_played cd_played ct_played : Value}
    {f_got : Addr} {od_got an_got : Option Addr} {sl_got : Array (Option Value)} {oc_got kV_got dc_got pm_got cd_got ct_got : Value}
    {f_law : Addr} {od_law an_law : Option Addr} {sl_law : Array (Option Value)} {oc_law kV_law dc_law pm_law ct_law : Value} {cL PL : Addr} {ocL : Value} {odL : Option Addr} {vsL : Array Value} {slL : Array (Option Value)}
    {C_Lane : Addr}
    {C_CrossError : Addr}
    {C_BadNumber : Addr}
    {C_BadLane : Addr}
    {C_BadWords : Addr}
    {C_BadEvent : Addr}
    {nm_BadEvent qn_BadEvent : Str} {N_BadEvent : Addr} {bs_BadEvent : List Value} {sn_BadEvent : List Str} {sub_BadEvent : List Value} {ab_BadEvent : Bool} {col_BadEvent : Option Bool} {dd_BadEvent : Option Addr} {m0_BadEvent m1_BadEvent m2_BadEvent m3_BadEvent m5_BadEvent : Option Value}
    {a_MARKS : Addr} {dd_MARKS : Option Addr} {nn_MARKS : Nat} {sl_MARKS : Array (Option Value)} {t0_MARKS t1_MARKS : Tok}
    {t_MOST_EVENTS : Tok}
    {t_MOST_ROOM : Tok}
    {t_MOST_WIDE : Tok}
    {t_OVER : Tok}
    {t_UNDER : Tok}
    (aC_BadEvent : PySem.W.nsIn K mainGlobals "BadEvent" = some (some (.ref C_BadEvent)))
    (aC_BadWords : PySem.W.nsIn K mainGlobals "BadWords" = some (some (.ref C_BadWords)))
    (aC_BadLane : PySem.W.nsIn K mainGlobals "BadLane" = some (some (.ref C_BadLane)))
    (aC_BadNumber : PySem.W.nsIn K mainGlobals "BadNumber" = some (some (.ref C_BadNumber)))
    (aC_CrossError : PySem.W.nsIn K mainGlobals "CrossError" = some (some (.ref C_CrossError)))
    (aC_Lane : PySem.W.nsIn K mainGlobals "Lane" = some (some (.ref C_Lane)))
    (a_l_alike : PySem.W.nsIn K mainGlobals "_law_alike" = some (some (.ref f_l_alike)))
    (l_l_alike : K.lookup f_l_alike = some ⟨oc_l_alike, od_l_alike, .func (PySem.W.fnOf "_law_alike" "_law_alike" (defArgs s_l_alike) (defBody s_l_alike) (defScope s_l_alike) .none kV_l_alike dc_l_alike pm_l_alike an_l_alike cd_l_alike ct_l_alike), sl_l_alike⟩) (c_l_alike : PySem.W.codeIn K cd_l_alike "_law_alike" = true) (k_l_alike : PySem.W.keepIn K (.ref f_l_alike) = true)
    (a_l_begun : PySem.W.nsIn K mainGlobals "_law_begun" = some (some (.ref f_l_begun)))
    (l_l_begun : K.lookup f_l_begun = some ⟨oc_l_begun, od_l_begun, .func (PySem.W.fnOf "_law_begun" "_law_begun" (defArgs s_l_begun) (defBody s_l_begun) (defScope s_l_begun) .none kV_l_begun dc_l_begun pm_l_begun an_l_begun cd_l_begun ct_l_begun), sl_l_begun⟩) (c_l_begun : PySem.W.codeIn K cd_l_begun "_law_begun" = true) (k_l_begun : PySem.W.keepIn K (.ref f_l_begun) = true)
    (a_l_dice : PySem.W.nsIn K mainGlobals "_law_dice" = some (some (.ref f_l_dice)))
    (l_l_dice : K.lookup f_l_dice = some ⟨oc_l_dice, od_l_dice, .func (PySem.W.fnOf "_law_dice" "_law_dice" (defArgs s_l_dice) (defBody s_l_dice) (defScope s_l_dice) .none kV_l_dice dc_l_dice pm_l_dice an_l_dice cd_l_dice ct_l_dice), sl_l_dice⟩) (c_l_dice : PySem.W.codeIn K cd_l_dice "_law_dice" = true) (k_l_dice : PySem.W.keepIn K (.ref f_l_dice) = true)
    (a_l_plain : PySem.W.nsIn K mainGlobals "_law_plain" = some (some (.ref f_l_plain)))
    (l_l_plain : K.lookup f_l_plain = some ⟨oc_l_plain, od_l_plain, .func (PySem.W.fnOf "_law_plain" "_law_plain" (defArgs s_l_plain) (defBody s_l_plain) (defScope s_l_plain) .none kV_l_plain dc_l_plain pm_l_plain an_l_plain cd_l_plain ct_l_plain), sl_l_plain⟩) (c_l_plain : PySem.W.codeIn K cd_l_plain "_law_plain" = true) (k_l_plain : PySem.W.keepIn K (.ref f_l_plain) = true)
    (a_l_seen : PySem.W.nsIn K mainGlobals "_law_seen" = some (some (.ref f_l_seen)))
    (l_l_seen : K.lookup f_l_seen = some ⟨oc_l_seen, od_l_seen, .func (PySem.W.fnOf "_law_seen" "_law_seen" (defArgs s_l_seen) (defBody s_l_seen) (defScope s_l_seen) .none kV_l_seen dc_l_seen pm_l_seen an_l_seen cd_l_seen ct_l_seen), sl_l_seen⟩) (c_l_seen : PySem.W.codeIn K cd_l_seen "_law_seen" = true) (k_l_seen : PySem.W.keepIn K (.ref f_l_seen) = true)
    (a_l_turn : PySem.W.nsIn K mainGlobals "_law_turn" = some (some (.ref f_l_turn)))
    (l_l_turn : K.lookup f_l_turn = some ⟨oc_l_turn, od_l_turn, .func (PySem.W.fnOf "_law_turn" "_law_turn" (defArgs s_l_turn) (defBody s_l_turn) (defScope s_l_turn) .none kV_l_turn dc_l_turn pm_l_turn an_l_turn cd_l_turn ct_l_turn), sl_l_turn⟩) (c_l_turn : PySem.W.codeIn K cd_l_turn "_law_turn" = true) (k_l_turn : PySem.W.keepIn K (.ref f_l_turn) = true)
    (a_l_do : PySem.W.nsIn K mainGlobals "_law_do" = some (some (.ref f_l_do)))
    (l_l_do : K.lookup f_l_do = some ⟨oc_l_do, od_l_do, .func (PySem.W.fnOf "_law_do" "_law_do" (defArgs s_l_do) (defBody s_l_do) (defScope s_l_do) .none kV_l_do dc_l_do pm_l_do an_l_do cd_l_do ct_l_do), sl_l_do⟩) (c_l_do : PySem.W.codeIn K cd_l_do "_law_do" = true) (k_l_do : PySem.W.keepIn K (.ref f_l_do) = true)
    (a_l_can : PySem.W.nsIn K mainGlobals "_law_can" = some (some (.ref f_l_can)))
    (l_l_can : K.lookup f_l_can = some ⟨oc_l_can, od_l_can, .func (PySem.W.fnOf "_law_can" "_law_can" (defArgs s_l_can) (defBody s_l_can) (defScope s_l_can) .none kV_l_can dc_l_can pm_l_can an_l_can cd_l_can ct_l_can), sl_l_can⟩) (c_l_can : PySem.W.codeIn K cd_l_can "_law_can" = true) (k_l_can : PySem.W.keepIn K (.ref f_l_can) = true)
    (a_l_off : PySem.W.nsIn K mainGlobals "_law_off" = some (some (.ref f_l_off)))
    (l_l_off : K.lookup f_l_off = some ⟨oc_l_off, od_l_off, .func (PySem.W.fnOf "_law_off" "_law_off" (defArgs s_l_off) (defBody s_l_off) (defScope s_l_off) .none kV_l_off dc_l_off pm_l_off an_l_off cd_l_off ct_l_off), sl_l_off⟩) (c_l_off : PySem.W.codeIn K cd_l_off "_law_off" = true) (k_l_off : PySem.W.keepIn K (.ref f_l_off) = true)
    (a_l_events : PySem.W.nsIn K mainGlobals "_law_events" = some (some (.ref f_l_events)))
    (l_l_events : K.lookup f_l_events = some ⟨oc_l_events, od_l_events, .func (PySem.W.fnOf "_law_events" "_law_events" (defArgs s_l_events) (defBody s_l_events) (defScope s_l_events) .none kV_l_events dc_l_events pm_l_events an_l_events cd_l_events ct_l_events), sl_l_events⟩) (c_l_events : PySem.W.codeIn K cd_l_events "_law_events" = true) (k_l_events : PySem.W.keepIn K (.ref f_l_events) = true)
    (a_l_gray : PySem.W.nsIn K mainGlobals "_law_gray" = some (some (.ref f_l_gray)))
    (l_l_gray : K.lookup f_l_gray = some ⟨oc_l_gray, od_l_gray, .func (PySem.W.fnOf "_law_gray" "_law_gray" (defArgs s_l_gray) (defBody s_l_gray) (defScope s_l_gray) .none kV_l_gray dc_l_gray pm_l_gray an_l_gray cd_l_gray ct_l_gray), sl_l_gray⟩) (c_l_gray : PySem.W.codeIn K cd_l_gray "_law_gray" = true) (k_l_gray : PySem.W.keepIn K (.ref f_l_gray) = true)
    (a_l_mixed : PySem.W.nsIn K mainGlobals "_law_mixed" = some (some (.ref f_l_mixed)))
    (l_l_mixed : K.lookup f_l_mixed = some ⟨oc_l_mixed, od_l_mixed, .func (PySem.W.fnOf "_law_mixed" "_law_mixed" (defArgs s_l_mixed) (defBody s_l_mixed) (defScope s_l_mixed) .none kV_l_mixed dc_l_mixed pm_l_mixed an_l_mixed cd_l_mixed ct_l_mixed), sl_l_mixed⟩) (c_l_mixed : PySem.W.codeIn K cd_l_mixed "_law_mixed" = true) (k_l_mixed : PySem.W.keepIn K (.ref f_l_mixed) = true)
    (a_l_words : PySem.W.nsIn K mainGlobals "_law_words" = some (some (.ref f_l_words)))
    (l_l_words : K.lookup f_l_words = some ⟨oc_l_words, od_l_words, .func (PySem.W.fnOf "_law_words" "_law_words" (defArgs s_l_words) (defBody s_l_words) (defScope s_l_words) .none kV_l_words dc_l_words pm_l_words an_l_words cd_l_words ct_l_words), sl_l_words⟩) (c_l_words : PySem.W.codeIn K cd_l_words "_law_words" = true) (k_l_words : PySem.W.keepIn K (.ref f_l_words) = true)
    (a_l_lane : PySem.W.nsIn K mainGlobals "_law_lane" = some (some (.ref f_l_lane)))
    (l_l_lane : K.lookup f_l_lane = some ⟨oc_l_lane, od_l_lane, .func (PySem.W.fnOf "_law_lane" "_law_lane" (defArgs s_l_lane) (defBody s_l_lane) (defScope s_l_lane) .none kV_l_lane dc_l_lane pm_l_lane an_l_lane cd_l_lane ct_l_lane), sl_l_lane⟩) (c_l_lane : PySem.W.codeIn K cd_l_lane "_law_lane" = true) (k_l_lane : PySem.W.keepIn K (.ref f_l_lane) = true)
    (a_l_refused : PySem.W.nsIn K mainGlobals "_law_refused" = some (some (.ref f_l_refused)))
    (l_l_refused : K.lookup f_l_refused = some ⟨oc_l_refused, od_l_refused, .func (PySem.W.fnOf "_law_refused" "_law_refused" (defArgs s_l_refused) (defBody s_l_refused) (defScope s_l_refused) .none kV_l_refused dc_l_refused pm_l_refused an_l_refused cd_l_refused ct_l_refused), sl_l_refused⟩) (c_l_refused : PySem.W.codeIn K cd_l_refused "_law_refused" = true) (k_l_refused : PySem.W.keepIn K (.ref f_l_refused) = true)
    (a_BadEvent___init__ : PySem.W.findIn K (.ref C_BadEvent) "__init__" = some (some (.ref f_BadEvent___init__))) (i_BadEvent___init__ : PySem.W.isFn K (.ref f_BadEvent___init__) = true)
    (l_BadEvent___init__ : K.lookup f_BadEvent___init__ = some ⟨oc_BadEvent___init__, od_BadEvent___init__, .func (PySem.W.fnOf "__init__" "BadEvent.__init__" (defArgs s_BadEvent___init__) (defBody s_BadEvent___init__) (defScope s_BadEvent___init__) .none kV_BadEvent___init__ dc_BadEvent___init__ pm_BadEvent___init__ an_BadEvent___init__ cd_BadEvent___init__ ct_BadEvent___init__), sl_BadEvent___init__⟩) (c_BadEvent___init__ : PySem.W.codeIn K cd_BadEvent___init__ "BadEvent.__init__" = true) (k_BadEvent___init__ : PySem.W.keepIn K (.ref f_BadEvent___init__) = true)
    (a_Lane___init__ : PySem.W.findIn K (.ref C_Lane) "__init__" = some (some (.ref f_Lane___init__))) (i_Lane___init__ : PySem.W.isFn K (.ref f_Lane___init__) = true)
    (l_Lane___init__ : K.lookup f_Lane___init__ = some ⟨oc_Lane___init__, od_Lane___init__, .func (PySem.W.fnOf "__init__" "Lane.__init__" (defArgs s_Lane___init__) (defBody s_Lane___init__) (defScope s_Lane___init__) .none kV_Lane___init__ dc_Lane___init__ pm_Lane___init__ an_Lane___init__ cd_Lane___init__ ct_Lane___init__), sl_Lane___init__⟩) (c_Lane___init__ : PySem.W.codeIn K cd_Lane___init__ "Lane.__init__" = true) (k_Lane___init__ : PySem.W.keepIn K (.ref f_Lane___init__) = true)
    (a_Lane_behind : PySem.W.findIn K (.ref C_Lane) "behind" = some (some (.ref f_Lane_behind))) (i_Lane_behind : PySem.W.isFn K (.ref f_Lane_behind) = true)
    (l_Lane_behind : K.lookup f_Lane_behind = some ⟨oc_Lane_behind, od_Lane_behind, .func (PySem.W.fnOf "behind" "Lane.behind" (defArgs s_Lane_behind) (defBody s_Lane_behind) (defScope s_Lane_behind) .none kV_Lane_behind dc_Lane_behind pm_Lane_behind an_Lane_behind cd_Lane_behind ct_Lane_behind), sl_Lane_behind⟩) (c_Lane_behind : PySem.W.codeIn K cd_Lane_behind "Lane.behind" = true) (k_Lane_behind : PySem.W.keepIn K (.ref f_Lane_behind) = true)
    (a_Lane_can_get : PySem.W.findIn K (.ref C_Lane) "can_get" = some (some (.ref f_Lane_can_get))) (i_Lane_can_get : PySem.W.isFn K (.ref f_Lane_can_get) = true)
    (l_Lane_can_get : K.lookup f_Lane_can_get = some ⟨oc_Lane_can_get, od_Lane_can_get, .func (PySem.W.fnOf "can_get" "Lane.can_get" (defArgs s_Lane_can_get) (defBody s_Lane_can_get) (defScope s_Lane_can_get) .none kV_Lane_can_get dc_Lane_can_get pm_Lane_can_get an_Lane_can_get cd_Lane_can_get ct_Lane_can_get), sl_Lane_can_get⟩) (c_Lane_can_get : PySem.W.codeIn K cd_Lane_can_get "Lane.can_get" = true) (k_Lane_can_get : PySem.W.keepIn K (.ref f_Lane_can_get) = true)
    (a_Lane_inside : PySem.W.findIn K (.ref C_Lane) "inside" = some (some (.ref f_Lane_inside))) (i_Lane_inside : PySem.W.isFn K (.ref f_Lane_inside) = true)
    (l_Lane_inside : K.lookup f_Lane_inside = some ⟨oc_Lane_inside, od_Lane_inside, .func (PySem.W.fnOf "inside" "Lane.inside" (defArgs s_Lane_inside) (defBody s_Lane_inside) (defScope s_Lane_inside) .none kV_Lane_inside dc_Lane_inside pm_Lane_inside an_Lane_inside cd_Lane_inside ct_Lane_inside), sl_Lane_inside⟩) (c_Lane_inside : PySem.W.codeIn K cd_Lane_inside "Lane.inside" = true) (k_Lane_inside : PySem.W.keepIn K (.ref f_Lane_inside) = true)
    (a_Lane_place_of : PySem.W.findIn K (.ref C_Lane) "place_of" = some (some (.ref f_Lane_place_of))) (i_Lane_place_of : PySem.W.isFn K (.ref f_Lane_place_of) = true)
    (l_Lane_place_of : K.lookup f_Lane_place_of = some ⟨oc_Lane_place_of, od_Lane_place_of, .func (PySem.W.fnOf "place_of" "Lane.place_of" (defArgs s_Lane_place_of) (defBody s_Lane_place_of) (defScope s_Lane_place_of) .none kV_Lane_place_of dc_Lane_place_of pm_Lane_place_of an_Lane_place_of cd_Lane_place_of ct_Lane_place_of), sl_Lane_place_of⟩) (c_Lane_place_of : PySem.W.codeIn K cd_Lane_place_of "Lane.place_of" = true) (k_Lane_place_of : PySem.W.keepIn K (.ref f_Lane_place_of) = true)
    (a_Lane_do_get : PySem.W.findIn K (.ref C_Lane) "do_get" = some (some (.ref f_Lane_do_get))) (i_Lane_do_get : PySem.W.isFn K (.ref f_Lane_do_get) = true)
    (l_Lane_do_get : K.lookup f_Lane_do_get = some ⟨oc_Lane_do_get, od_Lane_do_get, .func (PySem.W.fnOf "do_get" "Lane.do_get" (defArgs s_Lane_do_get) (defBody s_Lane_do_get) (defScope s_Lane_do_get) .none kV_Lane_do_get dc_Lane_do_get pm_Lane_do_get an_Lane_do_get cd_Lane_do_get ct_Lane_do_get), sl_Lane_do_get⟩) (c_Lane_do_get : PySem.W.codeIn K cd_Lane_do_get "Lane.do_get" = true) (k_Lane_do_get : PySem.W.keepIn K (.ref f_Lane_do_get) = true)
    (a_Lane_can_put : PySem.W.findIn K (.ref C_Lane) "can_put" = some (some (.ref f_Lane_can_put))) (i_Lane_can_put : PySem.W.isFn K (.ref f_Lane_can_put) = true)
    (l_Lane_can_put : K.lookup f_Lane_can_put = some ⟨oc_Lane_can_put, od_Lane_can_put, .func (PySem.W.fnOf "can_put" "Lane.can_put" (defArgs s_Lane_can_put) (defBody s_Lane_can_put) (defScope s_Lane_can_put) .none kV_Lane_can_put dc_Lane_can_put pm_Lane_can_put an_Lane_can_put cd_Lane_can_put ct_Lane_can_put), sl_Lane_can_put⟩) (c_Lane_can_put : PySem.W.codeIn K cd_Lane_can_put "Lane.can_put" = true) (k_Lane_can_put : PySem.W.keepIn K (.ref f_Lane_can_put) = true)
    (a_Lane_do_put : PySem.W.findIn K (.ref C_Lane) "do_put" = some (some (.ref f_Lane_do_put))) (i_Lane_do_put : PySem.W.isFn K (.ref f_Lane_do_put) = true)
    (l_Lane_do_put : K.lookup f_Lane_do_put = some ⟨oc_Lane_do_put, od_Lane_do_put, .func (PySem.W.fnOf "do_put" "Lane.do_put" (defArgs s_Lane_do_put) (defBody s_Lane_do_put) (defScope s_Lane_do_put) .none kV_Lane_do_put dc_Lane_do_put pm_Lane_do_put an_Lane_do_put cd_Lane_do_put ct_Lane_do_put), sl_Lane_do_put⟩) (c_Lane_do_put : PySem.W.codeIn K cd_Lane_do_put "Lane.do_put" = true) (k_Lane_do_put : PySem.W.keepIn K (.ref f_Lane_do_put) = true)
    (a_Lane_do : PySem.W.findIn K (.ref C_Lane) "do" = some (some (.ref f_Lane_do))) (i_Lane_do : PySem.W.isFn K (.ref f_Lane_do) = true)
    (l_Lane_do : K.lookup f_Lane_do = some ⟨oc_Lane_do, od_Lane_do, .func (PySem.W.fnOf "do" "Lane.do" (defArgs s_Lane_do) (defBody s_Lane_do) (defScope s_Lane_do) .none kV_Lane_do dc_Lane_do pm_Lane_do an_Lane_do cd_Lane_do ct_Lane_do), sl_Lane_do⟩) (c_Lane_do : PySem.W.codeIn K cd_Lane_do "Lane.do" = true) (k_Lane_do : PySem.W.keepIn K (.ref f_Lane_do) = true)
    (a_Lane_turns : PySem.W.findIn K (.ref C_Lane) "turns" = some (some (.ref f_Lane_turns))) (i_Lane_turns : PySem.W.isFn K (.ref f_Lane_turns) = true)
    (l_Lane_turns : K.lookup f_Lane_turns = some ⟨oc_Lane_turns, od_Lane_turns, .func (PySem.W.fnOf "turns" "Lane.turns" (defArgs s_Lane_turns) (defBody s_Lane_turns) (defScope s_Lane_turns) .none kV_Lane_turns dc_Lane_turns pm_Lane_turns an_Lane_turns cd_Lane_turns ct_Lane_turns), sl_Lane_turns⟩) (c_Lane_turns : PySem.W.codeIn K cd_Lane_turns "Lane.turns" = true) (k_Lane_turns : PySem.W.keepIn K (.ref f_Lane_turns) = true)
    (a_seen_of : PySem.W.nsIn K mainGlobals "seen_of" = some (some (.ref f_seen_of)))
    (l_seen_of : K.lookup f_seen_of = some ⟨oc_seen_of, od_seen_of, .func (PySem.W.fnOf "seen_of" "seen_of" (defArgs s_seen_of) (defBody s_seen_of) (defScope s_seen_of) .none kV_seen_of dc_seen_of pm_seen_of an_seen_of cd_seen_of ct_seen_of), sl_seen_of⟩) (c_seen_of : PySem.W.codeIn K cd_seen_of "seen_of" = true) (k_seen_of : PySem.W.keepIn K (.ref f_seen_of) = true)
    (a_Lane_may : PySem.W.findIn K (.ref C_Lane) "may" = some (some (.ref f_Lane_may))) (i_Lane_may : PySem.W.isFn K (.ref f_Lane_may) = true)
    (l_Lane_may : K.lookup f_Lane_may = some ⟨oc_Lane_may, od_Lane_may, .func (PySem.W.fnOf "may" "Lane.may" (defArgs s_Lane_may) (defBody s_Lane_may) (defScope s_Lane_may) .none kV_Lane_may dc_Lane_may pm_Lane_may an_Lane_may cd_Lane_may ct_Lane_may), sl_Lane_may⟩) (c_Lane_may : PySem.W.codeIn K cd_Lane_may "Lane.may" = true) (k_Lane_may : PySem.W.keepIn K (.ref f_Lane_may) = true)
    (a_is_word : PySem.W.nsIn K mainGlobals "is_word" = some (some (.ref f_is_word)))
    (l_is_word : K.lookup f_is_word = some ⟨oc_is_word, od_is_word, .func (PySem.W.fnOf "is_word" "is_word" (defArgs s_is_word) (defBody s_is_word) (defScope s_is_word) .none kV_is_word dc_is_word pm_is_word an_is_word cd_is_word ct_is_word), sl_is_word⟩) (c_is_word : PySem.W.codeIn K cd_is_word "is_word" = true) (k_is_word : PySem.W.keepIn K (.ref f_is_word) = true)
    (a_need_words : PySem.W.nsIn K mainGlobals "need_words" = some (some (.ref f_need_words)))
    (l_need_words : K.lookup f_need_words = some ⟨oc_need_words, od_need_words, .func (PySem.W.fnOf "need_words" "need_words" (defArgs s_need_words) (defBody s_need_words) (defScope s_need_words) .none kV_need_words dc_need_words pm_need_words an_need_words cd_need_words ct_need_words), sl_need_words⟩) (c_need_words : PySem.W.codeIn K cd_need_words "need_words" = true) (k_need_words : PySem.W.keepIn K (.ref f_need_words) = true)
    (a_need_lane : PySem.W.nsIn K mainGlobals "need_lane" = some (some (.ref f_need_lane)))
    (l_need_lane : K.lookup f_need_lane = some ⟨oc_need_lane, od_need_lane, .func (PySem.W.fnOf "need_lane" "need_lane" (defArgs s_need_lane) (defBody s_need_lane) (defScope s_need_lane) .none kV_need_lane dc_need_lane pm_need_lane an_need_lane cd_need_lane ct_need_lane), sl_need_lane⟩) (c_need_lane : PySem.W.codeIn K cd_need_lane "need_lane" = true) (k_need_lane : PySem.W.keepIn K (.ref f_need_lane) = true)
    (a_played : PySem.W.nsIn K mainGlobals "played" = some (some (.ref f_played)))
    (l_played : K.lookup f_played = some ⟨oc_played, od_played, .func (PySem.W.fnOf "played" "played" (defArgs s_played) (defBody s_played) (defScope s_played) .none kV_played dc_played pm_played an_played cd_played ct_played), sl_played⟩) (c_played : PySem.W.codeIn K cd_played "played" = true) (k_played : PySem.W.keepIn K (.ref f_played) = true)
    (a_got : PySem.W.nsIn K mainGlobals "got" = some (some (.ref f_got)))
    (l_got : K.lookup f_got = some ⟨oc_got, od_got, .func (PySem.W.fnOf "got" "got" (defArgs s_got) (defBody s_got) (defScope s_got) .none kV_got dc_got pm_got an_got cd_got ct_got), sl_got⟩) (c_got : PySem.W.codeIn K cd_got "got" = true) (k_got : PySem.W.keepIn K (.ref f_got) = true)
    (a_law : PySem.W.nsIn K mainGlobals "law" = some (some (.ref f_law)))
    (l_law : K.lookup f_law = some ⟨oc_law, od_law, .func (PySem.W.fnOf "law" "law" (defArgs s_law) (defBody s_law) (defScope s_law) .none kV_law dc_law pm_law an_law (.ref cL) ct_law), sl_law⟩) (c_law : PySem.W.codeIn K (.ref cL) "law" = true) (k_law : PySem.W.keepIn K (.ref f_law) = true)
    (pg_Lane : PySem.W.plainGet K C_Lane Str.empty = true) (hd_Lane : PySem.W.hasDictIn K C_Lane = true) (po_Lane : PySem.W.plainOver K C_Lane = true) (sa_Lane : PySem.W.findIn K (.ref C_Lane) "__setattr__" = some (some (.builtin "object.__setattr__"))) (mk_Lane : PySem.W.makesIn K C_Lane = true) (kc_Lane : PySem.W.keepIn K (.ref C_Lane) = true)
    (na_room : PySem.W.findIn K (.ref C_Lane) "room" = some none)
    (na_words : PySem.W.findIn K (.ref C_Lane) "words" = some none)
    (na_put : PySem.W.findIn K (.ref C_Lane) "put" = some none)
    (na_got : PySem.W.findIn K (.ref C_Lane) "got" = some none)
    (na_seen_got : PySem.W.findIn K (.ref C_Lane) "seen_got" = some none)
    (na_seen_put : PySem.W.findIn K (.ref C_Lane) "seen_put" = some none)
    (na_boxes : PySem.W.findIn K (.ref C_Lane) "boxes" = some none)
    (na_many : PySem.W.findIn K (.ref C_Lane) "many" = some none)
    (na_fault : PySem.W.findIn K (.ref C_Lane) "fault" = some none)
    (e_ga_CE : PySem.W.specialIn K (.ref C_CrossError) "__getattribute__" = some (some (.builtin "type.__getattribute__")))
    (e_rd_CE : PySem.W.readsIn K C_CrossError (.type "type") = true)
    (e_fi_CE : PySem.W.findCls K (.ref C_CrossError) (.type "type") "__init__" = some (.val (.builtin "ValueError.__init__")))
    (x1_BadEvent : K.lookup C_BadEvent = some (excClassObj nm_BadEvent qn_BadEvent C_BadEvent N_BadEvent bs_BadEvent [.ref C_CrossError, .type "ValueError", .type "Exception", .type "BaseException", .type "object"] true sn_BadEvent sub_BadEvent ab_BadEvent col_BadEvent dd_BadEvent m0_BadEvent m1_BadEvent m2_BadEvent m3_BadEvent m5_BadEvent "ValueError.__new__"))
    (x2_BadEvent : PySem.W.findIn K (.ref C_BadEvent) "__setattr__" = some (some (.builtin "object.__setattr__")))
    (x3_BadEvent : PySem.W.subIn K (.ref C_BadEvent) (.type "BaseException") = some true)
    (x4_BadEvent : PySem.W.typeIn K (.ref C_BadEvent) = some (.type "type"))
    (x5_BadEvent : PySem.W.keepIn K (.ref C_BadEvent) = true)
    (e_tI_BadEvent : PySem.W.typeIn K (.ref f_BadEvent___init__) = some (.type "function"))
    (y1_BadEvent : PySem.W.findIn K (.ref C_BadEvent) "__getattribute__" = some (some (.builtin "BaseException.__getattribute__")))
    (y2_BadEvent : PySem.W.findIn K (.ref C_BadEvent) "__getattr__" = some none)
    (x6_BadEvent : PySem.W.hasDictIn K C_BadEvent = true)
    (e_at_BadEvent : PySem.W.findIn K (.ref C_BadEvent) "at" = some none)
    (z1_BadEvent : (PySem.W.clsIn K C_BadEvent).isSome = true)
    (z2_BadEvent : PySem.W.findIn K (.ref C_BadEvent) "__class__" = some (some (.builtin "object.__class__")))
    (z3_BadEvent : PySem.W.specialIn K (.builtin "object.__class__") "__get__" = some (some (.builtin "getset_descriptor.__get__")))
    (z4_BadEvent : PySem.W.takesIn K (.builtin "object.__class__") = some true)
    (z5_BadEvent : PySem.W.mroIn K C_BadEvent (.type "object") = some true)
    (e_ex_BadEvent : PySem.W.exmOne K (.ref C_BadEvent) (.ref C_CrossError) = some true)
    (e_ki_BadEvent_BadNumber : PySem.W.kitOne K (.ref C_BadEvent) (.ref C_BadNumber) = some false)
    (e_ki_BadEvent_BadLane : PySem.W.kitOne K (.ref C_BadEvent) (.ref C_BadLane) = some false)
    (e_ki_BadEvent_BadWords : PySem.W.kitOne K (.ref C_BadEvent) (.ref C_BadWords) = some false)
    (e_ki_BadEvent_BadEvent : PySem.W.kitOne K (.ref C_BadEvent) (.ref C_BadEvent) = some true)
    (e_kv_BadEvent : PySem.W.kitOne K (.ref C_BadEvent) (.type "ValueError") = some true)
    (z_ValueError : PySem.W.nsIn K mainGlobals "ValueError" = some none)
    (z_abs : PySem.W.nsIn K mainGlobals "abs" = some none)
    (z_all : PySem.W.nsIn K mainGlobals "all" = some none)
    (z_bool : PySem.W.nsIn K mainGlobals "bool" = some none)
    (z_enumerate : PySem.W.nsIn K mainGlobals "enumerate" = some none)
    (z_int : PySem.W.nsIn K mainGlobals "int" = some none)
    (z_isinstance : PySem.W.nsIn K mainGlobals "isinstance" = some none)
    (z_len : PySem.W.nsIn K mainGlobals "len" = some none)
    (z_list : PySem.W.nsIn K mainGlobals "list" = some none)
    (z_min : PySem.W.nsIn K mainGlobals "min" = some none)
    (z_range : PySem.W.nsIn K mainGlobals "range" = some none)
    (z_set : PySem.W.nsIn K mainGlobals "set" = some none)
    (z_sorted : PySem.W.nsIn K mainGlobals "sorted" = some none)
    (z_str : PySem.W.nsIn K mainGlobals "str" = some none)
    (z_tuple : PySem.W.nsIn K mainGlobals "tuple" = some none)
    (n_MARKS : PySem.W.nsIn K mainGlobals "MARKS" = some (some (.ref a_MARKS)))
    (l_MARKS : K.lookup a_MARKS = some ⟨.type "tuple", dd_MARKS, .seq #[.str "0" t0_MARKS, .str "1" t1_MARKS] nn_MARKS, sl_MARKS⟩)
    (n_MOST_EVENTS : PySem.W.nsIn K mainGlobals "MOST_EVENTS" = some (some (.int 100 t_MOST_EVENTS)))
    (n_MOST_ROOM : PySem.W.nsIn K mainGlobals "MOST_ROOM" = some (some (.int 6 t_MOST_ROOM)))
    (n_MOST_WIDE : PySem.W.nsIn K mainGlobals "MOST_WIDE" = some (some (.int 4 t_MOST_WIDE)))
    (n_OVER : PySem.W.nsIn K mainGlobals "OVER" = some (some (.str "over" t_OVER)))
    (n_UNDER : PySem.W.nsIn K mainGlobals "UNDER" = some (some (.str "under" t_UNDER)))
    (lc_law : K.lookup cL = some ⟨ocL, odL, .fields vsL, slL⟩) (v_law : vsL[11]? = some (.ref PL)) (np_law : K.lookup PL = none) (ch_law : PySem.W.codeHdIn K cL PL = true)
    : LamX.LawAtS l w K CX0 8 63 "_law_script" mg fa h := by
  have e := hfa.symm.trans (PySem.W.mg_of X G a_law)
  cases e
  have F_l_alike := fun_mk (st := s_l_alike) l_l_alike c_l_alike k_l_alike
  have b_l_alike := F_l_alike.binds (ps := ["_law_found", "_law_due"]) fun _ _ _ _ _ _ us hl => match us, hl with | [_, _], _ => rfl
  have F_l_begun := fun_mk (st := s_l_begun) l_l_begun c_l_begun k_l_begun
  have b_l_begun := F_l_begun.binds (ps := []) fun _ _ _ _ _ _ us hl => match us, hl with | [], _ => rfl
  have F_l_dice := fun_mk (st := s_l_dice) l_l_dice c_l_dice k_l_dice
  have b_l_dice := F_l_dice.binds (ps := ["_law_script", "_law_k"]) fun _ _ _ _ _ _ us hl => match us, hl with | [_, _], _ => rfl
  have F_l_plain := fun_mk (st := s_l_plain) l_l_plain c_l_plain k_l_plain
  have b_l_plain := F_l_plain.binds (ps := ["_law_wide"]) fun _ _ _ _ _ _ us hl => match us, hl with | [_], _ => rfl
  have F_l_seen := fun_mk (st := s_l_seen) l_l_seen c_l_seen k_l_seen
  have b_l_seen := F_l_seen.binds (ps := ["_law_one", "_law_other"]) fun _ _ _ _ _ _ us hl => match us, hl with | [_, _], _ => rfl
  have F_l_turn := fun_mk (st := s_l_turn) l_l_turn c_l_turn k_l_turn
  have b_l_turn := F_l_turn.binds (ps := ["_law_lane_here", "_law_s", "_law_word"]) fun _ _ _ _ _ _ us hl => match us, hl with | [_, _, _], _ => rfl
  have F_l_do := fun_mk (st := s_l_do) l_l_do c_l_do k_l_do
  have b_l_do := F_l_do.binds (ps := ["_law_lane_here", "_law_s", "_law_event"]) fun _ _ _ _ _ _ us hl => match us, hl with | [_, _, _], _ => rfl
  have F_l_can := fun_mk (st := s_l_can) l_l_can c_l_can k_l_can
  have b_l_can := F_l_can.binds (ps := ["_law_lane_here", "_law_s"]) fun _ _ _ _ _ _ us hl => match us, hl with | [_, _], _ => rfl
  have F_l_off := fun_mk (st := s_l_off) l_l_off c_l_off k_l_off
  have b_l_off := F_l_off.binds (ps := ["_law_d", "_law_most"]) fun _ _ _ _ _ _ us hl => match us, hl with | [_, _], _ => rfl
  have F_l_events := fun_mk (st := s_l_events) l_l_events c_l_events k_l_events
  have b_l_events := F_l_events.binds (ps := ["_law_d", "_law_lane_here", "_law_most"]) fun _ _ _ _ _ _ us hl => match us, hl with | [_, _, _], _ => rfl
  have F_l_gray := fun_mk (st := s_l_gray) l_l_gray c_l_gray k_l_gray
  have b_l_gray := F_l_gray.binds (ps := ["_law_wide"]) fun _ _ _ _ _ _ us hl => match us, hl with | [_], _ => rfl
  have F_l_mixed := fun_mk (st := s_l_mixed) l_l_mixed c_l_mixed k_l_mixed
  have b_l_mixed := F_l_mixed.binds (ps := ["_law_d", "_law_row"]) fun _ _ _ _ _ _ us hl => match us, hl with | [_, _], _ => rfl
  have F_l_words := fun_mk (st := s_l_words) l_l_words c_l_words k_l_words
  have b_l_words := F_l_words.binds (ps := ["_law_d", "_law_room"]) fun _ _ _ _ _ _ us hl => match us, hl with | [_, _], _ => rfl
  have F_l_lane := fun_mk (st := s_l_lane) l_l_lane c_l_lane k_l_lane
  have b_l_lane := F_l_lane.binds (ps := ["_law_d"]) fun _ _ _ _ _ _ us hl => match us, hl with | [_], _ => rfl
  have F_l_refused := fun_mk (st := s_l_refused) l_l_refused c_l_refused k_l_refused
  have b_l_refused := F_l_refused.binds (ps := ["_law_work", "_law_word", "_law_value"]) fun _ _ _ _ _ _ us hl => match us, hl with | [_, _, _], _ => rfl
  have F_BadEvent___init__ := fun_mk (st := s_BadEvent___init__) l_BadEvent___init__ c_BadEvent___init__ k_BadEvent___init__
  have b_BadEvent___init__ := F_BadEvent___init__.binds (ps := ["self", "at"]) fun _ _ _ _ _ _ us hl => match us, hl with | [_, _], _ => rfl
  have F_Lane___init__ := fun_mk (st := s_Lane___init__) l_Lane___init__ c_Lane___init__ k_Lane___init__
  have b_Lane___init__ := F_Lane___init__.binds (ps := ["self", "room", "words"]) fun _ _ _ _ _ _ us hl => match us, hl with | [_, _, _], _ => rfl
  have F_Lane_behind := fun_mk (st := s_Lane_behind) l_Lane_behind c_Lane_behind k_Lane_behind
  have b_Lane_behind := F_Lane_behind.binds (ps := ["self", "place"]) fun _ _ _ _ _ _ us hl => match us, hl with | [_, _], _ => rfl
  have F_Lane_can_get := fun_mk (st := s_Lane_can_get) l_Lane_can_get c_Lane_can_get k_Lane_can_get
  have b_Lane_can_get := F_Lane_can_get.binds (ps := ["self"]) fun _ _ _ _ _ _ us hl => match us, hl with | [_], _ => rfl
  have F_Lane_inside := fun_mk (st := s_Lane_inside) l_Lane_inside c_Lane_inside k_Lane_inside
  have b_Lane_inside := F_Lane_inside.binds (ps := ["self"]) fun _ _ _ _ _ _ us hl => match us, hl with | [_], _ => rfl
  have F_Lane_place_of := fun_mk (st := s_Lane_place_of) l_Lane_place_of c_Lane_place_of k_Lane_place_of
  have b_Lane_place_of := F_Lane_place_of.binds (ps := ["self", "word", "ahead"]) fun _ _ _ _ _ _ us hl => match us, hl with | [_, _, _], _ => rfl
  have F_Lane_do_get := fun_mk (st := s_Lane_do_get) l_Lane_do_get c_Lane_do_get k_Lane_do_get
  have b_Lane_do_get := F_Lane_do_get.binds (ps := ["self", "seen"]) fun _ _ _ _ _ _ us hl => match us, hl with | [_, _], _ => rfl
  have F_Lane_can_put := fun_mk (st := s_Lane_can_put) l_Lane_can_put c_Lane_can_put k_Lane_can_put
  have b_Lane_can_put := F_Lane_can_put.binds (ps := ["self"]) fun _ _ _ _ _ _ us hl => match us, hl with | [_], _ => rfl
  have F_Lane_do_put := fun_mk (st := s_Lane_do_put) l_Lane_do_put c_Lane_do_put k_Lane_do_put
  have b_Lane_do_put := F_Lane_do_put.binds (ps := ["self", "seen"]) fun _ _ _ _ _ _ us hl => match us, hl with | [_, _], _ => rfl
  have F_Lane_do := fun_mk (st := s_Lane_do) l_Lane_do c_Lane_do k_Lane_do
  have b_Lane_do := F_Lane_do.binds (ps := ["self", "event"]) fun _ _ _ _ _ _ us hl => match us, hl with | [_, _], _ => rfl
  have F_Lane_turns := fun_mk (st := s_Lane_turns) l_Lane_turns c_Lane_turns k_Lane_turns
  have b_Lane_turns := F_Lane_turns.binds (ps := ["self", "word"]) fun _ _ _ _ _ _ us hl => match us, hl with | [_, _], _ => rfl
  have F_seen_of := fun_mk (st := s_seen_of) l_seen_of c_seen_of k_seen_of
  have b_seen_of := F_seen_of.binds (ps := ["one", "other"]) fun _ _ _ _ _ _ us hl => match us, hl with | [_, _], _ => rfl
  have F_Lane_may := fun_mk (st := s_Lane_may) l_Lane_may c_Lane_may k_Lane_may
  have b_Lane_may := F_Lane_may.binds (ps := ["self", "event"]) fun _ _ _ _ _ _ us hl => match us, hl with | [_, _], _ => rfl
  have F_is_word := fun_mk (st := s_is_word) l_is_word c_is_word k_is_word
  have b_is_word := F_is_word.binds (ps := ["word"]) fun _ _ _ _ _ _ us hl => match us, hl with | [_], _ => rfl
  have F_need_words := fun_mk (st := s_need_words) l_need_words c_need_words k_need_words
  have b_need_words := F_need_words.binds (ps := ["words"]) fun _ _ _ _ _ _ us hl => match us, hl with | [_], _ => rfl
  have F_need_lane := fun_mk (st := s_need_lane) l_need_lane c_need_lane k_need_lane
  have b_need_lane := F_need_lane.binds (ps := ["lane"]) fun _ _ _ _ _ _ us hl => match us, hl with | [_], _ => rfl
  have F_played := fun_mk (st := s_played) l_played c_played k_played
  have b_played := F_played.binds (ps := ["lane", "events"]) fun _ _ _ _ _ _ us hl => match us, hl with | [_, _], _ => rfl
  have F_got := fun_mk (st := s_got) l_got c_got k_got
  have b_got := F_got.binds (ps := ["lane", "events"]) fun _ _ _ _ _ _ us hl => match us, hl with | [_, _], _ => rfl
  have F_law := fun_mk (st := s_law) l_law c_law k_law
  have b_law := F_law.binds (ps := ["_law_script"]) fun _ _ _ _ _ _ us hl => match us, hl with | [_], _ => rfl
  have hP := own cL PL _ _ _ _ _ _ l_law rfl rfl lc_law v_law
  exact ⟨PySem.W.fnOf "law" "law" (defArgs s_law) (defBody s_law) (defScope s_law) .none kV_law dc_law pm_law an_law (.ref cL) ct_law, [(cL, PL)], sp_lawT K PL, fun p hp => by rw [List.mem_singleton.mp hp]; exact hP, fun p hp => by rw [List.mem_singleton.mp hp]; exact np_law, fun p hp => by rw [List.mem_singleton.mp hp]; exact PySem.W.codeHd_of_K X ch_law, fun s v => .of_eq rfl, fun H a ns hl _ hH hS => ⟨a, ns, rfl, hS, hl, hH (cL, PL) (List.mem_singleton.mpr rfl), fun _ => rfl⟩, fun base _ _ hB => ok_law { f_l_alike := _, fd_l_alike := _, F_l_alike := F_l_alike, b_l_alike := b_l_alike, g_l_alike := PySem.W.mg_of X G a_l_alike, f_l_begun := _, fd_l_begun := _, F_l_begun := F_l_begun, b_l_begun := b_l_begun, g_l_begun := PySem.W.mg_of X G a_l_begun, f_l_dice := _, fd_l_dice := _, F_l_dice := F_l_dice, b_l_dice := b_l_dice, g_l_dice := PySem.W.mg_of X G a_l_dice, f_l_plain := _, fd_l_plain := _, F_l_plain := F_l_plain, b_l_plain := b_l_plain, g_l_plain := PySem.W.mg_of X G a_l_plain, f_l_seen := _, fd_l_seen := _, F_l_seen := F_l_seen, b_l_seen := b_l_seen, g_l_seen := PySem.W.mg_of X G a_l_seen, f_l_turn := _, fd_l_turn := _, F_l_turn := F_l_turn, b_l_turn := b_l_turn, g_l_turn := PySem.W.mg_of X G a_l_turn, f_l_do := _, fd_l_do := _, F_l_do := F_l_do, b_l_do := b_l_do, g_l_do := PySem.W.mg_of X G a_l_do, f_l_can := _, fd_l_can := _, F_l_can := F_l_can, b_l_can := b_l_can, g_l_can := PySem.W.mg_of X G a_l_can, f_l_off := _, fd_l_off := _, F_l_off := F_l_off, b_l_off := b_l_off, g_l_off := PySem.W.mg_of X G a_l_off, f_l_events := _, fd_l_events := _, F_l_events := F_l_events, b_l_events := b_l_events, g_l_events := PySem.W.mg_of X G a_l_events, f_l_gray := _, fd_l_gray := _, F_l_gray := F_l_gray, b_l_gray := b_l_gray, g_l_gray := PySem.W.mg_of X G a_l_gray, f_l_mixed := _, fd_l_mixed := _, F_l_mixed := F_l_mixed, b_l_mixed := b_l_mixed, g_l_mixed := PySem.W.mg_of X G a_l_mixed, f_l_words := _, fd_l_words := _, F_l_words := F_l_words, b_l_words := b_l_words, g_l_words := PySem.W.mg_of X G a_l_words, f_l_lane := _, fd_l_lane := _, F_l_lane := F_l_lane, b_l_lane := b_l_lane, g_l_lane := PySem.W.mg_of X G a_l_lane, f_l_refused := _, fd_l_refused := _, F_l_refused := F_l_refused, b_l_refused := b_l_refused, g_l_refused := PySem.W.mg_of X G a_l_refused, f_BadEvent___init__ := _, fd_BadEvent___init__ := _, F_BadEvent___init__ := F_BadEvent___init__, b_BadEvent___init__ := b_BadEvent___init__, f_Lane___init__ := _, fd_Lane___init__ := _, F_Lane___init__ := F_Lane___init__, b_Lane___init__ := b_Lane___init__, f_Lane_behind := _, fd_Lane_behind := _, F_Lane_behind := F_Lane_behind, b_Lane_behind := b_Lane_behind, f_Lane_can_get := _, fd_Lane_can_get := _, F_Lane_can_get := F_Lane_can_get, b_Lane_can_get := b_Lane_can_get, f_Lane_inside := _, fd_Lane_inside := _, F_Lane_inside := F_Lane_inside, b_Lane_inside := b_Lane_inside, f_Lane_place_of := _, fd_Lane_place_of := _, F_Lane_place_of := F_Lane_place_of, b_Lane_place_of := b_Lane_place_of, f_Lane_do_get := _, fd_Lane_do_get := _, F_Lane_do_get := F_Lane_do_get, b_Lane_do_get := b_Lane_do_get, f_Lane_can_put := _, fd_Lane_can_put := _, F_Lane_can_put := F_Lane_can_put, b_Lane_can_put := b_Lane_can_put, f_Lane_do_put := _, fd_Lane_do_put := _, F_Lane_do_put := F_Lane_do_put, b_Lane_do_put := b_Lane_do_put, f_Lane_do := _, fd_Lane_do := _, F_Lane_do := F_Lane_do, b_Lane_do := b_Lane_do, f_Lane_turns := _, fd_Lane_turns := _, F_Lane_turns := F_Lane_turns, b_Lane_turns := b_Lane_turns, f_seen_of := _, fd_seen_of := _, F_seen_of := F_seen_of, b_seen_of := b_seen_of, g_seen_of := PySem.W.mg_of X G a_seen_of, f_Lane_may := _, fd_Lane_may := _, F_Lane_may := F_Lane_may, b_Lane_may := b_Lane_may, f_is_word := _, fd_is_word := _, F_is_word := F_is_word, b_is_word := b_is_word, g_is_word := PySem.W.mg_of X G a_is_word, f_need_words := _, fd_need_words := _, F_need_words := F_need_words, b_need_words := b_need_words, g_need_words := PySem.W.mg_of X G a_need_words, f_need_lane := _, fd_need_lane := _, F_need_lane := F_need_lane, b_need_lane := b_need_lane, g_need_lane := PySem.W.mg_of X G a_need_lane, f_played := _, fd_played := _, F_played := F_played, b_played := b_played, g_played := PySem.W.mg_of X G a_played, f_got := _, fd_got := _, F_got := F_got, b_got := b_got, g_got := PySem.W.mg_of X G a_got, f_law := _, fd_law := _, F_law := F_law, b_law := b_law, g_law := PySem.W.mg_of X G a_law, C_Lane := C_Lane, cl_Lane := ⟨pg_Lane, hd_Lane, po_Lane, sa_Lane⟩, g_Lane := PySem.W.mg_of X G aC_Lane, mk_Lane := ⟨mk_Lane, a_Lane___init__, i_Lane___init__, kc_Lane⟩, na_room := na_room, na_words := na_words, na_put := na_put, na_got := na_got, na_seen_got := na_seen_got, na_seen_put := na_seen_put, na_boxes := na_boxes, na_many := na_many, na_fault := na_fault, m_Lane_behind := ⟨a_Lane_behind, i_Lane_behind, k_Lane_behind⟩, m_Lane_can_get := ⟨a_Lane_can_get, i_Lane_can_get, k_Lane_can_get⟩, m_Lane_inside := ⟨a_Lane_inside, i_Lane_inside, k_Lane_inside⟩, m_Lane_place_of := ⟨a_Lane_place_of, i_Lane_place_of, k_Lane_place_of⟩, m_Lane_do_get := ⟨a_Lane_do_get, i_Lane_do_get, k_Lane_do_get⟩, m_Lane_can_put := ⟨a_Lane_can_put, i_Lane_can_put, k_Lane_can_put⟩, m_Lane_do_put := ⟨a_Lane_do_put, i_Lane_do_put, k_Lane_do_put⟩, m_Lane_do := ⟨a_Lane_do, i_Lane_do, k_Lane_do⟩, m_Lane_turns := ⟨a_Lane_turns, i_Lane_turns, k_Lane_turns⟩, m_Lane_may := ⟨a_Lane_may, i_Lane_may, k_Lane_may⟩, C_CrossError := C_CrossError, g_CrossError := PySem.W.mg_of X G aC_CrossError, C_BadNumber := C_BadNumber, g_BadNumber := PySem.W.mg_of X G aC_BadNumber, C_BadLane := C_BadLane, g_BadLane := PySem.W.mg_of X G aC_BadLane, C_BadWords := C_BadWords, g_BadWords := PySem.W.mg_of X G aC_BadWords, C_BadEvent := C_BadEvent, g_BadEvent := PySem.W.mg_of X G aC_BadEvent, ga_CE := e_ga_CE, rd_CE := e_rd_CE, fi_CE := e_fi_CE, ox_BadEvent := ⟨⟨_, _, _, _, _, _, _, _, _, _, _, _, _, _, _, x1_BadEvent, rfl⟩, x2_BadEvent, x3_BadEvent, x4_BadEvent, x5_BadEvent⟩, iC_BadEvent := a_BadEvent___init__, tI_BadEvent := e_tI_BadEvent, xf_BadEvent := ⟨y1_BadEvent, y2_BadEvent, x3_BadEvent, x6_BadEvent⟩, at_BadEvent := e_at_BadEvent, is_BadEvent := ⟨z1_BadEvent, y1_BadEvent, y2_BadEvent, x3_BadEvent, z2_BadEvent, z3_BadEvent, z4_BadEvent, z5_BadEvent⟩, ex_BadEvent := e_ex_BadEvent, ki_BadEvent_BadNumber := e_ki_BadEvent_BadNumber, ki_BadEvent_BadLane := e_ki_BadEvent_BadLane, ki_BadEvent_BadWords := e_ki_BadEvent_BadWords, ki_BadEvent_BadEvent := e_ki_BadEvent_BadEvent, kv_BadEvent := e_kv_BadEvent, z_ValueError := PySem.W.mg_none_of X G z_ValueError, z_abs := PySem.W.mg_none_of X G z_abs, z_all := PySem.W.mg_none_of X G z_all, z_bool := PySem.W.mg_none_of X G z_bool, z_enumerate := PySem.W.mg_none_of X G z_enumerate, z_int := PySem.W.mg_none_of X G z_int, z_isinstance := PySem.W.mg_none_of X G z_isinstance, z_len := PySem.W.mg_none_of X G z_len, z_list := PySem.W.mg_none_of X G z_list, z_min := PySem.W.mg_none_of X G z_min, z_range := PySem.W.mg_none_of X G z_range, z_set := PySem.W.mg_none_of X G z_set, z_sorted := PySem.W.mg_none_of X G z_sorted, z_str := PySem.W.mg_none_of X G z_str, z_tuple := PySem.W.mg_none_of X G z_tuple, a_MARKS := a_MARKS, c_MARKS := PySem.W.mg_of X G n_MARKS, m_MARKS := fun H => .inr ⟨_, _, _, l_MARKS, rfl, rfl, (show 2 ≤ sizeLine by decide), (.cons ⟨_, rfl⟩ (.cons ⟨_, rfl⟩ .nil))⟩, t_MOST_EVENTS := t_MOST_EVENTS, c_MOST_EVENTS := PySem.W.mg_of X G n_MOST_EVENTS, t_MOST_ROOM := t_MOST_ROOM, c_MOST_ROOM := PySem.W.mg_of X G n_MOST_ROOM, t_MOST_WIDE := t_MOST_WIDE, c_MOST_WIDE := PySem.W.mg_of X G n_MOST_WIDE, t_OVER := t_OVER, c_OVER := PySem.W.mg_of X G n_OVER, t_UNDER := t_UNDER, c_UNDER := PySem.W.mg_of X G n_UNDER } rfl (hB (cL, PL) (List.mem_singleton.mpr rfl))⟩
end G
open PySem PySem.W PyProof.Rows
set_option maxRecDepth 100000 in
set_option maxHeartbeats 0 in
theorem PySem.Challenge.cw_crossbeat_k06_events_refused_holds : PySem.Challenge.rw_crossbeat_k06_events_refused.Holds := by
  w_on; o_law; k_head; (case hw => w_witness2)
  k_fill
  refine LamX.walk_ofOwn (l := PySem.Challenge.rw_crossbeat_k06_events_refused) (n := 63) (k := 8) (x := "_law_script") (CX := fun _ => L2.CX0) rfl (by decide) rfl ⟨rfl, by decide, by decide⟩ (by decide +kernel) (fun w h Y => PySem.W.km_in_of Y) ?F (fun _ _ _ _ _ h => h)
  case F =>
    intro w mg fa h Y KX GG hmg own
    refine' G.all_mk KX GG hmg own ?aC_BadEvent ?aC_BadWords ?aC_BadLane ?aC_BadNumber ?aC_CrossError ?aC_Lane ?a_l_alike ?l_l_alike ?c_l_alike ?k_l_alike ?a_l_begun ?l_l_begun ?c_l_begun ?k_l_begun ?a_l_dice ?l_l_dice ?c_l_dice ?k_l_dice ?a_l_plain ?l_l_plain ?c_l_plain ?k_l_plain ?a_l_seen ?l_l_seen ?c_l_seen ?k_l_seen ?a_l_turn ?l_l_turn ?c_l_turn ?k_l_turn ?a_l_do ?l_l_do ?c_l_do ?k_l_do ?a_l_can ?l_l_can ?c_l_can ?k_l_can ?a_l_off ?l_l_off ?c_l_off ?k_l_off ?a_l_events ?l_l_events ?c_l_events ?k_l_events ?a_l_gray ?l_l_gray ?c_l_gray ?k_l_gray ?a_l_mixed ?l_l_mixed ?c_l_mixed ?k_l_mixed ?a_l_words ?l_l_words ?c_l_words ?k_l_words ?a_l_lane ?l_l_lane ?c_l_lane ?k_l_lane ?a_l_refused ?l_l_refused ?c_l_refused ?k_l_refused ?a_BadEvent___init__ ?i_BadEvent___init__ ?l_BadEvent___init__ ?c_BadEvent___init__ ?k_BadEvent___init__ ?a_Lane___init__ ?i_Lane___init__ ?l_Lane___init__ ?c_Lane___init__ ?k_Lane___init__ ?a_Lane_behind ?i_Lane_behind ?l_Lane_behind ?c_Lane_behind ?k_Lane_behind ?a_Lane_can_get ?i_Lane_can_get ?l_Lane_can_get ?c_Lane_can_get ?k_Lane_can_get ?a_Lane_inside ?i_Lane_inside ?l_Lane_inside ?c_Lane_inside ?k_Lane_inside ?a_Lane_place_of ?i_Lane_place_of ?l_Lane_place_of ?c_Lane_place_of ?k_Lane_place_of ?a_Lane_do_get ?i_Lane_do_get ?l_Lane_do_get ?c_Lane_do_get ?k_Lane_do_get ?a_Lane_can_put ?i_Lane_can_put ?l_Lane_can_put ?c_Lane_can_put ?k_Lane_can_put ?a_Lane_do_put ?i_Lane_do_put ?l_Lane_do_put ?c_Lane_do_put ?k_Lane_do_put ?a_Lane_do ?i_Lane_do ?l_Lane_do ?c_Lane_do ?k_Lane_do ?a_Lane_turns ?i_Lane_turns ?l_Lane_turns ?c_Lane_turns ?k_Lane_turns ?a_seen_of ?l_seen_of ?c_seen_of ?k_seen_of ?a_Lane_may ?i_Lane_may ?l_Lane_may ?c_Lane_may ?k_Lane_may ?a_is_word ?l_is_word ?c_is_word ?k_is_word ?a_need_words ?l_need_words ?c_need_words ?k_need_words ?a_need_lane ?l_need_lane ?c_need_lane ?k_need_lane ?a_played ?l_played ?c_played ?k_played ?a_got ?l_got ?c_got ?k_got ?a_law ?l_law ?c_law ?k_law ?pg_Lane ?hd_Lane ?po_Lane ?sa_Lane ?mk_Lane ?kc_Lane ?na_room ?na_words ?na_put ?na_got ?na_seen_got ?na_seen_put ?na_boxes ?na_many ?na_fault ?e_ga_CE ?e_rd_CE ?e_fi_CE ?x1_BadEvent ?x2_BadEvent ?x3_BadEvent ?x4_BadEvent ?x5_BadEvent ?e_tI_BadEvent ?y1_BadEvent ?y2_BadEvent ?x6_BadEvent ?e_at_BadEvent ?z1_BadEvent ?z2_BadEvent ?z3_BadEvent ?z4_BadEvent ?z5_BadEvent ?e_ex_BadEvent ?e_ki_BadEvent_BadNumber ?e_ki_BadEvent_BadLane ?e_ki_BadEvent_BadWords ?e_ki_BadEvent_BadEvent ?e_kv_BadEvent ?z_ValueError ?z_abs ?z_all ?z_bool ?z_enumerate ?z_int ?z_isinstance ?z_len ?z_list ?z_min ?z_range ?z_set ?z_sorted ?z_str ?z_tuple ?n_MARKS ?l_MARKS ?n_MOST_EVENTS ?n_MOST_ROOM ?n_MOST_WIDE ?n_OVER ?n_UNDER ?lc_law ?v_law ?np_law ?ch_law
    (case aC_BadEvent => first | k_is | rfl | kernel_rfl)
    (case aC_BadWords => first | k_is | rfl | kernel_rfl)
    (case aC_BadLane => first | k_is | rfl | kernel_rfl)
    (case aC_BadNumber => first | k_is | rfl | kernel_rfl)
    (case aC_CrossError => first | k_is | rfl | kernel_rfl)
    (case aC_Lane => first | k_is | rfl | kernel_rfl)
    (case a_l_alike => first | k_is | rfl | kernel_rfl)
    (case l_l_alike => first | k_is | rfl | kernel_rfl)
    (case c_l_alike => first | k_is | rfl | kernel_rfl)
    (case k_l_alike => first | k_is | rfl | kernel_rfl)
    (case a_l_begun => first | k_is | rfl | kernel_rfl)
    (case l_l_begun => first | k_is | rfl | kernel_rfl)
    (case c_l_begun => first | k_is | rfl | kernel_rfl)
    (case k_l_begun => first | k_is | rfl | kernel_rfl)
    (case a_l_dice => first | k_is | rfl | kernel_rfl)
    (case l_l_dice => first | k_is | rfl | kernel_rfl)
    (case c_l_dice => first | k_is | rfl | kernel_rfl)
    (case k_l_dice => first | k_is | rfl | kernel_rfl)
    (case a_l_plain => first | k_is | rfl | kernel_rfl)
    (case l_l_plain => first | k_is | rfl | kernel_rfl)
    (case c_l_plain => first | k_is | rfl | kernel_rfl)
    (case k_l_plain => first | k_is | rfl | kernel_rfl)
    (case a_l_seen => first | k_is | rfl | kernel_rfl)
    (case l_l_seen => first | k_is | rfl | kernel_rfl)
    (case c_l_seen => first | k_is | rfl | kernel_rfl)
    (case k_l_seen => first | k_is | rfl | kernel_rfl)
    (case a_l_turn => first | k_is | rfl | kernel_rfl)
    (case l_l_turn => first | k_is | rfl | kernel_rfl)
    (case c_l_turn => first | k_is | rfl | kernel_rfl)
    (case k_l_turn => first | k_is | rfl | kernel_rfl)
    (case a_l_do => first | k_is | rfl | kernel_rfl)
    (case l_l_do => first | k_is | rfl | kernel_rfl)
    (case c_l_do => first | k_is | rfl | kernel_rfl)
    (case k_l_do => first | k_is | rfl | kernel_rfl)
    (case a_l_can => first | k_is | rfl | kernel_rfl)
    (case l_l_can => first | k_is | rfl | kernel_rfl)
    (case c_l_can => first | k_is | rfl | kernel_rfl)
    (case k_l_can => first | k_is | rfl | kernel_rfl)
    (case a_l_off => first | k_is | rfl | kernel_rfl)
    (case l_l_off => first | k_is | rfl | kernel_rfl)
    (case c_l_off => first | k_is | rfl | kernel_rfl)
    (case k_l_off => first | k_is | rfl | kernel_rfl)
    (case a_l_events => first | k_is | rfl | kernel_rfl)
    (case l_l_events => first | k_is | rfl | kernel_rfl)
    (case c_l_events => first | k_is | rfl | kernel_rfl)
    (case k_l_events => first | k_is | rfl | kernel_rfl)
    (case a_l_gray => first | k_is | rfl | kernel_rfl)
    (case l_l_gray => first | k_is | rfl | kernel_rfl)
    (case c_l_gray => first | k_is | rfl | kernel_rfl)
    (case k_l_gray => first | k_is | rfl | kernel_rfl)
    (case a_l_mixed => first | k_is | rfl | kernel_rfl)
    (case l_l_mixed => first | k_is | rfl | kernel_rfl)
    (case c_l_mixed => first | k_is | rfl | kernel_rfl)
    (case k_l_mixed => first | k_is | rfl | kernel_rfl)
    (case a_l_words => first | k_is | rfl | kernel_rfl)
    (case l_l_words => first | k_is | rfl | kernel_rfl)
    (case c_l_words => first | k_is | rfl | kernel_rfl)
    (case k_l_words => first | k_is | rfl | kernel_rfl)
    (case a_l_lane => first | k_is | rfl | kernel_rfl)
    (case l_l_lane => first | k_is | rfl | kernel_rfl)
    (case c_l_lane => first | k_is | rfl | kernel_rfl)
    (case k_l_lane => first | k_is | rfl | kernel_rfl)
    (case a_l_refused => first | k_is | rfl | kernel_rfl)
    (case l_l_refused => first | k_is | rfl | kernel_rfl)
    (case c_l_refused => first | k_is | rfl | kernel_rfl)
    (case k_l_refused => first | k_is | rfl | kernel_rfl)
    (case a_BadEvent___init__ => first | k_is | rfl | kernel_rfl)
    (case i_BadEvent___init__ => first | k_is | rfl | kernel_rfl)
    (case l_BadEvent___init__ => first | k_is | rfl | kernel_rfl)
    (case c_BadEvent___init__ => first | k_is | rfl | kernel_rfl)
    (case k_BadEvent___init__ => first | k_is | rfl | kernel_rfl)
    (case a_Lane___init__ => first | k_is | rfl | kernel_rfl)
    (case i_Lane___init__ => first | k_is | rfl | kernel_rfl)
    (case l_Lane___init__ => first | k_is | rfl | kernel_rfl)
    (case c_Lane___init__ => first | k_is | rfl | kernel_rfl)
    (case k_Lane___init__ => first | k_is | rfl | kernel_rfl)
    (case a_Lane_behind => first | k_is | rfl | kernel_rfl)
    (case i_Lane_behind => first | k_is | rfl | kernel_rfl)
    (case l_Lane_behind => first | k_is | rfl | kernel_rfl)
    (case c_Lane_behind => first | k_is | rfl | kernel_rfl)
    (case k_Lane_behind => first | k_is | rfl | kernel_rfl)
    (case a_Lane_can_get => first | k_is | rfl | kernel_rfl)
    (case i_Lane_can_get => first | k_is | rfl | kernel_rfl)
    (case l_Lane_can_get => first | k_is | rfl | kernel_rfl)
    (case c_Lane_can_get => first | k_is | rfl | kernel_rfl)
    (case k_Lane_can_get => first | k_is | rfl | kernel_rfl)
    (case a_Lane_inside => first | k_is | rfl | kernel_rfl)
    (case i_Lane_inside => first | k_is | rfl | kernel_rfl)
    (case l_Lane_inside => first | k_is | rfl | kernel_rfl)
    (case c_Lane_inside => first | k_is | rfl | kernel_rfl)
    (case k_Lane_inside => first | k_is | rfl | kernel_rfl)
    (case a_Lane_place_of => first | k_is | rfl | kernel_rfl)
    (case i_Lane_place_of => first | k_is | rfl | kernel_rfl)
    (case l_Lane_place_of => first | k_is | rfl | kernel_rfl)
    (case c_Lane_place_of => first | k_is | rfl | kernel_rfl)
    (case k_Lane_place_of => first | k_is | rfl | kernel_rfl)
    (case a_Lane_do_get => first | k_is | rfl | kernel_rfl)
    (case i_Lane_do_get => first | k_is | rfl | kernel_rfl)
    (case l_Lane_do_get => first | k_is | rfl | kernel_rfl)
    (case c_Lane_do_get => first | k_is | rfl | kernel_rfl)
    (case k_Lane_do_get => first | k_is | rfl | kernel_rfl)
    (case a_Lane_can_put => first | k_is | rfl | kernel_rfl)
    (case i_Lane_can_put => first | k_is | rfl | kernel_rfl)
    (case l_Lane_can_put => first | k_is | rfl | kernel_rfl)
    (case c_Lane_can_put => first | k_is | rfl | kernel_rfl)
    (case k_Lane_can_put => first | k_is | rfl | kernel_rfl)
    (case a_Lane_do_put => first | k_is | rfl | kernel_rfl)
    (case i_Lane_do_put => first | k_is | rfl | kernel_rfl)
    (case l_Lane_do_put => first | k_is | rfl | kernel_rfl)
    (case c_Lane_do_put => first | k_is | rfl | kernel_rfl)
    (case k_Lane_do_put => first | k_is | rfl | kernel_rfl)
    (case a_Lane_do => first | k_is | rfl | kernel_rfl)
    (case i_Lane_do => first | k_is | rfl | kernel_rfl)
    (case l_Lane_do => first | k_is | rfl | kernel_rfl)
    (case c_Lane_do => first | k_is | rfl | kernel_rfl)
    (case k_Lane_do => first | k_is | rfl | kernel_rfl)
    (case a_Lane_turns => first | k_is | rfl | kernel_rfl)
    (case i_Lane_turns => first | k_is | rfl | kernel_rfl)
    (case l_Lane_turns => first | k_is | rfl | kernel_rfl)
    (case c_Lane_turns => first | k_is | rfl | kernel_rfl)
    (case k_Lane_turns => first | k_is | rfl | kernel_rfl)
    (case a_seen_of => first | k_is | rfl | kernel_rfl)
    (case l_seen_of => first | k_is | rfl | kernel_rfl)
    (case c_seen_of => first | k_is | rfl | kernel_rfl)
    (case k_seen_of => first | k_is | rfl | kernel_rfl)
    (case a_Lane_may => first | k_is | rfl | kernel_rfl)
    (case i_Lane_may => first | k_is | rfl | kernel_rfl)
    (case l_Lane_may => first | k_is | rfl | kernel_rfl)
    (case c_Lane_may => first | k_is | rfl | kernel_rfl)
    (case k_Lane_may => first | k_is | rfl | kernel_rfl)
    (case a_is_word => first | k_is | rfl | kernel_rfl)
    (case l_is_word => first | k_is | rfl | kernel_rfl)
    (case c_is_word => first | k_is | rfl | kernel_rfl)
    (case k_is_word => first | k_is | rfl | kernel_rfl)
    (case a_need_words => first | k_is | rfl | kernel_rfl)
    (case l_need_words => first | k_is | rfl | kernel_rfl)
    (case c_need_words => first | k_is | rfl | kernel_rfl)
    (case k_need_words => first | k_is | rfl | kernel_rfl)
    (case a_need_lane => first | k_is | rfl | kernel_rfl)
    (case l_need_lane => first | k_is | rfl | kernel_rfl)
    (case c_need_lane => first | k_is | rfl | kernel_rfl)
    (case k_need_lane => first | k_is | rfl | kernel_rfl)
    (case a_played => first | k_is | rfl | kernel_rfl)
    (case l_played => first | k_is | rfl | kernel_rfl)
    (case c_played => first | k_is | rfl | kernel_rfl)
    (case k_played => first | k_is | rfl | kernel_rfl)
    (case a_got => first | k_is | rfl | kernel_rfl)
    (case l_got => first | k_is | rfl | kernel_rfl)
    (case c_got => first | k_is | rfl | kernel_rfl)
    (case k_got => first | k_is | rfl | kernel_rfl)
    (case a_law => first | k_is | rfl | kernel_rfl)
    (case l_law => first | k_is | rfl | kernel_rfl)
    (case c_law => first | k_is | rfl | kernel_rfl)
    (case k_law => first | k_is | rfl | kernel_rfl)
    (case pg_Lane => first | k_is | rfl | kernel_rfl)
    (case hd_Lane => first | k_is | rfl | kernel_rfl)
    (case po_Lane => first | k_is | rfl | kernel_rfl)
    (case sa_Lane => first | k_is | rfl | kernel_rfl)
    (case mk_Lane => first | k_is | rfl | kernel_rfl)
    (case kc_Lane => first | k_is | rfl | kernel_rfl)
    (case na_room => first | k_is | rfl | kernel_rfl)
    (case na_words => first | k_is | rfl | kernel_rfl)
    (case na_put => first | k_is | rfl | kernel_rfl)
    (case na_got => first | k_is | rfl | kernel_rfl)
    (case na_seen_got => first | k_is | rfl | kernel_rfl)
    (case na_seen_put => first | k_is | rfl | kernel_rfl)
    (case na_boxes => first | k_is | rfl | kernel_rfl)
    (case na_many => first | k_is | rfl | kernel_rfl)
    (case na_fault => first | k_is | rfl | kernel_rfl)
    (case e_ga_CE => first | k_is | rfl | kernel_rfl)
    (case e_rd_CE => first | k_is | rfl | kernel_rfl)
    (case e_fi_CE => first | k_is | rfl | kernel_rfl)
    (case x1_BadEvent => first | k_is | rfl | kernel_rfl)
    (case x2_BadEvent => first | k_is | rfl | kernel_rfl)
    (case x3_BadEvent => first | k_is | rfl | kernel_rfl)
    (case x4_BadEvent => first | k_is | rfl | kernel_rfl)
    (case x5_BadEvent => first | k_is | rfl | kernel_rfl)
    (case e_tI_BadEvent => first | k_is | rfl | kernel_rfl)
    (case y1_BadEvent => first | k_is | rfl | kernel_rfl)
    (case y2_BadEvent => first | k_is | rfl | kernel_rfl)
    (case x6_BadEvent => first | k_is | rfl | kernel_rfl)
    (case e_at_BadEvent => first | k_is | rfl | kernel_rfl)
    (case z1_BadEvent => first | k_is | rfl | kernel_rfl)
    (case z2_BadEvent => first | k_is | rfl | kernel_rfl)
    (case z3_BadEvent => first | k_is | rfl | kernel_rfl)
    (case z4_BadEvent => first | k_is | rfl | kernel_rfl)
    (case z5_BadEvent => first | k_is | rfl | kernel_rfl)
    (case e_ex_BadEvent => first | k_is | rfl | kernel_rfl)
    (case e_ki_BadEvent_BadNumber => first | k_is | rfl | kernel_rfl)
    (case e_ki_BadEvent_BadLane => first | k_is | rfl | kernel_rfl)
    (case e_ki_BadEvent_BadWords => first | k_is | rfl | kernel_rfl)
    (case e_ki_BadEvent_BadEvent => first | k_is | rfl | kernel_rfl)
    (case e_kv_BadEvent => first | k_is | rfl | kernel_rfl)
    (case z_ValueError => first | k_is | rfl | kernel_rfl)
    (case z_abs => first | k_is | rfl | kernel_rfl)
    (case z_all => first | k_is | rfl | kernel_rfl)
    (case z_bool => first | k_is | rfl | kernel_rfl)
    (case z_enumerate => first | k_is | rfl | kernel_rfl)
    (case z_int => first | k_is | rfl | kernel_rfl)
    (case z_isinstance => first | k_is | rfl | kernel_rfl)
    (case z_len => first | k_is | rfl | kernel_rfl)
    (case z_list => first | k_is | rfl | kernel_rfl)
    (case z_min => first | k_is | rfl | kernel_rfl)
    (case z_range => first | k_is | rfl | kernel_rfl)
    (case z_set => first | k_is | rfl | kernel_rfl)
    (case z_sorted => first | k_is | rfl | kernel_rfl)
    (case z_str => first | k_is | rfl | kernel_rfl)
    (case z_tuple => first | k_is | rfl | kernel_rfl)
    (case n_MARKS => first | k_is | rfl | kernel_rfl)
    (case l_MARKS => first | k_is | rfl | kernel_rfl)
    (case n_MOST_EVENTS => first | k_is | rfl | kernel_rfl)
    (case n_MOST_ROOM => first | k_is | rfl | kernel_rfl)
    (case n_MOST_WIDE => first | k_is | rfl | kernel_rfl)
    (case n_OVER => first | k_is | rfl | kernel_rfl)
    (case n_UNDER => first | k_is | rfl | kernel_rfl)
    (case lc_law => first | k_is | rfl | kernel_rfl)
    (case v_law => first | k_is | rfl | kernel_rfl)
    (case np_law => first | k_is | rfl | kernel_rfl)
    (case ch_law => first | k_is | rfl | kernel_rfl)
#print axioms PySem.Challenge.cw_crossbeat_k06_events_refused_holds
