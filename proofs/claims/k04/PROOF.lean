import PyProof.Rows.All
import Wide.All
import OpenK.AllK
import Wide.FinOn
import HandS.ForMost
import HandS.Evl
import HandS.Style
import HandS.IsInst
import HandS.Strs
import HandS.Set
import PyProof.Rows.SetFrom
import HandS.Walk
import HandS.Conv
import PySem.Challenge.RW_crossbeat_k04_seen_while_it_turns
set_option Elab.async false
set_option linter.all false
set_option maxRecDepth 100000
set_option maxHeartbeats 4000000
namespace G
open PySem L2 Evl
def topS (i : Nat) : Stmt := PySem.Challenge.pw_crossbeat_k04_seen_while_it_turns.main.body.getD i (.Pass ⟨0, 0, 0, 0⟩)
abbrev s_l_alike : Stmt := topS 14
theorem sc_l_alike : FnScope ["_law_found", "_law_due", "_law_k"] ["_law_found", "_law_due"] (defScope s_l_alike) := ⟨rfl, rfl, rfl, by decide +kernel, rfl, by decide +kernel, by decide +kernel⟩
abbrev s_l_dice : Stmt := topS 12
theorem sc_l_dice : FnScope ["_law_script", "_law_k", "_law_found", "_law_cell"] ["_law_script", "_law_k"] (defScope s_l_dice) := ⟨rfl, rfl, rfl, by decide +kernel, rfl, by decide +kernel, by decide +kernel⟩
abbrev s_l_off : Stmt := topS 13
theorem sc_l_off : FnScope ["_law_d", "_law_most", "_law_found"] ["_law_d", "_law_most"] (defScope s_l_off) := ⟨rfl, rfl, rfl, by decide +kernel, rfl, by decide +kernel, by decide +kernel⟩
abbrev s_l_mixed : Stmt := topS 15
theorem sc_l_mixed : FnScope ["_law_d", "_law_row", "_law_left", "_law_found"] ["_law_d", "_law_row"] (defScope s_l_mixed) := ⟨rfl, rfl, rfl, by decide +kernel, rfl, by decide +kernel, by decide +kernel⟩
abbrev s_l_plain : Stmt := topS 16
theorem sc_l_plain : FnScope ["_law_wide", "_law_found", "_law_number", "_law_word", "_law_at"] ["_law_wide"] (defScope s_l_plain) := ⟨rfl, rfl, rfl, by decide +kernel, rfl, by decide +kernel, by decide +kernel⟩
abbrev s_l_seen : Stmt := topS 18
theorem sc_l_seen : FnScope ["_law_one", "_law_other", "_law_found", "_law_word", "_law_at"] ["_law_one", "_law_other"] (defScope s_l_seen) := ⟨rfl, rfl, rfl, by decide +kernel, rfl, by decide +kernel, by decide +kernel⟩
abbrev s_l_gray : Stmt := topS 17
theorem sc_l_gray : FnScope ["_law_wide", "_law_found", "_law_word", "_law_marks", "_law_at"] ["_law_wide"] (defScope s_l_gray) := ⟨rfl, rfl, rfl, by decide +kernel, rfl, by decide +kernel, by decide +kernel⟩
abbrev s_l_words : Stmt := topS 19
theorem sc_l_words : FnScope ["_law_d", "_law_room", "_law_wide", "_law_every", "_law_words_here", "_law_kind", "_law_at", "_law_by", "_law_k", "_law_order", "_law_turn", "_law_found", "_law_word", "_law_marks", "_law_mark"] ["_law_d", "_law_room"] (defScope s_l_words) := ⟨rfl, rfl, rfl, by decide +kernel, rfl, by decide +kernel, by decide +kernel⟩
abbrev s_is_word : Stmt := topS 6
theorem sc_is_word : FnScope ["word", "mark"] ["word"] (defScope s_is_word) := ⟨rfl, rfl, rfl, by decide +kernel, rfl, by decide +kernel, by decide +kernel⟩
abbrev s_need_words : Stmt := topS 7
theorem sc_need_words : FnScope ["words", "at", "word"] ["words"] (defScope s_need_words) := ⟨rfl, rfl, rfl, by decide +kernel, rfl, by decide +kernel, by decide +kernel⟩
abbrev s_seen_of : Stmt := topS 8
theorem sc_seen_of : FnScope ["one", "other", "found", "at", "marks", "longer", "word", "mark"] ["one", "other"] (defScope s_seen_of) := ⟨rfl, rfl, rfl, by decide +kernel, rfl, by decide +kernel, by decide +kernel⟩
abbrev s_first_torn : Stmt := topS 10
theorem sc_first_torn : FnScope ["words", "at", "both", "others", "word"] ["words"] (defScope s_first_torn) := ⟨rfl, rfl, rfl, by decide +kernel, rfl, by decide +kernel, by decide +kernel⟩
abbrev s_torn : Stmt := topS 9
theorem sc_torn : FnScope ["one", "other"] ["one", "other"] (defScope s_torn) := ⟨rfl, rfl, rfl, by decide +kernel, rfl, by decide +kernel, by decide +kernel⟩
abbrev s_law : Stmt := topS 20
theorem sc_law : FnScope ["_law_script", "_law_d", "_law_wide", "_law_every", "_law_turn", "_law_one", "_law_other", "_law_found", "_law_words_here", "_law_due", "_law_at", "_law_both", "_law_others", "_law_word", "_law_handed"] ["_law_script"] (defScope s_law) := ⟨rfl, rfl, rfl, by decide +kernel, rfl, by decide +kernel, by decide +kernel⟩
structure TX (K : PySem.W.Frag) (mg : Str → Option Value) where
  f_l_alike : Addr
  fd_l_alike : FuncData
  F_l_alike : Fun K "_law_alike" "_law_alike" s_l_alike f_l_alike fd_l_alike
  b_l_alike : Binds K fd_l_alike ["_law_found", "_law_due"] []
  g_l_alike : mg "_law_alike" = some (.ref f_l_alike)
  f_l_dice : Addr
  fd_l_dice : FuncData
  F_l_dice : Fun K "_law_dice" "_law_dice" s_l_dice f_l_dice fd_l_dice
  b_l_dice : Binds K fd_l_dice ["_law_script", "_law_k"] []
  g_l_dice : mg "_law_dice" = some (.ref f_l_dice)
  f_l_off : Addr
  fd_l_off : FuncData
  F_l_off : Fun K "_law_off" "_law_off" s_l_off f_l_off fd_l_off
  b_l_off : Binds K fd_l_off ["_law_d", "_law_most"] []
  g_l_off : mg "_law_off" = some (.ref f_l_off)
  f_l_mixed : Addr
  fd_l_mixed : FuncData
  F_l_mixed : Fun K "_law_mixed" "_law_mixed" s_l_mixed f_l_mixed fd_l_mixed
  b_l_mixed : Binds K fd_l_mixed ["_law_d", "_law_row"] []
  g_l_mixed : mg "_law_mixed" = some (.ref f_l_mixed)
  f_l_plain : Addr
  fd_l_plain : FuncData
  F_l_plain : Fun K "_law_plain" "_law_plain" s_l_plain f_l_plain fd_l_plain
  b_l_plain : Binds K fd_l_plain ["_law_wide"] []
  g_l_plain : mg "_law_plain" = some (.ref f_l_plain)
  f_l_seen : Addr
  fd_l_seen : FuncData
  F_l_seen : Fun K "_law_seen" "_law_seen" s_l_seen f_l_seen fd_l_seen
  b_l_seen : Binds K fd_l_seen ["_law_one", "_law_other"] []
  g_l_seen : mg "_law_seen" = some (.ref f_l_seen)
  f_l_gray : Addr
  fd_l_gray : FuncData
  F_l_gray : Fun K "_law_gray" "_law_gray" s_l_gray f_l_gray fd_l_gray
  b_l_gray : Binds K fd_l_gray ["_law_wide"] []
  g_l_gray : mg "_law_gray" = some (.ref f_l_gray)
  f_l_words : Addr
  fd_l_words : FuncData
  F_l_words : Fun K "_law_words" "_law_words" s_l_words f_l_words fd_l_words
  b_l_words : Binds K fd_l_words ["_law_d", "_law_room"] []
  g_l_words : mg "_law_words" = some (.ref f_l_words)
  f_is_word : Addr
  fd_is_word : FuncData
  F_is_word : Fun K "is_word" "is_word" s_is_word f_is_word fd_is_word
  b_is_word : Binds K fd_is_word ["word"] []
  g_is_word : mg "is_word" = some (.ref f_is_word)
  f_need_words : Addr
  fd_need_words : FuncData
  F_need_words : Fun K "need_words" "need_words" s_need_words f_need_words fd_need_words
  b_need_words : Binds K fd_need_words ["words"] []
  g_need_words : mg "need_words" = some (.ref f_need_words)
  f_seen_of : Addr
  fd_seen_of : FuncData
  F_seen_of : Fun K "seen_of" "seen_of" s_seen_of f_seen_of fd_seen_of
  b_seen_of : Binds K fd_seen_of ["one", "other"] []
  g_seen_of : mg "seen_of" = some (.ref f_seen_of)
  f_first_torn : Addr
  fd_first_torn : FuncData
  F_first_torn : Fun K "first_torn" "first_torn" s_first_torn f_first_torn fd_first_torn
  b_first_torn : Binds K fd_first_torn ["words"] []
  g_first_torn : mg "first_torn" = some (.ref f_first_torn)
  f_torn : Addr
  fd_torn : FuncData
  F_torn : Fun K "torn" "torn" s_torn f_torn fd_torn
  b_torn : Binds K fd_torn ["one", "other"] []
  g_torn : mg "torn" = some (.ref f_torn)
  f_law : Addr
  fd_law : FuncData
  F_law : Fun K "law" "law" s_law f_law fd_law
  b_law : Binds K fd_law ["_law_script"] []
  g_law : mg "law" = some (.ref f_law)
  z_abs : mg "abs" = none
  z_all : mg "all" = none
  z_bool : mg "bool" = none
  z_enumerate : mg "enumerate" = none
  z_int : mg "int" = none
  z_isinstance : mg "isinstance" = none
  z_len : mg "len" = none
  z_list : mg "list" = none
  z_min : mg "min" = none
  z_range : mg "range" = none
  z_set : mg "set" = none
  z_sorted : mg "sorted" = none
  z_str : mg "str" = none
  z_tuple : mg "tuple" = none
  a_MARKS : Addr
  c_MARKS : mg "MARKS" = some (.ref a_MARKS)
  m_MARKS : ∀ H, SqT K H a_MARKS [.str "0", .str "1"]
  t_MOST_WIDE : Tok
  c_MOST_WIDE : mg "MOST_WIDE" = some (.int 4 t_MOST_WIDE)
/-! ### heaps -/
/-- all but d stays -/
def Exd (d : Addr) (H H' : Hp) : Prop := ∀ a o, H a = some o → a ≠ d → H' a = some o
theorem Exd.refl (d : Addr) (H : Hp) : Exd d H H := fun _ _ h _ => h
theorem Exd.trans {d : Addr} {H H1 H2 : Hp} (a : Exd d H H1) (b : Exd d H1 H2) : Exd d H H2 := fun x o h n => b x o (a x o h n) n
theorem Exd.of {d : Addr} {H H1 : Hp} (a : Ex H H1) : Exd d H H1 := fun x o h _ => a x o h
theorem Exd.upd {d : Addr} {H H1 : Hp} {o : HO} (a : Exd d H H1) : Exd d H (L2.upd H1 d o) := fun x o h n => by
  rw [upd_ne n]
  exact a x o h n
theorem ifP {c A B : Prop} [Decidable c] (h : c) (k : A) : if c then A else B := by
  rw [if_pos h]
  exact k
theorem ifN {c A B : Prop} [Decidable c] (h : ¬ c) (k : B) : if c then A else B := by
  rw [if_neg h]
  exact k
theorem evt_use {tt : TT} {σ : L2.St} {H : Hp} {b : Bool} {Q : Bool → Hp → Prop} (h : EvT tt σ H b) (k : ∀ H2, Ex H H2 → Q b H2) : tt σ H Q := h H (Ex.refl H) Q k
theorem lo62 (n : Nat) : -(2 ^ 62 : Int) ≤ (n : Int) := by omega
theorem hi62 {n : Nat} (h : n ≤ 1000) : (n : Int) < 2 ^ 62 := by omega
theorem ats {α : Type} {xs : List α} {z : Int} {j : Nat} {v : α} (e : z = (j : Int)) (h : xs[j]? = some v) : atI xs z = some v := by
  rw [e]
  exact atI_nat h
/-- the dice: two numbers and the great ones that are left -/
def Dice (H : Hp) (d : Addr) : Prop := ∃ (s c : Int) (r : List Int), H d = some (.lst ((s :: c :: r).map V.int)) ∧ 0 ≤ s ∧ s < 2147483647 ∧ 0 ≤ c ∧ ∀ x ∈ r, 0 ≤ x
def sp_l_off : Sp := fun vs H Q _ => ∃ (d : Addr) (n : Int), vs = [.ref d, .int n] ∧ Dice H d ∧ 0 < n ∧ n < 1073741824 ∧ ∀ (x : Int) (H' : Hp), 0 ≤ x → x < n → Exd d H H' → Dice H' d → Q (.int x) H'
def sp_l_dice (K : PySem.W.Frag) : Sp := fun vs H Q _ => ∃ (a : Addr) (ns : List Int), vs = [.ref a, .int 0] ∧ SqL K H a (ns.map V.int) ∧ ns.length ≤ 63 ∧ ∀ (d : Addr) (H' : Hp), H d = none → Ex H H' → Dice H' d → Q (.ref d) H'
section
variable {P : Program} {w : World} {K : PySem.W.Frag} {mg : Str → Option Value} {base : Heap}
theorem Dice.mono {H H' : Hp} {d : Addr} (e : Ex H H') (h : Dice H d) : Dice H' d := by
  obtain ⟨s, c, r, h, h1⟩ := h
  exact ⟨s, c, r, e _ _ h, h1⟩
theorem Dice.upd {H : Hp} {d p : Addr} {o : HO} (h : Dice H d) (n : d ≠ p) : Dice (L2.upd H p o) d := by
  obtain ⟨s, c, r, h, h1⟩ := h
  exact ⟨s, c, r, by rw [upd_ne n]; exact h, h1⟩
theorem Dice.ne {H : Hp} {d p : Addr} (h : Dice H d) (n : H p = none) : d ≠ p := by
  obtain ⟨s, c, r, h, _⟩ := h
  exact ne_of_none h n
/-- the law's own promise -/
def sp_law (K : PySem.W.Frag) : Sp := fun vs H Q _ => ∃ (a : Addr) (ns : List Int), vs = [.ref a] ∧ SqL K H a (ns.map V.int) ∧ ns.length ≤ 63 ∧ ∀ H', Q (.bl true) H'
end
/-! ### words -/
def bit (b : Bool) : Nat := if b then 49 else 48
def wd (bs : List Bool) : Str := ⟨(bs.map bit).toArray⟩
abbrev wv (bs : List Bool) : V := .str (wd bs)
theorem str0 : ("0" : Str) = wd [false] := by decide +kernel
theorem str1 : ("1" : Str) = wd [true] := by decide +kernel
theorem strE : ("" : Str) = wd [] := by decide +kernel
theorem wd_app (a b : List Bool) : wd a ++ wd b = wd (a ++ b) := by
  show Str.append (wd a) (wd b) = wd (a ++ b)
  simp [Str.append, wd, List.map_append]
theorem wd_len (a : List Bool) : (wd a).length = a.length := by
  show (List.map bit a).toArray.size = a.length
  simp
theorem bit_inj {a b : Bool} (h : bit a = bit b) : a = b := by
  revert h
  cases a <;> cases b <;> decide
theorem map_bit_inj : ∀ {a b : List Bool}, a.map bit = b.map bit → a = b
  | [], [], _ => rfl
  | [], _ :: _, h => by cases h
  | _ :: _, [], h => by cases h
  | x :: a, y :: b, h => by
    have h : bit x :: a.map bit = bit y :: b.map bit := h
    injection h with h1 h2
    rw [bit_inj h1, map_bit_inj h2]
theorem wd_inj {a b : List Bool} (h : wd a = wd b) : a = b := by
  have h : (a.map bit).toArray = (b.map bit).toArray := congrArg Str.cps h
  exact map_bit_inj (by simpa using congrArg Array.toList h)
theorem wv_inj {a b : List Bool} (h : wv a = wv b) : a = b := wd_inj (V.str.inj h)
theorem wd_toList (a : List Bool) : (wd a).cps.toList = a.map bit := by
  show (a.map bit).toArray.toList = _
  simp
theorem sgn (b : Bool) : (⟨#[bit b]⟩ : Str) = wd [b] := rfl
theorem small9 {n : Nat} (h : n ≤ 1000) : n ≤ sizeLine := Nat.le_of_lt (small1000 h)
/-- all words, as numbers rise; the mirrored way -/
def plainW : Nat → List (List Bool)
  | 0 => [[]]
  | n + 1 => (plainW n).map (false :: ·) ++ (plainW n).map (true :: ·)
def grayW : Nat → List (List Bool)
  | 0 => [[]]
  | n + 1 => (grayW n).map (false :: ·) ++ (grayW n).reverse.map (true :: ·)
theorem plainW_len : ∀ n, (plainW n).length = 2 ^ n
  | 0 => rfl
  | n + 1 => by
    show ((plainW n).map _ ++ (plainW n).map _).length = _
    rw [List.length_append, List.length_map, List.length_map, plainW_len n, Nat.pow_succ]
    omega
theorem grayW_len : ∀ n, (grayW n).length = 2 ^ n
  | 0 => rfl
  | n + 1 => by
    show ((grayW n).map _ ++ (grayW n).reverse.map _).length = _
    rw [List.length_append, List.length_map, List.length_map, List.length_reverse, grayW_len n, Nat.pow_succ]
    omega
theorem plainW_wide : ∀ n, ∀ w ∈ plainW n, w.length = n
  | 0, w, h => by
    cases (List.mem_singleton.mp h)
    rfl
  | n + 1, w, h => by
    rcases List.mem_append.mp h with h | h <;> obtain ⟨u, hu, rfl⟩ := List.mem_map.mp h <;> simp [plainW_wide n u hu]
theorem grayW_wide : ∀ n, ∀ w ∈ grayW n, w.length = n
  | 0, w, h => by
    cases (List.mem_singleton.mp h)
    rfl
  | n + 1, w, h => by
    rcases List.mem_append.mp h with h | h <;> obtain ⟨u, hu, rfl⟩ := List.mem_map.mp h
    · simp [grayW_wide n u hu]
    · simp [grayW_wide n u (List.mem_reverse.mp hu)]
theorem pow16 {n : Nat} (h : n ≤ 4) : 2 ^ n ≤ 16 := by
  have : n = 0 ∨ n = 1 ∨ n = 2 ∨ n = 3 ∨ n = 4 := by omega
  rcases this with rfl | rfl | rfl | rfl | rfl <;> decide
/-! ### comprehensions whose element is a value -/
section
variable {K : PySem.W.Frag}
/-- over a list; the test's answer p, the element g -/
theorem lcFM {α : Type} {a : Addr} (l : List α) (ev : α → V) (p : α → Bool) (g : α → V) {j : Nat} {tt : TT} {te : TE} {vs : List Nat} {σ : L2.St} {H1 : Hp} {D : Addr} {Qd : Hp → Prop}
    (hx : SqL K H1 a (l.map ev)) (hz : l.length ≤ 1000) (hD : H1 D = none) (hw : ∀ x, wipe ((wipe σ vs).set j (some x)) vs = wipe σ vs)
    (hs : ∀ x ∈ l, ∀ H, Ex H1 H → ∀ (Y : VK) (N : Hp → Prop), (∀ H2, Ex H H2 → if p x = true then Y (g x) H2 else N H2) → tt ((wipe σ vs).set j (some (ev x))) H fun b H3 => if b = true then te ((wipe σ vs).set j (some (ev x))) H3 Y else N H3)
    (hd : ∀ H2, Ex H1 H2 → H2 D = some (.lst ((l.filter p).map g)) → Qd H2) :
    ∃ W : Nat → Nat → Hp → Prop, (∃ m, W 0 m (upd H1 D (.lst []))) ∧ ∀ i m H, W i m H →
      ((Itl K a).stop i H ∧ Qd H) ∨ ((Itl K a).go i H ∧ ∃ Nx : Hp → Prop, (∀ H', Nx H' → ∃ m', m' < m ∧ W (i + 1) m' H') ∧ ∀ x H', (Itl K a).yld i H x H' → (gName j) x (wipe σ vs) H' fun σ2 H2 => wipe σ2 vs = wipe σ vs ∧ tt σ2 H2 fun b H3 =>
        if b = true then te σ2 H3 fun y H4 => ∃ acc, H4 D = some (.lst acc) ∧ acc.length < sizeLine ∧ Nx (upd H4 D (.lst (acc ++ [y]))) else Nx H3) := by
  refine lc_list (xs := l.map ev) (fun i H => Ex H1 H ∧ H D = some (.lst (((l.take i).filter p).map g))) ⟨Ex.new hD, upd_same⟩ (fun i H _ h => ex_l h.1 hx) (fun i x H hi h => ?_) (fun H h => ?_)
  · obtain ⟨y, hy, rfl⟩ : ∃ y, l[i]? = some y ∧ ev y = x := by
      rw [List.getElem?_map] at hi
      cases e : l[i]? with
      | none => rw [e] at hi; cases hi
      | some y => rw [e] at hi; exact ⟨y, rfl, Option.some.inj hi⟩
    have hm : y ∈ l := List.mem_of_getElem? hy
    have ht : l.take (i + 1) = l.take i ++ [y] := by rw [List.take_add_one, hy]; rfl
    refine ⟨hw _, hs y hm H h.1 _ _ fun H2 e2 => ?_⟩
    have hl : (((l.take i).filter p).map g).length < sizeLine := by
      rw [List.length_map]
      refine small1000 (Nat.le_trans (List.length_filter_le _ _) ?_)
      rw [List.length_take]
      omega
    by_cases hp : p y = true
    · rw [if_pos hp]
      refine ⟨_, e2 _ _ h.2, hl, Ex.mut (h.1.trans e2) hD, ?_⟩
      rw [upd_same, ht, List.filter_append, List.map_append]
      simp [hp]
    · rw [if_neg hp]
      refine ⟨h.1.trans e2, ?_⟩
      rw [e2 _ _ h.2, ht, List.filter_append, List.map_append]
      simp [hp]
  · refine hd H h.1 ?_
    rw [h.2, List.length_map, List.take_length]
theorem lcM {α : Type} {a : Addr} (l : List α) (ev : α → V) (g : α → V) {j : Nat} {te : TE} {vs : List Nat} {σ : L2.St} {H1 : Hp} {D : Addr} {Qd : Hp → Prop}
    (hx : SqL K H1 a (l.map ev)) (hz : l.length ≤ 1000) (hD : H1 D = none) (hw : ∀ x, wipe ((wipe σ vs).set j (some x)) vs = wipe σ vs)
    (hs : ∀ x ∈ l, ∀ H, Ex H1 H → ∀ (Y : VK), (∀ H2, Ex H H2 → Y (g x) H2) → te ((wipe σ vs).set j (some (ev x))) H Y)
    (hd : ∀ H2, Ex H1 H2 → H2 D = some (.lst (l.map g)) → Qd H2) :
    ∃ W : Nat → Nat → Hp → Prop, (∃ m, W 0 m (upd H1 D (.lst []))) ∧ ∀ i m H, W i m H →
      ((Itl K a).stop i H ∧ Qd H) ∨ ((Itl K a).go i H ∧ ∃ Nx : Hp → Prop, (∀ H', Nx H' → ∃ m', m' < m ∧ W (i + 1) m' H') ∧ ∀ x H', (Itl K a).yld i H x H' → (gName j) x (wipe σ vs) H' fun σ2 H2 => wipe σ2 vs = wipe σ vs ∧ tYes σ2 H2 fun b H3 =>
        if b = true then te σ2 H3 fun y H4 => ∃ acc, H4 D = some (.lst acc) ∧ acc.length < sizeLine ∧ Nx (upd H4 D (.lst (acc ++ [y]))) else Nx H3) :=
  lcFM l ev (fun _ => true) g hx hz hD hw (fun x hm H e Y N h => iteT (B := N H) (hs x hm H e Y fun H2 e2 => by simpa using h H2 e2)) (fun H2 e h => hd H2 e (by rw [h, List.filter_eq_self.mpr (fun _ _ => rfl)]))
/-- over range(n) -/
theorem lcRF (n : Nat) (p : Nat → Bool) (g : Nat → V) {j : Nat} {tt : TT} {te : TE} {vs : List Nat} {σ : L2.St} {H1 : Hp} {D : Addr} {Qd : Hp → Prop} {z : Int}
    (hz0 : z = (n : Int)) (hz : n ≤ 1000) (hD : H1 D = none) (hw : ∀ x, wipe ((wipe σ vs).set j (some x)) vs = wipe σ vs)
    (hs : ∀ i, i < n → ∀ H, Ex H1 H → ∀ (Y : VK) (N : Hp → Prop), (∀ H2, Ex H H2 → if p i = true then Y (g i) H2 else N H2) → tt ((wipe σ vs).set j (some (.int (i : Int)))) H fun b H3 => if b = true then te ((wipe σ vs).set j (some (.int (i : Int)))) H3 Y else N H3)
    (hd : ∀ H2, Ex H1 H2 → H2 D = some (.lst (((List.range n).filter p).map g)) → Qd H2) :
    ∃ W : Nat → Nat → Hp → Prop, (∃ m, W 0 m (upd H1 D (.lst []))) ∧ ∀ i m H, W i m H →
      ((Itr 0 z.toNat).stop i H ∧ Qd H) ∨ ((Itr 0 z.toNat).go i H ∧ ∃ Nx : Hp → Prop, (∀ H', Nx H' → ∃ m', m' < m ∧ W (i + 1) m' H') ∧ ∀ x H', (Itr 0 z.toNat).yld i H x H' → (gName j) x (wipe σ vs) H' fun σ2 H2 => wipe σ2 vs = wipe σ vs ∧ tt σ2 H2 fun b H3 =>
        if b = true then te σ2 H3 fun y H4 => ∃ acc, H4 D = some (.lst acc) ∧ acc.length < sizeLine ∧ Nx (upd H4 D (.lst (acc ++ [y]))) else Nx H3) := by
  have hn : z.toNat = n := by omega
  refine lc_range (lo := 0) (n := z.toNat) (fun i H => Ex H1 H ∧ H D = some (.lst (((List.range i).filter p).map g))) ⟨Ex.new hD, upd_same⟩ (fun i H hi h => ?_) (fun H h => ?_)
  · have e0 : (0 : Int) + (i : Int) = (i : Int) := Int.zero_add _
    rw [e0]
    refine ⟨hw _, hs i (by omega) H h.1 _ _ fun H2 e2 => ?_⟩
    have hl : (((List.range i).filter p).map g).length < sizeLine := by
      rw [List.length_map]
      refine small1000 (Nat.le_trans (List.length_filter_le _ _) ?_)
      rw [List.length_range]
      omega
    by_cases hp : p i = true
    · rw [if_pos hp]
      refine ⟨_, e2 _ _ h.2, hl, Ex.mut (h.1.trans e2) hD, ?_⟩
      rw [upd_same, List.range_succ, List.filter_append, List.map_append]
      simp [hp]
    · rw [if_neg hp]
      refine ⟨h.1.trans e2, ?_⟩
      rw [e2 _ _ h.2, List.range_succ, List.filter_append, List.map_append]
      simp [hp]
  · refine hd H h.1 ?_
    rw [h.2, hn]
theorem lcR (n : Nat) (g : Nat → V) {j : Nat} {te : TE} {vs : List Nat} {σ : L2.St} {H1 : Hp} {D : Addr} {Qd : Hp → Prop} {z : Int}
    (hz0 : z = (n : Int)) (hz : n ≤ 1000) (hD : H1 D = none) (hw : ∀ x, wipe ((wipe σ vs).set j (some x)) vs = wipe σ vs)
    (hs : ∀ i, i < n → ∀ H, Ex H1 H → ∀ (Y : VK), (∀ H2, Ex H H2 → Y (g i) H2) → te ((wipe σ vs).set j (some (.int (i : Int)))) H Y)
    (hd : ∀ H2, Ex H1 H2 → H2 D = some (.lst ((List.range n).map g)) → Qd H2) :
    ∃ W : Nat → Nat → Hp → Prop, (∃ m, W 0 m (upd H1 D (.lst []))) ∧ ∀ i m H, W i m H →
      ((Itr 0 z.toNat).stop i H ∧ Qd H) ∨ ((Itr 0 z.toNat).go i H ∧ ∃ Nx : Hp → Prop, (∀ H', Nx H' → ∃ m', m' < m ∧ W (i + 1) m' H') ∧ ∀ x H', (Itr 0 z.toNat).yld i H x H' → (gName j) x (wipe σ vs) H' fun σ2 H2 => wipe σ2 vs = wipe σ vs ∧ tYes σ2 H2 fun b H3 =>
        if b = true then te σ2 H3 fun y H4 => ∃ acc, H4 D = some (.lst acc) ∧ acc.length < sizeLine ∧ Nx (upd H4 D (.lst (acc ++ [y]))) else Nx H3) :=
  lcRF n (fun _ => true) g hz0 hz hD hw (fun i hi H e Y N h => iteT (B := N H) (hs i hi H e Y fun H2 e2 => by simpa using h H2 e2)) (fun H2 e h => hd H2 e (by rw [h, List.filter_eq_self.mpr (fun _ _ => rfl)]))
end
section
variable {K : PySem.W.Frag}
/-- a comprehension over anything that is walked -/
theorem lcW {α : Type} {J : It} {Gd : Hp → Prop} (l : List α) (ev : α → V) (p : α → Bool) (g : α → V) (wk : Walk J l.length Gd (fun i H x H' => H' = H ∧ ∃ y, l[i]? = some y ∧ x = ev y)) {j : Nat} {tt : TT} {te : TE} {vs : List Nat} {σ : L2.St} {H1 : Hp} {D : Addr} {Qd : Hp → Prop}
    (hG : ∀ H, Ex H1 H → Gd H) (hz : l.length ≤ 1000) (hD : H1 D = none) (hw : ∀ x, wipe ((wipe σ vs).set j (some x)) vs = wipe σ vs)
    (hs : ∀ x ∈ l, ∀ H, Ex H1 H → ∀ (Y : VK) (N : Hp → Prop), (∀ H2, Ex H H2 → if p x = true then Y (g x) H2 else N H2) → tt ((wipe σ vs).set j (some (ev x))) H fun b H3 => if b = true then te ((wipe σ vs).set j (some (ev x))) H3 Y else N H3)
    (hd : ∀ H2, Ex H1 H2 → H2 D = some (.lst ((l.filter p).map g)) → Qd H2) :
    ∃ W : Nat → Nat → Hp → Prop, (∃ m, W 0 m (upd H1 D (.lst []))) ∧ ∀ i m H, W i m H →
      (J.stop i H ∧ Qd H) ∨ (J.go i H ∧ ∃ Nx : Hp → Prop, (∀ H', Nx H' → ∃ m', m' < m ∧ W (i + 1) m' H') ∧ ∀ x H', J.yld i H x H' → (gName j) x (wipe σ vs) H' fun σ2 H2 => wipe σ2 vs = wipe σ vs ∧ tt σ2 H2 fun b H3 =>
        if b = true then te σ2 H3 fun y H4 => ∃ acc, H4 D = some (.lst acc) ∧ acc.length < sizeLine ∧ Nx (upd H4 D (.lst (acc ++ [y]))) else Nx H3) := by
  refine lc_it wk (fun i H => Ex H1 H ∧ H D = some (.lst (((l.take i).filter p).map g))) ⟨Ex.new hD, upd_same⟩ (fun i H _ h => hG H h.1) (fun i x H H' hi h hy => ?_) (fun H h => ?_)
  · obtain ⟨rfl, y, hy, rfl⟩ := hy
    have hm : y ∈ l := List.mem_of_getElem? hy
    have ht : l.take (i + 1) = l.take i ++ [y] := by rw [List.take_add_one, hy]; rfl
    refine ⟨hw _, hs y hm _ h.1 _ _ fun H2 e2 => ?_⟩
    have hl : (((l.take i).filter p).map g).length < sizeLine := by
      rw [List.length_map]
      refine small1000 (Nat.le_trans (List.length_filter_le _ _) ?_)
      rw [List.length_take]
      omega
    by_cases hp : p y = true
    · rw [if_pos hp]
      refine ⟨_, e2 _ _ h.2, hl, Ex.mut (h.1.trans e2) hD, ?_⟩
      rw [upd_same, ht, List.filter_append, List.map_append]
      simp [hp]
    · rw [if_neg hp]
      refine ⟨h.1.trans e2, ?_⟩
      rw [e2 _ _ h.2, ht, List.filter_append, List.map_append]
      simp [hp]
  · refine hd H h.1 ?_
    rw [h.2, List.take_length]
theorem walk_sgn (z : Str) : Walk (Its z) z.cps.toList.length (fun _ => True) (fun i H x H' => H' = H ∧ ∃ y, z.cps.toList[i]? = some y ∧ x = V.str ⟨#[y]⟩) := by
  rw [Array.length_toList]
  exact walk_str.mono (fun _ h => h) (fun i H x H' _ _ ⟨h1, c, h2, h3⟩ => ⟨h1, c, by rw [Array.getElem?_toList]; exact h2, h3⟩)
theorem cutTake {xs : List V} {n : Nat} : cutV xs none (some (n : Int)) = xs.take n := by
  unfold cutV
  rw [show HT.sIx xs.length xs.length (some (n : Int)) = min n xs.length from HT.sIx_nat xs.length xs.length n, HT.sIx_none, List.drop_zero, Nat.sub_zero]
  exact List.take_eq_take_iff.mpr (by omega)
theorem cutDrop {xs : List V} {n : Nat} : cutV xs (some (n : Int)) none = xs.drop n := by
  unfold cutV
  rw [show HT.sIx xs.length 0 (some (n : Int)) = min n xs.length from HT.sIx_nat xs.length 0 n, HT.sIx_none]
  by_cases h : n ≤ xs.length
  · rw [Nat.min_eq_left h, List.take_of_length_le (by simp)]
  · rw [Nat.min_eq_right (by omega), List.drop_of_length_le (Nat.le_refl _), List.drop_of_length_le (by omega)]
    simp
theorem inV_wv (w : List Bool) (l : List (List Bool)) : inV (wv w) (l.map wv) = decide (w ∈ l) := by
  unfold inV
  rw [List.any_map]
  by_cases h : w ∈ l
  · rw [decide_eq_true h, List.any_eq_true]
    exact ⟨w, h, by simp [eqV]⟩
  · rw [decide_eq_false h, List.any_eq_false]
    intro x hx he
    have he : eqV (wv x) (wv w) = true := he
    refine h ?_
    have : wd x = wd w := by simpa [eqV] using he
    rw [← wd_inj this]
    exact hx
theorem flatW (l : List (List Bool)) : (l.map wv).all flatV = true := by
  rw [List.all_eq_true]
  intro x hx
  obtain ⟨w, _, rfl⟩ := List.mem_map.mp hx
  rfl
end
theorem atW {w : List Bool} {i : Nat} {z : Int} (e : z = (i : Int)) (h : i < w.length) : atI (wd w).cps.toList z = some (bit (w.getD i false)) := by
  refine ats e ?_
  rw [wd_toList, List.getElem?_map, List.getD_eq_getElem?_getD, List.getElem?_eq_getElem h]
  rfl
theorem dec_sgn (a b : Bool) : (!decide (V.str ⟨#[bit a]⟩ = V.str ⟨#[bit b]⟩)) = (a != b) := by
  cases a <;> cases b <;> decide
/-! ### data of a bounded depth: None, ints, texts, lists and tuples -/
def Leaf (v : V) (d : PyData) : Prop := (v = .non ∧ d = .none) ∨ (∃ i, v = .int i ∧ d = .int i) ∨ (∃ x, v = .str x ∧ d = .str x)
def Da (H : Hp) : Nat → V → PyData → Prop
  | 0, v, d => Leaf v d
  | n + 1, v, d => Leaf v d ∨ (∃ a xs ds, v = .ref a ∧ d = .list ds ∧ H a = some (.lst xs) ∧ xs.length ≤ 1000 ∧ Paired (Da H n) xs ds) ∨ (∃ a xs ds, v = .ref a ∧ d = .tuple ds ∧ H a = some (.tup xs) ∧ xs.length ≤ 1000 ∧ Paired (Da H n) xs ds)
theorem paired_imp {α β : Type} {R S : α → β → Prop} (h : ∀ a b, R a b → S a b) : ∀ {xs : List α} {ys : List β}, Paired R xs ys → Paired S xs ys
  | _, _, .nil => .nil
  | _, _, .cons r t => .cons (h _ _ r) (paired_imp h t)
theorem Da.mono {H H' : Hp} (e : Ex H H') : ∀ {n : Nat} {v : V} {d : PyData}, Da H n v d → Da H' n v d
  | 0, _, _, h => h
  | n + 1, _, _, h => by
    rcases h with h | ⟨a, xs, ds, h1, h2, h3, h4, h5⟩ | ⟨a, xs, ds, h1, h2, h3, h4, h5⟩
    · exact .inl h
    · exact .inr (.inl ⟨a, xs, ds, h1, h2, e _ _ h3, h4, paired_imp (fun _ _ => Da.mono e) h5⟩)
    · exact .inr (.inr ⟨a, xs, ds, h1, h2, e _ _ h3, h4, paired_imp (fun _ _ => Da.mono e) h5⟩)
theorem Da.leaf {H : Hp} {v : V} {d : PyData} (h : Leaf v d) : ∀ {n : Nat}, Da H n v d
  | 0 => h
  | _ + 1 => .inl h
theorem Da.int {H : Hp} {n : Nat} (i : Int) : Da H n (.int i) (.int i) := Da.leaf (.inr (.inl ⟨i, rfl, rfl⟩))
theorem Da.str {H : Hp} {n : Nat} (x : Str) : Da H n (.str x) (.str x) := Da.leaf (.inr (.inr ⟨x, rfl, rfl⟩))
theorem Da.non {H : Hp} {n : Nat} : Da H n .non .none := Da.leaf (.inl ⟨rfl, rfl⟩)
theorem Da.lst {H : Hp} {n : Nat} {a : Addr} {xs : List V} {ds : List PyData} (h : H a = some (.lst xs)) (l : xs.length ≤ 1000) (p : Paired (Da H n) xs ds) : Da H (n + 1) (.ref a) (.list ds) := .inr (.inl ⟨a, xs, ds, rfl, rfl, h, l, p⟩)
theorem Da.tup {H : Hp} {n : Nat} {a : Addr} {xs : List V} {ds : List PyData} (h : H a = some (.tup xs)) (l : xs.length ≤ 1000) (p : Paired (Da H n) xs ds) : Da H (n + 1) (.ref a) (.tuple ds) := .inr (.inr ⟨a, xs, ds, rfl, rfl, h, l, p⟩)
theorem paired_map {α β γ : Type} {R : α → β → Prop} (f : γ → α) (g : γ → β) : ∀ (l : List γ), (∀ x ∈ l, R (f x) (g x)) → Paired R (l.map f) (l.map g)
  | [], _ => .nil
  | x :: l, h => .cons (h x List.mem_cons_self) (paired_map f g l fun y hy => h y (List.mem_cons_of_mem _ hy))
theorem Da.strs {H : Hp} {n : Nat} {a : Addr} {l : List (List Bool)} (h : H a = some (.lst (l.map wv))) (hl : l.length ≤ 1000) : Da H (n + 1) (.ref a) (.list (l.map fun w => .str (wd w))) :=
  Da.lst h (by simpa using hl) (paired_map _ _ l fun w _ => Da.str _)
theorem paired_at {α β : Type} {R : α → β → Prop} : ∀ {xs : List α} {ys : List β} {i : Nat}, Paired R xs ys → i < ys.length → ∃ x y, xs[i]? = some x ∧ ys[i]? = some y ∧ R x y
  | _, _, i, .nil, h => absurd h (Nat.not_lt_zero _)
  | _, _, 0, .cons r _, _ => ⟨_, _, rfl, rfl, r⟩
  | _, _, i + 1, .cons _ t, h => paired_at (i := i) t (Nat.lt_of_succ_lt_succ h)
theorem paired_len {α β : Type} {R : α → β → Prop} : ∀ {xs : List α} {ys : List β}, Paired R xs ys → xs.length = ys.length
  | _, _, .nil => rfl
  | _, _, .cons _ t => congrArg (· + 1) (paired_len t)
/-! ### data compared -/
def Sd : Nat → PyData → Prop
  | _, .none => True
  | _, .bool _ => True
  | _, .int _ => True
  | _, .str x => PyData.strOk x = true
  | 0, _ => False
  | n + 1, .list ds => ∀ d ∈ ds, Sd n d
  | n + 1, .tuple ds => ∀ d ∈ ds, Sd n d
  | _ + 1, .dict _ => False
theorem strOk_wd (b : List Bool) : PyData.strOk (wd b) = true := by
  unfold PyData.strOk
  rw [← Array.all_toList, wd_toList, List.all_eq_true]
  intro x hx
  obtain ⟨c, _, rfl⟩ := List.mem_map.mp hx
  cases c <;> decide
theorem canAll : ∀ {ds : List PyData}, (∀ d ∈ ds, d.canLay0 = true) → PyData.canLayAll0 ds = true
  | [], _ => rfl
  | d :: ds, h => by
    rw [PyData.canLayAll0, h d List.mem_cons_self, canAll fun x hx => h x (List.mem_cons_of_mem _ hx)]
    rfl
theorem depthAll_le {n : Nat} : ∀ {ds : List PyData}, (∀ d ∈ ds, d.depth ≤ n) → PyData.depthAll ds ≤ n
  | [], _ => by
    rw [PyData.depthAll]
    exact Nat.zero_le _
  | d :: ds, h => by
    rw [PyData.depthAll]
    exact Nat.max_le.mpr ⟨h d List.mem_cons_self, depthAll_le fun x hx => h x (List.mem_cons_of_mem _ hx)⟩
theorem Sd.ok : ∀ {n : Nat} {d : PyData}, Sd n d → d.canLay0 = true ∧ d.depth ≤ n := by
  intro n
  induction n with
  | zero =>
    intro d h
    cases d with
    | none => exact ⟨by rw [PyData.canLay0], by rw [PyData.depth] <;> simp⟩
    | bool b => exact ⟨by rw [PyData.canLay0], by rw [PyData.depth] <;> simp⟩
    | int i => exact ⟨by rw [PyData.canLay0], by rw [PyData.depth] <;> simp⟩
    | str x => exact ⟨by rw [PyData.canLay0]; exact h, by rw [PyData.depth] <;> simp⟩
    | list ds => exact h.elim
    | tuple ds => exact h.elim
    | dict ds => exact h.elim
  | succ n ih =>
    intro d h
    cases d with
    | none => exact ⟨by rw [PyData.canLay0], by rw [PyData.depth] <;> simp⟩
    | bool b => exact ⟨by rw [PyData.canLay0], by rw [PyData.depth] <;> simp⟩
    | int i => exact ⟨by rw [PyData.canLay0], by rw [PyData.depth] <;> simp⟩
    | str x => exact ⟨by rw [PyData.canLay0]; exact h, by rw [PyData.depth] <;> simp⟩
    | list ds => exact ⟨by rw [PyData.canLay0]; exact canAll fun x hx => (ih (h x hx)).1, by rw [PyData.depth]; exact Nat.succ_le_succ (depthAll_le fun x hx => (ih (h x hx)).2)⟩
    | tuple ds => exact ⟨by rw [PyData.canLay0]; exact canAll fun x hx => (ih (h x hx)).1, by rw [PyData.depth]; exact Nat.succ_le_succ (depthAll_le fun x hx => (ih (h x hx)).2)⟩
    | dict ds => exact h.elim
theorem Sd.shaped {n : Nat} {d : PyData} (h : Sd n d) (hn : n ≤ 64) : SeqAt.shaped d = true := by
  obtain ⟨h1, h2⟩ := h.ok
  unfold SeqAt.shaped
  rw [h1, decide_eq_true (Nat.le_trans h2 hn)]
  rfl
theorem dpAll_of {K : PySem.W.Frag} {H : Hp} {R : V → PyData → Prop} (hR : ∀ v d, R v d → Dp K H v d) : ∀ {xs : List V} {ds : List PyData}, Paired R xs ds → DpAll K H xs ds
  | _, _, .nil => .nil
  | _, _, .cons r t => .cons (hR _ _ r) (dpAll_of hR t)
theorem Da.dp {K : PySem.W.Frag} {H : Hp} : ∀ {n : Nat} {v : V} {d : PyData}, Da H n v d → Dp K H v d := by
  have leaf : ∀ {v : V} {d : PyData}, Leaf v d → Dp K H v d := by
    rintro v d (⟨rfl, rfl⟩ | ⟨i, rfl, rfl⟩ | ⟨x, rfl, rfl⟩)
    · exact .non
    · exact .int i
    · exact .str x
  intro n
  induction n with
  | zero => exact fun h => leaf h
  | succ n ih =>
    rintro v d (h | ⟨a, xs, ds, rfl, rfl, h1, h2, h3⟩ | ⟨a, xs, ds, rfl, rfl, h1, h2, h3⟩)
    · exact leaf h
    · exact .lst (SqL.of h1) (dpAll_of (fun _ _ => ih) h3)
    · exact .tup (SqT.of h1) (dpAll_of (fun _ _ => ih) h3)
theorem dpStrs {K : PySem.W.Frag} {H : Hp} : ∀ (l : List Str), DpAll K H (l.map V.str) (l.map PyData.str)
  | [] => .nil
  | x :: l => .cons (.str x) (dpStrs l)
theorem dpL {K : PySem.W.Frag} {H : Hp} {a : Addr} {l : List Str} (h : SqL K H a (l.map V.str)) : Dp K H (.ref a) (.list (l.map PyData.str)) := .lst h (dpStrs l)
theorem sdStrs {n : Nat} {l : List Str} (h : ∀ x ∈ l, PyData.strOk x = true) : Sd (n + 1) (.list (l.map PyData.str)) := fun d hd => by
  obtain ⟨x, hx, rfl⟩ := List.mem_map.mp hd
  cases n <;> exact h x hx
theorem eqvStrs : ∀ (l m : List Str), PyData.eqv (.list (l.map PyData.str)) (.list (m.map PyData.str)) = decide (l = m) := by
  intro l m
  rw [PyData.eqv]
  induction l generalizing m with
  | nil =>
    cases m with
    | nil => rfl
    | cons y m => rfl
  | cons x l ih =>
    cases m with
    | nil => rfl
    | cons y m =>
      show PyData.eqvAll (.str x :: l.map PyData.str) (.str y :: m.map PyData.str) = _
      rw [PyData.eqvAll, ih m, PyData.eqv]
      by_cases h1 : x = y
      · by_cases h2 : l = m
        · simp [h1, h2]
        · simp [h1, h2]
      · simp [h1]
/-! ### sets of texts: set(list of texts), sorted of it, its length -/
section
open PyProof.Rows
def kOf (e : Int × Value) : Str := match e.2 with
  | .str k _ => k
  | _ => Str.empty
def GE (w : World) (e : Int × Value) : Prop := ∃ k tk, e.2 = Value.str k tk ∧ e.1 = hashStr w k
/-- at a stands a set of the texts l; its table rises and may be walked -/
def SetT (w : World) (h : Heap) (a : Addr) (l : List Str) : Prop :=
  ∃ o es ep t, h.get? a = some o ∧ o.ExactSet ∧ o.data = .set es ep t ∧ (∀ e ∈ es.toList, GE w e) ∧ (es.toList.map kOf).Perm l ∧ l.Nodup ∧ es.size < scanBound ∧ t.fits es.size = true ∧ Ris t.place.toList ∧
    (w.params.followText "set-order" = true ∨ t.led = true)
def insS (l : List Str) (k : Str) : List Str := if k ∈ l then l else k :: l
section
variable {P : Program} {w : World} {h h' : Heap} {a : Addr} {l : List Str}
theorem SetT.at (R : SetT w h a l) (k : ∀ o, h.get? a = some o → h'.get? a = some o) : SetT w h' a l := by
  obtain ⟨o, es, ep, t, ho, r⟩ := R
  exact ⟨o, es, ep, t, k o ho, r⟩
theorem ge_is {e : Int × Value} (g : GE w e) (k : Str) : (strKind P w).is k e.2 = true ↔ kOf e = k := by
  obtain ⟨k0, tk, h1, _⟩ := g
  unfold kOf
  rw [h1]
  show Value.isStrOf k (.str k0 tk) = true ↔ k0 = k
  simp [Value.isStrOf]
theorem ge_elems {m : List (Int × Value)} (g : ∀ e ∈ m, GE w e) : ElemsOf (strKind P w) m := fun e he => by
  obtain ⟨k, tk, h1, h2⟩ := g e he
  exact ⟨⟨k, by rw [h1]; exact strKind_is P w k tk, h2⟩, by rw [h1] <;> rfl⟩
theorem ge_mem {m : List (Int × Value)} (g : ∀ e ∈ m, GE w e) (k : Str) : k ∈ m.map kOf ↔ ∃ e ∈ m, (strKind P w).is k e.2 = true := by
  rw [List.mem_map]
  exact ⟨fun ⟨e, he, q⟩ => ⟨e, he, (ge_is (g e he) k).2 q⟩, fun ⟨e, he, q⟩ => ⟨e, he, (ge_is (g e he) k).1 q⟩⟩
theorem SetT.size (R : SetT w h a l) : ∃ o es ep t, h.get? a = some o ∧ o.ExactSet ∧ o.data = .set es ep t ∧ es.size = l.length ∧ t.fits es.size = true := by
  obtain ⟨o, es, ep, t, ho, hx, hd, g, pm, nd, hb, hf, _⟩ := R
  exact ⟨o, es, ep, t, ho, hx, hd, by rw [← pm.length_eq, List.length_map, Array.length_toList], hf⟩
theorem SetT.setOf (R : SetT w h a l) : h.SetOf (strKind P w) a (fun k => decide (k ∈ l)) l.length := by
  obtain ⟨o, es, ep, t, ho, hx, hd, g, pm, nd, hb, hf, _⟩ := R
  refine ⟨o, es, ep, t, ho, hx, hd, ge_elems g, fun k => ?_, hb, hf, by rw [← pm.length_eq, List.length_map, Array.length_toList]⟩
  rw [decide_eq_true_eq, ← pm.mem_iff]
  exact ge_mem g k
end
section
variable {P : Program} {w : World} {A : Around} {E : Value → Shared → Prop} {s : Shared} {a : Addr} {l : List Str}
theorem tail_T {g : Bool → Sem Unit} (hg : ∀ (b : Bool) (s1 : Shared) (Q' : Unit → Shared → Prop), Q' () s1 → wpAny (model P w) A (g b) Q' E s1)
    {o : Obj} {es : Array (Int × Value)} {ep : Nat} {t : SetTable} (ho : s.heap.get? a = some o) (hex : o.ExactSet) (hd : o.data = .set es ep t)
    {es1 : Array (Int × Value)} {t2 : SetTable} {l1 : List Str} (g1 : ∀ e ∈ es1.toList, GE w e) (p1 : (es1.toList.map kOf).Perm l1) (nd1 : l1.Nodup)
    (hb1 : es1.size < scanBound) (hf2 : t2.fits es1.size = true) (hr : Ris t2.place.toList) (hl : w.params.followText "set-order" = true ∨ t2.led = true) {wasDummy : Bool} {R : Option Bool → Shared → Prop}
    (hR : ∀ h', Heap.SameBut a s.heap h' → SetT w h' a l1 → R (some true) { s with heap := h' }) :
    wpAny (model P w) A (do
        storeSet a es1 t2
        if (!wasDummy && t2.tooFull) = true then do
            g (relayAll t2 es1 (SetTable.grown es1.size)).2.2
            storeSet a (relayAll t2 es1 (SetTable.grown es1.size)).1 (relayAll t2 es1 (SetTable.grown es1.size)).2.1
            pure (some true)
          else pure (some true)) R E s := by
  have o1 := store_at (es' := es1) (t' := t2) ho hd
  have s1 := Heap.SameBut.update s.heap a (Obj.putSet es1 t2)
  refine wpAny_bind (wpAny_storeSet_of ho hd ?_ (fits_of_scanBound hb1))
  split
  · have q1 := relayAll_perm t2 es1 (SetTable.grown es1.size)
    have q2 := relayAll_fits t2 es1 (SetTable.grown es1.size)
    have q3 := relayAll_ris t2 es1 (SetTable.grown es1.size)
    have q4 := relayAll_led t2 es1 (SetTable.grown es1.size)
    generalize relayAll t2 es1 (SetTable.grown es1.size) = Z at q1 q2 q3 q4 ⊢
    obtain ⟨es2, t3, gave⟩ := Z
    dsimp only at q1 q2 q3 q4 ⊢
    have z1 : es2.size = es1.size := by rw [← Array.length_toList, q1.length_eq, Array.length_toList]
    have z2 : es2.size < scanBound := by rw [z1]; exact hb1
    refine wpAny_bind (hg _ _ _ (wpAny_bind (wpAny_storeSet_of o1 rfl ?_ (fits_of_scanBound z2))))
    exact wpAny_pure (hR _ (s1.trans (Heap.SameBut.update _ a _)) ⟨_, es2, _, t3, store_at (es' := es2) (t' := t3) o1 rfl, hex, rfl, fun e he => g1 e (q1.mem_iff.mp he), (q1.map kOf).trans p1, nd1, z2, q2, q3, hl.imp id fun z => by rw [q4]; exact z⟩)
  · exact wpAny_pure (hR _ s1 ⟨_, es1, _, t2, o1, hex, rfl, g1, p1, nd1, hb1, hf2, hr, hl⟩)
theorem add_T {k : Str} {tk : Tok} {Q : Bool → Shared → Prop} (R : SetT w s.heap a l) (room : l.length + 1 < scanBound)
    (hQ : ∀ h' b, Heap.SameBut a s.heap h' → SetT w h' a (insS l k) → Q b { s with heap := h' }) :
    wpAny (model P w) A (setAddHashed a (.str k tk) ((strKind P w).hash k)) Q E s := by
  obtain ⟨o, es, ep, t, ho, hex, hd, g, pm, nd, hb, hf, hr, hl⟩ := R
  have hkey : (strKind P w).is k (.str k tk) = true := strKind_is P w k tk
  have hsc : (Value.str k tk).scannable = true := rfl
  have hel : ElemsOf (strKind P w) es.toList := ge_elems g
  unfold setAddHashed setAddHashedIn
  refine wpAny_holding (wpAny_bind (wpAny_setState_of ho hd hf ?_))
  dsimp only
  rw [byScan_of hsc hb hel]
  simp only [↓reduceIte]
  unfold setAddByScan
  refine wpAny_bind (wpAny_bind (wpAny_rule (wpAny_bind (wpAny_setScan_of hkey ho hd hf hel ?_))))
  cases hfi : List.findIdx? (fun e => (strKind P w).is k e.2) es.toList with
  | some j =>
    dsimp only
    obtain ⟨hj, pj, _⟩ := List.findIdx?_eq_some_iff_getElem.mp hfi
    have hk : k ∈ l := pm.mem_iff.mp ((ge_mem (P := P) (w := w) g k).2 ⟨es.toList[j], List.getElem_mem hj, pj⟩)
    refine wpAny_pure (wpAny_pure (hQ s.heap _ (Heap.SameBut.refl a s.heap) ?_))
    rw [insS, if_pos hk]
    exact ⟨o, es, ep, t, ho, hex, hd, g, pm, nd, hb, hf, hr, hl⟩
  | none =>
    dsimp only
    have hk0 : k ∉ es.toList.map kOf := fun z => by
      obtain ⟨e, he, q⟩ := (ge_mem (P := P) (w := w) g k).1 z
      have c := List.findIdx?_eq_none_iff.mp hfi e he
      rw [q] at c
      cases c
    have hk : k ∉ l := fun z => hk0 (pm.mem_iff.mpr z)
    have q1 := layNew_perm t es ((strKind P w).hash k) (.str k tk)
    have q2 := layNew_fits t es ((strKind P w).hash k) (.str k tk)
    have q3 := layNew_ris t es ((strKind P w).hash k) (.str k tk) hr
    have q4 := layNew_led t es ((strKind P w).hash k) (.str k tk)
    generalize layNew t es ((strKind P w).hash k) (.str k tk) = Z at q1 q2 q3 q4 ⊢
    obtain ⟨es1, t1, wasDummy, gave⟩ := Z
    dsimp only at q1 q2 q3 q4 ⊢
    rw [Array.toList_push] at q1
    have pc : es1.toList.Perm (((strKind P w).hash k, Value.str k tk) :: es.toList) := q1.trans (List.perm_append_singleton _ _)
    have pk : (es1.toList.map kOf).Perm (insS l k) := by
      rw [insS, if_neg hk]
      exact (pc.map kOf).trans (List.Perm.cons k pm)
    have g1 : ∀ e ∈ es1.toList, GE w e := fun e he => by
      rcases List.mem_cons.mp (pc.mem_iff.mp he) with z | z
      · rw [z]
        exact ⟨k, tk, rfl, rfl⟩
      · exact g e z
    have nd1 : (insS l k).Nodup := by
      rw [insS, if_neg hk]
      exact List.nodup_cons.mpr ⟨hk, nd⟩
    have hb1 : es1.size < scanBound := by
      rw [← Array.length_toList, pc.length_eq, List.length_cons, ← List.length_map (f := kOf), pm.length_eq]
      exact room
    have hled : w.params.followText "set-order" = true ∨ t1.led = true := hl.imp id fun z => by rw [q4]; exact z
    have fin : ∀ h', Heap.SameBut a s.heap h' → SetT w h' a (insS l k) → Q true { s with heap := h' } := fun h' sb r => hQ h' true sb r
    have hgw : ∀ (b : Bool) {s1 : Shared} {Q' : Unit → Shared → Prop}, Q' () s1 → wpAny (model P w) A (match b with | true => rule "set.scan.the-table-gave-way" | false => pure ()) Q' E s1 :=
      fun b s1 Q' q => by cases b <;> first | exact wpAny_pure q | exact wpAny_rule q
    refine wpAny_bind (hgw _ ?_)
    split
    · refine wpAny_bind ?_
      rw [hashByValue_scannable 8 hsc]
      refine wpAny_pure (tail_T ?_ ho hex hd g1 pk nd1 hb1 ?_ ?_ ?_ ?_)
      · intro b s1 Q' q; cases b <;> first | exact wpAny_pure q | exact wpAny_rule q
      · first | (split <;> first | exact q2 | exact SetTable.fits_plain_off q2) | exact q2
      · first | (split <;> exact q3) | exact q3
      · first | (split <;> exact hled) | exact hled
      · intro h' sb r; dsimp only; exact wpAny_pure (fin h' sb r)
    · refine wpAny_bind (wpAny_pure ?_)
      simp only [↓reduceIte]
      refine tail_T ?_ ho hex hd g1 pk nd1 hb1 q2 q3 hled ?_
      · intro b s1 Q' q; cases b <;> first | exact wpAny_pure q | exact wpAny_rule q
      · intro h' sb r; dsimp only; exact wpAny_pure (fin h' sb r)
end
/-- the members met ahead of place i -/
def metS (val : Nat → Str) (i : Nat) : List Str := ((List.range i).map val).foldl insS []
theorem metS_succ (val : Nat → Str) (i : Nat) : metS val (i + 1) = insS (metS val i) (val i) := by
  unfold metS
  rw [List.range_succ, List.map_append, List.foldl_append]
  rfl
theorem insS_len (l : List Str) (k : Str) : (insS l k).length ≤ l.length + 1 := by
  unfold insS
  split <;> simp
theorem metS_len (val : Nat → Str) : ∀ i, (metS val i).length ≤ i
  | 0 => Nat.le_refl _
  | i + 1 => by
    rw [metS_succ]
    have := insS_len (metS val i) (val i)
    have := metS_len val i
    omega
section
variable {P : Program} {w : World} {A : Around} {R : Result → Shared → Prop} {I : Addr} {fp wr : List Addr} {Gn : Array GenState → Array GenState → Prop} {n : Nat} {Pv : Nat → Value → Prop} {St : Nat → Shared → Prop}
theorem loop_T (W : WalksS P w A.in1 I fp wr Gn n Pv St) (S : Addr) (hSf : S ∉ fp) (val : Nat → Str) (hval : ∀ i v, Pv i v → ∃ t, v = .str (val i) t) (hb : n + 1 < scanBound) :
    ∀ (k i : Nat) (s : Shared), n - i = k → i ≤ n → St i s → SetT w s.heap S (metS val i) → (∀ s', Moved (S :: wr) Gn s s' → SetT w s'.heap S (metS val n) → R (.ok (.ret .none)) s') →
      codeAny (model P w) A (.builtin "set.update.loop" ⟨[.ref S, .ref I], []⟩) R s := by
  have hSw : S ∉ wr := fun h => hSf (W.sub _ h)
  have hsub : ∀ b ∈ wr, b ∈ S :: wr := fun b hb => List.mem_cons_of_mem _ hb
  intro k
  induction k with
  | zero =>
    intro i s hk hi hst hS hR
    obtain rfl : i = n := by omega
    refine codeAny_builtin F.entry_set_update_loop ?_
    rw [Around.under_plainId F.plain_set_update_loop _]
    show wpAny _ A.in1 (pyNext (.ref I) >>= _) _ _ s
    exact wpAny_bind (W.done s _ _ hst fun s' hm => (show wpAny _ A.in1 (ret Value.none) _ _ s' from wpAny_pure (hR s' (hm.mono hsub) (hS.at fun o e => hm.heap S _ hSw e))))
  | succ k ih =>
    intro i s hk hi hst hS hR
    have hlt : i < n := by omega
    refine codeAny_builtin F.entry_set_update_loop ?_
    rw [Around.under_plainId F.plain_set_update_loop _]
    show wpAny _ A.in1 (pyNext (.ref I) >>= _) _ _ s
    refine wpAny_bind (W.item i s _ _ hlt hst fun v s' hP hst' hm => ?_)
    obtain ⟨t, rfl⟩ := hval i v hP
    have hS' : SetT w s'.heap S (metS val i) := hS.at fun o e => hm.heap S _ hSw e
    show wpAny _ A.in1 (holding [Value.str (val i) t] (setAdd S (.str (val i) t)) >>= _) _ _ s'
    refine wpAny_bind (wpAny_holding ?_)
    unfold setAdd
    refine wpAny_holding (wpAny_bind ((strKind P w).pyHash (k := val i) (strKind_is _ _ _ _) ?_))
    have hroom : (metS val i).length + 1 < scanBound := by have := metS_len val i; omega
    refine add_T (s := { s' with toks := s'.toks + 1 }) hS' hroom fun h' b hsb hS2 => ?_
    rw [← metS_succ] at hS2
    refine wpAny_pure ⟨plainId_quiet F.plain_set_update_loop _, ih (i + 1) _ (by omega) hlt (W.frame _ s' _ _ hst' (Nat.le_succ _) fun b hb o e => ?_) hS2 fun s'' hm'' hS'' => ?_⟩
    · exact (hsb.2 b (fun h : b = S => hSf (by rw [← h]; exact hb))).trans e
    · refine hR s'' (Moved.trans W.gtrans ((hm.mono hsub).then_heap (Nat.le_succ _) fun b o hb e => ?_) hm'') hS''
      exact (hsb.2 b (fun h : b = S => hb (by rw [h]; exact List.mem_cons_self))).trans e
end
section
variable {P : Program} {w : World} {A : Around} {E : Value → Shared → Prop} {s : Shared}
abbrev emptyT (w : World) : Obj := { cls := .type "set", dict := none, data := .set #[] 0 (.fresh 0 0 (!w.params.followText "set-order")) }
theorem new_T (a : Value) {Q1 : Value → Shared → Prop} (h : Q1 (.ref s.heap.objs.size) { s with heap := s.heap.push (emptyT w) }) :
    codeAny (model P w) A (.call (.builtin "set.__new__") ⟨[.type "set", a], []⟩) (wants Q1 E) s := by
  refine codeAny_of_tree ?_
  show wpAny _ A.in1 (do checkBuiltinCall "set.__new__" ⟨[.type "set", a], []⟩; again (.builtin "set.__new__" ⟨[.type "set", a], []⟩)) _ _ s
  refine wpAny_bind (wpAny_of_eq (F.newCall_set_1 a) (wpAny_pure ⟨plainId_quiet F.plain_set_new _, codeAny_builtin F.entry_set_new ?_⟩))
  rw [Around.under_plainId F.plain_set_new _]
  unfold Builtin.«set.__new__» Builtin.Frozenset.newClass
  have hsub := sub_set_self
  obtain ⟨hp, g, d, tk, os⟩ := s
  dsimp only
  wp_walk
  refine wpAny_askSetting (wpAny_pure ?_)
  dsimp only
  simp only [newObj]
  exact wpAny_bind (wpAny_alloc (wpAny_pure (wpAny_pure h)))
theorem fresh_T {h : Heap} (w : World) {a : Addr} (e : h.get? a = some (emptyT w)) : SetT w h a [] :=
  ⟨_, #[], 0, _, e, ⟨rfl, rfl, rfl⟩, rfl, (fun e he => by simp at he), (by simp), List.nodup_nil, (by decide), (by rfl), List.Pairwise.nil, by
    show _ ∨ (!w.params.followText "set-order") = true
    cases w.params.followText "set-order"
    · exact .inr rfl
    · exact .inl rfl⟩
set_option maxRecDepth 100000 in
set_option maxHeartbeats 3200000 in
theorem call_set_T {l : Addr} {items : Array Value} {xs : List Str} {Q : Value → Shared → Prop} (hh : A.handled = none) (hl : s.heap.IsList l items) (hi : StrsAre items.toList xs) (hb : items.size + 1 < scanBound)
    (h : ∀ (h' : Heap) (tk : Nat), SetT w h' s.heap.objs.size (xs.foldl insS []) → (∀ b o, b < s.heap.objs.size → s.heap.get? b = some o → h'.get? b = some o) → Q (.ref s.heap.objs.size) { s with heap := h', toks := tk }) :
    wpAny (model P w) A (call (.type "set") [.ref l]) Q E s := by
  have hsz : xs.length = items.size := by rw [← StrsAre.len_eq hi, Array.length_toList]
  have hmet : metS (fun i => xs.getD i Str.empty) items.size = xs.foldl insS [] := by
    unfold metS
    congr 1
    rw [← hsz]
    refine List.ext_getElem (by simp) fun i h1 h2 => ?_
    simp only [List.getElem_map, List.getElem_range]
    rw [List.getD_eq_getElem?_getD, List.getElem?_eq_getElem h2]
    rfl
  obtain ⟨c, tl, hmro⟩ := F.called_set.mro
  have hmade := F.called_set.made
  have hsub := F.called_set.sub
  refine wpAny_call (codeAny_of_tree ?_)
  show wpAny _ _ (callAny (.type "set") _) _ _ _
  refine wpAny_pure ⟨Code.quiet_builtin _ (by decide +kernel), codeAny_builtin F.entry_type_call ?_⟩
  rw [Around.under_plain (weight_type_call_type "set" [.ref l] []) rfl]
  have h1 := F.called_set.notType
  have h2 := F.called_set.canCreate
  have hct := F.typeCall_set_1 (.ref l)
  repeat (any_goals (first | assumption | wp_step))
  refine codeAny_mono (new_T (.ref l) (E := E) (Q1 := fun obj s1 => obj = .ref s.heap.objs.size ∧ s1 = { s with heap := s.heap.push (emptyT w) }) ⟨rfl, rfl⟩) fun r s1 hr => ?_
  cases r with
  | error e => exact hr
  | ok fl =>
    cases fl with
    | ret obj =>
      obtain ⟨rfl, rfl⟩ := hr
      have hS : (s.heap.push (emptyT w)).get? s.heap.objs.size = some (emptyT w) := Heap.get?_push_size _ rfl
      have hT : Shared.TypeIs { s with heap := s.heap.push (emptyT w) } (.ref s.heap.objs.size) "set" := ⟨_, hS, rfl⟩
      have hli := F.called_set.init.lookup
      have hbi := F.called_set.init.bind (.ref s.heap.objs.size)
      repeat (any_goals (first | assumption | wp_step))
      refine codeAny_mono (codeAny_call_builtin (R := wants (fun r s2 => r = .none ∧ ∃ h' tk, s2 = { s with heap := h', toks := tk } ∧ SetT w h' s.heap.objs.size (xs.foldl insS []) ∧
          (∀ b o, b < s.heap.objs.size → s.heap.get? b = some o → h'.get? b = some o)) E) F.called_set.init.plain F.entry_set_init (check_set_init_1 hT ?_)) fun r2 s2 hr2 => ?_
      · obtain ⟨ol, hol, hcl, nl, hdl⟩ := hl
        obtain ⟨ocls, odict, odata, oslots⟩ := ol
        simp only at hcl hdl
        subst hcl; subst hdl
        have hol' : (s.heap.push (emptyT w)).get? l = some { cls := .type "list", dict := odict, data := .seq items nl, slots := oslots } := Heap.get?_push_of_some _ hol
        have hsls := F.sub_list_set
        have hslf := F.sub_list_frozenset
        have hne : (Value.type "list" == Value.type "dict") = false := by decide
        have hl1 : (s.heap.push (emptyT w)).IsList l items := ⟨_, hol', rfl, nl, rfl⟩
        unfold Builtin.«set.__init__» noKeywords Builtin.Frozenset.updateFrom
        generalize hPI : pyIter = PI
        wp_walk
        subst hPI
        refine wpAny_pyIter_list hl1 (wpAny_bind (wpAny_runValue ?_))
        have hlS : l < s.heap.objs.size := Heap.lt_size hol
        have hh3 : A.in1.in1.in1.handled = none := by simp [hh]
        have hneI : l ≠ (s.heap.push (emptyT w)).objs.size := by
          rw [Heap.size_push]
          exact Nat.ne_of_lt (Nat.lt_succ_of_lt hlS)
        have hSf : s.heap.objs.size ∉ [(s.heap.push (emptyT w)).objs.size, l] := by
          rw [Heap.size_push]
          simp only [List.mem_cons, List.mem_singleton, List.not_mem_nil, or_false, not_or]
          exact ⟨Nat.ne_of_lt (Nat.lt_succ_self _), Nat.ne_of_gt hlS⟩
        have hval : ∀ (i : Nat) (v : Value), items[i]? = some v → ∃ t, v = .str ((fun i => xs.getD i Str.empty) i) t := fun i v hv => SS.strs_at hi i v (by rw [Array.getElem?_toList]; exact hv)
        refine loop_T ((Walks.list hh3 _ l hneI items).toS) s.heap.objs.size hSf (fun i => xs.getD i Str.empty) hval hb (items.size - 0) 0 _ (by omega) (Nat.zero_le _)
          ⟨⟨_, Heap.get?_push_size _ rfl, rfl, rfl⟩, (hl1.push _)⟩ ?hS0 ?hR
        case hS0 =>
          exact fresh_T w (Heap.get?_push_of_some _ hS)
        case hR =>
          intro s' hm hS'
          rw [hmet] at hS'
          obtain ⟨h', g', d', tk', os'⟩ := s'
          have eg : g' = s.gens := hm.gens
          have ed : d' = s.drawn := hm.drawn
          have eo : os' = s.os := hm.os
          subst eg; subst ed; subst eo
          show wpAny _ _ _ _ _ _
          refine wpAny_pure ?_
          show wpAny _ _ (ret Value.none) _ _ _
          refine wpAny_pure ⟨rfl, h', tk', rfl, hS', fun b o hb e => ?_⟩
          have hb1 : b ≠ s.heap.objs.size := Nat.ne_of_lt hb
          have hb2 : b ≠ (s.heap.push (emptyT w)).objs.size := by
            rw [Heap.size_push]
            exact Nat.ne_of_lt (Nat.lt_succ_of_lt hb)
          exact hm.heap b o (by simp only [List.mem_cons, List.mem_singleton, List.not_mem_nil, or_false, not_or]; exact ⟨hb1, hb2⟩) (Heap.get?_push_of_some _ (Heap.get?_push_of_some _ e))
      · cases r2 with
        | error e => exact hr2
        | ok fl2 =>
          cases fl2 with
          | ret r =>
            obtain ⟨rfl, h', tk, rfl, hS', hk'⟩ := hr2
            repeat (any_goals (first | assumption | wp_step))
            exact h _ _ hS' hk'
          | _ => exact hr2.elim
    | _ => exact hr.elim
end
section
variable {P : Program} {w : World} {A : Around} {E : Value → Shared → Prop} {s : Shared} {a : Addr}
theorem strs_of : ∀ (l : List Value), (∀ v ∈ l, ∃ k tk, v = Value.str k tk) → StrsAre l (l.map strOf)
  | l, h => strsAre_map l h
theorem sorted_T {l : List Str} {Q : Value → Shared → Prop} (R : SetT w s.heap a l) (hh : A.handled = none) (h64 : l.length < 64)
    (hQ : ∀ s' p (out : Array Value) (c : Nat) (ys : List Str), (∀ b o, s.heap.get? b = some o → s'.heap.get? b = some o) → s'.gens = s.gens → s'.os = s.os → s.heap.objs.size ≤ p →
      s'.heap.get? p = some (seqObj "list" out c) → StrsAre out.toList ys → ys.Perm l → sortedS ys = true → Q (.ref p) s') :
    wpAny (model P w) A (call (.builtin "sorted") [.ref a]) Q E s := by
  obtain ⟨o, es, ep, t, ho, hex, hd, g, pm, nd, hb, hf, hr, hl⟩ := R
  refine Calls.call_function_entry kind_sorted plain_sorted entry_sorted (args_sorted1 _) ?_
  unfold Builtin.«sorted»
  refine wpAny_bind (m := checkCount "sorted" 1 1 _) (wpAny_pure ?_)
  refine wpAny_bind (collect_set (A := A.in1) hh ⟨o, ho, hex.1, hd⟩ hf hb hr hl fun s1 vs k1 hz g1 o1 pv => ?_)
  have hS : StrsAre vs (vs.map strOf) := strs_of vs fun v hv => by
    obtain ⟨e, he, q⟩ := List.mem_map.mp (pv.mem_iff.mp hv)
    obtain ⟨k, tk, h1, _⟩ := g e he
    exact ⟨k, tk, by rw [← q]; exact h1⟩
  have pk : (vs.map strOf).Perm l := by
    have q := pv.map strOf
    rw [List.map_map] at q
    refine q.trans (List.Perm.trans (List.Perm.of_eq ?_) pm)
    refine List.map_congr_left fun e he => ?_
    obtain ⟨k, tk, h1, _⟩ := g e he
    show strOf e.2 = kOf e
    unfold kOf
    rw [h1]
    rfl
  have hvl : vs.length = l.length := by rw [← pk.length_eq, List.length_map]
  refine wpAny_bind (wpAny_newList ?_ (by rw [hvl, sizeLine_eq]; omega))
  have hoL : (s1.heap.push (seqObj "list" vs.toArray 0)).get? s1.heap.objs.size = some (seqObj "list" vs.toArray 0) := Heap.get?_push_size _ rfl
  refine wpAny_bind (wpAny_holding (wpAny_call_entry slot_list_sort ⟨_, hoL, rfl⟩ entry_list_sort (list_sort_treeK strKind_oneLt hoL hS.keysOf (fun v1 v2 rest e => keyKind_strs (by rw [← e]; exact hS)) (by rw [hvl]; exact h64) fun st' a1 a2 => ⟨_, rfl, ?_⟩) (args_list_sort _)))
  obtain ⟨ys, y1, y2, y3⟩ := sorted_out_str hS a1 a2
  obtain ⟨c, hc⟩ := sortedHeap_at (vs := vs) (out := (arrOf st').map (·.2)) hoL
  refine wpAny_pure ⟨_, rfl, hQ _ s1.heap.objs.size _ c ys (fun b u e => ?_) g1 o1 hz hc y1 (y2.trans pk) y3⟩
  have q := k1 b u e
  have hlt := Heap.lt_size q
  show (sortedHeap (s1.heap.push (seqObj "list" vs.toArray 0)) s1.heap.objs.size vs ((arrOf st').map (·.2))).get? b = some u
  rw [sortedHeap_old (Nat.ne_of_lt hlt) (by rw [size_push']; exact Nat.lt_succ_of_lt hlt)]
  exact Heap.get?_push_of_some _ q
end
/-! the same as rules -/
def SetH (w : World) (a : Addr) (l : List Str) : HO := .ext fun h => SetT w h a l
section
variable {X : Cx}
theorem setH_new {w : World} {P : Program} {H : Hp} {h : Heap} {a : Addr} {l : List Str} (R : SetT w h a l) : ObjOk P w H h a (SetH w a l) :=
  ⟨R, (by obtain ⟨o, _, _, _, ho, _⟩ := R; exact ⟨o, ho⟩), fun h1 h2 r k => SetT.at r k⟩
theorem setH_get {pins : List (Addr × Obj)} {σ : L2.St} {H : Hp} {s : Shared} {a : Addr} {l : List Str} (I : Inv X pins σ H s) (ha : H a = some (SetH X.w a l)) : SetT X.w s.heap a l := (I.hok a _ ha).1
def rSetS (K : PySem.W.Frag) (w : World) : List V → Hp → VK → Prop := fun vs H Q => ∃ (b : Addr) (xs : List Str), vs = [V.ref b] ∧ SqL K H b (xs.map V.str) ∧ xs.length ≤ 100 ∧ ∀ p, H p = none → Q (.ref p) (upd H p (SetH w p (xs.foldl insS [])))
theorem cr_setS (hc : X.calm = true) : CallR X (.type "set") (rSetS X.K X.w) := by
  intro pins s σ H vs us Q I r h
  obtain ⟨b, xs, rfl, hb, hx, q⟩ := h
  obtain ⟨its, rv, hl, _⟩ := I.list hb
  rw [Vals.ref1 r]
  have hlen := rv.length
  rw [List.length_map] at hlen
  refine call_set_T (I.ok.hd hc) hl.isList rv.strs (by rw [List.size_toArray, ← hlen]; unfold scanBound; omega) fun h' tk R k => ?_
  have hn : H s.heap.objs.size = none := I.hok.fresh (Nat.le_refl _)
  have J : Inv X pins σ (upd H s.heap.objs.size (SetH X.w s.heap.objs.size (xs.foldl insS []))) { s with heap := h', toks := tk } :=
    I.call (ch := []) (Un.laid (fun b o e => k b o (Heap.lt_size e) e) (Nat.le_refl _) hn) (I.hok.laid (fun b o e => k b o (Heap.lt_size e) e) (Nat.le_refl _) (setH_new R)) I.bare (fun _ z => nomatch z)
  exact ⟨.ref _, _, J, rfl, q _ hn⟩
def rSortSet (w : World) : List V → Hp → VK → Prop := fun vs H Q => ∃ (a : Addr) (l : List Str), vs = [V.ref a] ∧ H a = some (SetH w a l) ∧ l.length < 64 ∧ ∀ (ys : List Str) (p : Addr), ys.Perm l → sortedS ys = true → H p = none → Q (.ref p) (upd H p (.lst (ys.map V.str)))
theorem cr_sortSet (hc : X.calm = true) : CallR X (.builtin "sorted") (rSortSet X.w) := by
  intro pins s σ H vs us Q I r h
  obtain ⟨a, l, rfl, ha, h64, q⟩ := h
  rw [Vals.ref1 r]
  refine sorted_T (setH_get I ha) (I.ok.hd hc) h64 fun s' p out c ys k g o hp hg hi hpm hs => ?_
  have hlen : (ys.map V.str).length ≤ sizeLine := by rw [List.length_map, hpm.length_eq, sizeLine_eq]; omega
  have hn : H p = none := I.hok.fresh hp
  have J : Inv X pins σ (upd H p (.lst (ys.map V.str))) { s with heap := s'.heap, gens := s'.gens, drawn := s'.drawn, toks := s'.toks } :=
    I.call (ch := []) (Un.laid k hp hn) (I.hok.laid k hp ⟨hlen, out.toList, c, vals_of_strs hi, hg⟩) (by rw [g]; exact I.bare) (fun _ z => nomatch z)
  have e : s' = { s with heap := s'.heap, gens := s'.gens, drawn := s'.drawn, toks := s'.toks } := by
    cases s'; cases s; cases o; rfl
  rw [e]
  exact ⟨.ref p, _, J, rfl, q ys p hpm hs hn⟩
def rLenSet (w : World) : List V → Hp → VK → Prop := fun vs H Q => ∃ (a : Addr) (l : List Str), vs = [V.ref a] ∧ H a = some (SetH w a l) ∧ l.length ≤ 100 ∧ Q (.int l.length) H
theorem call_lenSet : CallR X (.builtin "len") (rLenSet X.w) := by
  intro pins s σ H vs us Q I r h
  obtain ⟨a, l, rfl, ha, hl, q⟩ := h
  rw [Vals.ref1 r]
  obtain ⟨o, es, ep, t, ho, hex, hd, hn, hf⟩ := (setH_get I ha).size
  exact call_len_set ho hex hd hf (by rw [hn]; omega) ⟨.int l.length, H, I.tok _, ⟨_, by rw [hn]⟩, q⟩
end
end
/-! ### what is seen while a word turns -/
def mk2 (x y : Bool) : List Bool := if x = y then [x] else [false, true]
def seenZ : List (Bool × Bool) → List (List Bool)
  | [] => [[]]
  | z :: zs => (mk2 z.1 z.2).flatMap fun m => (seenZ zs).map (m :: ·)
def seenW (a b : List Bool) : List (List Bool) := seenZ (a.zip b)
def stepS (F : List (List Bool)) (z : Bool × Bool) : List (List Bool) := F.flatMap fun w => (mk2 z.1 z.2).map fun m => w ++ [m]
theorem seen_fold : ∀ (zs : List (Bool × Bool)) (F : List (List Bool)), zs.foldl stepS F = F.flatMap fun w => (seenZ zs).map (w ++ ·)
  | [], F => by simp [seenZ]
  | z :: zs, F => by
    rw [List.foldl_cons, seen_fold zs]
    simp only [stepS, seenZ, List.flatMap_assoc, List.flatMap_map, List.map_flatMap, List.map_map]
    congr 1
    funext w
    congr 1
    funext m
    refine List.map_congr_left fun u _ => ?_
    simp
def sUp (a b : List Bool) (i : Nat) : List (List Bool) := ((a.zip b).take i).foldl stepS [[]]
theorem sUp_all {a b : List Bool} {n : Nat} (ha : a.length = n) (hb : b.length = n) : sUp a b n = seenW a b := by
  unfold sUp seenW
  rw [List.take_of_length_le (by simp [ha, hb]), seen_fold]
  simp
theorem sUp_succ {a b : List Bool} {i : Nat} (ha : i < a.length) (hb : i < b.length) : sUp a b (i + 1) = stepS (sUp a b i) (a.getD i false, b.getD i false) := by
  unfold sUp
  have h : (a.zip b)[i]? = some (a.getD i false, b.getD i false) := by
    rw [List.getElem?_zip_eq_some]
    rw [List.getD_eq_getElem?_getD, List.getD_eq_getElem?_getD, List.getElem?_eq_getElem ha, List.getElem?_eq_getElem hb]
    exact ⟨rfl, rfl⟩
  rw [List.take_add_one, h, List.foldl_append]
  rfl
theorem mk2_len (x y : Bool) : (mk2 x y).length ≤ 2 := by
  unfold mk2
  split <;> simp
theorem stepS_len (F : List (List Bool)) (z : Bool × Bool) : (stepS F z).length ≤ 2 * F.length := by
  unfold stepS
  induction F with
  | nil => simp
  | cons w F ih =>
    rw [List.flatMap_cons, List.length_append, List.length_map]
    have := mk2_len z.1 z.2
    simp only [List.length_cons]
    omega
theorem sUp_len (a b : List Bool) : ∀ i, (sUp a b i).length ≤ 2 ^ i
  | 0 => by simp [sUp]
  | i + 1 => by
    by_cases h : i < (a.zip b).length
    · have ha : i < a.length := by simp at h; omega
      have hb : i < b.length := by simp at h; omega
      rw [sUp_succ ha hb, Nat.pow_succ]
      have := stepS_len (sUp a b i) (a.getD i false, b.getD i false)
      have := sUp_len a b i
      omega
    · have e : sUp a b (i + 1) = sUp a b i := by
        unfold sUp
        rw [List.take_of_length_le (by omega), List.take_of_length_le (by omega)]
      rw [e, Nat.pow_succ]
      have := sUp_len a b i
      omega
theorem sUp_wide {a b : List Bool} : ∀ {i : Nat}, i ≤ a.length → i ≤ b.length → ∀ w ∈ sUp a b i, w.length = i
  | 0, _, _, w, h => by
    have h : w ∈ [[]] := by simpa [sUp] using h
    rw [List.mem_singleton.mp h]
    rfl
  | i + 1, ha, hb, w, h => by
    rw [sUp_succ (by omega) (by omega)] at h
    obtain ⟨u, hu, hw⟩ := List.mem_flatMap.mp h
    obtain ⟨m, _, rfl⟩ := List.mem_map.mp hw
    simp [sUp_wide (by omega) (by omega) u hu]
theorem seenW_len {a b : List Bool} {n : Nat} (ha : a.length = n) (hb : b.length = n) : (seenW a b).length ≤ 2 ^ n := by
  rw [← sUp_all ha hb]
  exact sUp_len a b n
theorem seenW_wide {a b : List Bool} {n : Nat} (ha : a.length = n) (hb : b.length = n) : ∀ w ∈ seenW a b, w.length = n := by
  rw [← sUp_all ha hb]
  exact sUp_wide (by omega) (by omega)
theorem perm_two {α : Type} {ys : List α} {p q : α} (h : ys.Perm [p, q]) : ys = [p, q] ∨ ys = [q, p] := by
  have hl := h.length_eq
  match ys, hl with
  | [u, v], _ =>
    have hu : u = p ∨ u = q := by simpa using h.mem_iff.mp (List.mem_cons_self)
    rcases hu with rfl | rfl
    · have := (List.perm_cons u).mp h
      have := List.perm_singleton.mp this
      exact .inl (by rw [this])
    · have h2 : [u, v].Perm [u, p] := h.trans (List.Perm.swap u p [])
      have := List.perm_singleton.mp ((List.perm_cons u).mp h2)
      exact .inr (by rw [this])
theorem sorted_marks {x y : Bool} {ys : List Str} (h : ys.Perm ([wd [x], wd [y]].foldl insS [])) (hs : PyProof.Rows.sortedS ys = true) : ys = (mk2 x y).map fun m => wd [m] := by
  have c1 : (wd [true] : Str) ∉ [wd [false]] := by decide
  have c2 : (wd [false] : Str) ∉ [wd [true]] := by decide
  have h1 : ([wd [x], wd [y]].foldl insS []) = insS [wd [x]] (wd [y]) := rfl
  rw [h1] at h
  cases x <;> cases y
  · rw [show insS [wd [false]] (wd [false]) = [wd [false]] by decide] at h
    rw [List.perm_singleton.mp h]
    rfl
  · rw [show insS [wd [false]] (wd [true]) = [wd [true], wd [false]] by decide] at h
    rcases perm_two h with rfl | rfl
    · exact absurd hs (by decide)
    · rfl
  · rw [show insS [wd [true]] (wd [false]) = [wd [false], wd [true]] by decide] at h
    rcases perm_two h with rfl | rfl
    · rfl
    · exact absurd hs (by decide)
  · rw [show insS [wd [true]] (wd [true]) = [wd [true]] by decide] at h
    rw [List.perm_singleton.mp h]
    rfl
theorem setM_len (x y : Str) : ([x, y].foldl insS []).length ≤ 2 := by
  have h1 : ([x, y].foldl insS []) = insS [x] y := rfl
  rw [h1]
  exact insS_len [x] y
def RetU (xs : List V) (H : Hp) (Q : VK) : Prop := ∀ p H2, H p = none → Ex H H2 → H2 p = some (.tup xs) → Q (.ref p) H2
section
variable {P : Program} {w : World} {K : PySem.W.Frag} {mg : Str → Option Value} {base : Heap}
theorem ok_l_off (T : TX K mg) : FnOk P w K mg base CX0 1 T.f_l_off T.fd_l_off ["_law_d", "_law_most"] sp_l_off := by
  refine T.F_l_off.ok sc_l_off (fun vs H Q E h => ?_) (fun cdv A outer s H vs Q E hr h => ?_)
  · obtain ⟨d, n, rfl, _⟩ := h
    rfl
  · obtain ⟨d, n, rfl, ⟨s0, c, r, hd, s1, s2, c0, r0⟩, n0, n1, q⟩ := h
    refine ⟨_, (pss_cut (ps_if (PW.pt (pw_and (pt_cmpR op_eq (pe_ix ix_list (pv 0) pe_int (fun _ _ => rfl)) pe_int (nomark _)) (pw_and1 (pt_cmpR op_gt (pe_callB call_len_seq (by rfl) T.z_len PySem.boot_len (pa_cons (pv 0) pa_nil)) pe_int (nomark _)))))
 (pss_one (ps_asg (pe_bm PySem.F.plainAttrs_list PySem.F.slot_list_pop PySem.F.type_list_pop mt_popAt (pv 0) (pa_cons pe_int pa_nil)) (pg_sub (pv 0) pe_int set_list)))
 pss_nil)
 (pss_cons (ps_if (pt_cmpR op_gt (pe_ix ix_list (pv 0) pe_int (fun _ _ => rfl)) pe_int (nomark _))
 (pss_cons (ps_set (i := 2) sc_l_off.nd rfl (by first | exact Or.inl rfl | exact Or.inr rfl) (pe_op op_mod (pe_ix ix_list (pv 0) pe_int (fun _ _ => rfl)) (pv 1)))
 (pss_cons (ps_asg (pe_op op_fdiv (pe_ix ix_list (pv 0) pe_int (fun _ _ => rfl)) (pv 1)) (pg_sub (pv 0) pe_int set_list))
 (pss_one (ps_ret (pv 2)))))
 pss_nil)
 (pss_cons (ps_asg (pe_op op_mod (pe_op op_add (pe_op op_mul (pe_ix ix_list (pv 0) pe_int (fun _ _ => rfl)) pe_int) pe_int) pe_int) (pg_sub (pv 0) pe_int set_list))
 (pss_one (ps_ret (pe_op op_mod (pe_op op_fdiv (pe_ix ix_list (pv 0) pe_int (fun _ _ => rfl)) pe_int) (pv 1))))))), ?_⟩
    refine ⟨fun σ H1 => σ = [some (.ref d), some (.int n), none] ∧ Exd d H H1 ∧ ∃ c r, H1 d = some (.lst ((s0 :: c :: r).map V.int)) ∧ 0 ≤ c ∧ ∀ x ∈ r, 0 ≤ x, ?_, ?_⟩
    · refine ⟨_, rfl, d, _, 1, .int c, rfl, rfl, SqL.of hd, atI_nat (j := 1) rfl, rfl, _, rfl, ite2 (fun e => ?_) (fun e => ?_)⟩
      · refine ⟨_, rfl, d, _, rfl, .inl (SqL.of hd), _, _, rfl, rfl, _, rfl, ite2 (fun e2 => ?_) (fun e2 => ⟨rfl, Exd.refl _ _, c, r, hd, c0, r0⟩)⟩
        cases r with
        | nil => exact absurd e2 (by simp)
        | cons z r =>
          refine ⟨_, rfl, .inl ⟨rfl, _, SqL.of hd⟩, d, _, 2, 2, .int z, rfl, rfl, hd, by decide, by decide, ?_, rfl, _, rfl, d, _, 1, 1, rfl, rfl, upd_same, ?_, rfl, ?_, z, r, ?_, r0 _ (List.mem_cons_self), fun x hx => r0 x (List.mem_cons_of_mem _ hx)⟩
          · simp [seqIndex?]; omega
          · simp [ixN]; omega
          · exact ((Exd.refl _ _).upd).upd
          · rw [upd_same]; rfl
      · exact ⟨rfl, Exd.refl _ _, c, r, hd, c0, r0⟩
    · rintro σ H1 ⟨rfl, e1, c, r, hd, c0, r0⟩
      refine ⟨_, rfl, d, _, 1, .int c, rfl, rfl, SqL.of hd, atI_nat (j := 1) rfl, _, _, rfl, rfl, _, rfl, ite2 (fun e => ?_) (fun e => ?_)⟩
      · refine ⟨_, rfl, d, _, 1, .int c, rfl, rfl, SqL.of hd, atI_nat (j := 1) rfl, _, rfl, _, _, rfl, rfl, n0, ?_⟩
        refine ⟨_, rfl, d, _, 1, .int c, rfl, rfl, SqL.of hd, atI_nat (j := 1) rfl, _, rfl, _, _, rfl, rfl, ⟨n0, n1⟩, _, rfl, d, _, 1, 1, rfl, rfl, hd, ?_, ?_⟩
        · simp [ixN]; omega
        · refine ⟨_, rfl, q _ _ (Int.emod_nonneg _ (by omega)) (Int.emod_lt_of_pos _ n0) e1.upd ⟨s0, c / n, r, ?_, s1, s2, Int.ediv_nonneg c0 (by omega), r0⟩⟩
          rw [upd_same]; rfl
      · refine ⟨_, rfl, d, _, 0, .int s0, rfl, rfl, SqL.of hd, atI_nat (j := 0) rfl, _, _, rfl, rfl, .inl ⟨by omega, by omega⟩, _, _, rfl, rfl, _, _, rfl, rfl, (by decide : (0 : Int) < 2147483647), _, rfl, d, _, 0, 0, rfl, rfl, hd, ?_, ?_⟩
        · simp [ixN]; omega
        · refine ⟨_, rfl, d, _, 0, .int ((s0 * 48271 + 11) % 2147483647), rfl, rfl, SqL.of upd_same, atI_nat (j := 0) rfl, _, _, rfl, rfl, ⟨by decide, by decide⟩, _, rfl, _, _, rfl, rfl, n0, ?_⟩
          refine q _ _ (Int.emod_nonneg _ (by omega)) (Int.emod_lt_of_pos _ n0) e1.upd ⟨(s0 * 48271 + 11) % 2147483647, c, r, ?_, Int.emod_nonneg _ (by decide), Int.emod_lt_of_pos _ (by decide), c0, r0⟩
          rw [upd_same]; rfl
theorem ok_l_dice (T : TX K mg) : FnOk P w K mg base CX0 1 T.f_l_dice T.fd_l_dice ["_law_script", "_law_k"] (sp_l_dice K) := by
  refine T.F_l_dice.ok sc_l_dice (fun vs H Q E h => ?_) (fun cdv A outer s H vs Q E hr h => ?_)
  · obtain ⟨a, ns, rfl, _⟩ := h
    rfl
  · obtain ⟨a, ns, rfl, hS, hl, q⟩ := h
    refine ⟨_, (pss_cons (ps_set (i := 2) sc_l_dice.nd rfl (by first | exact Or.inl rfl | exact Or.inr rfl) (pv 1))
 (pss_cons (ps_for PassesOwn.never rfl (pi_list (pv 0)) (pg_name (i := 3) sc_l_dice.nd rfl (by first | exact Or.inl rfl | exact Or.inr rfl))
 (pss_one (ps_set (i := 2) sc_l_dice.nd rfl (by first | exact Or.inl rfl | exact Or.inr rfl) (pe_op op_mod (pe_op op_add (pe_op op_mul (pv 2) pe_int) (pe_callB call_abs (by rfl) T.z_abs (by decide +kernel) (pa_cons (pv 3) pa_nil))) pe_int))))
 (pss_one (ps_ret (pe_op op_cat (pe_lst (pa_cons (pv 2) (pa_cons pe_int pa_nil))) (pe_lc (own := [("_law_cell", 3)]) (g := gName 3) (by rfl) sc_l_dice.nd (pi_list (pv 0)) (blkOk_by (own := [("_law_cell", 3)]) (N := ["_law_script", "_law_k", "_law_found", "_law_cell"]) (sc := defScope s_l_dice) (by decide +kernel)) (fun _ _ _ _ _ => pg_name (i := 3) sc_l_dice.nd rfl (Or.inl rfl)) (fun _ _ _ _ _ => (pts_one (pt_cmpR op_ge (pv 3) (pe_op op_pow pe_int pe_int) (nomark _)))) (fun _ _ _ _ _ => (pv 3)))))))), ?_⟩
    refine ⟨_, rfl, .ref a, rfl, a, rfl, ⟨_, hS⟩, for_list (xs := ns.map V.int) (fun i σ H' => H' = H ∧ ∃ f y, σ = [some (.ref a), some (.int 0), some (.int f), y] ∧ 0 ≤ f ∧ f < 2147483647) ⟨rfl, 0, none, rfl, by decide, by decide⟩ (fun i σ H' _ h => by rw [h.1]; exact hS) ?_ ?_⟩
    · rintro i x σ H' hi ⟨rfl, f, y, rfl, f0, f1⟩
      obtain ⟨z, hz, rfl⟩ : ∃ z, ns[i]? = some z ∧ V.int z = x := by
        rw [List.getElem?_map] at hi
        cases e : ns[i]? with
        | none => rw [e] at hi; cases hi
        | some y => rw [e] at hi; exact ⟨y, rfl, Option.some.inj hi⟩
      refine ⟨_, rfl, _, _, rfl, rfl, .inl ⟨by omega, by omega⟩, _, rfl, z, rfl, _, _, rfl, rfl, _, _, rfl, rfl, (by decide : (0 : Int) < 2147483647), rfl, _, _, rfl, Int.emod_nonneg _ (by decide), Int.emod_lt_of_pos _ (by decide)⟩
    · rintro σ H' ⟨rfl, f, y, rfl, f0, f1⟩
      refine ⟨_, rfl, small9 (by simp), fun p np => ?_⟩
      have e1 : Ex H' (upd H' p (.lst [.int f, .int 0])) := Ex.new np
      refine ⟨.ref a, rfl, a, rfl, ⟨_, ex_l e1 hS⟩, fun D hD => lcFM ns V.int (fun z => decide ((1000000000000000000 : Int) ≤ z)) V.int (ex_l e1 hS) (by omega) hD (fun _ => rfl) (fun z hz H2 e2 Y N hq => ?_) (fun H2 e2 h2 => ?_)⟩
      · refine ⟨_, rfl, _, _, rfl, rfl, ⟨by decide, by decide, by decide⟩, _, _, rfl, rfl, _, rfl, ?_⟩
        have hq := hq H2 (Ex.refl _)
        by_cases hc : (1000000000000000000 : Int) ≤ z
        · rw [if_pos (decide_eq_true hc)] at hq
          exact ifP (decide_eq_true (show (10 : Int) ^ (18 : Int).toNat ≤ z by simpa using hc)) ⟨_, rfl, hq⟩
        · rw [if_neg (by simpa using hc)] at hq
          exact ifN (show ¬ decide ((10 : Int) ^ (18 : Int).toNat ≤ z) = true by simpa using hc) hq
      · refine ⟨p, D, _, _, rfl, rfl, e2 _ _ upd_same, h2, ?_, fun o no => ?_⟩
        · have := List.length_filter_le (fun z => decide ((1000000000000000000 : Int) ≤ z)) ns
          simp only [List.length_map, List.length_cons, List.length_nil]
          exact small9 (by omega)
        · have e3 : Ex H' (upd H2 o (.lst ([.int f, .int 0] ++ (ns.filter (fun z => decide ((1000000000000000000 : Int) ≤ z))).map V.int))) := (e1.trans e2).trans (Ex.new no)
          refine q o _ (fresh_back (e1.trans e2) no) e3 ⟨f, 0, ns.filter (fun z => decide ((1000000000000000000 : Int) ≤ z)), ?_, f0, f1, by decide, fun x hx => ?_⟩
          · rw [upd_same]
            rfl
          · have := (List.mem_filter.mp hx).2
            simp at this
            omega
def isW (z : Str) : Bool := (decide (1 ≤ z.length) && decide (z.length ≤ 4)) && z.cps.toList.all fun c => c == 48 || c == 49
theorem isW_wd {b : List Bool} (h1 : 1 ≤ b.length) (h2 : b.length ≤ 4) : isW (wd b) = true := by
  unfold isW
  rw [wd_len, wd_toList, decide_eq_true h1, decide_eq_true h2]
  simp only [Bool.true_and, List.all_eq_true]
  intro x hx
  obtain ⟨c, _, rfl⟩ := List.mem_map.mp hx
  cases c <;> decide
theorem inMarks (c : Nat) : inV (.str ⟨#[c]⟩) [.str "0", .str "1"] = (c == 48 || c == 49) := by
  have h0 : ("0" : Str) = ⟨#[48]⟩ := by decide +kernel
  have h1 : ("1" : Str) = ⟨#[49]⟩ := by decide +kernel
  unfold inV
  rw [h0, h1]
  simp only [List.any_cons, List.any_nil, Bool.or_false]
  have e : ∀ k : Nat, eqV (.str ⟨#[k]⟩) (.str ⟨#[c]⟩) = (c == k) := fun k => by
    by_cases h : c = k
    · subst h
      simp [eqV]
    · have h2 : ((⟨#[k]⟩ : Str) == ⟨#[c]⟩) = false := beq_eq_false_iff_ne.mpr fun e => h (by
        injection e with e
        simpa using e.symm)
      rw [beq_eq_false_iff_ne.mpr h]
      exact h2
  rw [e, e]
def sp_is_word : Sp := fun vs H Q _ => ∃ z : Str, vs = [.str z] ∧ z.length ≤ 1000 ∧ PyData.strOk z = true ∧ RetV (.bl (isW z)) H Q
theorem ok_is_word (T : TX K mg) : FnOk P w K mg base CX0 1 T.f_is_word T.fd_is_word ["word"] sp_is_word := by
  refine T.F_is_word.ok sc_is_word (fun vs H Q E h => ?_) (fun cdv A outer s H vs Q E hr h => ?_)
  · obtain ⟨_, rfl, _⟩ := h
    rfl
  · obtain ⟨z, rfl, hz, hok, q⟩ := h
    refine ⟨_, (pss_one (ps_ret (pe_and (pe_chain op_le op_le pe_int (pe_callB call_len_str (by rfl) T.z_len PySem.boot_len (pa_cons (pv 0) pa_nil)) (pe_glob (v := .int 4) (by rfl) T.c_MOST_WIDE ⟨_, rfl⟩)) (pe_one (pe_cmpR (op_eqD hr.units) (pe_lc (own := [("mark", 1)]) (g := gName 1) (by rfl) sc_is_word.nd (pi_str (pv 0)) (blkOk_by (own := [("mark", 1)]) (N := ["word", "mark"]) (sc := defScope s_is_word) (by decide +kernel)) (fun _ _ _ _ _ => pg_name (i := 1) sc_is_word.nd rfl (Or.inl rfl)) (fun _ _ _ _ _ => (pts_one (pt_cmpR (r := rIn K true) op_notIn_seq (pv 1) (pe_glob (v := .ref T.a_MARKS) (by rfl) T.c_MARKS rfl) (by rfl)))) (fun _ _ _ _ _ => (pv 1))) (pe_lst pa_nil) (nomark _)))))), ?_⟩
    refine ⟨_, rfl, z, rfl, small9 hz, _, _, rfl, rfl, _, rfl, ?_⟩
    by_cases h1 : 1 ≤ z.length
    · refine ifP (decide_eq_true (by omega)) ⟨_, _, rfl, rfl, _, rfl, ?_⟩
      by_cases h4 : z.length ≤ 4
      · refine ifP (decide_eq_true (by omega)) ?_
        refine ⟨_, rfl, z, rfl, fun D nD => lcW z.cps.toList (fun c => V.str ⟨#[c]⟩) (fun c => !(c == 48 || c == 49)) (fun c => V.str ⟨#[c]⟩) (walk_sgn z) (fun _ _ => trivial) (by rw [Array.length_toList]; exact hz) nD (fun _ => rfl) (fun c hc H2 e2 Y N hY => ?_) (fun H2 e2 h2 => ?_)⟩
        · refine ⟨_, rfl, T.a_MARKS, _, rfl, .inr (T.m_MARKS _), rfl, rfl, _, rfl, ?_⟩
          have hY := hY H2 (Ex.refl _)
          rw [← inMarks c] at hY
          cases hm : inV (.str ⟨#[c]⟩) [.str "0", .str "1"] with
          | true =>
            rw [hm] at hY
            exact hY
          | false =>
            rw [hm] at hY
            exact ⟨_, rfl, hY⟩
        · refine ⟨small9 (by simp), fun o no => ?_⟩
          have e3 := e2.trans (Ex.new (o := HO.lst []) no)
          have h3 : SqL K (upd H2 o (.lst [])) D (((z.cps.toList.filter fun c => !(c == 48 || c == 49)).map fun c => (⟨#[c]⟩ : Str)).map V.str) := SqL.of (by rw [(Ex.new no) _ _ h2, List.map_map]; rfl)
          have ok1 : ∀ x ∈ (z.cps.toList.filter fun c => !(c == 48 || c == 49)).map (fun c => (⟨#[c]⟩ : Str)), PyData.strOk x = true := fun x hx => by
            obtain ⟨c, hc, rfl⟩ := List.mem_map.mp hx
            have h5 : z.cps.toList.all (· < 0x110000) = true := by rw [Array.all_toList]; exact hok
            have h6 := List.all_eq_true.mp h5 c (List.mem_filter.mp hc).1
            simpa [PyData.strOk] using h6
          refine ⟨_, .list (([] : List Str).map PyData.str), dpL h3, dpL (SqL.of upd_same), (sdStrs (n := 0) ok1).shaped (by decide), (sdStrs (n := 0) (by simp)).shaped (by decide), ?_⟩
          rw [eqvStrs]
          have e : isW z = decide ((z.cps.toList.filter fun c => !(c == 48 || c == 49)).map (fun c => (⟨#[c]⟩ : Str)) = []) := by
            unfold isW
            rw [decide_eq_true h1, decide_eq_true h4, Bool.true_and, Bool.true_and]
            rw [Bool.eq_iff_iff, decide_eq_true_eq, List.map_eq_nil_iff, List.filter_eq_nil_iff, List.all_eq_true]
            simp only [Bool.not_eq_true', Bool.not_eq_false]
          rw [← e]
          exact q _ e3
      · refine ifN (by simp; omega) ?_
        have e : isW z = false := by simp [isW, h4]
        rw [← e]
        exact q _ (Ex.refl _)
    · refine ifN (by simp; omega) ⟨_, rfl, ifN (by simp) ?_⟩
      have e : isW z = false := by simp [isW, h1]
      rw [← e]
      exact q _ (Ex.refl _)
/-- words of a round -/
structure Round (ws : List (List Bool)) (n : Nat) : Prop where
  ne : ws ≠ []
  wide : ∀ w ∈ ws, w.length = n
  n1 : 1 ≤ n
  n4 : n ≤ 4
  nd : ws.Nodup
  le : ws.length ≤ 16
theorem Round.pos {ws : List (List Bool)} {n : Nat} (h : Round ws n) : 0 < ws.length := List.length_pos_iff.mpr h.ne
def sp_need_words (K : PySem.W.Frag) : Sp := fun vs H Q _ => ∃ (p : Addr) (ws : List (List Bool)) (n : Nat), vs = [.ref p] ∧ SqL K H p (ws.map wv) ∧ Round ws n ∧ RetV .non H Q
theorem ok_need_words (T : TX K mg) : FnOk P w K mg base CX0 2 T.f_need_words T.fd_need_words ["words"] (sp_need_words K) := by
  refine T.F_need_words.ok sc_need_words (fun vs H Q E h => ?_) (fun cdv A outer s H vs Q E hr h => ?_)
  · obtain ⟨_, _, _, rfl, _⟩ := h
    rfl
  · obtain ⟨p, ws, n, rfl, hp, hR, q⟩ := h
    have hpos := hR.pos
    refine ⟨_, (pss_cons (ps_if (pt_cmpR op_eq (pe_callB call_len_seq (by rfl) T.z_len PySem.boot_len (pa_cons (pv 0) pa_nil)) pe_int (nomark _))
 (pss_one ps_never)
 pss_nil)
 (pss_one (ps_for PassesOwn.never rfl (pi_enum (by rfl) T.z_enumerate (pa_cons (pv 0) pa_nil)) (pg_tup (by rfl) (pgs_cons (pg_name (i := 1) sc_need_words.nd rfl (by first | exact Or.inl rfl | exact Or.inr rfl)) (pgs_cons (pg_name (i := 2) sc_need_words.nd rfl (by first | exact Or.inl rfl | exact Or.inr rfl)) pgs_nil)))
 (pss_one (ps_if (PW.pt (pw_or (pt_not (pt_val (pe_call (ok_is_word T) (hr.mono (by decide)) (by rfl) T.g_is_word T.F_is_word.kp T.b_is_word .nil pass0 (pa_cons (pv 2) pa_nil)))) (pw_or (pt_cmpR op_ne (pe_callB call_len_str (by rfl) T.z_len PySem.boot_len (pa_cons (pv 2) pa_nil)) (pe_callB call_len_str (by rfl) T.z_len PySem.boot_len (pa_cons (pe_ix ix_list (pv 0) pe_int (fun _ _ => rfl)) pa_nil)) (nomark _)) (pw_or1 (pt_cmpR op_in_seq (pv 2) (pe_slice sl_list (pv 0) po_none (po_some (pv 1))) (by rfl))))))
 (pss_one ps_never)
 pss_nil))))), ?_⟩
    refine ⟨_, rfl, p, _, rfl, .inl hp, rfl, _, rfl, ifN (by simp; exact hR.ne) ?_⟩
    refine ⟨_, rfl, p, _, rfl, hp, ?_⟩
    refine for_it (walk_enum (K := K) (a := p) (xs := ws.map wv)) (fun i σ H' => ∃ y z, σ = [some (.ref p), y, z] ∧ Ex H H') ⟨_, _, rfl, Ex.refl _⟩ (fun i σ H' _ ⟨_, _, _, e⟩ => ex_l e hp) ?_ ?_
    · rintro i x σ H1 H2 hi ⟨y, z, rfl, e1⟩ ⟨t, u, v, rfl, nt, rfl, hu, hv⟩
      obtain rfl := Option.some.inj hu
      have hv : (ws.map wv)[i]? = some v := hv
      obtain ⟨w, hw, rfl⟩ : ∃ w, ws[i]? = some w ∧ wv w = v := by
        rw [List.getElem?_map] at hv
        cases e : ws[i]? with
        | none => rw [e] at hv; cases hv
        | some y => rw [e] at hv; exact ⟨y, rfl, Option.some.inj hv⟩
      have hwm := List.mem_of_getElem? hw
      have hwl := hR.wide w hwm
      have e2 := e1.trans (Ex.new (o := HO.tup [.int (i : Nat), wv w]) nt)
      refine ⟨t, _, rfl, SqT.of upd_same, rfl, _, _, rfl, _, _, rfl, rfl, ?_⟩
      have h1 := hR.n1
      have h4 := hR.n4
      refine ⟨_, rfl, wd w, rfl, by rw [wd_len]; omega, strOk_wd w, fun H3 e3 => ?_⟩
      rw [isW_wd (by omega) (by omega)]
      refine ⟨true, rfl, ifN (by simp) ?_⟩
      have e13 := e2.trans e3
      obtain ⟨w0, hw0⟩ : ∃ w0, ws[0]? = some w0 := ⟨ws[0], List.getElem?_eq_getElem hpos⟩
      have hl0 := hR.wide w0 (List.mem_of_getElem? hw0)
      refine ⟨_, rfl, wd w, rfl, small9 (by rw [wd_len]; omega), _, rfl, p, _, 0, wv w0, rfl, rfl, ex_l e13 hp, atI_nat (j := 0) (by rw [List.getElem?_map, hw0]; rfl), wd w0, rfl, small9 (by rw [wd_len]; omega), rfl, _, rfl, ifN ?_ ?_⟩
      · rw [decide_eq_true (by rw [wd_len, wd_len, hwl, hl0])]
        simp
      refine ⟨_, rfl, _, rfl, _, rfl, i, rfl, p, _, rfl, ex_l e13 hp, fun o no => ⟨o, _, rfl, .inl (SqL.of upd_same), rfl, ?_, _, rfl, ?_⟩⟩
      · rw [cutTake, ← List.map_take]
        exact flatW _
      · rw [cutTake, ← List.map_take]
        refine ifN ?_ ⟨_, _, rfl, e13.trans (Ex.new no)⟩
        show ¬ inV (wv w) ((ws.take i).map wv) = true
        rw [inV_wv, decide_eq_true_eq]
        intro hm
        obtain ⟨j, hj, e⟩ := List.mem_iff_getElem.mp hm
        rw [List.length_take] at hj
        rw [List.getElem_take] at e
        have hw' := (List.getElem?_eq_some_iff.mp hw)
        obtain ⟨hi', e'⟩ := hw'
        have := (List.getElem_inj hR.nd (h₀ := by omega) (h₁ := hi')).mp (e.trans e'.symm)
        omega
    · rintro σ H' ⟨y, z, rfl, e⟩
      exact q _ e
def sp_seen_of : Sp := fun vs H Q _ => ∃ (a b : List Bool) (n : Nat), vs = [wv a, wv b] ∧ a.length = n ∧ b.length = n ∧ n ≤ 4 ∧ RetL ((seenW a b).map wv) H Q
theorem ok_seen_of (T : TX K mg) : FnOk P w K mg base CX0 1 T.f_seen_of T.fd_seen_of ["one", "other"] sp_seen_of := by
  refine T.F_seen_of.ok sc_seen_of (fun vs H Q E h => ?_) (fun cdv A outer s H vs Q E hr h => ?_)
  · obtain ⟨_, _, _, rfl, _⟩ := h
    rfl
  · obtain ⟨a, b, n, rfl, ha, hb, hn, q⟩ := h
    refine ⟨_, (pss_cons (ps_set (i := 2) sc_seen_of.nd rfl (by first | exact Or.inl rfl | exact Or.inr rfl) (pe_lst (pa_cons pe_str pa_nil)))
 (pss_cons (ps_for PassesOwn.never rfl (pi_range1 (by rfl) T.z_range (pa_cons (pe_callB call_len_str (by rfl) T.z_len PySem.boot_len (pa_cons (pv 0) pa_nil)) pa_nil)) (pg_name (i := 3) sc_seen_of.nd rfl (by first | exact Or.inl rfl | exact Or.inr rfl))
 (pss_cons (ps_set (i := 4) sc_seen_of.nd rfl (by first | exact Or.inl rfl | exact Or.inr rfl) (pe_callB (r := rSortSet w) (cr_sortSet rfl) (by rfl) T.z_sorted (by decide +kernel) (pa_cons (pe_callTy (r := rSetS K w) (cr_setS rfl) (by rfl) T.z_set (by decide +kernel) (pa_cons (pe_lst (pa_cons (pe_ix ix_str (pv 0) (pv 3) (fun _ _ => rfl)) (pa_cons (pe_ix ix_str (pv 1) (pv 3) (fun _ _ => rfl)) pa_nil))) pa_nil)) pa_nil)))
 (pss_cons (ps_set (i := 5) sc_seen_of.nd rfl (by first | exact Or.inl rfl | exact Or.inr rfl) (pe_lst pa_nil))
 (pss_cons (ps_for PassesOwn.never rfl (pi_list (pv 2)) (pg_name (i := 6) sc_seen_of.nd rfl (by first | exact Or.inl rfl | exact Or.inr rfl))
 (pss_one (ps_expr (pe_bm PySem.F.plainAttrs_list PySem.F.slot_list_extend PySem.F.type_list_extend mt_extend (pv 5) (pa_cons (pe_lc (own := [("mark", 7)]) (g := gName 7) (by rfl) sc_seen_of.nd (pi_list (pv 4)) (blkOk_by (own := [("mark", 7)]) (N := ["one", "other", "found", "at", "marks", "longer", "word", "mark"]) (sc := defScope s_seen_of) (by decide +kernel)) (fun _ _ _ _ _ => pg_name (i := 7) sc_seen_of.nd rfl (Or.inl rfl)) (fun _ _ _ _ _ => pts_nil) (fun _ _ _ _ _ => (pe_op op_add_str (pv 6) (pv 7)))) pa_nil)))))
 (pss_one (ps_set (i := 2) sc_seen_of.nd rfl (by first | exact Or.inl rfl | exact Or.inr rfl) (pv 5)))))))
 (pss_one (ps_ret (pv 2))))), ?_⟩
    refine ⟨small9 (by simp), fun p np => ?_⟩
    refine ⟨_, rfl, wd a, rfl, small9 (by rw [wd_len]; omega), _, rfl, lo62 _, hi62 (by rw [wd_len]; omega), ?_⟩
    have en : (((wd a).length : Int)).toNat = n := by rw [wd_len]; omega
    rw [en]
    refine for_range (lo := 0) (n := n) (fun i σ H' => ∃ p y3 y4 y5 y6 y7, σ = [some (wv a), some (wv b), some (.ref p), y3, y4, y5, y6, y7] ∧ Ex H H' ∧ H p = none ∧ H' p = some (.lst ((sUp a b i).map wv)))
      ⟨p, _, _, _, _, _, rfl, Ex.new np, np, by rw [upd_same, strE]; rfl⟩ ?_ ?_
    · rintro i σ H1 hi ⟨p, y3, y4, y5, y6, y7, rfl, e1, np, hp⟩
      have ei : (0 : Int) + (i : Int) = (i : Int) := Int.zero_add _
      rw [ei]
      have hpw : (sUp a b i).length ≤ 16 := Nat.le_trans (sUp_len a b i) (pow16 (by omega))
      -- marks
      refine ⟨_, rfl, _, rfl, wd a, _, bit (a.getD i false), rfl, rfl, small9 (by rw [wd_len]; omega), atW rfl (by omega), _, rfl, _, rfl, wd b, _, bit (b.getD i false), rfl, rfl, small9 (by rw [wd_len]; omega), atW rfl (by omega), small9 (by simp), fun l nl => ?_⟩
      have el := Ex.new (o := HO.lst [.str ⟨#[bit (a.getD i false)]⟩, .str ⟨#[bit (b.getD i false)]⟩]) nl
      refine ⟨l, [wd [a.getD i false], wd [b.getD i false]], rfl, SqL.of upd_same, by simp, fun st nst => ?_⟩
      have est := Ex.new (o := SetH w st ([wd [a.getD i false], wd [b.getD i false]].foldl insS [])) nst
      refine ⟨st, _, rfl, upd_same, Nat.lt_of_le_of_lt (setM_len _ _) (by decide), fun ys m hperm hsort nm => ?_⟩
      rw [sorted_marks hperm hsort]
      have em := Ex.new (o := HO.lst (((mk2 (a.getD i false) (b.getD i false)).map fun m => wd [m]).map V.str)) nm
      have e2 := (el.trans est).trans em
      have hm2 : (upd (upd (upd H1 l (.lst [.str ⟨#[bit (a.getD i false)]⟩, .str ⟨#[bit (b.getD i false)]⟩])) st (SetH w st ([wd [a.getD i false], wd [b.getD i false]].foldl insS []))) m (.lst (((mk2 (a.getD i false) (b.getD i false)).map fun m => wd [m]).map V.str))) m = some (.lst ((mk2 (a.getD i false) (b.getD i false)).map fun m => wv [m])) := by
        rw [upd_same, List.map_map]
        rfl
      have hp2 := e2 _ _ hp
      have e12 := e1.trans e2
      generalize (upd (upd (upd H1 l (.lst [.str ⟨#[bit (a.getD i false)]⟩, .str ⟨#[bit (b.getD i false)]⟩])) st (SetH w st ([wd [a.getD i false], wd [b.getD i false]].foldl insS []))) m (.lst (((mk2 (a.getD i false) (b.getD i false)).map fun m => wd [m]).map V.str))) = H2 at hm2 hp2 e12 ⊢
      -- longer
      refine ⟨small9 (by simp), fun lo nlo => ?_⟩
      have elo := Ex.new (o := HO.lst []) nlo
      have nlp : p ≠ lo := ne_of_none hp2 nlo
      have nlm : m ≠ lo := ne_of_none hm2 nlo
      have nlH : H lo = none := fresh_back e12 nlo
      refine ⟨_, rfl, p, rfl, ⟨_, SqL.of (elo _ _ hp2)⟩, ?_⟩
      refine for_list (K := K) (a := p) (xs := (sUp a b i).map wv) (fun k σ H' => ∃ y6 y7, σ = [some (wv a), some (wv b), some (.ref p), some (.int (i : Int)), some (.ref m), some (.ref lo), y6, y7] ∧ Ex H H' ∧ H' p = some (.lst ((sUp a b i).map wv)) ∧ H' m = some (.lst ((mk2 (a.getD i false) (b.getD i false)).map fun m => wv [m])) ∧
          H' lo = some (.lst ((stepS ((sUp a b i).take k) (a.getD i false, b.getD i false)).map wv)))
        ⟨_, _, rfl, e12.trans elo, elo _ _ hp2, elo _ _ hm2, upd_same⟩ (fun k σ H' _ ⟨_, _, _, _, h, _⟩ => SqL.of h) ?_ ?_
      · rintro k x σ H3 hk ⟨y6, y7, rfl, e3, hp3, hm3, hl3⟩
        obtain ⟨u, hu, rfl⟩ : ∃ u, (sUp a b i)[k]? = some u ∧ wv u = x := by
          rw [List.getElem?_map] at hk
          cases e : (sUp a b i)[k]? with
          | none => rw [e] at hk; cases hk
          | some y => rw [e] at hk; exact ⟨y, rfl, Option.some.inj hk⟩
        have hul : u.length = i := sUp_wide (by omega) (by omega) u (List.mem_of_getElem? hu)
        refine ⟨_, rfl, .inl ⟨rfl, _, SqL.of hl3⟩, _, rfl, m, rfl, ⟨_, SqL.of hm3⟩, fun D nD => lcM (mk2 (a.getD i false) (b.getD i false)) (fun c => wv [c]) (fun c => wv (u ++ [c])) (SqL.of hm3) (Nat.le_trans (mk2_len _ _) (by decide)) nD (fun _ => rfl) (fun c hc H4 e4 Y hY => ?_) (fun H4 e4 h4 => ?_)⟩
        · refine ⟨_, rfl, _, rfl, _, _, rfl, rfl, small9 (by rw [wd_len, wd_len]; simp; omega), ?_⟩
          rw [wd_app]
          exact hY _ (Ex.refl _)
        · have hlen : (stepS ((sUp a b i).take k) (a.getD i false, b.getD i false)).length ≤ 32 := by
            have h1 := stepS_len ((sUp a b i).take k) (a.getD i false, b.getD i false)
            have h2 : ((sUp a b i).take k).length ≤ 16 := by rw [List.length_take]; omega
            omega
          refine ⟨lo, D, _, _, rfl, rfl, e4 _ _ hl3, h4, ?_, _, _, rfl, (e3.trans e4).mut nlH, ?_, ?_, ?_⟩
          · rw [List.length_map, List.length_map]
            have := mk2_len (a.getD i false) (b.getD i false)
            exact small9 (by omega)
          · rw [upd_ne nlp]
            exact e4 _ _ hp3
          · rw [upd_ne nlm]
            exact e4 _ _ hm3
          · rw [upd_same, List.take_add_one, hu]
            unfold stepS
            simp [Function.comp_def]
      · rintro σ H3 ⟨y6, y7, rfl, e3, hp3, hm3, hl3⟩
        rw [List.length_map, List.take_length, ← sUp_succ (by omega) (by omega)] at hl3
        exact ⟨_, rfl, lo, _, _, _, _, _, rfl, e3, nlH, hl3⟩
    · rintro σ H1 ⟨p, y3, y4, y5, y6, y7, rfl, e1, np, hp⟩
      rw [sUp_all ha hb] at hp
      exact ⟨_, rfl, q p H1 np e1 hp⟩
def bothOf (ws : List (List Bool)) (i : Nat) : List (List Bool) := [ws.getD i [], ws.getD ((i + 1) % ws.length) []]
def othersOf (ws : List (List Bool)) (i : Nat) : List (List Bool) := (seenW (ws.getD i []) (ws.getD ((i + 1) % ws.length) [])).filter fun w => !decide (w ∈ bothOf ws i)
/-- the first place whose turn lets another word be seen, and that word -/
def tornAt (ws : List (List Bool)) : Nat → Option (Nat × List Bool)
  | 0 => none
  | n + 1 => match tornAt ws n with
    | some x => some x
    | none => (othersOf ws n).head?.map fun w => (n, w)
def torn1 (ws : List (List Bool)) : Option (Nat × List Bool) := tornAt ws ws.length
theorem tornAt_none {ws : List (List Bool)} {n : Nat} (h : tornAt ws n = none) (ho : othersOf ws n = []) : tornAt ws (n + 1) = none := by
  unfold tornAt
  rw [h, ho]
  rfl
theorem tornAt_some {ws : List (List Bool)} {n : Nat} {w : List Bool} {r : List (List Bool)} (h : tornAt ws n = none) (ho : othersOf ws n = w :: r) : ∀ k, tornAt ws (n + 1 + k) = some (n, w)
  | 0 => by
    show tornAt ws (n + 1) = _
    unfold tornAt
    rw [h, ho]
    rfl
  | k + 1 => by
    show tornAt ws (n + 1 + k + 1) = _
    unfold tornAt
    rw [tornAt_some h ho k]
/-- the answer: None, or a new pair -/
def RetP (o : Option (Nat × List Bool)) (H : Hp) (Q : VK) : Prop := match o with
  | none => RetV .non H Q
  | some (i, w) => RetU [.int (i : Int), wv w] H Q
def sp_first_torn (K : PySem.W.Frag) : Sp := fun vs H Q _ => ∃ (p : Addr) (ws : List (List Bool)) (n : Nat), vs = [.ref p] ∧ SqL K H p (ws.map wv) ∧ Round ws n ∧ RetP (torn1 ws) H Q
theorem getDW {ws : List (List Bool)} {i : Nat} (h : i < ws.length) : (ws.map wv)[i]? = some (wv (ws.getD i [])) := by
  rw [List.getElem?_map, List.getD_eq_getElem?_getD, List.getElem?_eq_getElem h]
  rfl
theorem getD_mem {ws : List (List Bool)} {i : Nat} (h : i < ws.length) : ws.getD i [] ∈ ws := by
  rw [List.getD_eq_getElem?_getD, List.getElem?_eq_getElem h]
  exact List.getElem_mem h
theorem ok_first_torn (T : TX K mg) : FnOk P w K mg base CX0 3 T.f_first_torn T.fd_first_torn ["words"] (sp_first_torn K) := by
  refine T.F_first_torn.ok sc_first_torn (fun vs H Q E h => ?_) (fun cdv A outer s H vs Q E hr h => ?_)
  · obtain ⟨_, _, _, rfl, _⟩ := h
    rfl
  · obtain ⟨p, ws, n, rfl, hp, hR, q⟩ := h
    have hpos := hR.pos
    have hle := hR.le
    refine ⟨_, (pss_cons (ps_expr (pe_call (ok_need_words T) (hr.mono (by decide)) (by rfl) T.g_need_words T.F_need_words.kp T.b_need_words .nil pass0 (pa_cons (pv 0) pa_nil)))
 (pss_cons (ps_for PassesOwn.never rfl (pi_range1 (by rfl) T.z_range (pa_cons (pe_callB call_len_seq (by rfl) T.z_len PySem.boot_len (pa_cons (pv 0) pa_nil)) pa_nil)) (pg_name (i := 1) sc_first_torn.nd rfl (by first | exact Or.inl rfl | exact Or.inr rfl))
 (pss_cons (ps_set (i := 2) sc_first_torn.nd rfl (by first | exact Or.inl rfl | exact Or.inr rfl) (pe_lst (pa_cons (pe_ix ix_list (pv 0) (pv 1) (fun _ _ => rfl)) (pa_cons (pe_ix ix_list (pv 0) (pe_op op_mod (pe_op op_add (pv 1) pe_int) (pe_callB call_len_seq (by rfl) T.z_len PySem.boot_len (pa_cons (pv 0) pa_nil))) (fun _ _ => rfl)) pa_nil))))
 (pss_cons (ps_setLc (i := 3) (own := [("word", 4)]) (g := gName 4) (by rfl) sc_first_torn.nd rfl rfl (sw_true rfl rfl rfl (by decide +kernel)) (pi_list (pe_call (ok_seen_of T) (hr.mono (by decide)) (by rfl) T.g_seen_of T.F_seen_of.kp T.b_seen_of .nil pass0 (pa_cons (pe_ix ix_list (pv 2) pe_int (fun _ _ => rfl)) (pa_cons (pe_ix ix_list (pv 2) pe_int (fun _ _ => rfl)) pa_nil)))) (blkOk_by (own := [("word", 4)]) (N := ["words", "at", "both", "others", "word"]) (sc := defScope s_first_torn) (by decide +kernel)) (fun _ _ _ _ _ => pg_name (i := 4) sc_first_torn.nd rfl (Or.inl rfl)) (fun _ _ _ _ _ => (pts_one (pt_cmpR (r := rIn K true) op_notIn_seq (pv 4) (pv 2) (by rfl)))) (fun _ _ _ _ _ => (pv 4)))
 (pss_one (ps_if (pt_cmpR (op_neD hr.units) (pv 3) (pe_lst pa_nil) (nomark _))
 (pss_one (ps_ret (pe_tup (pa_cons (pv 1) (pa_cons (pe_ix ix_list (pv 3) pe_int (fun _ _ => rfl)) pa_nil)))))
 pss_nil)))))
 (pss_one (ps_ret pe_non)))), ?_⟩
    refine ⟨_, rfl, p, ws, n, rfl, hp, hR, fun H1 e1 => ?_⟩
    refine ⟨_, rfl, p, _, rfl, .inl (ex_l e1 hp), _, rfl, lo62 _, hi62 (by rw [List.length_map]; omega), ?_⟩
    rw [List.length_map]
    refine for_range (lo := 0) (n := ws.length) (fun i σ H' => ∃ y1 y2 y3 y4, σ = [some (.ref p), y1, y2, y3, y4] ∧ Ex H H' ∧ tornAt ws i = none) ⟨_, _, _, _, rfl, e1, rfl⟩ ?_ ?_
    · rintro i σ H2 hi ⟨y1, y2, y3, y4, rfl, e2, ht⟩
      have ei : (0 : Int) + (i : Int) = (i : Int) := Int.zero_add _
      rw [ei]
      have hj : (i + 1) % ws.length < ws.length := Nat.mod_lt _ hpos
      have w1 := hR.wide _ (getD_mem hi)
      have w2 := hR.wide _ (getD_mem hj)
      refine ⟨_, rfl, _, rfl, p, _, _, wv (ws.getD i []), rfl, rfl, ex_l e2 hp, atI_nat (getDW hi), _, rfl, _, rfl, _, _, rfl, rfl, _, rfl, p, _, rfl, .inl (ex_l e2 hp), _, _, rfl, rfl, ?_, p, _, _, wv (ws.getD ((i + 1) % ws.length) []), rfl, rfl, ex_l e2 hp, ats ?_ (getDW hj), small9 (by simp), fun b nb => ?_⟩
      · show (0 : Int) < ((ws.map wv).length : Int)
        rw [List.length_map]
        omega
      · rw [List.length_map]
        simp
      have eb := Ex.new (o := HO.lst [wv (ws.getD i []), wv (ws.getD ((i + 1) % ws.length) [])]) nb
      refine ⟨_, rfl, b, _, 0, _, rfl, rfl, SqL.of upd_same, atI_nat (j := 0) rfl, _, rfl, b, _, 1, _, rfl, rfl, SqL.of upd_same, atI_nat (j := 1) rfl, ?_⟩
      refine ⟨_, _, n, rfl, w1, w2, hR.n4, fun l H3 nl e3 hl => ?_⟩
      have hb3 := e3 _ _ (upd_same (H := H2) (a := b) (o := HO.lst [wv (ws.getD i []), wv (ws.getD ((i + 1) % ws.length) [])]))
      have hsl : (seenW (ws.getD i []) (ws.getD ((i + 1) % ws.length) [])).length ≤ 16 := Nat.le_trans (seenW_len w1 w2) (pow16 hR.n4)
      refine ⟨l, rfl, ⟨_, SqL.of hl⟩, fun D nD => lcFM (seenW (ws.getD i []) (ws.getD ((i + 1) % ws.length) [])) wv (fun w => !decide (w ∈ bothOf ws i)) wv (SqL.of hl) (by omega) nD (fun _ => rfl) (fun x hx H4 e4 Y N hY => ?_) (fun H4 e4 h4 => ?_)⟩
      · refine ⟨_, rfl, _, rfl, b, _, rfl, .inl (SqL.of (e4 _ _ hb3)), rfl, flatW (bothOf ws i), _, rfl, ?_⟩
        have hY := hY H4 (Ex.refl _)
        show if (!inV (wv x) ((bothOf ws i).map wv)) = true then _ else _
        rw [inV_wv]
        cases hd : decide (x ∈ bothOf ws i) with
        | true =>
          rw [hd] at hY
          exact hY
        | false =>
          rw [hd] at hY
          exact ⟨_, rfl, hY⟩
      have h4 : H4 D = some (.lst (((othersOf ws i).map wd).map V.str)) := by
        rw [h4, List.map_map]
        rfl
      have e24 := ((e2.trans eb).trans e3).trans e4
      refine ⟨_, rfl, small9 (by simp), fun o no => ?_⟩
      have eo := Ex.new (o := HO.lst []) no
      refine ⟨_, .list (([] : List Str).map PyData.str), dpL (SqL.of (eo _ _ h4)), dpL (SqL.of upd_same), (sdStrs (n := 0) (fun x hx => ?_)).shaped (by decide), (sdStrs (n := 0) (by simp)).shaped (by decide), _, rfl, ?_⟩
      · obtain ⟨u, _, rfl⟩ := List.mem_map.mp hx
        exact strOk_wd u
      rw [eqvStrs]
      cases hot : othersOf ws i with
      | nil =>
        refine ifN (by simp) ?_
        exact ⟨_, _, _, _, rfl, e24.trans eo, tornAt_none ht hot⟩
      | cons u r =>
        refine ifP (by simp) ?_
        rw [hot] at h4
        refine ⟨_, rfl, _, rfl, D, _, 0, wv u, rfl, rfl, SqL.of (eo _ _ h4), atI_nat (j := 0) rfl, small9 (by simp), fun t nt => ?_⟩
        have hq : torn1 ws = some (i, u) := by
          have := tornAt_some ht hot (ws.length - (i + 1))
          rw [show i + 1 + (ws.length - (i + 1)) = ws.length by omega] at this
          exact this
        rw [hq] at q
        exact q t _ (fresh_back (e24.trans eo) nt) ((e24.trans eo).trans (Ex.new nt)) upd_same
    · rintro σ H2 ⟨y1, y2, y3, y4, rfl, e2, ht⟩
      have hq : torn1 ws = none := ht
      rw [hq] at q
      exact q _ e2
theorem kb_ib : kitB "int" "bool" = some false := by decide +kernel
theorem kb_ii : kitB "int" "int" = some true := by decide +kernel
theorem kb_sb : kitB "str" "bool" = some false := by decide +kernel
theorem kb_si : kitB "str" "int" = some false := by decide +kernel
theorem kb_ss : kitB "str" "str" = some true := by decide +kernel
theorem kb_lb : kitB "list" "bool" = some false := by decide +kernel
theorem kb_li : kitB "list" "int" = some false := by decide +kernel
theorem kb_ls : kitB "list" "str" = some false := by decide +kernel
theorem kb_lt : kitB "list" "tuple" = some false := by decide +kernel
theorem kb_ll : kitB "list" "list" = some true := by decide +kernel
theorem kb_tb : kitB "tuple" "bool" = some false := by decide +kernel
theorem kb_ti : kitB "tuple" "int" = some false := by decide +kernel
theorem kb_ts : kitB "tuple" "str" = some false := by decide +kernel
theorem kb_tt : kitB "tuple" "tuple" = some true := by decide +kernel
theorem kb_tl : kitB "tuple" "list" = some false := by decide +kernel
theorem isiR {K : PySem.W.Frag} {H : Hp} {Q : VK} {x : V} {t n : String} {b : Bool} (hx : TyX K H x (.type t)) (hk : kitB t n = some b) (q : Q (.bl b) H) : rIsi K [x, .ty n] H Q := ⟨x, .ty n, .type t, .type n, b, rfl, .ty n, hx, kit_ty hk, q⟩
theorem Da.both {H : Hp} {n : Nat} {x y : V} {d : PyData} (hx : Da H n x d) (hy : Da H n y d) : (Leaf x d ∧ Leaf y d) ∨
    (∃ m a xs b ys ds, n = m + 1 ∧ x = .ref a ∧ y = .ref b ∧ d = .list ds ∧ H a = some (.lst xs) ∧ H b = some (.lst ys) ∧ ys.length ≤ 1000 ∧ Paired (Da H m) xs ds ∧ Paired (Da H m) ys ds) ∨
    (∃ m a xs b ys ds, n = m + 1 ∧ x = .ref a ∧ y = .ref b ∧ d = .tuple ds ∧ H a = some (.tup xs) ∧ H b = some (.tup ys) ∧ ys.length ≤ 1000 ∧ Paired (Da H m) xs ds ∧ Paired (Da H m) ys ds) := by
  cases n with
  | zero => exact .inl ⟨hx, hy⟩
  | succ n =>
    rcases hy with ly | ⟨b, ys, ds, rfl, rfl, hb, lb, pb⟩ | ⟨b, ys, ds, rfl, rfl, hb, lb, pb⟩
    · rcases hx with lx | ⟨a, xs, ds, _, rfl, _⟩ | ⟨a, xs, ds, _, rfl, _⟩
      · exact .inl ⟨lx, ly⟩
      · rcases ly with ⟨_, h⟩ | ⟨_, _, h⟩ | ⟨_, _, h⟩ <;> cases h
      · rcases ly with ⟨_, h⟩ | ⟨_, _, h⟩ | ⟨_, _, h⟩ <;> cases h
    · rcases hx with lx | ⟨a, xs, ds', e, h, h1, h2, h3⟩ | ⟨a, xs, ds', _, h, _⟩
      · rcases lx with ⟨_, h⟩ | ⟨_, _, h⟩ | ⟨_, _, h⟩ <;> cases h
      · cases h; exact .inr (.inl ⟨n, a, xs, b, ys, _, rfl, e, rfl, rfl, h1, hb, lb, h3, pb⟩)
      · cases h
    · rcases hx with lx | ⟨a, xs, ds', _, h, _⟩ | ⟨a, xs, ds', e, h, h1, h2, h3⟩
      · rcases lx with ⟨_, h⟩ | ⟨_, _, h⟩ | ⟨_, _, h⟩ <;> cases h
      · cases h
      · cases h; exact .inr (.inr ⟨n, a, xs, b, ys, _, rfl, e, rfl, rfl, h1, hb, lb, h3, pb⟩)
def sp_l_alike : Nat → Sp
  | 0 => fun _ _ _ _ => False
  | n + 1 => fun vs H Q _ => ∃ x y d, vs = [x, y] ∧ Da H n x d ∧ Da H n y d ∧ RetV (.bl true) H Q
theorem ok_alikeN (T : TX K mg) : ∀ n : Nat, FnOk P w K mg base CX0 n T.f_l_alike T.fd_l_alike ["_law_found", "_law_due"] (sp_l_alike n)
  | 0 => ⟨fun _ _ _ _ h => h.elim, fun _ _ _ _ _ _ _ _ _ _ _ _ _ h => h.elim⟩
  | n + 1 => by
    have ih := ok_alikeN T n
    refine T.F_l_alike.ok sc_l_alike (fun vs H Q E h => ?_) (fun cdv A outer s H vs Q E hr h => ?_)
    · obtain ⟨x, y, d, rfl, _⟩ := h
      rfl
    · obtain ⟨x, y, d, rfl, hx, hy, q⟩ := h
      refine ⟨_, (pss_cons (ps_if (pt_cmpR op_isN (pv 1) pe_non (nomark _))
 (pss_one (ps_ret (pe_cmpR op_isN (pv 0) pe_non (nomark _))))
 pss_nil)
 (pss_cons (ps_if (pt_val (pe_callB call_isi (by rfl) T.z_isinstance (by decide +kernel) (pa_cons (pv 1) (pa_cons (pe_bltn (v := .ty "bool") (u := .type "bool") (by rfl) T.z_bool (by decide +kernel) rfl) pa_nil))))
 (pss_one (ps_ret (pe_and (pe_callB call_isi (by rfl) T.z_isinstance (by decide +kernel) (pa_cons (pv 0) (pa_cons (pe_bltn (v := .ty "bool") (u := .type "bool") (by rfl) T.z_bool (by decide +kernel) rfl) pa_nil))) (pe_one (pe_cmpR op_eq (pv 0) (pv 1) (nomark _))))))
 pss_nil)
 (pss_cons (ps_if (pt_val (pe_callB call_isi (by rfl) T.z_isinstance (by decide +kernel) (pa_cons (pv 1) (pa_cons (pe_bltn (v := .ty "int") (u := .type "int") (by rfl) T.z_int (by decide +kernel) rfl) pa_nil))))
 (pss_one (ps_ret (pe_and (pe_callB call_isi (by rfl) T.z_isinstance (by decide +kernel) (pa_cons (pv 0) (pa_cons (pe_bltn (v := .ty "int") (u := .type "int") (by rfl) T.z_int (by decide +kernel) rfl) pa_nil))) (pe_and (pe_not (pe_callB call_isi (by rfl) T.z_isinstance (by decide +kernel) (pa_cons (pv 0) (pa_cons (pe_bltn (v := .ty "bool") (u := .type "bool") (by rfl) T.z_bool (by decide +kernel) rfl) pa_nil)))) (pe_one (pe_cmpR op_eq (pv 0) (pv 1) (nomark _)))))))
 pss_nil)
 (pss_cons (ps_if (pt_val (pe_callB call_isi (by rfl) T.z_isinstance (by decide +kernel) (pa_cons (pv 1) (pa_cons (pe_bltn (v := .ty "str") (u := .type "str") (by rfl) T.z_str (by decide +kernel) rfl) pa_nil))))
 (pss_one (ps_ret (pe_and (pe_callB call_isi (by rfl) T.z_isinstance (by decide +kernel) (pa_cons (pv 0) (pa_cons (pe_bltn (v := .ty "str") (u := .type "str") (by rfl) T.z_str (by decide +kernel) rfl) pa_nil))) (pe_one (pe_cmpR op_eq (pv 0) (pv 1) (nomark _))))))
 pss_nil)
 (pss_cons (ps_if (PW.pt (pw_or (pt_cmpR op_ne (pe_callB call_isi (by rfl) T.z_isinstance (by decide +kernel) (pa_cons (pv 1) (pa_cons (pe_bltn (v := .ty "tuple") (u := .type "tuple") (by rfl) T.z_tuple (by decide +kernel) rfl) pa_nil))) (pe_callB call_isi (by rfl) T.z_isinstance (by decide +kernel) (pa_cons (pv 0) (pa_cons (pe_bltn (v := .ty "tuple") (u := .type "tuple") (by rfl) T.z_tuple (by decide +kernel) rfl) pa_nil))) (nomark _)) (pw_or1 (pt_cmpR op_ne (pe_callB call_isi (by rfl) T.z_isinstance (by decide +kernel) (pa_cons (pv 1) (pa_cons (pe_bltn (v := .ty "list") (u := .type "list") (by rfl) T.z_list (by decide +kernel) rfl) pa_nil))) (pe_callB call_isi (by rfl) T.z_isinstance (by decide +kernel) (pa_cons (pv 0) (pa_cons (pe_bltn (v := .ty "list") (u := .type "list") (by rfl) T.z_list (by decide +kernel) rfl) pa_nil))) (nomark _)))))
 (pss_one (ps_ret pe_bl))
 pss_nil)
 (pss_cons (ps_if (pt_cmpR op_ne (pe_callB call_len (by rfl) T.z_len PySem.boot_len (pa_cons (pv 0) pa_nil)) (pe_callB call_len (by rfl) T.z_len PySem.boot_len (pa_cons (pv 1) pa_nil)) (nomark _))
 (pss_one (ps_ret pe_bl))
 pss_nil)
 (pss_one (ps_ret (pe_callB (cr_all rfl) (by rfl) T.z_all (by decide +kernel) (pa_cons (pe_lc (own := [("_law_k", 2)]) (g := gName 2) (by rfl) sc_l_alike.nd (pi_range1 (by rfl) T.z_range (pa_cons (pe_callB call_len (by rfl) T.z_len PySem.boot_len (pa_cons (pv 1) pa_nil)) pa_nil)) (blkOk_by (own := [("_law_k", 2)]) (N := ["_law_found", "_law_due", "_law_k"]) (sc := defScope s_l_alike) (by decide +kernel)) (fun _ _ _ _ _ => pg_name (i := 2) sc_l_alike.nd rfl (Or.inl rfl)) (fun _ _ _ _ _ => pts_nil) (fun _ _ _ _ _ => (pe_call ih hr (by rfl) T.g_l_alike T.F_l_alike.kp T.b_l_alike .nil pass0 (pa_cons (pe_ix (r := rIx K) ix_seq (pv 0) (pv 2) (fun _ _ => rfl)) (pa_cons (pe_ix (r := rIx K) ix_seq (pv 1) (pv 2) (fun _ _ => rfl)) pa_nil))))) pa_nil)))))))))), ?_⟩
      rcases hx.both hy with ⟨lx, ly⟩ | ⟨n, a, xs, b, ys, ds, rfl, rfl, rfl, rfl, ha, hb, lb, pa, pb⟩ | ⟨n, a, xs, b, ys, ds, rfl, rfl, rfl, rfl, ha, hb, lb, pa, pb⟩
      · rcases ly with ⟨rfl, rfl⟩ | ⟨i, rfl, rfl⟩ | ⟨z, rfl, rfl⟩
        · obtain rfl : x = .non := by
            rcases lx with ⟨h, _⟩ | ⟨_, _, h⟩ | ⟨_, _, h⟩
            · exact h
            · cases h
            · cases h
          exact ⟨_, rfl, rfl, _, rfl, ifP rfl ⟨_, rfl, rfl, q _ (Ex.refl _)⟩⟩
        · obtain rfl : x = .int i := by
            rcases lx with ⟨_, h⟩ | ⟨_, e, h⟩ | ⟨_, _, h⟩
            · cases h
            · cases h; exact e
            · cases h
          refine ⟨_, rfl, rfl, _, rfl, ifN (by simp) ⟨_, rfl, _, _, _, _, _, rfl, .ty _, (.base (.int i)), kit_ty kb_ib, ⟨_, rfl, ifN (by simp) ⟨_, rfl, _, _, _, _, _, rfl, .ty _, (.base (.int i)), kit_ty kb_ii, ⟨_, rfl, ifP rfl ?_⟩⟩⟩⟩⟩
          refine ⟨_, rfl, _, _, _, _, _, rfl, .ty _, (.base (.int i)), kit_ty kb_ii, ⟨_, rfl, ifP rfl ⟨_, rfl, _, _, _, _, _, rfl, .ty _, (.base (.int i)), kit_ty kb_ib, ⟨_, rfl, _, rfl, ifP rfl ⟨_, rfl, _, rfl, rfl, ?_⟩⟩⟩⟩⟩
          rw [decide_eq_true rfl]
          exact q _ (Ex.refl _)
        · obtain rfl : x = .str z := by
            rcases lx with ⟨_, h⟩ | ⟨_, _, h⟩ | ⟨_, e, h⟩
            · cases h
            · cases h
            · cases h; exact e
          refine ⟨_, rfl, rfl, _, rfl, ifN (by simp) ⟨_, rfl, _, _, _, _, _, rfl, .ty _, (.base (.str z)), kit_ty kb_sb, ⟨_, rfl, ifN (by simp) ⟨_, rfl, _, _, _, _, _, rfl, .ty _, (.base (.str z)), kit_ty kb_si, ⟨_, rfl, ifN (by simp) ⟨_, rfl, _, _, _, _, _, rfl, .ty _, (.base (.str z)), kit_ty kb_ss, ⟨_, rfl, ifP rfl ?_⟩⟩⟩⟩⟩⟩⟩
          refine ⟨_, rfl, _, _, _, _, _, rfl, .ty _, (.base (.str z)), kit_ty kb_ss, ⟨_, rfl, ifP rfl ⟨_, rfl, _, rfl, rfl, ?_⟩⟩⟩
          rw [decide_eq_true rfl]
          exact q _ (Ex.refl _)
      · have tx : TyX K H (.ref a) (.type "list") := .base (.lst ha)
        have ty : TyX K H (.ref b) (.type "list") := .base (.lst hb)
        refine ⟨_, rfl, rfl, _, rfl, ifN (by simp) ⟨_, rfl, _, _, _, _, _, rfl, .ty _, ty, kit_ty kb_lb, ⟨_, rfl, ifN (by simp) ⟨_, rfl, _, _, _, _, _, rfl, .ty _, ty, kit_ty kb_li, ⟨_, rfl, ifN (by simp) ⟨_, rfl, _, _, _, _, _, rfl, .ty _, ty, kit_ty kb_ls, ⟨_, rfl, ifN (by simp) ?_⟩⟩⟩⟩⟩⟩⟩
        refine ⟨_, rfl, _, _, _, _, _, rfl, .ty _, ty, kit_ty kb_lt, ⟨_, rfl, _, _, _, _, _, rfl, .ty _, tx, kit_ty kb_lt, ⟨rfl, _, rfl, ifN (by simp) ⟨_, rfl, _, _, _, _, _, rfl, .ty _, ty, kit_ty kb_ll, ⟨_, rfl, _, _, _, _, _, rfl, .ty _, tx, kit_ty kb_ll, ⟨rfl, _, rfl, ifN (by simp) ?_⟩⟩⟩⟩⟩⟩
        refine ⟨_, rfl, _, _, rfl, .inl ⟨_, SqL.of ha, rfl⟩, _, rfl, _, _, rfl, .inl ⟨_, SqL.of hb, rfl⟩, rfl, _, rfl, ifN ?_ ?_⟩
        · rw [decide_eq_true (by rw [paired_len pa, paired_len pb])]
          decide
        refine ⟨_, rfl, _, _, rfl, .inl ⟨_, SqL.of hb, rfl⟩, _, rfl, lo62 _, hi62 lb, fun D nD => lcR ys.length (fun _ => .bl true) rfl lb nD (fun _ => rfl) (fun i hi H3 e3 Y hY => ?_) (fun H3 e3 h3 => ?_)⟩
        · obtain ⟨y, z, hy, hz, ry⟩ := paired_at pb (i := i) (by rw [← paired_len pb]; exact hi)
          obtain ⟨x, z', hx, hz', rx⟩ := paired_at pa (i := i) (by rw [← paired_len pb]; exact hi)
          obtain rfl : z = z' := Option.some.inj (hz.symm.trans hz')
          exact ⟨_, rfl, _, rfl, .inl ⟨a, xs, _, x, rfl, rfl, SqL.of (e3 _ _ ha), atI_nat hx, _, rfl, _, rfl, .inl ⟨b, ys, _, y, rfl, rfl, SqL.of (e3 _ _ hb), atI_nat hy, x, y, z, rfl, rx.mono e3, ry.mono e3, hY⟩⟩⟩
        · refine ⟨D, (List.range ys.length).map (fun _ => true), rfl, SqL.of (by rw [h3, List.map_map]; rfl), ?_⟩
          rw [show ((List.range ys.length).map (fun _ => true)).all id = true by simp]
          exact q _ e3
      · have tx : TyX K H (.ref a) (.type "tuple") := .base (.tup ha)
        have ty : TyX K H (.ref b) (.type "tuple") := .base (.tup hb)
        refine ⟨_, rfl, rfl, _, rfl, ifN (by simp) ⟨_, rfl, _, _, _, _, _, rfl, .ty _, ty, kit_ty kb_tb, ⟨_, rfl, ifN (by simp) ⟨_, rfl, _, _, _, _, _, rfl, .ty _, ty, kit_ty kb_ti, ⟨_, rfl, ifN (by simp) ⟨_, rfl, _, _, _, _, _, rfl, .ty _, ty, kit_ty kb_ts, ⟨_, rfl, ifN (by simp) ?_⟩⟩⟩⟩⟩⟩⟩
        refine ⟨_, rfl, _, _, _, _, _, rfl, .ty _, ty, kit_ty kb_tt, ⟨_, rfl, _, _, _, _, _, rfl, .ty _, tx, kit_ty kb_tt, ⟨rfl, _, rfl, ifN (by simp) ⟨_, rfl, _, _, _, _, _, rfl, .ty _, ty, kit_ty kb_tl, ⟨_, rfl, _, _, _, _, _, rfl, .ty _, tx, kit_ty kb_tl, ⟨rfl, _, rfl, ifN (by simp) ?_⟩⟩⟩⟩⟩⟩
        refine ⟨_, rfl, _, _, rfl, .inr ⟨_, SqT.of ha, rfl⟩, _, rfl, _, _, rfl, .inr ⟨_, SqT.of hb, rfl⟩, rfl, _, rfl, ifN ?_ ?_⟩
        · rw [decide_eq_true (by rw [paired_len pa, paired_len pb])]
          decide
        refine ⟨_, rfl, _, _, rfl, .inr ⟨_, SqT.of hb, rfl⟩, _, rfl, lo62 _, hi62 lb, fun D nD => lcR ys.length (fun _ => .bl true) rfl lb nD (fun _ => rfl) (fun i hi H3 e3 Y hY => ?_) (fun H3 e3 h3 => ?_)⟩
        · obtain ⟨y, z, hy, hz, ry⟩ := paired_at pb (i := i) (by rw [← paired_len pb]; exact hi)
          obtain ⟨x, z', hx, hz', rx⟩ := paired_at pa (i := i) (by rw [← paired_len pb]; exact hi)
          obtain rfl : z = z' := Option.some.inj (hz.symm.trans hz')
          exact ⟨_, rfl, _, rfl, .inr (.inl ⟨a, xs, _, x, rfl, rfl, SqT.of (e3 _ _ ha), atI_nat hx, _, rfl, _, rfl, .inr (.inl ⟨b, ys, _, y, rfl, rfl, SqT.of (e3 _ _ hb), atI_nat hy, x, y, z, rfl, rx.mono e3, ry.mono e3, hY⟩)⟩)⟩
        · refine ⟨D, (List.range ys.length).map (fun _ => true), rfl, SqL.of (by rw [h3, List.map_map]; rfl), ?_⟩
          rw [show ((List.range ys.length).map (fun _ => true)).all id = true by simp]
          exact q _ e3
theorem ok_l_alike (T : TX K mg) : FnOk P w K mg base CX0 6 T.f_l_alike T.fd_l_alike ["_law_found", "_law_due"] (sp_l_alike 6) := ok_alikeN T 6
def bitsN (k : Nat) : Nat → List Bool
  | 0 => []
  | m + 1 => (k / 2 ^ m % 2 == 1) :: bitsN k m
theorem bitsN_len (k : Nat) : ∀ m, (bitsN k m).length = m
  | 0 => rfl
  | m + 1 => by simp [bitsN, bitsN_len k m]
theorem bits_plain {n : Nat} (h : n ≤ 4) : (List.range (2 ^ n)).map (fun k => bitsN k n) = plainW n := by
  have : n = 0 ∨ n = 1 ∨ n = 2 ∨ n = 3 ∨ n = 4 := by omega
  rcases this with rfl | rfl | rfl | rfl | rfl <;> decide
theorem tab5 {n : Nat} (h : n ≤ 4) : atI ([.int 1, .int 2, .int 4, .int 8, .int 16] : List V) (n : Int) = some (.int ((2 ^ n : Nat) : Int)) := by
  have : n = 0 ∨ n = 1 ∨ n = 2 ∨ n = 3 ∨ n = 4 := by omega
  rcases this with rfl | rfl | rfl | rfl | rfl <;> rfl
theorem tab4 {n : Nat} (h : n < 4) : atI ([.int 1, .int 2, .int 4, .int 8] : List V) (n : Int) = some (.int ((2 ^ n : Nat) : Int)) := by
  have : n = 0 ∨ n = 1 ∨ n = 2 ∨ n = 3 := by omega
  rcases this with rfl | rfl | rfl | rfl <;> rfl
theorem at01 (b : Bool) : atI (("01" : Str)).cps.toList (if b then 1 else 0) = some (bit b) := by
  cases b <;> decide +kernel
theorem modBit (k m : Nat) : (k : Int) / ((2 ^ m : Nat) : Int) % 2 = if (k / 2 ^ m % 2 == 1) then 1 else 0 := by
  have h : (k : Int) / ((2 ^ m : Nat) : Int) % 2 = ((k / 2 ^ m % 2 : Nat) : Int) := by simp
  rw [h]
  have h2 : k / 2 ^ m % 2 < 2 := Nat.mod_lt _ (by decide)
  have : k / 2 ^ m % 2 = 0 ∨ k / 2 ^ m % 2 = 1 := by omega
  rcases this with e | e <;> rw [e] <;> rfl
def sp_l_plain : Sp := fun vs H Q _ => ∃ n : Nat, vs = [.int (n : Int)] ∧ n ≤ 4 ∧ RetL ((plainW n).map wv) H Q
theorem ok_l_plain (T : TX K mg) : FnOk P w K mg base CX0 1 T.f_l_plain T.fd_l_plain ["_law_wide"] sp_l_plain := by
  refine T.F_l_plain.ok sc_l_plain (fun vs H Q E h => ?_) (fun cdv A outer s H vs Q E hr h => ?_)
  · obtain ⟨n, rfl, _⟩ := h
    rfl
  · obtain ⟨n, rfl, hn, q⟩ := h
    have h16 := pow16 hn
    refine ⟨_, (pss_cons (ps_set (i := 1) sc_l_plain.nd rfl (by first | exact Or.inl rfl | exact Or.inr rfl) (pe_lst pa_nil))
 (pss_cons (ps_for PassesOwn.never rfl (pi_range1 (by rfl) T.z_range (pa_cons (pe_ix ix_list (pe_lst (pa_cons pe_int (pa_cons pe_int (pa_cons pe_int (pa_cons pe_int (pa_cons pe_int pa_nil)))))) (pv 0) (fun _ _ => rfl)) pa_nil)) (pg_name (i := 2) sc_l_plain.nd rfl (by first | exact Or.inl rfl | exact Or.inr rfl))
 (pss_cons (ps_set (i := 3) sc_l_plain.nd rfl (by first | exact Or.inl rfl | exact Or.inr rfl) pe_str)
 (pss_cons (ps_for PassesOwn.never rfl (pi_range1 (by rfl) T.z_range (pa_cons (pv 0) pa_nil)) (pg_name (i := 4) sc_l_plain.nd rfl (by first | exact Or.inl rfl | exact Or.inr rfl))
 (pss_one (ps_set (i := 3) sc_l_plain.nd rfl (by first | exact Or.inl rfl | exact Or.inr rfl) (pe_op op_add_str (pe_ix ix_str pe_str (pe_op op_mod (pe_op op_fdiv (pv 2) (pe_ix ix_list (pe_lst (pa_cons pe_int (pa_cons pe_int (pa_cons pe_int (pa_cons pe_int pa_nil))))) (pv 4) (fun _ _ => rfl))) pe_int) (fun _ _ => rfl)) (pv 3)))))
 (pss_one (ps_expr (pe_bm PySem.F.plainAttrs_list PySem.F.slot_list_append PySem.F.type_list_append mt_append (pv 1) (pa_cons (pv 3) pa_nil)))))))
 (pss_one (ps_ret (pv 1))))), ?_⟩
    refine ⟨small9 (by simp), fun p np => ⟨small9 (by simp), fun l nl => ⟨_, rfl, l, _, (n : Int), _, rfl, rfl, SqL.of upd_same, tab5 hn, _, rfl, lo62 _, hi62 (by omega), ?_⟩⟩⟩
    have e0 := (Ex.new (o := HO.lst []) np).trans (Ex.new (o := HO.lst [.int 1, .int 2, .int 4, .int 8, .int 16]) nl)
    refine for_range (fun i σ H' => i ≤ 2 ^ n ∧ ∃ y z u, σ = [some (.int (n : Int)), some (.ref p), y, z, u] ∧ Ex H H' ∧ H' p = some (.lst ((List.range i).map fun k => wv (bitsN k n))))
      ⟨Nat.zero_le _, none, none, none, rfl, e0, (Ex.new nl) _ _ upd_same⟩ ?_ ?_
    · rintro i σ H' hi ⟨_, y, z, u, rfl, e1, hp⟩
      refine ⟨_, rfl, n, rfl, by omega, by omega, for_range (lo := 0) (fun m σ H2 => m ≤ n ∧ ∃ u, σ = [some (.int (n : Int)), some (.ref p), some (.int (0 + (i : Int))), some (wv (bitsN i m)), u] ∧ Ex H' H2) ⟨Nat.zero_le _, u, by rw [strE]; rfl, Ex.refl _⟩ ?_ ?_⟩
      · rintro m σ H2 hm ⟨_, u, rfl, e2⟩
        refine ⟨_, rfl, small9 (by simp), fun l nl => ⟨_, rfl, l, _, (m : Int), _, rfl, by rw [Int.zero_add], SqL.of upd_same, tab4 (by omega), _, _, rfl, rfl, ?_, _, _, rfl, rfl, (by decide : (0 : Int) < 2), ?_⟩⟩
        · have : 2 ^ m ≤ 16 := pow16 (by omega)
          have : 0 < 2 ^ m := Nat.two_pow_pos m
          exact ⟨by omega, by omega⟩
        · refine ⟨"01", _, bit (i / 2 ^ m % 2 == 1), rfl, rfl, by decide +kernel, ?_, _, rfl, _, _, rfl, rfl, ?_, ?_⟩
          · rw [Int.zero_add, modBit]
            exact at01 _
          · rw [sgn, wd_len, wd_len, bitsN_len]
            exact small9 (by simp; omega)
          · refine ⟨by omega, some (.int (0 + (m : Int))), ?_, e2.trans (Ex.new nl)⟩
            rw [sgn, wd_app]
            rfl
      · rintro σ H2 ⟨_, u, rfl, e2⟩
        refine ⟨_, rfl, .inl ⟨rfl, _, SqL.of (e2 _ _ hp)⟩, _, rfl, p, _, _, rfl, rfl, e2 _ _ hp, ?_, by omega, some (.int (0 + (i : Int))), some (wv (bitsN i n)), u, rfl, (e1.trans e2).mut np, ?_⟩
        · rw [List.length_map, List.length_range]
          exact small1000 (by omega)
        · rw [upd_same, List.range_succ, List.map_append]
          rfl
    · rintro σ H' ⟨_, y, z, u, rfl, e1, hp⟩
      refine ⟨_, rfl, q p H' np e1 ?_⟩
      rw [hp, ← bits_plain hn, List.map_map]
      rfl
def grayOf (w : List Bool) : List Bool := (List.range w.length).map fun i => ((false :: w).getD i false != w.getD i false)
theorem gray_of {n : Nat} (h : n ≤ 4) : (plainW n).map grayOf = grayW n := by
  have : n = 0 ∨ n = 1 ∨ n = 2 ∨ n = 3 ∨ n = 4 := by omega
  rcases this with rfl | rfl | rfl | rfl | rfl <;> decide
theorem joinB : ∀ bs : List Bool, Txt.join (wd []) (bs.map fun b => wd [b]) = wd bs := by
  intro bs
  refine TL.ext_tl ?_
  rw [TL.join_eq, TL.tl_join, List.map_map]
  show TL.joinL [] (bs.map fun b => [bit b]) = bs.map bit
  induction bs with
  | nil => rfl
  | cons a r ih =>
    cases r with
    | nil => rfl
    | cons b r =>
      show [bit a] ++ ([] ++ TL.joinL [] ((b :: r).map fun b => [bit b])) = bit a :: (b :: r).map bit
      rw [ih]
      rfl
theorem sz_words {l : List (List Bool)} {n : Nat} (h : ∀ w ∈ l, w.length ≤ n) : (l.map fun w => (wd w).length).sum ≤ l.length * n := by
  induction l with
  | nil => simp
  | cons a r ih =>
    have h1 := h a (List.mem_cons_self)
    have h2 := ih fun w hw => h w (List.mem_cons_of_mem _ hw)
    simp only [List.map_cons, List.sum_cons, List.length_cons, wd_len, Nat.add_mul] at *
    omega
def sp_l_gray : Sp := fun vs H Q _ => ∃ n : Nat, vs = [.int (n : Int)] ∧ n ≤ 4 ∧ RetL ((grayW n).map wv) H Q
theorem ok_l_gray (T : TX K mg) : FnOk P w K mg base CX0 2 T.f_l_gray T.fd_l_gray ["_law_wide"] sp_l_gray := by
  refine T.F_l_gray.ok sc_l_gray (fun vs H Q E h => ?_) (fun cdv A outer s H vs Q E hr h => ?_)
  · obtain ⟨n, rfl, _⟩ := h
    rfl
  · obtain ⟨n, rfl, hn, q⟩ := h
    have h16 := pow16 hn
    refine ⟨_, (pss_cons (ps_set (i := 1) sc_l_gray.nd rfl (by first | exact Or.inl rfl | exact Or.inr rfl) (pe_lst pa_nil))
 (pss_cons (ps_for PassesOwn.never rfl (pi_list (pe_call (ok_l_plain T) (hr.mono (by decide)) (by rfl) T.g_l_plain T.F_l_plain.kp T.b_l_plain .nil pass0 (pa_cons (pv 0) pa_nil))) (pg_name (i := 2) sc_l_gray.nd rfl (by first | exact Or.inl rfl | exact Or.inr rfl))
 (pss_cons (ps_set (i := 3) sc_l_gray.nd rfl (by first | exact Or.inl rfl | exact Or.inr rfl) (pe_op op_add_str pe_str (pv 2)))
 (pss_one (ps_expr (pe_bm PySem.F.plainAttrs_list PySem.F.slot_list_append PySem.F.type_list_append mt_append (pv 1) (pa_cons (pe_join pe_str (pe_lc (own := [("_law_at", 4)]) (g := gName 4) (by rfl) sc_l_gray.nd (pi_range1 (by rfl) T.z_range (pa_cons (pv 0) pa_nil)) (blkOk_by (own := [("_law_at", 4)]) (N := ["_law_wide", "_law_found", "_law_word", "_law_marks", "_law_at"]) (sc := defScope s_l_gray) (by decide +kernel)) (fun _ _ _ _ _ => pg_name (i := 4) sc_l_gray.nd rfl (Or.inl rfl)) (fun _ _ _ _ _ => pts_nil) (fun _ _ _ _ _ => (pe_ix ix_str pe_str (pe_callTy call_int1 (by rfl) T.z_int (by decide +kernel) (pa_cons (pe_cmpR op_ne (pe_ix ix_str (pv 3) (pv 4) (fun _ _ => rfl)) (pe_ix ix_str (pv 3) (pe_op op_add (pv 4) pe_int) (fun _ _ => rfl)) (nomark _)) pa_nil)) (fun _ _ => rfl))))) pa_nil))))))
 (pss_one (ps_ret (pv 1))))), ?_⟩
    refine ⟨small9 (by simp), fun p np => ⟨_, rfl, n, rfl, hn, fun l H1 nl e1 hl => ⟨l, rfl, ⟨_, SqL.of hl⟩, ?_⟩⟩⟩
    have e0 := (Ex.new (o := HO.lst []) np).trans e1
    refine for_list (K := K) (a := l) (xs := (plainW n).map wv) (fun i σ H' => ∃ y z u, σ = [some (.int (n : Int)), some (.ref p), y, z, u] ∧ H' l = some (.lst ((plainW n).map wv)) ∧ Ex H H' ∧ H' p = some (.lst (((plainW n).take i).map fun w => wv (grayOf w))))
      ⟨none, none, none, rfl, hl, e0, e1 _ _ upd_same⟩ (fun i σ H' _ ⟨_, _, _, _, e, _⟩ => SqL.of e) ?_ ?_
    · rintro i x σ H' hi ⟨y, z, u, rfl, eL, e2, hp⟩
      obtain ⟨w, hw, rfl⟩ : ∃ w, (plainW n)[i]? = some w ∧ wv w = x := by
        rw [List.getElem?_map] at hi
        cases e : (plainW n)[i]? with
        | none => rw [e] at hi; cases hi
        | some y => rw [e] at hi; exact ⟨y, rfl, Option.some.inj hi⟩
      have hwl : w.length = n := plainW_wide n w (List.mem_of_getElem? hw)
      refine ⟨_, rfl, "0", wd w, rfl, rfl, ?_, ?_⟩
      · rw [str0, wd_len, wd_len]
        exact small9 (by simp; omega)
      rw [str0, wd_app]
      refine ⟨_, rfl, .inl ⟨rfl, _, SqL.of hp⟩, ⟨_, rfl⟩, _, rfl, n, rfl, by omega, by omega, fun D nD => lcR n (fun i => wv [((false :: w).getD i false != w.getD i false)]) rfl (by omega) nD (fun _ => rfl) (fun k hk H3 e3 Y hY => ?_) (fun H3 e3 h3 => ?_)⟩
      · refine ⟨_, rfl, _, rfl, _, _, bit ((false :: w).getD k false), rfl, rfl, ?_, atW (w := false :: w) rfl (by simp; omega), _, rfl, _, rfl, _, _, rfl, rfl, _, _, bit (w.getD k false), rfl, rfl, ?_, ?_, rfl, .inr ⟨_, rfl, "01", _, _, rfl, rfl, by decide +kernel, ?_, hY _ (Ex.refl _)⟩⟩
        · show (wd (false :: w)).length ≤ sizeLine
          rw [wd_len]
          exact small9 (by simp; omega)
        · show (wd (false :: w)).length ≤ sizeLine
          rw [wd_len]
          exact small9 (by simp; omega)
        · exact atW (w := false :: w) (i := k + 1) rfl (by simp; omega)
        · rw [dec_sgn]
          exact at01 _
      · refine ⟨"", D, (grayOf w).map (fun b => wd [b]), rfl, rfl, .inl (SqL.of ?_), ?_, ?_⟩
        · rw [h3, grayOf, List.map_map, List.map_map, hwl]
          rfl
        · have h1 := sz_words (l := (grayOf w).map fun b => [b]) (n := 1) (fun w hw => by obtain ⟨b, _, rfl⟩ := List.mem_map.mp hw; exact Nat.le_refl _)
          simp only [List.map_map, List.length_map, Function.comp_def] at *
          have : (grayOf w).length = n := by simp [grayOf, hwl]
          rw [strE, wd_len]
          simp at *
          omega
        · rw [strE, joinB]
          refine ⟨p, _, _, rfl, rfl, e3 _ _ hp, ?_, some (wv w), some (wv ([false] ++ w)), u, rfl, ?_, (e2.trans e3).mut np, ?_⟩
          · rw [List.length_map, List.length_take]
            have := plainW_len n
            exact small1000 (by omega)
          · rw [upd_ne (ne_of_none upd_same nl).symm]
            exact e3 _ _ eL
          · rw [upd_same, List.take_add_one, hw, List.map_append]
            rfl
    · rintro σ H' ⟨y, z, u, rfl, eL, e1, hp⟩
      refine ⟨_, rfl, q p H' np e1 ?_⟩
      rw [hp, ← gray_of hn, List.length_map, List.take_length, List.map_map]
      rfl
theorem Exd.fresh {d : Addr} {H H' : Hp} {p : Addr} (e : Exd d H H') (h : H' p = none) (n : p ≠ d) : H p = none := by
  cases h1 : H p with
  | none => rfl
  | some o =>
    rw [e p o h1 n] at h
    cases h
theorem Exd.mut {d : Addr} {H H' : Hp} {p : Addr} {o : HO} (e : Exd d H H') (h : H p = none) : Exd d H (L2.upd H' p o) := fun a u ha n => by
  rw [upd_ne (ne_of_none ha h)]
  exact e a u ha n
theorem Exd.l {K : PySem.W.Frag} {d a : Addr} {H H' : Hp} {xs : List V} (e : Exd d H H') (h : SqL K H a xs) (n : a ≠ d) : SqL K H' a xs := by
  rcases h with (h | ⟨o, h⟩) | h
  · exact .inl (.inl (e _ _ h n))
  · exact .inl (.inr ⟨o, e _ _ h n⟩)
  · exact .inr h
theorem Dice.neN {H : Hp} {d p : Addr} (h : Dice H d) (n : H p = none) : p ≠ d := (h.ne n).symm
/-- leaves: ints and good texts -/
def LeafV : V → Prop
  | .int _ => True
  | .str x => PyData.strOk x = true
  | _ => False
def datOf : V → PyData
  | .int i => .int i
  | .str x => .str x
  | _ => .none
theorem dp_leaves {K : PySem.W.Frag} {H : Hp} : ∀ {xs : List V}, (∀ x ∈ xs, LeafV x) → DpAll K H xs (xs.map datOf)
  | [], _ => .nil
  | x :: xs, h => by
    refine .cons ?_ (dp_leaves fun y hy => h y (List.mem_cons_of_mem _ hy))
    have hx := h x List.mem_cons_self
    cases x with
    | int i => exact .int i
    | str z => exact .str z
    | non => exact hx.elim
    | bl b => exact hx.elim
    | byt b => exact hx.elim
    | flt b => exact hx.elim
    | ref b => exact hx.elim
    | ty b => exact hx.elim
theorem sd_leaves {n : Nat} {xs : List V} (h : ∀ x ∈ xs, LeafV x) : Sd (n + 1) (.list (xs.map datOf)) := fun d hd => by
  obtain ⟨x, hx, rfl⟩ := List.mem_map.mp hd
  have hx := h x hx
  cases x with
  | int i => cases n <;> trivial
  | str z => cases n <;> exact hx
  | non => exact hx.elim
  | bl b => exact hx.elim
  | byt b => exact hx.elim
  | flt b => exact hx.elim
  | ref b => exact hx.elim
  | ty b => exact hx.elim
theorem eqv_nil (ds : List PyData) : PyData.eqv (.list ds) (.list []) = ds.isEmpty := by
  rw [PyData.eqv]
  cases ds <;> rfl
def sp_l_mixed (K : PySem.W.Frag) : Sp := fun vs H Q _ => ∃ (d r : Addr) (xs : List V), vs = [.ref d, .ref r] ∧ Dice H d ∧ r ≠ d ∧ SqL K H r xs ∧ (∀ x ∈ xs, LeafV x) ∧ xs.length ≤ 100 ∧
  ∀ (p : Addr) (ys : List V) (H' : Hp), H p = none → Exd d H H' → Dice H' d → ys.Perm xs → H' p = some (.lst ys) → Q (.ref p) H'
theorem ok_l_mixed (T : TX K mg) : FnOk P w K mg base CX0 2 T.f_l_mixed T.fd_l_mixed ["_law_d", "_law_row"] (sp_l_mixed K) := by
  refine T.F_l_mixed.ok sc_l_mixed (fun vs H Q E h => ?_) (fun cdv A outer s H vs Q E hr h => ?_)
  · obtain ⟨_, _, _, rfl, _⟩ := h
    rfl
  · obtain ⟨d, r, xs, rfl, hd, nrd, hx, hlf, hle, q⟩ := h
    refine ⟨_, (pss_cons (ps_set (i := 2) sc_l_mixed.nd rfl (by first | exact Or.inl rfl | exact Or.inr rfl) (pe_callTy call_list_of (by rfl) T.z_list (by decide +kernel) (pa_cons (pv 1) pa_nil)))
 (pss_cons (ps_set (i := 3) sc_l_mixed.nd rfl (by first | exact Or.inl rfl | exact Or.inr rfl) (pe_lst pa_nil))
 (pss_cons (ps_while PassesOwn.never (pt_cmpR (op_neD hr.units) (pv 2) (pe_lst pa_nil) (nomark _))
 (pss_one (ps_expr (pe_bm PySem.F.plainAttrs_list PySem.F.slot_list_append PySem.F.type_list_append mt_append (pv 3) (pa_cons (pe_bm PySem.F.plainAttrs_list PySem.F.slot_list_pop PySem.F.type_list_pop mt_popAt (pv 2) (pa_cons (pe_call (ok_l_off T) (hr.mono (by decide)) (by rfl) T.g_l_off T.F_l_off.kp T.b_l_off .nil pass0 (pa_cons (pv 0) (pa_cons (pe_callB call_len_seq (by rfl) T.z_len PySem.boot_len (pa_cons (pv 2) pa_nil)) pa_nil))) pa_nil)) pa_nil)))))
 (pss_one (ps_ret (pv 3)))))), ?_⟩
    refine ⟨_, rfl, r, xs, rfl, .inl hx, fun l nl => ⟨small9 (by simp), fun f nf => ?_⟩⟩
    have e1 := Ex.new (o := HO.lst xs) nl
    have e2 := Ex.new (o := HO.lst []) nf
    have nlf : l ≠ f := ne_of_none upd_same nf
    have nfH := fresh_back e1 nf
    have nld := hd.neN nl
    have nfd := (hd.mono e1).neN nf
    refine ⟨fun m σ H' => ∃ ls fs : List V, σ = [some (.ref d), some (.ref r), some (.ref l), some (.ref f)] ∧ m = ls.length ∧ H' l = some (.lst ls) ∧ H' f = some (.lst fs) ∧ (fs ++ ls).Perm xs ∧ Exd d H H' ∧ Dice H' d,
      ⟨xs.length, xs, [], rfl, rfl, e2 _ _ upd_same, upd_same, List.Perm.refl _, Exd.of (e1.trans e2), hd.mono (e1.trans e2)⟩, ?_⟩
    rintro m σ H1 ⟨ls, fs, rfl, rfl, hl, hf, pm, ex, hd1⟩
    have lf1 : ∀ x ∈ ls, LeafV x := fun x hx => hlf x (pm.mem_iff.mp (List.mem_append_right _ hx))
    have lenp : fs.length + ls.length = xs.length := by rw [← List.length_append, pm.length_eq]
    refine ⟨_, rfl, small9 (by simp), fun o no => ?_⟩
    have eo := Ex.new (o := HO.lst []) no
    refine ⟨.list (ls.map datOf), .list [], .lst (SqL.of (eo _ _ hl)) (dp_leaves lf1), .lst (SqL.of upd_same) .nil, (sd_leaves (n := 0) lf1).shaped (by decide), (sd_leaves (n := 0) (xs := []) (by simp)).shaped (by decide), _, rfl, ?_⟩
    rw [eqv_nil]
    have hl := eo _ _ hl
    have hf := eo _ _ hf
    have ex := ex.trans (Exd.of eo)
    have hd1 := hd1.mono eo
    generalize upd H1 o (.lst []) = H2 at hl hf ex hd1 ⊢
    cases ls with
    | nil =>
      refine ifN (by simp) ⟨_, rfl, q f fs H2 nfH ex hd1 (by simpa using pm) hf⟩
    | cons z ls =>
      refine ifP (by simp) ⟨fun σ' H' => ∃ ls' fs : List V, σ' = [some (.ref d), some (.ref r), some (.ref l), some (.ref f)] ∧ ls'.length < (z :: ls).length ∧ H' l = some (.lst ls') ∧ H' f = some (.lst fs) ∧ (fs ++ ls').Perm xs ∧ Exd d H H' ∧ Dice H' d, fun σ' H' hN => ?_, ?_⟩
      · obtain ⟨ls', fs', h1, h2, h3⟩ := hN
        exact ⟨ls'.length, h2, ls', fs', h1, rfl, h3⟩
      · refine ⟨_, rfl, .inl ⟨rfl, _, SqL.of hf⟩, _, rfl, .inl ⟨rfl, _, SqL.of hl⟩, _, rfl, _, rfl, l, _, rfl, .inl (SqL.of hl), ?_⟩
        refine ⟨d, ((z :: ls).length : Int), rfl, hd1, by simp, by simp at lenp ⊢; omega, fun x H3 x0 x1 e3 hd3 => ?_⟩
        have hl3 := e3 _ _ hl nld
        have hf3 := e3 _ _ hf nfd
        obtain ⟨k, rfl⟩ : ∃ k : Nat, x = (k : Int) := ⟨x.toNat, by omega⟩
        have hk : k < (z :: ls).length := by omega
        obtain ⟨y, hy⟩ : ∃ y, (z :: ls)[k]? = some y := ⟨_, List.getElem?_eq_getElem hk⟩
        refine ⟨l, _, _, k, y, rfl, rfl, hl3, by omega, by simp at lenp hk; omega, ?_, hy, ?_⟩
        · unfold seqIndex?
          have h1 : ¬ ((k : Int) < 0) := by omega
          have h2 : (k : Int) < ((z :: ls).length : Int) := by omega
          simp only [h1, if_false]
          rw [if_pos (by simp only [Bool.and_eq_true, decide_eq_true_eq]; exact ⟨by omega, h2⟩)]
          simp
        refine ⟨f, _, _, rfl, rfl, by rw [upd_ne nlf.symm]; exact hf3, small1000 (by omega), (z :: ls).eraseIdx k, fs ++ [y], rfl, ?_, ?_, upd_same, ?_, ?_, ?_⟩
        · rw [List.length_eraseIdx_of_lt hk]
          omega
        · rw [upd_ne nlf, upd_same]
        · refine List.Perm.trans ?_ pm
          rw [List.append_assoc]
          refine List.Perm.append_left fs ?_
          exact erase_perm (z :: ls) k y hy
        · exact ((ex.trans e3).mut nl).mut nfH
        · exact (hd3.upd nld.symm).upd nfd.symm
def okS (a b w : List Bool) : Bool := (List.range a.length).all fun k => w.getD k false == a.getD k false || w.getD k false == b.getD k false
theorem okS_cons (x y z : Bool) (a b w : List Bool) : okS (x :: a) (y :: b) (z :: w) = ((z == x || z == y) && okS a b w) := by
  unfold okS
  rw [List.length_cons, List.range_succ_eq_map, List.all_cons, List.all_map]
  rfl
theorem seen_filter : ∀ {n : Nat} {a b : List Bool}, a.length = n → b.length = n → (plainW n).filter (okS a b) = seenW a b
  | 0, [], [], _, _ => rfl
  | n + 1, x :: a, y :: b, ha, hb => by
    have ih := seen_filter (n := n) (a := a) (b := b) (by simpa using ha) (by simpa using hb)
    have h1 : ∀ z : Bool, ((plainW n).map (z :: ·)).filter (okS (x :: a) (y :: b)) = if (z == x || z == y) = true then (seenW a b).map (z :: ·) else [] := fun z => by
      rw [List.filter_map]
      by_cases hz : (z == x || z == y) = true
      · rw [if_pos hz, ← ih]
        congr 1
        refine List.filter_congr fun w _ => ?_
        show okS (x :: a) (y :: b) (z :: w) = _
        rw [okS_cons, hz, Bool.true_and]
      · rw [if_neg hz]
        have : ((plainW n).filter ((okS (x :: a) (y :: b)) ∘ (z :: ·))) = [] := by
          rw [List.filter_eq_nil_iff]
          intro w _
          show ¬ okS (x :: a) (y :: b) (z :: w) = true
          rw [okS_cons]
          simp only [Bool.not_eq_true] at hz
          rw [hz]
          simp
        rw [this]
        rfl
    show ((plainW n).map (false :: ·) ++ (plainW n).map (true :: ·)).filter _ = (mk2 x y).flatMap fun m => (seenZ (a.zip b)).map (m :: ·)
    rw [List.filter_append, h1, h1]
    cases x <;> cases y <;> simp [mk2, seenW]
def sp_l_seen : Sp := fun vs H Q _ => ∃ (a b : List Bool) (n : Nat), vs = [wv a, wv b] ∧ a.length = n ∧ b.length = n ∧ n ≤ 4 ∧ RetL ((seenW a b).map wv) H Q
theorem ok_l_seen (T : TX K mg) : FnOk P w K mg base CX0 2 T.f_l_seen T.fd_l_seen ["_law_one", "_law_other"] sp_l_seen := by
  refine T.F_l_seen.ok sc_l_seen (fun vs H Q E h => ?_) (fun cdv A outer s H vs Q E hr h => ?_)
  · obtain ⟨_, _, _, rfl, _⟩ := h
    rfl
  · obtain ⟨a, b, n, rfl, ha, hb, hn, q⟩ := h
    have h16 := pow16 hn
    refine ⟨_, (pss_cons (ps_set (i := 2) sc_l_seen.nd rfl (by first | exact Or.inl rfl | exact Or.inr rfl) (pe_lst pa_nil))
 (pss_cons (ps_for PassesOwn.never rfl (pi_list (pe_call (ok_l_plain T) (hr.mono (by decide)) (by rfl) T.g_l_plain T.F_l_plain.kp T.b_l_plain .nil pass0 (pa_cons (pe_callB call_len_str (by rfl) T.z_len PySem.boot_len (pa_cons (pv 0) pa_nil)) pa_nil))) (pg_name (i := 3) sc_l_seen.nd rfl (by first | exact Or.inl rfl | exact Or.inr rfl))
 (pss_one (ps_if (pt_cmpR (op_eqD hr.units) (pe_lc (own := [("_law_at", 4)]) (g := gName 4) (by rfl) sc_l_seen.nd (pi_range1 (by rfl) T.z_range (pa_cons (pe_callB call_len_str (by rfl) T.z_len PySem.boot_len (pa_cons (pv 0) pa_nil)) pa_nil)) (blkOk_by (own := [("_law_at", 4)]) (N := ["_law_one", "_law_other", "_law_found", "_law_word", "_law_at"]) (sc := defScope s_l_seen) (by decide +kernel)) (fun _ _ _ _ _ => pg_name (i := 4) sc_l_seen.nd rfl (Or.inl rfl)) (fun _ _ _ _ _ => (pts_one (pt_cmpR (r := rIn K true) op_notIn_seq (pe_ix ix_str (pv 3) (pv 4) (fun _ _ => rfl)) (pe_tup (pa_cons (pe_ix ix_str (pv 0) (pv 4) (fun _ _ => rfl)) (pa_cons (pe_ix ix_str (pv 1) (pv 4) (fun _ _ => rfl)) pa_nil))) (by rfl)))) (fun _ _ _ _ _ => (pv 4))) (pe_lst pa_nil) (nomark _))
 (pss_one (ps_expr (pe_bm PySem.F.plainAttrs_list PySem.F.slot_list_append PySem.F.type_list_append mt_append (pv 2) (pa_cons (pv 3) pa_nil))))
 pss_nil)))
 (pss_one (ps_ret (pv 2))))), ?_⟩
    refine ⟨small9 (by simp), fun p np => ?_⟩
    refine ⟨_, rfl, wd a, rfl, small9 (by rw [wd_len]; omega), n, ?_, hn, fun l H1 nl e1 hl => ⟨l, rfl, ⟨_, SqL.of hl⟩, ?_⟩⟩
    · show [V.int ((wd a).length : Int)] = _
      rw [wd_len, ha]
    have e01 := (Ex.new (o := HO.lst []) np).trans e1
    have npl : l ≠ p := (ne_of_none upd_same nl).symm
    refine for_list (K := K) (a := l) (xs := (plainW n).map wv) (fun i σ H' => ∃ y3 y4, σ = [some (wv a), some (wv b), some (.ref p), y3, y4] ∧ Ex H H' ∧ H' l = some (.lst ((plainW n).map wv)) ∧ H' p = some (.lst ((((plainW n).take i).filter (okS a b)).map wv)))
      ⟨_, _, rfl, e01, hl, e1 _ _ upd_same⟩ (fun i σ H' _ ⟨_, _, _, _, h, _⟩ => SqL.of h) ?_ ?_
    · rintro i x σ H2 hi ⟨y3, y4, rfl, e2, hl2, hp2⟩
      obtain ⟨u, hu, rfl⟩ : ∃ u, (plainW n)[i]? = some u ∧ wv u = x := by
        rw [List.getElem?_map] at hi
        cases e : (plainW n)[i]? with
        | none => rw [e] at hi; cases hi
        | some y => rw [e] at hi; exact ⟨y, rfl, Option.some.inj hi⟩
      have hul : u.length = n := plainW_wide n u (List.mem_of_getElem? hu)
      have ht : (plainW n).take (i + 1) = (plainW n).take i ++ [u] := by rw [List.take_add_one, hu]; rfl
      have hlen : (((plainW n).take i).filter (okS a b)).length ≤ 16 := by
        refine Nat.le_trans (List.length_filter_le _ _) ?_
        rw [List.length_take, plainW_len]
        omega
      refine ⟨_, rfl, wd a, rfl, small9 (by rw [wd_len]; omega), _, rfl, lo62 _, hi62 (by rw [wd_len]; omega), fun D nD => lcRF a.length (fun k => !(u.getD k false == a.getD k false || u.getD k false == b.getD k false)) (fun k => .int (k : Int)) (by rw [wd_len]) (by omega) nD (fun _ => rfl) (fun k hk H3 e3 Y N hY => ?_) (fun H3 e3 h3 => ?_)⟩
      · refine ⟨_, rfl, _, rfl, wd u, _, bit (u.getD k false), rfl, rfl, small9 (by rw [wd_len]; omega), atW rfl (by omega), _, rfl, _, rfl, wd a, _, bit (a.getD k false), rfl, rfl, small9 (by rw [wd_len]; omega), atW rfl hk, _, rfl, _, rfl, wd b, _, bit (b.getD k false), rfl, rfl, small9 (by rw [wd_len]; omega), atW rfl (by omega), small9 (by simp), fun t nt => ?_⟩
        refine ⟨t, _, rfl, .inr (SqT.of upd_same), rfl, rfl, _, rfl, ?_⟩
        have hY := hY _ (Ex.new (o := HO.tup [.str ⟨#[bit (a.getD k false)]⟩, .str ⟨#[bit (b.getD k false)]⟩]) nt)
        have ein : inV (.str ⟨#[bit (u.getD k false)]⟩) [.str ⟨#[bit (a.getD k false)]⟩, .str ⟨#[bit (b.getD k false)]⟩] = (u.getD k false == a.getD k false || u.getD k false == b.getD k false) := by
          cases u.getD k false <;> cases a.getD k false <;> cases b.getD k false <;> decide
        show if (!inV _ _) = true then _ else _
        rw [ein]
        cases hd : (u.getD k false == a.getD k false || u.getD k false == b.getD k false) with
        | true =>
          rw [hd] at hY
          exact hY
        | false =>
          rw [hd] at hY
          exact ⟨_, rfl, hY⟩
      · have lf : ∀ x ∈ ((List.range a.length).filter fun k => !(u.getD k false == a.getD k false || u.getD k false == b.getD k false)).map (fun k : Nat => V.int (k : Int)), LeafV x := fun x hx => by
          obtain ⟨k, _, rfl⟩ := List.mem_map.mp hx
          trivial
        refine ⟨small9 (by simp), fun o no => ?_⟩
        have eo := Ex.new (o := HO.lst []) no
        refine ⟨.list _, .list [], .lst (SqL.of (eo _ _ h3)) (dp_leaves lf), .lst (SqL.of upd_same) .nil, (sd_leaves (n := 0) lf).shaped (by decide), (sd_leaves (n := 0) (xs := []) (by simp)).shaped (by decide), _, rfl, ?_⟩
        rw [eqv_nil]
        have eok : ((((List.range a.length).filter fun k => !(u.getD k false == a.getD k false || u.getD k false == b.getD k false)).map (fun k : Nat => V.int (k : Int))).map datOf).isEmpty = okS a b u := by
          rw [Bool.eq_iff_iff, List.isEmpty_iff, List.map_eq_nil_iff, List.map_eq_nil_iff, List.filter_eq_nil_iff]
          unfold okS
          rw [List.all_eq_true]
          simp only [Bool.not_eq_true', Bool.not_eq_false]
        rw [eok]
        have e23 := e3.trans eo
        cases hok : okS a b u with
        | true =>
          refine ifP rfl ⟨_, rfl, .inl ⟨rfl, _, SqL.of (e23 _ _ hp2)⟩, _, rfl, p, _, _, rfl, rfl, e23 _ _ hp2, by rw [List.length_map]; exact small1000 (by omega), _, _, rfl, (e2.trans e23).mut np, ?_, ?_⟩
          · rw [upd_ne npl]
            exact e23 _ _ hl2
          · rw [upd_same, ht, List.filter_append, List.map_append]
            simp [hok]
        | false =>
          refine ifN (by simp) ⟨_, _, rfl, e2.trans e23, e23 _ _ hl2, ?_⟩
          rw [e23 _ _ hp2, ht, List.filter_append, List.map_append]
          simp [hok]
    · rintro σ H2 ⟨y3, y4, rfl, e2, hl2, hp2⟩
      rw [List.length_map, List.take_length, seen_filter ha hb] at hp2
      exact ⟨_, rfl, q p H2 np e2 hp2⟩
def sp_torn : Sp := fun vs H Q _ => ∃ (a b : List Bool) (n : Nat), vs = [wv a, wv b] ∧ a.length = n ∧ b.length = n ∧ 1 ≤ n ∧ n ≤ 4 ∧ RetL ((seenW a b).map wv) H Q
theorem ok_torn (T : TX K mg) : FnOk P w K mg base CX0 2 T.f_torn T.fd_torn ["one", "other"] sp_torn := by
  refine T.F_torn.ok sc_torn (fun vs H Q E h => ?_) (fun cdv A outer s H vs Q E hr h => ?_)
  · obtain ⟨_, _, _, rfl, _⟩ := h
    rfl
  · obtain ⟨a, b, n, rfl, ha, hb, h1, h4, q⟩ := h
    refine ⟨_, (pss_cons (ps_if (pt_not (pt_val (pe_call (ok_is_word T) (hr.mono (by decide)) (by rfl) T.g_is_word T.F_is_word.kp T.b_is_word .nil pass0 (pa_cons (pv 0) pa_nil))))
 (pss_one ps_never)
 pss_nil)
 (pss_cons (ps_if (PW.pt (pw_or (pt_not (pt_val (pe_call (ok_is_word T) (hr.mono (by decide)) (by rfl) T.g_is_word T.F_is_word.kp T.b_is_word .nil pass0 (pa_cons (pv 1) pa_nil)))) (pw_or1 (pt_cmpR op_ne (pe_callB call_len_str (by rfl) T.z_len PySem.boot_len (pa_cons (pv 0) pa_nil)) (pe_callB call_len_str (by rfl) T.z_len PySem.boot_len (pa_cons (pv 1) pa_nil)) (nomark _)))))
 (pss_one ps_never)
 pss_nil)
 (pss_one (ps_ret (pe_call (ok_seen_of T) (hr.mono (by decide)) (by rfl) T.g_seen_of T.F_seen_of.kp T.b_seen_of .nil pass0 (pa_cons (pv 0) (pa_cons (pv 1) pa_nil))))))), ?_⟩
    refine ⟨_, rfl, wd a, rfl, by rw [wd_len]; omega, strOk_wd a, fun H1 e1 => ?_⟩
    rw [isW_wd (by omega) (by omega)]
    refine ⟨true, rfl, ifN (by simp) ⟨_, rfl, wd b, rfl, by rw [wd_len]; omega, strOk_wd b, fun H2 e2 => ?_⟩⟩
    rw [isW_wd (by omega) (by omega)]
    refine ⟨true, rfl, ifN (by simp) ⟨_, rfl, wd a, rfl, small9 (by rw [wd_len]; omega), _, rfl, wd b, rfl, small9 (by rw [wd_len]; omega), rfl, _, rfl, ifN ?_ ?_⟩⟩
    · rw [decide_eq_true (by rw [wd_len, wd_len, ha, hb])]
      simp
    · exact ⟨_, rfl, _, rfl, a, b, n, rfl, ha, hb, h4, fun p H3 np e3 hp => RetL.go q (e1.trans e2) np e3 hp⟩
theorem nodup_gray {n : Nat} (h : n ≤ 4) : (grayW n).Nodup ∧ (plainW n).Nodup := by
  have : n = 0 ∨ n = 1 ∨ n = 2 ∨ n = 3 ∨ n = 4 := by omega
  rcases this with rfl | rfl | rfl | rfl | rfl <;> decide
theorem perm_map_inv {α : Type} {f : α → V} {ys zs : List V} (h : ys.Perm zs) : ∀ {l : List α}, zs = l.map f → ∃ l' : List α, ys = l'.map f ∧ l'.Perm l := by
  induction h with
  | nil =>
    intro l e
    exact ⟨[], rfl, by rw [List.map_eq_nil_iff.mp e.symm]⟩
  | cons x _ ih =>
    intro l e
    cases l with
    | nil => cases e
    | cons a l =>
      have e : _ :: _ = f a :: l.map f := e
      injection e with e1 e2
      obtain ⟨l', h1, h2⟩ := ih e2
      exact ⟨a :: l', by rw [h1, e1]; rfl, List.Perm.cons a h2⟩
  | swap x y r =>
    intro l e
    match l, e with
    | a :: b :: l, e =>
      have e : _ :: _ :: _ = f a :: f b :: l.map f := e
      injection e with e1 e2
      injection e2 with e2 e3
      exact ⟨b :: a :: l, by rw [e1, e2, e3]; rfl, List.Perm.swap a b l⟩
  | trans _ _ ih1 ih2 =>
    intro l e
    obtain ⟨l2, h1, h2⟩ := ih2 e
    obtain ⟨l1, h3, h4⟩ := ih1 h1
    exact ⟨l1, h3, h4.trans h2⟩
/-- words of a lane -/
structure WOk (ws : List (List Bool)) (n r : Nat) : Prop where
  nd : ws.Nodup
  len : ws.length = 2 * r
  wide : ∀ w ∈ ws, w.length = n
theorem wok_take {l : List (List Bool)} {n r : Nat} (nd : l.Nodup) (hl : 2 * r ≤ l.length) (hw : ∀ w ∈ l, w.length = n) : WOk (l.take (2 * r)) n r :=
  ⟨(List.take_sublist _ _).nodup nd, by rw [List.length_take]; omega, fun w h => hw w (List.mem_of_mem_take h)⟩
theorem wok_ends {l : List (List Bool)} {n r : Nat} (nd : l.Nodup) (hl : 2 * r ≤ l.length) (hw : ∀ w ∈ l, w.length = n) : WOk (l.take r ++ l.drop (l.length - r)) n r := by
  refine ⟨?_, ?_, fun w h => ?_⟩
  · have h1 : (l.take r ++ l.drop (l.length - r)).Sublist l := by
      have h2 : (l.drop (l.length - r)).Sublist (l.drop r) := by
        rw [show l.length - r = r + (l.length - 2 * r) by omega, ← List.drop_drop]
        exact List.drop_sublist _ _
      have h3 := List.Sublist.append (List.Sublist.refl (l.take r)) h2
      rw [List.take_append_drop] at h3
      exact h3
    exact h1.nodup nd
  · rw [List.length_append, List.length_take, List.length_drop]
    omega
  · rcases List.mem_append.mp h with h | h
    · exact hw w (List.mem_of_mem_take h)
    · exact hw w (List.mem_of_mem_drop h)
def swapN (a b k : Nat) : Nat := if k = a then b else if k = b then a else k
theorem swapN_lt {a b k m : Nat} (ha : a < m) (hb : b < m) (hk : k < m) : swapN a b k < m := by
  unfold swapN
  split
  · exact hb
  · split
    · exact ha
    · exact hk
theorem swapN_inj {a b i j : Nat} (h : swapN a b i = swapN a b j) : i = j := by
  unfold swapN at h
  split at h <;> split at h <;> (try split at h) <;> (try split at h) <;> omega
theorem getD_inj {ws : List (List Bool)} (nd : ws.Nodup) {i j : Nat} (hi : i < ws.length) (hj : j < ws.length) (h : ws.getD i [] = ws.getD j []) : i = j := by
  rw [List.getD_eq_getElem?_getD, List.getD_eq_getElem?_getD, List.getElem?_eq_getElem hi, List.getElem?_eq_getElem hj] at h
  exact (List.getElem_inj nd).mp h
theorem nodup_map_range {m : Nat} {f : Nat → List Bool} (h : ∀ i j, i < m → j < m → f i = f j → i = j) : ((List.range m).map f).Nodup := by
  refine List.pairwise_map.mpr (List.Pairwise.imp_of_mem (fun {a b} ha hb hab e => ?_) (List.pairwise_lt_range (n := m)))
  have := h a b (List.mem_range.mp ha) (List.mem_range.mp hb) e
  omega
theorem wok_swap {ws : List (List Bool)} {n r a b : Nat} (h : WOk ws n r) (ha : a < 2 * r) (hb : b < 2 * r) : WOk ((List.range (2 * r)).map fun k => ws.getD (swapN a b k) []) n r := by
  refine ⟨nodup_map_range fun i j hi hj e => swapN_inj (getD_inj h.nd (by rw [h.len]; exact swapN_lt ha hb hi) (by rw [h.len]; exact swapN_lt ha hb hj) e), by simp, fun w hw => ?_⟩
  obtain ⟨k, hk, rfl⟩ := List.mem_map.mp hw
  exact h.wide _ (getD_mem (by rw [h.len]; exact swapN_lt ha hb (List.mem_range.mp hk)))
/-- marks exchanged and turned -/
def newW (n t : Nat) (os : List Nat) (w : List Bool) : List Bool := (List.range n).map fun k => (w.getD (os.getD k 0) false != (t / 2 ^ k % 2 == 1))
theorem newW_inj {n t : Nat} {os : List Nat} (ho : os.Perm (List.range n)) {w u : List Bool} (hw : w.length = n) (hu : u.length = n) (h : newW n t os w = newW n t os u) : w = u := by
  have hol : os.length = n := by rw [ho.length_eq, List.length_range]
  refine List.ext_getElem (by omega) fun i h1 h2 => ?_
  obtain ⟨k, hk, e⟩ := List.mem_iff_getElem.mp (ho.mem_iff.mpr (List.mem_range.mpr (show i < n by omega)))
  have q := congrArg (fun l => l.getD k false) h
  simp only [newW] at q
  rw [List.getD_eq_getElem?_getD, List.getD_eq_getElem?_getD, List.getElem?_map, List.getElem?_map, List.getElem?_range (by omega)] at q
  have e2 : os.getD k 0 = i := by rw [List.getD_eq_getElem?_getD, List.getElem?_eq_getElem hk]; exact e
  simp only [Option.map_some, Option.getD_some, e2] at q
  have e3 : w.getD i false = w[i] := by rw [List.getD_eq_getElem?_getD, List.getElem?_eq_getElem h1]; rfl
  have e4 : u.getD i false = u[i] := by rw [List.getD_eq_getElem?_getD, List.getElem?_eq_getElem h2]; rfl
  rw [e3, e4] at q
  revert q
  cases w[i] <;> cases u[i] <;> cases (t / 2 ^ k % 2 == 1) <;> decide
theorem wok_new {ws : List (List Bool)} {n r t : Nat} {os : List Nat} (h : WOk ws n r) (ho : os.Perm (List.range n)) : WOk (ws.map (newW n t os)) n r := by
  refine ⟨List.pairwise_map.mpr (List.Pairwise.imp_of_mem (fun {a b} ha hb hab e => hab (newW_inj ho (h.wide a ha) (h.wide b hb) e)) h.nd), by rw [List.length_map]; exact h.len, fun w hw => ?_⟩
  obtain ⟨u, _, rfl⟩ := List.mem_map.mp hw
  simp [newW]
theorem int_sgn (b : Bool) : PySem.intText? (wd [b]) = some (if b then 1 else 0) := by cases b <;> decide +kernel
theorem str_sgn (m : Int) : (toString (m % 2) : Str) = wd [m % 2 == 1] := by
  have : m % 2 = 0 ∨ m % 2 = 1 := by omega
  rcases this with e | e <;> rw [e] <;> decide +kernel
theorem mark_bit0 (b : Bool) (q : Nat) : (((if b then 1 else 0 : Int) + (q : Int)) % 2 == 1) = (b != (q % 2 == 1)) := by
  have : q % 2 = 0 ∨ q % 2 = 1 := by omega
  cases b with
  | false =>
    rcases this with e | e <;> rw [e]
    · rw [show ((if false = true then 1 else 0 : Int) + (q : Int)) % 2 = 0 by simp only [Bool.false_eq_true, if_false]; omega]
      rfl
    · rw [show ((if false = true then 1 else 0 : Int) + (q : Int)) % 2 = 1 by simp only [Bool.false_eq_true, if_false]; omega]
      rfl
  | true =>
    rcases this with e | e <;> rw [e]
    · rw [show ((if true = true then 1 else 0 : Int) + (q : Int)) % 2 = 1 by simp only [if_true]; omega]
      rfl
    · rw [show ((if true = true then 1 else 0 : Int) + (q : Int)) % 2 = 0 by simp only [if_true]; omega]
      rfl
theorem mark_bit (b : Bool) (t k : Nat) : (((if b then 1 else 0 : Int) + (t : Int) / ((2 ^ k : Nat) : Int)) % 2 == 1) = (b != (t / 2 ^ k % 2 == 1)) := by
  rw [show (t : Int) / ((2 ^ k : Nat) : Int) = ((t / 2 ^ k : Nat) : Int) by simp]
  exact mark_bit0 b _
theorem emod_two {x m : Int} (h0 : 0 ≤ x) (h : x < 2 * m) : x % m = if x < m then x else x - m := by
  by_cases hx : x < m
  · rw [if_pos hx, Int.emod_eq_of_lt h0 hx]
  · rw [if_neg hx, ← Int.sub_emod_right, Int.emod_eq_of_lt (by omega) (by omega)]
theorem swap_val {a b : Nat} (hab : a ≠ b) (k : Nat) : (valV (mergeK [] [((Sum.inl (a : Int) : Key), V.int (b : Int)), (Sum.inl (b : Int), V.int (a : Int))]) (Sum.inl (k : Int))).getD (.int (k : Int)) = .int ((swapN a b k : Nat) : Int) := by
  show (valV (putK (putK [] (Sum.inl (a : Int)) (V.int (b : Int))) (Sum.inl (b : Int)) (V.int (a : Int))) (Sum.inl (k : Int))).getD _ = _
  rw [valV_put, valV_put]
  unfold swapN
  by_cases h1 : k = a
  · subst h1
    have h2 : ¬ (Sum.inl (k : Int) : Key) = Sum.inl (b : Int) := fun e => hab (by have := Sum.inl.inj e; omega)
    rw [if_neg h2, if_pos rfl, if_pos rfl]
    rfl
  · have h2 : ¬ (Sum.inl (k : Int) : Key) = Sum.inl (a : Int) := fun e => h1 (by have := Sum.inl.inj e; omega)
    rw [if_neg h1]
    by_cases h3 : k = b
    · subst h3
      rw [if_pos rfl, if_pos rfl]
      rfl
    · have h4 : ¬ (Sum.inl (k : Int) : Key) = Sum.inl (b : Int) := fun e => h3 (by have := Sum.inl.inj e; omega)
      rw [if_neg h4, if_neg h2, if_neg h3]
      rfl
def sp_l_words : Sp := fun vs H Q _ => ∃ (d : Addr) (r : Nat), vs = [.ref d, .int (r : Int)] ∧ Dice H d ∧ 1 ≤ r ∧ r ≤ 6 ∧
  ∀ (p : Addr) (ws : List (List Bool)) (n : Nat) (H' : Hp), H p = none → p ≠ d → Exd d H H' → Dice H' d → WOk ws n r → 1 ≤ n → n ≤ 4 → H' p = some (.lst (ws.map wv)) → Q (.ref p) H'
theorem ok_l_words (T : TX K mg) : FnOk P w K mg base CX0 3 T.f_l_words T.fd_l_words ["_law_d", "_law_room"] sp_l_words := by
  refine T.F_l_words.ok sc_l_words (fun vs H Q E h => ?_) (fun cdv A outer s H vs Q E hr h => ?_)
  · obtain ⟨_, _, rfl, _⟩ := h
    rfl
  · obtain ⟨d, r, rfl, hd, hr1, hr6, q⟩ := h
    refine ⟨_, (pss_cons (ps_set (i := 2) sc_l_words.nd rfl (by first | exact Or.inl rfl | exact Or.inr rfl) pe_int)
 (pss_cons (ps_while PassesOwn.never (pt_cmpR op_lt (pe_ix ix_list (pe_lst (pa_cons pe_int (pa_cons pe_int (pa_cons pe_int (pa_cons pe_int (pa_cons pe_int pa_nil)))))) (pv 2) (fun _ _ => rfl)) (pe_op op_mul pe_int (pv 1)) (nomark _))
 (pss_one (ps_set (i := 2) sc_l_words.nd rfl (by first | exact Or.inl rfl | exact Or.inr rfl) (pe_op op_add (pv 2) pe_int))))
 (pss_cons (ps_set (i := 2) sc_l_words.nd rfl (by first | exact Or.inl rfl | exact Or.inr rfl) (pe_callB (call_min2 rfl) (by rfl) T.z_min (by decide +kernel) (pa_cons pe_int (pa_cons (pe_op op_add (pv 2) (pe_callTy call_int1 (by rfl) T.z_int (by decide +kernel) (pa_cons (pe_cmpR op_eq (pe_call (ok_l_off T) (hr.mono (by decide)) (by rfl) T.g_l_off T.F_l_off.kp T.b_l_off .nil pass0 (pa_cons (pv 0) (pa_cons pe_int pa_nil))) pe_int (nomark _)) pa_nil))) pa_nil))))
 (pss_cons (ps_set (i := 3) sc_l_words.nd rfl (by first | exact Or.inl rfl | exact Or.inr rfl) (pe_call (ok_l_gray T) (hr.mono (by decide)) (by rfl) T.g_l_gray T.F_l_gray.kp T.b_l_gray .nil pass0 (pa_cons (pv 2) pa_nil)))
 (pss_cons (ps_set (i := 4) sc_l_words.nd rfl (by first | exact Or.inl rfl | exact Or.inr rfl) (pe_op op_cat (pe_slice sl_list (pv 3) po_none (po_some (pv 1))) (pe_slice sl_list (pv 3) (po_some (pe_op op_sub (pe_callB call_len_seq (by rfl) T.z_len PySem.boot_len (pa_cons (pv 3) pa_nil)) (pv 1))) po_none)))
 (pss_cons (ps_set (i := 5) sc_l_words.nd rfl (by first | exact Or.inl rfl | exact Or.inr rfl) (pe_call (ok_l_off T) (hr.mono (by decide)) (by rfl) T.g_l_off T.F_l_off.kp T.b_l_off .nil pass0 (pa_cons (pv 0) (pa_cons pe_int pa_nil))))
 (pss_cut (ps_if (pt_cmpR op_eq (pv 5) pe_int (nomark _))
 (pss_one (ps_set (i := 4) sc_l_words.nd rfl (by first | exact Or.inl rfl | exact Or.inr rfl) (pe_slice sl_list (pe_call (ok_l_plain T) (hr.mono (by decide)) (by rfl) T.g_l_plain T.F_l_plain.kp T.b_l_plain .nil pass0 (pa_cons (pv 2) pa_nil)) po_none (po_some (pe_op op_mul pe_int (pv 1))))))
 pss_nil)
 (pss_cut (ps_if (pt_cmpR op_eq (pv 5) pe_int (nomark _))
 (pss_one (ps_set (i := 4) sc_l_words.nd rfl (by first | exact Or.inl rfl | exact Or.inr rfl) (pe_slice sl_list (pe_call (ok_l_mixed T) (hr.mono (by decide)) (by rfl) T.g_l_mixed T.F_l_mixed.kp T.b_l_mixed .nil pass0 (pa_cons (pv 0) (pa_cons (pv 3) pa_nil))) po_none (po_some (pe_op op_mul pe_int (pv 1))))))
 pss_nil)
 (pss_cut (ps_if (pt_cmpR op_eq (pv 5) pe_int (nomark _))
 (pss_cons (ps_set (i := 6) sc_l_words.nd rfl (by first | exact Or.inl rfl | exact Or.inr rfl) (pe_call (ok_l_off T) (hr.mono (by decide)) (by rfl) T.g_l_off T.F_l_off.kp T.b_l_off .nil pass0 (pa_cons (pv 0) (pa_cons (pe_op op_mul pe_int (pv 1)) pa_nil))))
 (pss_cons (ps_set (i := 7) sc_l_words.nd rfl (by first | exact Or.inl rfl | exact Or.inr rfl) (pe_op op_mod (pe_op op_add (pe_op op_add (pv 6) pe_int) (pe_call (ok_l_off T) (hr.mono (by decide)) (by rfl) T.g_l_off T.F_l_off.kp T.b_l_off .nil pass0 (pa_cons (pv 0) (pa_cons (pe_op op_sub (pe_op op_mul pe_int (pv 1)) pe_int) pa_nil)))) (pe_op op_mul pe_int (pv 1))))
 (pss_one (ps_set (i := 4) sc_l_words.nd rfl (by first | exact Or.inl rfl | exact Or.inr rfl) (pe_lc (own := [("_law_k", 8)]) (g := gName 8) (by rfl) sc_l_words.nd (pi_range1 (by rfl) T.z_range (pa_cons (pe_op op_mul pe_int (pv 1)) pa_nil)) (blkOk_by (own := [("_law_k", 8)]) (N := ["_law_d", "_law_room", "_law_wide", "_law_every", "_law_words_here", "_law_kind", "_law_at", "_law_by", "_law_k", "_law_order", "_law_turn", "_law_found", "_law_word", "_law_marks", "_law_mark"]) (sc := defScope s_l_words) (by decide +kernel)) (fun _ _ _ _ _ => pg_name (i := 8) sc_l_words.nd rfl (Or.inl rfl)) (fun _ _ _ _ _ => pts_nil) (fun _ _ _ _ _ => (pe_ix (r := rIxL K) ix_list (pv 4) (pe_dget2 (hu_of hr) (pe_disp (pps_cons (pv 6) (pv 7) (pps_cons (pv 7) (pv 6) pps_nil)) (by rfl) (by rfl) (fun z => by cases z) (by decide)) (pv 8) (pv 8) ⟨rfl, rfl, rfl, rfl⟩) (fun _ _ => rfl))))))))
 pss_nil)
 (pss_cons (ps_set (i := 9) sc_l_words.nd rfl (by first | exact Or.inl rfl | exact Or.inr rfl) (pe_call (ok_l_mixed T) (hr.mono (by decide)) (by rfl) T.g_l_mixed T.F_l_mixed.kp T.b_l_mixed .nil pass0 (pa_cons (pv 0) (pa_cons (pe_listRg rfl (by rfl) T.z_list (prg_1 (by rfl) T.z_range (pv 2))) pa_nil))))
 (pss_cons (ps_set (i := 10) sc_l_words.nd rfl (by first | exact Or.inl rfl | exact Or.inr rfl) (pe_call (ok_l_off T) (hr.mono (by decide)) (by rfl) T.g_l_off T.F_l_off.kp T.b_l_off .nil pass0 (pa_cons (pv 0) (pa_cons pe_int pa_nil))))
 (pss_cons (ps_set (i := 11) sc_l_words.nd rfl (by first | exact Or.inl rfl | exact Or.inr rfl) (pe_lst pa_nil))
 (pss_cons (ps_for PassesOwn.never rfl (pi_list (pv 4)) (pg_name (i := 12) sc_l_words.nd rfl (by first | exact Or.inl rfl | exact Or.inr rfl))
 (pss_cons (ps_setLc (i := 13) (own := [("_law_k", 8)]) (g := gName 8) (by rfl) sc_l_words.nd rfl rfl (sw_true rfl rfl rfl (by decide +kernel)) (pi_range1 (by rfl) T.z_range (pa_cons (pv 2) pa_nil)) (blkOk_by (own := [("_law_k", 8)]) (N := ["_law_d", "_law_room", "_law_wide", "_law_every", "_law_words_here", "_law_kind", "_law_at", "_law_by", "_law_k", "_law_order", "_law_turn", "_law_found", "_law_word", "_law_marks", "_law_mark"]) (sc := defScope s_l_words) (by decide +kernel)) (fun _ _ _ _ _ => pg_name (i := 8) sc_l_words.nd rfl (Or.inl rfl)) (fun _ _ _ _ _ => pts_nil) (fun _ _ _ _ _ => (pe_op op_add (pe_callTy call_int_str (by rfl) T.z_int (by decide +kernel) (pa_cons (pe_ix ix_str (pv 12) (pe_ix (r := rIxL K) ix_list (pv 9) (pv 8) (fun _ _ => rfl)) (fun _ _ => rfl)) pa_nil)) (pe_op op_fdiv (pv 10) (pe_ix (r := rIxL K) ix_list (pe_lst (pa_cons pe_int (pa_cons pe_int (pa_cons pe_int (pa_cons pe_int pa_nil))))) (pv 8) (fun _ _ => rfl))))))
 (pss_one (ps_expr (pe_bm PySem.F.plainAttrs_list PySem.F.slot_list_append PySem.F.type_list_append mt_append (pv 11) (pa_cons (pe_join pe_str (pe_lc (own := [("_law_mark", 14)]) (g := gName 14) (by rfl) sc_l_words.nd (pi_list (pv 13)) (blkOk_by (own := [("_law_mark", 14)]) (N := ["_law_d", "_law_room", "_law_wide", "_law_every", "_law_words_here", "_law_kind", "_law_at", "_law_by", "_law_k", "_law_order", "_law_turn", "_law_found", "_law_word", "_law_marks", "_law_mark"]) (sc := defScope s_l_words) (by decide +kernel)) (fun _ _ _ _ _ => pg_name (i := 14) sc_l_words.nd rfl (Or.inl rfl)) (fun _ _ _ _ _ => pts_nil) (fun _ _ _ _ _ => (pe_callTy call_str_int (by rfl) T.z_str (by decide +kernel) (pa_cons (pe_op op_mod (pv 14) pe_int) pa_nil))))) pa_nil))))))
 (pss_one (ps_ret (pv 11)))))))))))))))), ?_⟩
    refine ⟨fun f σ H' => ∃ n : Nat, σ = [some (.ref d), some (.int (r : Int)), some (.int (n : Int)), none, none, none, none, none, none, none, none, none, none, none, none] ∧ Ex H H' ∧ 1 ≤ n ∧ n + f = 4, ⟨3, 1, rfl, Ex.refl _, by omega, by omega⟩, ?_⟩
    rintro f σ H1 ⟨n, rfl, e1, n1, hnf⟩
    refine ⟨small9 (by simp), fun l nl => ?_⟩
    have el := Ex.new (o := HO.lst [.int 1, .int 2, .int 4, .int 8, .int 16]) nl
    refine ⟨_, rfl, l, _, _, _, rfl, rfl, SqL.of upd_same, tab5 (by omega), _, rfl, _, _, rfl, rfl, .inl ⟨by decide, by decide⟩, _, _, rfl, rfl, _, rfl, ?_⟩
    have e1 := e1.trans el
    generalize upd H1 l (.lst [.int 1, .int 2, .int 4, .int 8, .int 16]) = H1 at e1 ⊢
    by_cases hlt : 2 ^ n < 2 * r
    · have hn4 : n < 4 := by
        rcases Nat.lt_or_ge n 4 with h | h
        · exact h
        · have : n = 4 := by omega
          subst this
          omega
      refine ifP (decide_eq_true (by exact_mod_cast hlt)) ⟨fun σ' H' => ∃ n : Nat, σ' = [some (.ref d), some (.int (r : Int)), some (.int (n : Int)), none, none, none, none, none, none, none, none, none, none, none, none] ∧ Ex H H' ∧ 1 ≤ n ∧ n + f = 5 ∧ 0 < f, fun σ' H' ⟨n', a1, a2, a3, a4, a5⟩ => ⟨f - 1, by omega, n', a1, a2, a3, by omega⟩, ?_⟩
      exact ⟨_, rfl, _, _, rfl, rfl, n + 1, rfl, e1, by omega, by omega, by omega⟩
    refine ifN (by simp; exact_mod_cast Nat.le_of_not_lt hlt) ?_
    have hd := hd.mono e1
    have e1 := Exd.of (d := d) e1
    -- wide
    refine ⟨_, rfl, _, rfl, d, 4, rfl, hd, by decide, by decide, fun x H2 x0 x1 e2 hd2 => ⟨rfl, .inr ⟨_, rfl, _, _, rfl, rfl, _, _, rfl, ?_⟩⟩⟩
    obtain ⟨m, hm, hm1, hm4⟩ : ∃ m : Nat, (if (n : Int) + (if decide (V.int x = V.int 0) = true then (1 : Int) else 0) < 4 then (n : Int) + (if decide (V.int x = V.int 0) = true then (1 : Int) else 0) else 4) = (m : Int) ∧ n ≤ m ∧ m ≤ 4 := by
      cases decide (V.int x = V.int 0) with
      | true =>
        by_cases h : (n : Int) + 1 < 4
        · exact ⟨n + 1, by simp [h], by omega, by omega⟩
        · exact ⟨4, by simp [h], by omega, by omega⟩
      | false =>
        by_cases h : (n : Int) < 4
        · exact ⟨n, by simp [h], by omega, by omega⟩
        · exact ⟨4, by simp [h], by omega, by omega⟩
    have hpow : 2 * r ≤ 2 ^ m := Nat.le_trans (Nat.le_of_not_lt hlt) (Nat.pow_le_pow_right (by decide) hm1)
    have h16 := pow16 hm4
    have ev : V.int (if (n : Int) + (if decide (V.int x = V.int 0) = true then (1 : Int) else 0) < 4 then (n : Int) + (if decide (V.int x = V.int 0) = true then (1 : Int) else 0) else 4) = .int (m : Int) := congrArg V.int hm
    dsimp only
    rw [ev]
    obtain ⟨ndg, ndp⟩ := nodup_gray hm4
    have lg : (grayW m).length = 2 ^ m := grayW_len m
    -- every
    refine ⟨_, rfl, m, rfl, hm4, fun ey H3 ney e3 hey => ?_⟩
    have hd := hd2.mono e3
    have neyH : H ey = none := e1.fresh (e2.fresh ney (hd2.neN ney)) (hd2.neN ney)
    have neyd := hd2.neN ney
    have e13 := (e1.trans e2).trans (Exd.of e3)
    -- words_here
    refine ⟨_, rfl, _, rfl, _, rfl, ey, _, rfl, SqL.of hey, fun s1 ns1 => ?_⟩
    have es1 := Ex.new (o := HO.lst (cutV ((grayW m).map wv) none (some (r : Int)))) ns1
    have ex : (((grayW m).map wv).length : Int) - (r : Int) = ((2 ^ m - r : Nat) : Int) := by
      rw [List.length_map, lg]
      omega
    refine ⟨_, rfl, _, rfl, ey, _, rfl, .inl (SqL.of (es1 _ _ hey)), _, rfl, _, _, rfl, rfl, _, rfl, ey, _, rfl, SqL.of (es1 _ _ hey), fun s2 ns2 => ?_⟩
    have es2 := es1.trans (Ex.new (o := HO.lst (cutV ((grayW m).map wv) (some ((((grayW m).map wv).length : Int) - (r : Int))) none)) ns2)
    refine ⟨s1, s2, _, _, rfl, rfl, (Ex.new ns2) _ _ upd_same, upd_same, ?_, fun p np => ?_⟩
    · rw [ex, cutTake, cutDrop, List.length_take, List.length_drop, List.length_map, lg]
      exact small9 (by omega)
    have es3 := es2.trans (Ex.new (o := HO.lst (cutV ((grayW m).map wv) none (some (r : Int)) ++ cutV ((grayW m).map wv) (some ((((grayW m).map wv).length : Int) - (r : Int))) none)) np)
    have w0 : WOk ((grayW m).take r ++ (grayW m).drop ((grayW m).length - r)) m r := wok_ends ndg (by omega) (grayW_wide m)
    have hp := upd_same (H := upd (upd H3 s1 (.lst (cutV ((grayW m).map wv) none (some (r : Int))))) s2 (.lst (cutV ((grayW m).map wv) (some ((((grayW m).map wv).length : Int) - (r : Int))) none))) (a := p) (o := HO.lst (cutV ((grayW m).map wv) none (some (r : Int)) ++ cutV ((grayW m).map wv) (some ((((grayW m).map wv).length : Int) - (r : Int))) none))
    have hey4 := es3 _ _ hey
    have hd4 := hd.mono es3
    have npd : p ≠ d := (hd.mono es2).neN np
    have npH : H p = none := e13.fresh (fresh_back es2 np) npd
    have e14 := e13.trans (Exd.of es3)
    generalize upd (upd (upd H3 s1 (.lst (cutV ((grayW m).map wv) none (some (r : Int))))) s2 (.lst (cutV ((grayW m).map wv) (some ((((grayW m).map wv).length : Int) - (r : Int))) none))) p (.lst (cutV ((grayW m).map wv) none (some (r : Int)) ++ cutV ((grayW m).map wv) (some ((((grayW m).map wv).length : Int) - (r : Int))) none)) = H4 at hp hey4 hd4 e14 ⊢
    rw [ex, cutTake, cutDrop, ← List.map_take, ← List.map_drop, ← List.map_append, ← lg] at hp
    generalize (grayW m).take r ++ (grayW m).drop ((grayW m).length - r) = ws at hp w0
    clear es1 es2 es3 e13 e3 hey hd hd2 e1 e2
    -- kind
    refine ⟨_, rfl, d, 4, rfl, hd4, by decide, by decide, fun kd H5 k0 k1 e5 hd5 => ?_⟩
    have hp := e5 _ _ hp npd
    have hey := e5 _ _ hey4 neyd
    have e15 := e14.trans e5
    clear e14 e5 hey4 hd4
    -- kind 1
    refine ⟨fun σ H' => ∃ p ws, σ = [some (.ref d), some (.int (r : Int)), some (.int (m : Int)), some (.ref ey), some (.ref p), some (.int kd), none, none, none, none, none, none, none, none, none] ∧ Exd d H H' ∧ Dice H' d ∧ H' ey = some (.lst ((grayW m).map wv)) ∧ p ≠ d ∧ H p = none ∧ H' p = some (.lst (ws.map wv)) ∧ WOk ws m r, ?_, ?_⟩
    · refine ⟨_, rfl, rfl, _, rfl, ite2 (fun _ => ?_) (fun _ => ⟨p, ws, rfl, e15, hd5, hey, npd, npH, hp, w0⟩)⟩
      refine ⟨_, rfl, m, rfl, hm4, fun l H6 nl e6 hl => ?_⟩
      refine ⟨_, rfl, _, _, rfl, rfl, .inl ⟨by decide, by decide⟩, _, rfl, l, _, rfl, SqL.of hl, fun p2 np2 => ?_⟩
      have n2 := (hd5.mono e6).neN np2
      have e7 := e6.trans (Ex.new (o := HO.lst (cutV ((plainW m).map wv) none (some (2 * (r : Int))))) np2)
      refine ⟨p2, (plainW m).take (2 * r), rfl, e15.trans (Exd.of e7), hd5.mono e7, e7 _ _ hey, n2, e15.fresh (fresh_back e6 np2) n2, ?_, wok_take ndp (by rw [plainW_len]; exact hpow) (plainW_wide m)⟩
      rw [upd_same, show 2 * (r : Int) = ((2 * r : Nat) : Int) by omega, cutTake, List.map_take]
    rintro σ H6 ⟨p, ws, rfl, e6, hd6, hey, npd, npH, hp, w0⟩
    -- kind 2
    refine ⟨fun σ H' => ∃ p ws, σ = [some (.ref d), some (.int (r : Int)), some (.int (m : Int)), some (.ref ey), some (.ref p), some (.int kd), none, none, none, none, none, none, none, none, none] ∧ Exd d H H' ∧ Dice H' d ∧ p ≠ d ∧ H p = none ∧ H' p = some (.lst (ws.map wv)) ∧ WOk ws m r, ?_, ?_⟩
    · refine ⟨_, rfl, rfl, _, rfl, ite2 (fun _ => ?_) (fun _ => ⟨p, ws, rfl, e6, hd6, npd, npH, hp, w0⟩)⟩
      refine ⟨_, rfl, _, rfl, d, ey, _, rfl, hd6, neyd, SqL.of hey, fun x hx => ?_, by rw [List.length_map, lg]; omega, fun l ys H7 nl e7 hd7 pm hl => ?_⟩
      · obtain ⟨u, _, rfl⟩ := List.mem_map.mp hx
        exact strOk_wd u
      obtain ⟨us, rfl, pu⟩ := perm_map_inv pm rfl
      refine ⟨_, rfl, _, _, rfl, rfl, .inl ⟨by decide, by decide⟩, _, rfl, l, _, rfl, SqL.of hl, fun p2 np2 => ?_⟩
      have n2 := hd7.neN np2
      have e8 := Ex.new (o := HO.lst (cutV (us.map wv) none (some (2 * (r : Int))))) np2
      refine ⟨p2, us.take (2 * r), rfl, (e6.trans e7).trans (Exd.of e8), hd7.mono e8, n2, (e6.trans e7).fresh np2 n2, ?_, wok_take (pu.nodup_iff.mpr ndg) (by rw [pu.length_eq, lg]; exact hpow) (fun w hw => grayW_wide m w (pu.mem_iff.mp hw))⟩
      rw [upd_same, show 2 * (r : Int) = ((2 * r : Nat) : Int) by omega, cutTake, List.map_take]
    rintro σ H7 ⟨p, ws, rfl, e7, hd7, npd, npH, hp, w0⟩
    -- kind 3
    refine ⟨fun σ H' => ∃ p ws y6 y7 y8, σ = [some (.ref d), some (.int (r : Int)), some (.int (m : Int)), some (.ref ey), some (.ref p), some (.int kd), y6, y7, y8, none, none, none, none, none, none] ∧ Exd d H H' ∧ Dice H' d ∧ p ≠ d ∧ H p = none ∧ H' p = some (.lst (ws.map wv)) ∧ WOk ws m r, ?_, ?_⟩
    · refine ⟨_, rfl, rfl, _, rfl, ite2 (fun _ => ?_) (fun _ => ⟨p, ws, _, _, _, rfl, e7, hd7, npd, npH, hp, w0⟩)⟩
      refine ⟨_, rfl, _, rfl, _, _, rfl, rfl, .inl ⟨by decide, by decide⟩, d, _, rfl, hd7, by omega, by omega, fun x1 H8 x10 x11 e8 hd8 => ?_⟩
      refine ⟨_, rfl, _, _, rfl, rfl, _, rfl, _, rfl, _, _, rfl, rfl, .inl ⟨by decide, by decide⟩, _, _, rfl, rfl, d, _, rfl, hd8, by omega, by omega, fun x2 H9 x20 x21 e9 hd9 => ?_⟩
      refine ⟨_, _, rfl, rfl, _, rfl, _, _, rfl, rfl, .inl ⟨by decide, by decide⟩, _, _, rfl, rfl, by show (0 : Int) < 2 * (r : Int); omega, ?_⟩
      obtain ⟨a, rfl⟩ : ∃ a : Nat, x1 = (a : Int) := ⟨x1.toNat, by omega⟩
      obtain ⟨b, hb, hb2⟩ : ∃ b : Nat, ((a : Int) + 1 + x2) % (2 * (r : Int)) = (b : Int) ∧ b < 2 * r := by
        have h1 := Int.emod_nonneg ((a : Int) + 1 + x2) (show (2 * (r : Int)) ≠ 0 by omega)
        have h2 := Int.emod_lt_of_pos ((a : Int) + 1 + x2) (show (0 : Int) < 2 * (r : Int) by omega)
        exact ⟨(((a : Int) + 1 + x2) % (2 * (r : Int))).toNat, by omega, by omega⟩
      have ha2 : a < 2 * r := by omega
      have hab : a ≠ b := by
        intro e
        rw [emod_two (by omega) (by omega)] at hb
        split at hb <;> omega
      dsimp only
      rw [hb]
      have hp9 := e9 _ _ (e8 _ _ hp npd) npd
      have e79 := (e7.trans e8).trans e9
      refine ⟨_, rfl, _, _, rfl, rfl, .inl ⟨by decide, by decide⟩, _, rfl, by omega, by omega, fun D nD => lcR (2 * r) (fun k => wv (ws.getD (swapN a b k) [])) (by omega) (by omega) nD (fun _ => rfl) (fun k hk H10 e10 Y hY => ?_) (fun H10 e10 h10 => ?_)⟩
      · have hsw := swapN_lt ha2 hb2 hk
        refine ⟨_, rfl, fun dp ndp => ⟨_, rfl, _, rfl, _, rfl, _, rfl, upd_same, [((Sum.inl (a : Int) : Key), V.int (b : Int)), (Sum.inl (b : Int), V.int (a : Int))], rfl, by simp, dp, rfl, .inl ⟨_, .inl upd_same⟩, _, rfl, _, rfl, _, DGet.k (k := Sum.inl (k : Int)) upd_same, p, _, ((swapN a b k : Nat) : Int), wv (ws.getD (swapN a b k) []), rfl, swap_val hab k, ?_, atI_nat (getDW (by rw [w0.len]; exact hsw)), ?_⟩⟩
        · have := ((Ex.refl H10).mut (o := HO.dK []) ndp)
          exact SqL.of (((Ex.mut (Ex.new (o := HO.dK []) ndp) ndp) _ _ (e10 _ _ hp9)))
        · exact hY _ (Ex.mut (Ex.new (o := HO.dK []) ndp) ndp)
      · have nDd := hd9.neN nD
        refine ⟨D, (List.range (2 * r)).map fun k => ws.getD (swapN a b k) [], _, _, _, rfl, e79.trans (Exd.of e10), hd9.mono e10, nDd, e79.fresh nD nDd, ?_, wok_swap w0 ha2 hb2⟩
        rw [h10, List.map_map]
        rfl
    rintro σ H8 ⟨p, ws, y6, y7, y8, rfl, e8, hd8, npd, npH, hp, w0⟩
    -- order, turn
    refine ⟨_, rfl, _, rfl, _, rfl, RgOk.of_le (by omega) (by omega) (by omega) (by omega), fun l nl => ?_⟩
    have el := Ex.new (o := HO.lst (rgV 0 (m : Int))) nl
    have nld := hd8.neN nl
    have erg : rgV 0 (m : Int) = (List.range m).map fun i : Nat => V.int (0 + (i : Nat)) := by
      unfold rgV
      rw [show ((m : Int) - 0).toNat = m by omega]
    refine ⟨d, l, _, rfl, hd8.mono el, nld, SqL.of upd_same, fun x hx => ?_, by rw [erg, List.length_map, List.length_range]; omega, fun po ys H9 npo e9 hd9 pm hpo => ?_⟩
    · rw [erg] at hx
      obtain ⟨u, _, rfl⟩ := List.mem_map.mp hx
      trivial
    rw [erg] at pm
    obtain ⟨os, rfl, pos⟩ := perm_map_inv pm rfl
    have hol : os.length = m := by rw [pos.length_eq, List.length_range]
    have npod : po ≠ d := by
      intro e
      subst e
      obtain ⟨_, _, _, h1, _⟩ := hd8
      rw [el _ _ h1] at npo
      cases npo
    have hp9 := e9 _ _ (el _ _ hp) npd
    have e89 := (e8.trans (Exd.of el)).trans e9
    have npoH : H po = none := e8.fresh (fresh_back el npo) npod
    have npop : p ≠ po := ne_of_none (el _ _ hp) npo
    refine ⟨_, rfl, d, 16, rfl, hd9, by decide, by decide, fun t0 H10 t00 t01 e10 hd10 => ?_⟩
    obtain ⟨t, rfl⟩ : ∃ t : Nat, t0 = (t : Int) := ⟨t0.toNat, by omega⟩
    have hp10 := e10 _ _ hp9 npd
    have hpo10 := e10 _ _ hpo npod
    have e810 := e89.trans e10
    refine ⟨small9 (by simp), fun fo nfo => ?_⟩
    have efo := Ex.new (o := HO.lst []) nfo
    have nfod := hd10.neN nfo
    have nfoH : H fo = none := e810.fresh nfo nfod
    have nfop : p ≠ fo := ne_of_none hp10 nfo
    have nfopo : po ≠ fo := ne_of_none hpo10 nfo
    refine ⟨_, rfl, p, rfl, ⟨_, SqL.of (efo _ _ hp10)⟩, ?_⟩
    refine for_list (K := K) (a := p) (xs := ws.map wv) (fun i σ H' => ∃ y8 y12 y13 y14, σ = [some (.ref d), some (.int (r : Int)), some (.int (m : Int)), some (.ref ey), some (.ref p), some (.int kd), y6, y7, y8, some (.ref po), some (.int (t : Int)), some (.ref fo), y12, y13, y14] ∧ Exd d H H' ∧ Dice H' d ∧ H' p = some (.lst (ws.map wv)) ∧ H' po = some (.lst (os.map fun i : Nat => V.int (0 + (i : Nat)))) ∧ H' fo = some (.lst (((ws.take i).map (newW m t os)).map wv)))
      ⟨_, _, _, _, rfl, e810.trans (Exd.of efo), hd10.mono efo, efo _ _ hp10, efo _ _ hpo10, upd_same⟩ (fun i σ H' _ ⟨_, _, _, _, _, _, _, h, _⟩ => SqL.of h) ?_ ?_
    · rintro i x σ H11 hi ⟨y8, y12, y13, y14, rfl, e11, hd11, hp11, hpo11, hfo11⟩
      obtain ⟨u, hu, rfl⟩ : ∃ u, ws[i]? = some u ∧ wv u = x := by
        rw [List.getElem?_map] at hi
        cases e : ws[i]? with
        | none => rw [e] at hi; cases hi
        | some y => rw [e] at hi; exact ⟨y, rfl, Option.some.inj hi⟩
      have hul : u.length = m := w0.wide u (List.mem_of_getElem? hu)
      have hil : i < ws.length := (List.getElem?_eq_some_iff.mp hu).1
      have hwl := w0.len
      -- marks
      refine ⟨_, rfl, _, rfl, lo62 _, hi62 (by omega), fun D nD => lcR m (fun k => V.int ((if u.getD (os.getD k 0) false then 1 else 0 : Int) + (t : Int) / ((2 ^ k : Nat) : Int))) rfl (by omega) nD (fun _ => rfl) (fun k hk H12 e12 Y hY => ?_) (fun H12 e12 h12 => ?_)⟩
      · have hok : os.getD k 0 < m := by
          have h1 : os.getD k 0 ∈ os := by
            rw [List.getD_eq_getElem?_getD, List.getElem?_eq_getElem (by omega)]
            exact List.getElem_mem _
          exact List.mem_range.mp (pos.mem_iff.mp h1)
        have hat : (os.map fun i : Nat => V.int (0 + (i : Nat)))[k]? = some (V.int ((os.getD k 0 : Nat) : Int)) := by
          rw [List.getElem?_map, List.getD_eq_getElem?_getD, List.getElem?_eq_getElem (by omega)]
          show some (V.int (0 + _)) = some (V.int _)
          rw [Int.zero_add]
          rfl
        refine ⟨_, rfl, _, rfl, _, rfl, po, _, _, V.int ((os.getD k 0 : Nat) : Int), rfl, rfl, SqL.of (e12 _ _ hpo11), atI_nat hat, wd u, _, bit (u.getD (os.getD k 0) false), rfl, rfl, small9 (by rw [wd_len]; omega), atW rfl (by omega), ⟨#[bit (u.getD (os.getD k 0) false)]⟩, _, rfl, int_sgn _, by show 1 ≤ 640; decide, _, rfl, small9 (by simp), fun tb ntb => ?_⟩
        have h2k : 2 ^ k ≤ 16 := pow16 (by omega)
        have h2k0 : 0 < 2 ^ k := Nat.two_pow_pos k
        refine ⟨_, rfl, tb, _, _, _, rfl, rfl, SqL.of upd_same, tab4 (by omega), _, _, rfl, rfl, ⟨by omega, by omega⟩, _, _, rfl, rfl, ?_⟩
        exact hY _ (Ex.new ntb)
      -- joined
      have e1112 := e11.trans (Exd.of e12)
      refine ⟨_, rfl, .inl ⟨rfl, _, SqL.of (e12 _ _ hfo11)⟩, ⟨_, rfl⟩, _, rfl, D, rfl, ⟨_, SqL.of h12⟩, fun D2 nD2 => lcM (List.range m) (fun k => V.int ((if u.getD (os.getD k 0) false then 1 else 0 : Int) + (t : Int) / ((2 ^ k : Nat) : Int))) (fun k => wv [(u.getD (os.getD k 0) false != (t / 2 ^ k % 2 == 1))]) (SqL.of h12) (by rw [List.length_range]; omega) nD2 (fun _ => rfl) (fun k hk H13 e13 Y hY => ?_) (fun H13 e13 h13 => ?_)⟩
      · refine ⟨_, rfl, _, _, rfl, rfl, (by decide : (0 : Int) < 2), _, rfl, ?_, ?_⟩
        · have h1 := Int.emod_nonneg ((if u.getD (os.getD k 0) false then 1 else 0 : Int) + (t : Int) / ((2 ^ k : Nat) : Int)) (show (2 : Int) ≠ 0 by decide)
          have h2 := Int.emod_lt_of_pos ((if u.getD (os.getD k 0) false then 1 else 0 : Int) + (t : Int) / ((2 ^ k : Nat) : Int)) (show (0 : Int) < 2 by decide)
          have : (((if u.getD (os.getD k 0) false then 1 else 0 : Int) + (t : Int) / ((2 ^ k : Nat) : Int)) % 2).natAbs < 2 := by omega
          rcases (show _ = 0 ∨ _ = 1 by omega : (((if u.getD (os.getD k 0) false then 1 else 0 : Int) + (t : Int) / ((2 ^ k : Nat) : Int)) % 2).natAbs = 0 ∨ (((if u.getD (os.getD k 0) false then 1 else 0 : Int) + (t : Int) / ((2 ^ k : Nat) : Int)) % 2).natAbs = 1) with e | e <;> rw [e] <;> decide
        · rw [str_sgn, mark_bit]
          exact hY _ (Ex.refl _)
      · refine ⟨"", D2, (newW m t os u).map (fun b => wd [b]), rfl, rfl, .inl (SqL.of ?_), ?_, ?_⟩
        · rw [h13, newW, List.map_map, List.map_map]
          rfl
        · have h1 := sz_words (l := (newW m t os u).map fun b => [b]) (n := 1) (fun w hw => by obtain ⟨b, _, rfl⟩ := List.mem_map.mp hw; exact Nat.le_refl _)
          simp only [List.map_map, List.length_map, Function.comp_def] at *
          have : (newW m t os u).length = m := by simp [newW]
          rw [strE, wd_len]
          simp at *
          omega
        · rw [strE, joinB]
          have e123 := e12.trans e13
          refine ⟨fo, _, _, rfl, rfl, e123 _ _ hfo11, ?_, _, _, _, _, rfl, (e11.trans (Exd.of e123)).mut nfoH, (hd11.mono e123).upd nfod.symm, ?_, ?_, ?_⟩
          · rw [List.length_map, List.length_map, List.length_take]
            exact small1000 (by omega)
          · rw [upd_ne nfop]
            exact e123 _ _ hp11
          · rw [upd_ne nfopo]
            exact e123 _ _ hpo11
          · rw [upd_same, List.take_add_one, hu]
            simp
    · rintro σ H11 ⟨y8, y12, y13, y14, rfl, e11, hd11, hp11, hpo11, hfo11⟩
      rw [List.length_map, List.take_length] at hfo11
      exact ⟨_, rfl, q fo _ m H11 nfoH nfod e11 hd11 (wok_new w0 pos) (by omega) hm4 hfo11⟩
/-- the due answer as it stands in a heap -/
def DueAt (H : Hp) (v : V) : Option (Nat × List Bool) → Prop
  | none => v = .non
  | some (i, w) => ∃ t, v = .ref t ∧ H t = some (.tup [.int (i : Int), wv w])
theorem DueAt.mono {H H' : Hp} {v : V} {o : Option (Nat × List Bool)} (e : Ex H H') (h : DueAt H v o) : DueAt H' v o := by
  cases o with
  | none => exact h
  | some x =>
    obtain ⟨i, w⟩ := x
    obtain ⟨t, h1, h2⟩ := h
    exact ⟨t, h1, e _ _ h2⟩
def dueDat : Option (Nat × List Bool) → PyData
  | none => .none
  | some (i, w) => .tuple [.int (i : Int), .str (wd w)]
theorem DueAt.da {H : Hp} {v : V} {o : Option (Nat × List Bool)} {n : Nat} (h : DueAt H v o) : Da H (n + 1) v (dueDat o) := by
  cases o with
  | none =>
    rw [show v = .non from h]
    exact Da.non
  | some x =>
    obtain ⟨i, w⟩ := x
    obtain ⟨t, rfl, h2⟩ := h
    exact Da.tup h2 (by simp) (.cons (Da.int _) (.cons (Da.str _) .nil))
theorem retP {o : Option (Nat × List Bool)} {H : Hp} {Q : VK} (k : ∀ v H', Ex H H' → DueAt H' v o → Q v H') : RetP o H Q := by
  cases o with
  | none => exact fun H' e => k _ _ e rfl
  | some x =>
    obtain ⟨i, w⟩ := x
    exact fun p H' _ e h => k _ _ e ⟨p, rfl, h⟩
theorem ok_law (T : TX K mg) : FnOk P w K mg base CX0 7 T.f_law T.fd_law ["_law_script"] (sp_law K) := by
  refine T.F_law.ok sc_law (fun vs H Q E h => ?_) (fun cdv A outer s H vs Q E hr h => ?_)
  · obtain ⟨a, ns, rfl, _⟩ := h
    rfl
  · obtain ⟨a, ns, rfl, hS, hlen, q⟩ := h
    refine ⟨_, (pss_cons (ps_set (i := 1) sc_law.nd rfl (by first | exact Or.inl rfl | exact Or.inr rfl) (pe_call (ok_l_dice T) (hr.mono (by decide)) (by rfl) T.g_l_dice T.F_l_dice.kp T.b_l_dice .nil pass0 (pa_cons (pv 0) (pa_cons pe_int pa_nil))))
 (pss_cons (ps_set (i := 2) sc_law.nd rfl (by first | exact Or.inl rfl | exact Or.inr rfl) (pe_op op_add pe_int (pe_call (ok_l_off T) (hr.mono (by decide)) (by rfl) T.g_l_off T.F_l_off.kp T.b_l_off .nil pass0 (pa_cons (pv 1) (pa_cons pe_int pa_nil)))))
 (pss_cons (ps_set (i := 3) sc_law.nd rfl (by first | exact Or.inl rfl | exact Or.inr rfl) (pe_call (ok_l_plain T) (hr.mono (by decide)) (by rfl) T.g_l_plain T.F_l_plain.kp T.b_l_plain .nil pass0 (pa_cons (pv 2) pa_nil)))
 (pss_cons (ps_for PassesOwn.never rfl (pi_range1 (by rfl) T.z_range (pa_cons pe_int pa_nil)) (pg_name (i := 4) sc_law.nd rfl (by first | exact Or.inl rfl | exact Or.inr rfl))
 (pss_cons (ps_par (i := 5) (j := 6) (by rfl) sc_law.nd rfl rfl (by decide) rfl rfl (pa_cons (pe_ix ix_list (pv 3) (pe_call (ok_l_off T) (hr.mono (by decide)) (by rfl) T.g_l_off T.F_l_off.kp T.b_l_off .nil pass0 (pa_cons (pv 1) (pa_cons (pe_callB call_len_seq (by rfl) T.z_len PySem.boot_len (pa_cons (pv 3) pa_nil)) pa_nil))) (fun _ _ => rfl)) (pa_cons (pe_ix ix_list (pv 3) (pe_call (ok_l_off T) (hr.mono (by decide)) (by rfl) T.g_l_off T.F_l_off.kp T.b_l_off .nil pass0 (pa_cons (pv 1) (pa_cons (pe_callB call_len_seq (by rfl) T.z_len PySem.boot_len (pa_cons (pv 3) pa_nil)) pa_nil))) (fun _ _ => rfl)) pa_nil)) (by rfl))
 (pss_cons (ps_set (i := 7) sc_law.nd rfl (by first | exact Or.inl rfl | exact Or.inr rfl) (pe_call (ok_torn T) (hr.mono (by decide)) (by rfl) T.g_torn T.F_torn.kp T.b_torn .nil pass0 (pa_cons (pv 5) (pa_cons (pv 6) pa_nil))))
 (pss_cons (ps_if (pt_not (pt_val (pe_call (ok_l_alike T) (hr.mono (by decide)) (by rfl) T.g_l_alike T.F_l_alike.kp T.b_l_alike .nil pass0 (pa_cons (pv 7) (pa_cons (pe_call (ok_l_seen T) (hr.mono (by decide)) (by rfl) T.g_l_seen T.F_l_seen.kp T.b_l_seen .nil pass0 (pa_cons (pv 5) (pa_cons (pv 6) pa_nil))) pa_nil)))))
 (pss_one (ps_ret pe_bl))
 pss_nil)
 (pss_one (ps_expr (pe_bm PySem.F.plainAttrs_list PySem.F.slot_list_append PySem.F.type_list_append mt_append (pv 7) (pa_cons pe_str pa_nil))))))))
 (pss_cons (ps_for PassesOwn.never rfl (pi_range1 (by rfl) T.z_range (pa_cons pe_int pa_nil)) (pg_name (i := 4) sc_law.nd rfl (by first | exact Or.inl rfl | exact Or.inr rfl))
 (pss_cons (ps_set (i := 8) sc_law.nd rfl (by first | exact Or.inl rfl | exact Or.inr rfl) (pe_call (ok_l_words T) (hr.mono (by decide)) (by rfl) T.g_l_words T.F_l_words.kp T.b_l_words .nil pass0 (pa_cons (pv 1) (pa_cons (pe_op op_add pe_int (pe_call (ok_l_off T) (hr.mono (by decide)) (by rfl) T.g_l_off T.F_l_off.kp T.b_l_off .nil pass0 (pa_cons (pv 1) (pa_cons pe_int pa_nil)))) pa_nil))))
 (pss_cut (ps_if (pt_cmpR op_eq (pe_call (ok_l_off T) (hr.mono (by decide)) (by rfl) T.g_l_off T.F_l_off.kp T.b_l_off .nil pass0 (pa_cons (pv 1) (pa_cons pe_int pa_nil))) pe_int (nomark _))
 (pss_one (ps_set (i := 8) sc_law.nd rfl (by first | exact Or.inl rfl | exact Or.inr rfl) (pe_slice sl_list (pe_call (ok_l_mixed T) (hr.mono (by decide)) (by rfl) T.g_l_mixed T.F_l_mixed.kp T.b_l_mixed .nil pass0 (pa_cons (pv 1) (pa_cons (pv 3) pa_nil))) po_none (po_some (pe_op op_add pe_int (pe_call (ok_l_off T) (hr.mono (by decide)) (by rfl) T.g_l_off T.F_l_off.kp T.b_l_off .nil pass0 (pa_cons (pv 1) (pa_cons (pe_callB call_len_seq (by rfl) T.z_len PySem.boot_len (pa_cons (pv 3) pa_nil)) pa_nil))))))))
 pss_nil)
 (pss_cons (ps_set (i := 9) sc_law.nd rfl (by first | exact Or.inl rfl | exact Or.inr rfl) pe_non)
 (pss_cons (ps_for PassesOwn.never rfl (pi_range1 (by rfl) T.z_range (pa_cons (pe_callB call_len_seq (by rfl) T.z_len PySem.boot_len (pa_cons (pv 8) pa_nil)) pa_nil)) (pg_name (i := 10) sc_law.nd rfl (by first | exact Or.inl rfl | exact Or.inr rfl))
 (pss_cons (ps_set (i := 11) sc_law.nd rfl (by first | exact Or.inl rfl | exact Or.inr rfl) (pe_lst (pa_cons (pe_ix ix_list (pv 8) (pv 10) (fun _ _ => rfl)) (pa_cons (pe_ix ix_list (pv 8) (pe_op op_mod (pe_op op_add (pv 10) pe_int) (pe_callB call_len_seq (by rfl) T.z_len PySem.boot_len (pa_cons (pv 8) pa_nil))) (fun _ _ => rfl)) pa_nil))))
 (pss_cons (ps_setLc (i := 12) (own := [("_law_word", 13)]) (g := gName 13) (by rfl) sc_law.nd rfl rfl (sw_true rfl rfl rfl (by decide +kernel)) (pi_list (pe_call (ok_l_seen T) (hr.mono (by decide)) (by rfl) T.g_l_seen T.F_l_seen.kp T.b_l_seen .nil pass0 (pa_cons (pe_ix ix_list (pv 11) pe_int (fun _ _ => rfl)) (pa_cons (pe_ix ix_list (pv 11) pe_int (fun _ _ => rfl)) pa_nil)))) (blkOk_by (own := [("_law_word", 13)]) (N := ["_law_script", "_law_d", "_law_wide", "_law_every", "_law_turn", "_law_one", "_law_other", "_law_found", "_law_words_here", "_law_due", "_law_at", "_law_both", "_law_others", "_law_word", "_law_handed"]) (sc := defScope s_law) (by decide +kernel)) (fun _ _ _ _ _ => pg_name (i := 13) sc_law.nd rfl (Or.inl rfl)) (fun _ _ _ _ _ => (pts_one (pt_cmpR (r := rIn K true) op_notIn_seq (pv 13) (pv 11) (by rfl)))) (fun _ _ _ _ _ => (pv 13)))
 (pss_one (ps_if (PW.pt (pw_and (pt_cmpR op_isN (pv 9) pe_non (nomark _)) (pw_and1 (pt_cmpR (op_neD hr.units) (pv 12) (pe_lst pa_nil) (nomark _)))))
 (pss_one (ps_set (i := 9) sc_law.nd rfl (by first | exact Or.inl rfl | exact Or.inr rfl) (pe_tup (pa_cons (pv 10) (pa_cons (pe_ix ix_list (pv 12) pe_int (fun _ _ => rfl)) pa_nil)))))
 pss_nil)))))
 (pss_cons (ps_set (i := 14) sc_law.nd rfl (by first | exact Or.inl rfl | exact Or.inr rfl) (pe_callTy call_list_of (by rfl) T.z_list (by decide +kernel) (pa_cons (pv 8) pa_nil)))
 (pss_one (ps_if (PW.pt (pw_or (pt_not (pt_val (pe_call (ok_l_alike T) (hr.mono (by decide)) (by rfl) T.g_l_alike T.F_l_alike.kp T.b_l_alike .nil pass0 (pa_cons (pe_call (ok_first_torn T) (hr.mono (by decide)) (by rfl) T.g_first_torn T.F_first_torn.kp T.b_first_torn .nil pass0 (pa_cons (pv 14) pa_nil)) (pa_cons (pv 9) pa_nil))))) (pw_or1 (pt_cmpR (op_neD hr.units) (pv 14) (pv 8) (nomark _)))))
 (pss_one (ps_ret pe_bl))
 pss_nil))))))))
 (pss_one (ps_ret pe_bl))))))), ?_⟩
    refine ⟨.ref a, rfl, a, ns, rfl, hS, hlen, fun d H1 _ _ hd => ?_⟩
    refine ⟨_, rfl, d, 4, rfl, hd, by decide, by decide, fun r H2 r0 r1 _ hd2 => ⟨_, _, rfl, rfl, ?_⟩⟩
    obtain ⟨n, hn⟩ : ∃ n : Nat, 1 + r = (n : Int) := ⟨(1 + r).toNat, by omega⟩
    have n1 : 1 ≤ n := by omega
    have n4 : n ≤ 4 := by omega
    have h16 := pow16 n4
    have hpos : 0 < 2 ^ n := Nat.two_pow_pos n
    have ev : V.int (1 + r) = .int (n : Int) := congrArg V.int hn
    obtain ⟨_, ndp⟩ := nodup_gray n4
    have lp : (plainW n).length = 2 ^ n := plainW_len n
    dsimp only
    rw [ev]
    refine ⟨_, rfl, n, rfl, n4, fun ey H3 ney e3 hey => ?_⟩
    have nyd := hd2.neN ney
    have hd3 := hd2.mono e3
    refine ⟨6, rfl, by decide, by decide, for_range (lo := 0) (n := 6) (fun i σ H' => ∃ y4 y5 y6 y7, σ = [some (.ref a), some (.ref d), some (.int (n : Int)), some (.ref ey), y4, y5, y6, y7, none, none, none, none, none, none, none] ∧ Dice H' d ∧ H' ey = some (.lst ((plainW n).map wv))) ⟨_, _, _, _, rfl, hd3, hey⟩ ?_ ?_⟩
    · rintro i σ H4 _ ⟨y4, y5, y6, y7, rfl, hd4, hey4⟩
      refine ⟨_, rfl, _, rfl, _, rfl, ey, _, rfl, .inl (SqL.of hey4), d, _, rfl, hd4, by rw [List.length_map, lp]; omega, by rw [List.length_map, lp]; omega, fun x1 H5 x10 x11 e5 hd5 => ?_⟩
      rw [List.length_map, lp] at x11
      have hey5 := e5 _ _ hey4 nyd
      obtain ⟨k1, rfl⟩ : ∃ k : Nat, x1 = (k : Int) := ⟨x1.toNat, by omega⟩
      have hk1 : k1 < (plainW n).length := by rw [lp]; omega
      refine ⟨ey, _, _, wv ((plainW n).getD k1 []), rfl, rfl, SqL.of hey5, atI_nat (getDW hk1), ?_⟩
      refine ⟨_, rfl, _, rfl, _, rfl, ey, _, rfl, .inl (SqL.of hey5), d, _, rfl, hd5, by rw [List.length_map, lp]; omega, by rw [List.length_map, lp]; omega, fun x2 H6 x20 x21 e6 hd6 => ?_⟩
      rw [List.length_map, lp] at x21
      have hey6 := e6 _ _ hey5 nyd
      obtain ⟨k2, rfl⟩ : ∃ k : Nat, x2 = (k : Int) := ⟨x2.toNat, by omega⟩
      have hk2 : k2 < (plainW n).length := by rw [lp]; omega
      refine ⟨ey, _, _, wv ((plainW n).getD k2 []), rfl, rfl, SqL.of hey6, atI_nat (getDW hk2), _, _, rfl, ?_⟩
      have wa := plainW_wide n _ (getD_mem hk1)
      have wb := plainW_wide n _ (getD_mem hk2)
      generalize (plainW n).getD k1 [] = wa1 at wa
      generalize (plainW n).getD k2 [] = wb1 at wb
      refine ⟨_, rfl, _, rfl, wa1, wb1, n, rfl, wa, wb, n1, n4, fun p H7 np e7 hp => ?_⟩
      refine ⟨_, rfl, _, rfl, _, rfl, wa1, wb1, n, rfl, wa, wb, n4, fun p2 H8 np2 e8 hp2 => ?_⟩
      have sl : (seenW wa1 wb1).length ≤ 1000 := Nat.le_trans (seenW_len wa wb) (by omega)
      refine ⟨_, _, _, rfl, Da.strs (n := 4) (e8 _ _ hp) sl, Da.strs (n := 4) hp2 sl, fun H9 e9 => ⟨true, rfl, ifN (by simp) ?_⟩⟩
      have e79 := e8.trans e9
      refine ⟨_, rfl, .inl ⟨rfl, _, SqL.of (e79 _ _ hp)⟩, p, _, _, rfl, rfl, e79 _ _ hp, by rw [List.length_map]; exact small1000 sl, ?_⟩
      have hd9 := hd6.mono (e7.trans e79)
      refine ⟨_, _, _, _, rfl, hd9.upd (hd6.ne np), ?_⟩
      rw [upd_ne (ne_of_none hey6 np)]
      exact (e7.trans e79) _ _ hey6
    rintro σ H4 ⟨y4, y5, y6, y7, rfl, hd4, hey4⟩
    refine ⟨4, rfl, by decide, by decide, for_range (lo := 0) (n := 4) (fun i σ H' => ∃ y4 y5 y6 y7 y8 y9 y10 y11 y12 y13 y14, σ = [some (.ref a), some (.ref d), some (.int (n : Int)), some (.ref ey), y4, y5, y6, y7, y8, y9, y10, y11, y12, y13, y14] ∧ Dice H' d ∧ H' ey = some (.lst ((plainW n).map wv))) ⟨_, _, _, _, _, _, _, _, _, _, _, rfl, hd4, hey4⟩ ?_ ?_⟩
    · rintro i σ H5 _ ⟨y4, y5, y6, y7, y8, y9, y10, y11, y12, y13, y14, rfl, hd5, hey5⟩
      refine ⟨_, rfl, _, rfl, d, 6, rfl, hd5, by decide, by decide, fun x H6 x0 x1 e6 hd6 => ⟨_, _, rfl, rfl, ?_⟩⟩
      obtain ⟨rr, hrr⟩ : ∃ k : Nat, 1 + x = (k : Int) := ⟨(1 + x).toNat, by omega⟩
      have hey6 := e6 _ _ hey5 nyd
      refine ⟨d, rr, ?_, hd6, by omega, by omega, fun p ws m H7 np npd e7 hd7 wok m1 m4 hp => ?_⟩
      · show [V.ref d, V.int (1 + x)] = _
        rw [hrr]
      have hey7 := e7 _ _ hey6 nyd
      have hR0 : Round ws m := ⟨fun e => by have := wok.len; rw [e] at this; simp at this; omega, wok.wide, m1, m4, wok.nd, by rw [wok.len]; omega⟩
      refine ⟨fun σ H' => ∃ p ws m, σ = [some (.ref a), some (.ref d), some (.int (n : Int)), some (.ref ey), some (.int (0 + (i : Int))), y5, y6, y7, some (.ref p), y9, y10, y11, y12, y13, y14] ∧ Dice H' d ∧ H' ey = some (.lst ((plainW n).map wv)) ∧ Round ws m ∧ H' p = some (.lst (ws.map wv)), ?_, ?_⟩
      · refine ⟨_, rfl, d, 3, rfl, hd7, by decide, by decide, fun x H8 x0 x1 e8 hd8 => ⟨rfl, _, rfl, ite2 (fun _ => ?_) (fun _ => ⟨p, ws, m, rfl, hd8, e8 _ _ hey7 nyd, hR0, e8 _ _ hp npd⟩)⟩⟩
        have hey8 := e8 _ _ hey7 nyd
        refine ⟨_, rfl, _, rfl, d, ey, _, rfl, hd8, nyd, SqL.of hey8, fun x hx => ?_, by rw [List.length_map, lp]; omega, fun l ys H9 nl e9 hd9 pm hl => ?_⟩
        · obtain ⟨u, _, rfl⟩ := List.mem_map.mp hx
          exact strOk_wd u
        obtain ⟨us, rfl, pu⟩ := perm_map_inv pm rfl
        have nld : l ≠ d := hd8.neN nl
        have hey9 := e9 _ _ hey8 nyd
        refine ⟨_, rfl, _, rfl, ey, _, rfl, .inl (SqL.of hey9), d, _, rfl, hd9, by rw [List.length_map, lp]; omega, by rw [List.length_map, lp]; omega, fun x2 H10 x20 x21 e10 hd10 => ⟨_, _, rfl, rfl, ?_⟩⟩
        rw [List.length_map, lp] at x21
        obtain ⟨kk, hkk⟩ : ∃ k : Nat, 1 + x2 = (k : Int) := ⟨(1 + x2).toNat, by omega⟩
        refine ⟨(kk : Int), congrArg V.int hkk, l, _, rfl, SqL.of (e10 _ _ hl nld), fun p2 np2 => ?_⟩
        have e11 := Ex.new (o := HO.lst (cutV (us.map wv) none (some (kk : Int)))) np2
        have ul : us.length = 2 ^ n := by rw [pu.length_eq, lp]
        refine ⟨p2, us.take kk, n, rfl, hd10.mono e11, e11 _ _ (e10 _ _ hey9 nyd), ⟨fun e => ?_, fun w hw => plainW_wide n w (pu.mem_iff.mp (List.mem_of_mem_take hw)), n1, n4, (List.take_sublist _ _).nodup (pu.nodup_iff.mpr ndp), ?_⟩, ?_⟩
        · have := congrArg List.length e
          rw [List.length_take, ul] at this
          simp at this
          omega
        · rw [List.length_take]
          omega
        · rw [upd_same, cutTake, List.map_take]
      rintro σ H8 ⟨p, ws, m, rfl, hd8, hey8, hR, hp⟩
      have wpos := hR.pos
      have wle := hR.le
      -- due
      refine ⟨_, rfl, p, _, rfl, .inl (SqL.of hp), _, rfl, lo62 _, hi62 (by rw [List.length_map]; omega), ?_⟩
      rw [List.length_map]
      refine for_range (lo := 0) (n := ws.length) (fun j σ H' => ∃ y9 y10 y11 y12 y13 y14, σ = [some (.ref a), some (.ref d), some (.int (n : Int)), some (.ref ey), some (.int (0 + (i : Int))), y5, y6, y7, some (.ref p), some y9, y10, y11, y12, y13, y14] ∧ Ex H8 H' ∧ DueAt H' y9 (tornAt ws j)) ⟨_, _, _, _, _, _, rfl, Ex.refl _, rfl⟩ ?_ ?_
      · rintro j σ H9 hj ⟨y9, y10, y11, y12, y13, y14, rfl, e9, hdue⟩
        have ei : (0 : Int) + (j : Int) = (j : Int) := Int.zero_add _
        rw [ei]
        have hp9 := e9 _ _ hp
        have hjj : (j + 1) % ws.length < ws.length := Nat.mod_lt _ wpos
        have w1 := hR.wide _ (getD_mem hj)
        have w2 := hR.wide _ (getD_mem hjj)
        refine ⟨_, rfl, _, rfl, p, _, _, wv (ws.getD j []), rfl, rfl, SqL.of hp9, atI_nat (getDW hj), _, rfl, _, rfl, _, _, rfl, rfl, _, rfl, p, _, rfl, .inl (SqL.of hp9), _, _, rfl, rfl, ?_, p, _, _, wv (ws.getD ((j + 1) % ws.length) []), rfl, rfl, SqL.of hp9, ats ?_ (getDW hjj), small9 (by simp), fun b nb => ?_⟩
        · show (0 : Int) < ((ws.map wv).length : Int)
          rw [List.length_map]
          omega
        · rw [List.length_map]
          simp
        have eb := Ex.new (o := HO.lst [wv (ws.getD j []), wv (ws.getD ((j + 1) % ws.length) [])]) nb
        refine ⟨_, rfl, b, _, 0, _, rfl, rfl, SqL.of upd_same, atI_nat (j := 0) rfl, _, rfl, b, _, 1, _, rfl, rfl, SqL.of upd_same, atI_nat (j := 1) rfl, ?_⟩
        refine ⟨_, _, m, rfl, w1, w2, hR.n4, fun l H10 nl e10 hl => ?_⟩
        have hb3 := e10 _ _ (upd_same (H := H9) (a := b) (o := HO.lst [wv (ws.getD j []), wv (ws.getD ((j + 1) % ws.length) [])]))
        have hsl : (seenW (ws.getD j []) (ws.getD ((j + 1) % ws.length) [])).length ≤ 16 := Nat.le_trans (seenW_len w1 w2) (pow16 hR.n4)
        refine ⟨l, rfl, ⟨_, SqL.of hl⟩, fun D nD => lcFM (seenW (ws.getD j []) (ws.getD ((j + 1) % ws.length) [])) wv (fun w => !decide (w ∈ bothOf ws j)) wv (SqL.of hl) (by omega) nD (fun _ => rfl) (fun x hx H4 e4 Y N hY => ?_) (fun H11 e11 h11 => ?_)⟩
        · refine ⟨_, rfl, _, rfl, b, _, rfl, .inl (SqL.of (e4 _ _ hb3)), rfl, flatW (bothOf ws j), _, rfl, ?_⟩
          have hY := hY H4 (Ex.refl _)
          show if (!inV (wv x) ((bothOf ws j).map wv)) = true then _ else _
          rw [inV_wv]
          cases hd : decide (x ∈ bothOf ws j) with
          | true =>
            rw [hd] at hY
            exact hY
          | false =>
            rw [hd] at hY
            exact ⟨_, rfl, hY⟩
        have h11 : H11 D = some (.lst (((othersOf ws j).map wd).map V.str)) := by
          rw [h11, List.map_map]
          rfl
        have e911 := (eb.trans e10).trans e11
        have hdue := hdue.mono e911
        have e811 := e9.trans e911
        refine ⟨_, rfl, rfl, _, rfl, ?_⟩
        cases ht : tornAt ws j with
        | some x =>
          obtain ⟨k, u⟩ := x
          rw [ht] at hdue
          obtain ⟨t, rfl, htt⟩ := hdue
          have e1 : tornAt ws (j + 1) = some (k, u) := by
            unfold tornAt
            rw [ht]
          refine ifN (by simp) (ifN (by simp) ⟨_, _, _, _, _, _, rfl, e811, ?_⟩)
          rw [e1]
          exact ⟨t, rfl, htt⟩
        | none =>
          rw [ht] at hdue
          obtain rfl : y9 = .non := hdue
          refine ifP (by simp) ⟨_, rfl, small9 (by simp), fun o no => ?_⟩
          have eo := Ex.new (o := HO.lst []) no
          refine ⟨_, .list (([] : List Str).map PyData.str), dpL (SqL.of (eo _ _ h11)), dpL (SqL.of upd_same), (sdStrs (n := 0) (fun x hx => ?_)).shaped (by decide), (sdStrs (n := 0) (by simp)).shaped (by decide), _, rfl, ?_⟩
          · obtain ⟨u, _, rfl⟩ := List.mem_map.mp hx
            exact strOk_wd u
          rw [eqvStrs]
          cases hot : othersOf ws j with
          | nil =>
            refine ifN (by simp) ⟨_, _, _, _, _, _, rfl, e811.trans eo, ?_⟩
            rw [tornAt_none ht hot]
            rfl
          | cons u r =>
            rw [hot] at h11
            refine ifP (by simp) ⟨_, rfl, _, rfl, D, _, 0, wv u, rfl, rfl, SqL.of (eo _ _ h11), atI_nat (j := 0) rfl, small9 (by simp), fun t nt => ?_⟩
            refine ⟨_, _, _, _, _, _, rfl, (e811.trans eo).trans (Ex.new nt), ?_⟩
            rw [tornAt_some ht hot 0]
            exact ⟨t, rfl, upd_same⟩
      rintro σ H9 ⟨y9, y10, y11, y12, y13, y14, rfl, e9, hdue⟩
      refine ⟨_, rfl, p, _, rfl, .inl (SqL.of (e9 _ _ hp)), fun h nh => ?_⟩
      have eh := Ex.new (o := HO.lst (ws.map wv)) nh
      refine ⟨_, rfl, h, ws, m, rfl, SqL.of upd_same, hR, retP fun v H10 e10 hv => ?_⟩
      have hdue := hdue.mono (eh.trans e10)
      refine ⟨_, rfl, v, y9, dueDat (torn1 ws), rfl, hv.da (n := 4), hdue.da (n := 4), fun H11 e11 => ⟨true, rfl, ifN (by simp) ?_⟩⟩
      have eall := (eh.trans e10).trans e11
      refine ⟨_, rfl, _, rfl, _, _, dpL (l := ws.map wd) (SqL.of ?_), dpL (l := ws.map wd) (SqL.of ?_), (sdStrs (n := 0) ?ok).shaped (by decide), (sdStrs (n := 0) ?ok).shaped (by decide), _, rfl, ifN ?_ ?_⟩
      case ok =>
        intro x hx
        obtain ⟨u, _, rfl⟩ := List.mem_map.mp hx
        exact strOk_wd u
      · rw [(e10.trans e11) _ _ upd_same, List.map_map]
        rfl
      · rw [eall _ _ (e9 _ _ hp), List.map_map]
        rfl
      · rw [eqvStrs]
        simp
      · have e811 := e9.trans eall
        exact ⟨_, _, _, _, _, _, _, _, _, _, _, rfl, hd8.mono e811, e811 _ _ hey8⟩
    · rintro σ H5 _
      exact q _
end
theorem all_mk {l : PySem.W.OpenLaw} {w : World} {K : PySem.W.Frag} {h : Heap} {mg : Str → Option Value} {fa : Addr} (X : K.In h) (G : h.Ns mainGlobals mg) (hfa : mg "law" = some (.ref fa))
    {f_l_alike : Addr} {od_l_alike an_l_alike : Option Addr} {sl_l_alike : Array (Option Value)} {oc_l_alike kV_l_alike dc_l_alike pm_l_alike cd_l_alike ct_l_alike : Value}
    {f_l_dice : Addr} {od_l_dice an_l_dice : Option Addr} {sl_l_dice : Array (Option Value)} {oc_l_dice kV_l_dice dc_l_dice pm_l_dice cd_l_dice ct_l_dice : Value}
    {f_l_off : Addr} {od_l_off an_l_off : Option Addr} {sl_l_off : Array (Option Value)} {oc_l_off kV_l_off dc_l_off pm_l_off cd_l_off ct_l_off : Value}
    {f_l_mixed : Addr} {od_l_mixed an_l_mixed : Option Addr} {sl_l_mixed : Array (Option Value)} {oc_l_mixed kV_l_mixed dc_l_mixed pm_l_mixed cd_l_mixed ct_l_mixed : Value}
    {f_l_plain : Addr} {od_l_plain an_l_plain : Option Addr} {sl_l_plain : Array (Option Value)} {oc_l_plain kV_l_plain dc_l_plain pm_l_plain cd_l_plain ct_l_plain : Value}
    {f_l_seen : Addr} {od_l_seen an_l_seen : Option Addr} {sl_l_seen : Array (Option Value)} {oc_l_seen kV_l_seen dc_l_seen pm_l_seen cd_l_seen ct_l_seen : Value}
    {f_l_gray : Addr} {od_l_gray an_l_gray : Option Addr} {sl_l_gray : Array (Option Value)} {oc_l_gray kV_l_gray dc_l_gray pm_l_gray cd_l_gray ct_l_gray : Value}
    {f_l_words : Addr} {od_l_words an_l_words : Option Addr} {sl_l_words : Array (Option Value)} {oc_l_words kV_l_words dc_l_words pm_l_words cd_l_words ct_l_words : Value}
    {f_is_word : Addr} {od_is_word an_is_word : Option Addr} {sl_is_word : Array (Option Value)} {oc_is_word kV_is_word dc_is_word pm_is_word cd_is_word ct_is_word : Value}
    {f_need_words : Addr} {od_need_words an_need_words : Option Addr} {sl_need_words : Array (Option Value)} {oc_need_words kV_need_words dc_need_words pm_need_words cd_need_words ct_need_words : Value}
    {f_seen_of : Addr} {od_seen_of an_seen_of : Option Addr} {sl_seen_of : Array (Option Value)} {oc_seen_of kV_seen_of dc_seen_of pm_seen_of cd_seen_of ct_seen_of : Value}
    {f_first_torn : Addr} {od_first_torn an_first_torn : Option Addr} {sl_first_torn : Array (Option Value)} {oc_first_torn kV_first_torn dc_first_torn pm_first_torn cd_first_torn ct_first_torn : Value}
    {f_torn : Addr} {od_torn an_torn : Option Addr} {sl_torn : Array (Option Value)} {oc_torn kV_torn dc_torn pm_torn cd_torn ct_torn : Value}
    {f_law : Addr} {od_law an_law : Option Addr} {sl_law : Array (Option Value)} {oc_law kV_law dc_law pm_law cd_law ct_law : Value}
    {a_MARKS : Addr} {dd_MARKS : Option Addr} {nn_MARKS : Nat} {sl_MARKS : Array (Option Value)} {t0_MARKS t1_MARKS : Tok}
    {t_MOST_WIDE : Tok}
    (a_l_alike : PySem.W.nsIn K mainGlobals "_law_alike" = some (some (.ref f_l_alike)))
    (l_l_alike : K.lookup f_l_alike = some ⟨oc_l_alike, od_l_alike, .func (PySem.W.fnOf "_law_alike" "_law_alike" (defArgs s_l_alike) (defBody s_l_alike) (defScope s_l_alike) .none kV_l_alike dc_l_alike pm_l_alike an_l_alike cd_l_alike ct_l_alike), sl_l_alike⟩) (c_l_alike : PySem.W.codeIn K cd_l_alike "_law_alike" = true) (k_l_alike : PySem.W.keepIn K (.ref f_l_alike) = true)
    (a_l_dice : PySem.W.nsIn K mainGlobals "_law_dice" = some (some (.ref f_l_dice)))
    (l_l_dice : K.lookup f_l_dice = some ⟨oc_l_dice, od_l_dice, .func (PySem.W.fnOf "_law_dice" "_law_dice" (defArgs s_l_dice) (defBody s_l_dice) (defScope s_l_dice) .none kV_l_dice dc_l_dice pm_l_dice an_l_dice cd_l_dice ct_l_dice), sl_l_dice⟩) (c_l_dice : PySem.W.codeIn K cd_l_dice "_law_dice" = true) (k_l_dice : PySem.W.keepIn K (.ref f_l_dice) = true)
    (a_l_off : PySem.W.nsIn K mainGlobals "_law_off" = some (some (.ref f_l_off)))
    (l_l_off : K.lookup f_l_off = some ⟨oc_l_off, od_l_off, .func (PySem.W.fnOf "_law_off" "_law_off" (defArgs s_l_off) (defBody s_l_off) (defScope s_l_off) .none kV_l_off dc_l_off pm_l_off an_l_off cd_l_off ct_l_off), sl_l_off⟩) (c_l_off : PySem.W.codeIn K cd_l_off "_law_off" = true) (k_l_off : PySem.W.keepIn K (.ref f_l_off) = true)
    (a_l_mixed : PySem.W.nsIn K mainGlobals "_law_mixed" = some (some (.ref f_l_mixed)))
    (l_l_mixed : K.lookup f_l_mixed = some ⟨oc_l_mixed, od_l_mixed, .func (PySem.W.fnOf "_law_mixed" "_law_mixed" (defArgs s_l_mixed) (defBody s_l_mixed) (defScope s_l_mixed) .none kV_l_mixed dc_l_mixed pm_l_mixed an_l_mixed cd_l_mixed ct_l_mixed), sl_l_mixed⟩) (c_l_mixed : PySem.W.codeIn K cd_l_mixed "_law_mixed" = true) (k_l_mixed : PySem.W.keepIn K (.ref f_l_mixed) = true)
    (a_l_plain : PySem.W.nsIn K mainGlobals "_law_plain" = some (some (.ref f_l_plain)))
    (l_l_plain : K.lookup f_l_plain = some ⟨oc_l_plain, od_l_plain, .func (PySem.W.fnOf "_law_plain" "_law_plain" (defArgs s_l_plain) (defBody s_l_plain) (defScope s_l_plain) .none kV_l_plain dc_l_plain pm_l_plain an_l_plain cd_l_plain ct_l_plain), sl_l_plain⟩) (c_l_plain : PySem.W.codeIn K cd_l_plain "_law_plain" = true) (k_l_plain : PySem.W.keepIn K (.ref f_l_plain) = true)
    (a_l_seen : PySem.W.nsIn K mainGlobals "_law_seen" = some (some (.ref f_l_seen)))
    (l_l_seen : K.lookup f_l_seen = some ⟨oc_l_seen, od_l_seen, .func (PySem.W.fnOf "_law_seen" "_law_seen" (defArgs s_l_seen) (defBody s_l_seen) (defScope s_l_seen) .none kV_l_seen dc_l_seen pm_l_seen an_l_seen cd_l_seen ct_l_seen), sl_l_seen⟩) (c_l_seen : PySem.W.codeIn K cd_l_seen "_law_seen" = true) (k_l_seen : PySem.W.keepIn K (.ref f_l_seen) = true)
    (a_l_gray : PySem.W.nsIn K mainGlobals "_law_gray" = some (some (.ref f_l_gray)))
    (l_l_gray : K.lookup f_l_gray = some ⟨oc_l_gray, od_l_gray, .func (PySem.W.fnOf "_law_gray" "_law_gray" (defArgs s_l_gray) (defBody s_l_gray) (defScope s_l_gray) .none kV_l_gray dc_l_gray pm_l_gray an_l_gray cd_l_gray ct_l_gray), sl_l_gray⟩) (c_l_gray : PySem.W.codeIn K cd_l_gray "_law_gray" = true) (k_l_gray : PySem.W.keepIn K (.ref f_l_gray) = true)
    (a_l_words : PySem.W.nsIn K mainGlobals "_law_words" = some (some (.ref f_l_words)))
    (l_l_words : K.lookup f_l_words = some ⟨oc_l_words, od_l_words, .func (PySem.W.fnOf "_law_words" "_law_words" (defArgs s_l_words) (defBody s_l_words) (defScope s_l_words) .none kV_l_words dc_l_words pm_l_words an_l_words cd_l_words ct_l_words), sl_l_words⟩) (c_l_words : PySem.W.codeIn K cd_l_words "_law_words" = true) (k_l_words : PySem.W.keepIn K (.ref f_l_words) = true)
    (a_is_word : PySem.W.nsIn K mainGlobals "is_word" = some (some (.ref f_is_word)))
    (l_is_word : K.lookup f_is_word = some ⟨oc_is_word, od_is_word, .func (PySem.W.fnOf "is_word" "is_word" (defArgs s_is_word) (defBody s_is_word) (defScope s_is_word) .none kV_is_word dc_is_word pm_is_word an_is_word cd_is_word ct_is_word), sl_is_word⟩) (c_is_word : PySem.W.codeIn K cd_is_word "is_word" = true) (k_is_word : PySem.W.keepIn K (.ref f_is_word) = true)
    (a_need_words : PySem.W.nsIn K mainGlobals "need_words" = some (some (.ref f_need_words)))
    (l_need_words : K.lookup f_need_words = some ⟨oc_need_words, od_need_words, .func (PySem.W.fnOf "need_words" "need_words" (defArgs s_need_words) (defBody s_need_words) (defScope s_need_words) .none kV_need_words dc_need_words pm_need_words an_need_words cd_need_words ct_need_words), sl_need_words⟩) (c_need_words : PySem.W.codeIn K cd_need_words "need_words" = true) (k_need_words : PySem.W.keepIn K (.ref f_need_words) = true)
    (a_seen_of : PySem.W.nsIn K mainGlobals "seen_of" = some (some (.ref f_seen_of)))
    (l_seen_of : K.lookup f_seen_of = some ⟨oc_seen_of, od_seen_of, .func (PySem.W.fnOf "seen_of" "seen_of" (defArgs s_seen_of) (defBody s_seen_of) (defScope s_seen_of) .none kV_seen_of dc_seen_of pm_seen_of an_seen_of cd_seen_of ct_seen_of), sl_seen_of⟩) (c_seen_of : PySem.W.codeIn K cd_seen_of "seen_of" = true) (k_seen_of : PySem.W.keepIn K (.ref f_seen_of) = true)
    (a_first_torn : PySem.W.nsIn K mainGlobals "first_torn" = some (some (.ref f_first_torn)))
    (l_first_torn : K.lookup f_first_torn = some ⟨oc_first_torn, od_first_torn, .func (PySem.W.fnOf "first_torn" "first_torn" (defArgs s_first_torn) (defBody s_first_torn) (defScope s_first_torn) .none kV_first_torn dc_first_torn pm_first_torn an_first_torn cd_first_torn ct_first_torn), sl_first_torn⟩) (c_first_torn : PySem.W.codeIn K cd_first_torn "first_torn" = true) (k_first_torn : PySem.W.keepIn K (.ref f_first_torn) = true)
    (a_torn : PySem.W.nsIn K mainGlobals "torn" = some (some (.ref f_torn)))
    (l_torn : K.lookup f_torn = some ⟨oc_torn, od_torn, .func (PySem.W.fnOf "torn" "torn" (defArgs s_torn) (defBody s_torn) (defScope s_torn) .none kV_torn dc_torn pm_torn an_torn cd_torn ct_torn), sl_torn⟩) (c_torn : PySem.W.codeIn K cd_torn "torn" = true) (k_torn : PySem.W.keepIn K (.ref f_torn) = true)
    (a_law : PySem.W.nsIn K mainGlobals "law" = some (some (.ref f_law)))
    (l_law : K.lookup f_law = some ⟨oc_law, od_law, .func (PySem.W.fnOf "law" "law" (defArgs s_law) (defBody s_law) (defScope s_law) .none kV_law dc_law pm_law an_law cd_law ct_law), sl_law⟩) (c_law : PySem.W.codeIn K cd_law "law" = true) (k_law : PySem.W.keepIn K (.ref f_law) = true)
    (z_abs : PySem.W.nsIn K mainGlobals "abs" = some none)
    (z_all : PySem.W.nsIn K mainGlobals "all" = some none)
    (z_bool : PySem.W.nsIn K mainGlobals "bool" = some none)
    (z_enumerate : PySem.W.nsIn K mainGlobals "enumerate" = some none)
    (z_int : PySem.W.nsIn K mainGlobals "int" = some none)
    (z_isinstance : PySem.W.nsIn K mainGlobals "isinstance" = some none)
    (z_len : PySem.W.nsIn K mainGlobals "len" = some none)
    (z_list : PySem.W.nsIn K mainGlobals "list" = some none)
    (z_min : PySem.W.nsIn K mainGlobals "min" = some none)
    (z_range : PySem.W.nsIn K mainGlobals "range" = some none)
    (z_set : PySem.W.nsIn K mainGlobals "set" = some none)
    (z_sorted : PySem.W.nsIn K mainGlobals "sorted" = some none)
    (z_str : PySem.W.nsIn K mainGlobals "str" = some none)
    (z_tuple : PySem.W.nsIn K mainGlobals "tuple" = some none)
    (n_MARKS : PySem.W.nsIn K mainGlobals "MARKS" = some (some (.ref a_MARKS)))
    (l_MARKS : K.lookup a_MARKS = some ⟨.type "tuple", dd_MARKS, .seq #[.str "0" t0_MARKS, .str "1" t1_MARKS] nn_MARKS, sl_MARKS⟩)
    (n_MOST_WIDE : PySem.W.nsIn K mainGlobals "MOST_WIDE" = some (some (.int 4 t_MOST_WIDE)))
    : ∃ fd : FuncData, (∀ (s : Shared) (v : Value), BindsTo s fd ⟨[v], []⟩ [("_law_script", v)]) ∧ ∀ base : Heap, K.In base → base.Ns mainGlobals mg → FnOk l.prog w K mg base CX0 7 fa fd ["_law_script"] (sp_law K) := by
  have e := hfa.symm.trans (PySem.W.mg_of X G a_law)
  cases e
  have F_l_alike := fun_mk (st := s_l_alike) l_l_alike c_l_alike k_l_alike
  have b_l_alike := F_l_alike.binds (ps := ["_law_found", "_law_due"]) fun _ _ _ _ _ _ us hl => match us, hl with | [_, _], _ => rfl
  have F_l_dice := fun_mk (st := s_l_dice) l_l_dice c_l_dice k_l_dice
  have b_l_dice := F_l_dice.binds (ps := ["_law_script", "_law_k"]) fun _ _ _ _ _ _ us hl => match us, hl with | [_, _], _ => rfl
  have F_l_off := fun_mk (st := s_l_off) l_l_off c_l_off k_l_off
  have b_l_off := F_l_off.binds (ps := ["_law_d", "_law_most"]) fun _ _ _ _ _ _ us hl => match us, hl with | [_, _], _ => rfl
  have F_l_mixed := fun_mk (st := s_l_mixed) l_l_mixed c_l_mixed k_l_mixed
  have b_l_mixed := F_l_mixed.binds (ps := ["_law_d", "_law_row"]) fun _ _ _ _ _ _ us hl => match us, hl with | [_, _], _ => rfl
  have F_l_plain := fun_mk (st := s_l_plain) l_l_plain c_l_plain k_l_plain
  have b_l_plain := F_l_plain.binds (ps := ["_law_wide"]) fun _ _ _ _ _ _ us hl => match us, hl with | [_], _ => rfl
  have F_l_seen := fun_mk (st := s_l_seen) l_l_seen c_l_seen k_l_seen
  have b_l_seen := F_l_seen.binds (ps := ["_law_one", "_law_other"]) fun _ _ _ _ _ _ us hl => match us, hl with | [_, _], _ => rfl
  have F_l_gray := fun_mk (st := s_l_gray) l_l_gray c_l_gray k_l_gray
  have b_l_gray := F_l_gray.binds (ps := ["_law_wide"]) fun _ _ _ _ _ _ us hl => match us, hl with | [_], _ => rfl
  have F_l_words := fun_mk (st := s_l_words) l_l_words c_l_words k_l_words
  have b_l_words := F_l_words.binds (ps := ["_law_d", "_law_room"]) fun _ _ _ _ _ _ us hl => match us, hl with | [_, _], _ => rfl
  have F_is_word := fun_mk (st := s_is_word) l_is_word c_is_word k_is_word
  have b_is_word := F_is_word.binds (ps := ["word"]) fun _ _ _ _ _ _ us hl => match us, hl with | [_], _ => rfl
  have F_need_words := fun_mk (st := s_need_words) l_need_words c_need_words k_need_words
  have b_need_words := F_need_words.binds (ps := ["words"]) fun _ _ _ _ _ _ us hl => match us, hl with | [_], _ => rfl
  have F_seen_of := fun_mk (st := s_seen_of) l_seen_of c_seen_of k_seen_of
  have b_seen_of := F_seen_of.binds (ps := ["one", "other"]) fun _ _ _ _ _ _ us hl => match us, hl with | [_, _], _ => rfl
  have F_first_torn := fun_mk (st := s_first_torn) l_first_torn c_first_torn k_first_torn
  have b_first_torn := F_first_torn.binds (ps := ["words"]) fun _ _ _ _ _ _ us hl => match us, hl with | [_], _ => rfl
  have F_torn := fun_mk (st := s_torn) l_torn c_torn k_torn
  have b_torn := F_torn.binds (ps := ["one", "other"]) fun _ _ _ _ _ _ us hl => match us, hl with | [_, _], _ => rfl
  have F_law := fun_mk (st := s_law) l_law c_law k_law
  have b_law := F_law.binds (ps := ["_law_script"]) fun _ _ _ _ _ _ us hl => match us, hl with | [_], _ => rfl
  exact ⟨PySem.W.fnOf "law" "law" (defArgs s_law) (defBody s_law) (defScope s_law) .none kV_law dc_law pm_law an_law cd_law ct_law, fun s v => .of_eq rfl, fun base _ _ => ok_law { f_l_alike := _, fd_l_alike := _, F_l_alike := F_l_alike, b_l_alike := b_l_alike, g_l_alike := PySem.W.mg_of X G a_l_alike, f_l_dice := _, fd_l_dice := _, F_l_dice := F_l_dice, b_l_dice := b_l_dice, g_l_dice := PySem.W.mg_of X G a_l_dice, f_l_off := _, fd_l_off := _, F_l_off := F_l_off, b_l_off := b_l_off, g_l_off := PySem.W.mg_of X G a_l_off, f_l_mixed := _, fd_l_mixed := _, F_l_mixed := F_l_mixed, b_l_mixed := b_l_mixed, g_l_mixed := PySem.W.mg_of X G a_l_mixed, f_l_plain := _, fd_l_plain := _, F_l_plain := F_l_plain, b_l_plain := b_l_plain, g_l_plain := PySem.W.mg_of X G a_l_plain, f_l_seen := _, fd_l_seen := _, F_l_seen := F_l_seen, b_l_seen := b_l_seen, g_l_seen := PySem.W.mg_of X G a_l_seen, f_l_gray := _, fd_l_gray := _, F_l_gray := F_l_gray, b_l_gray := b_l_gray, g_l_gray := PySem.W.mg_of X G a_l_gray, f_l_words := _, fd_l_words := _, F_l_words := F_l_words, b_l_words := b_l_words, g_l_words := PySem.W.mg_of X G a_l_words, f_is_word := _, fd_is_word := _, F_is_word := F_is_word, b_is_word := b_is_word, g_is_word := PySem.W.mg_of X G a_is_word, f_need_words := _, fd_need_words := _, F_need_words := F_need_words, b_need_words := b_need_words, g_need_words := PySem.W.mg_of X G a_need_words, f_seen_of := _, fd_seen_of := _, F_seen_of := F_seen_of, b_seen_of := b_seen_of, g_seen_of := PySem.W.mg_of X G a_seen_of, f_first_torn := _, fd_first_torn := _, F_first_torn := F_first_torn, b_first_torn := b_first_torn, g_first_torn := PySem.W.mg_of X G a_first_torn, f_torn := _, fd_torn := _, F_torn := F_torn, b_torn := b_torn, g_torn := PySem.W.mg_of X G a_torn, f_law := _, fd_law := _, F_law := F_law, b_law := b_law, g_law := PySem.W.mg_of X G a_law, z_abs := PySem.W.mg_none_of X G z_abs, z_all := PySem.W.mg_none_of X G z_all, z_bool := PySem.W.mg_none_of X G z_bool, z_enumerate := PySem.W.mg_none_of X G z_enumerate, z_int := PySem.W.mg_none_of X G z_int, z_isinstance := PySem.W.mg_none_of X G z_isinstance, z_len := PySem.W.mg_none_of X G z_len, z_list := PySem.W.mg_none_of X G z_list, z_min := PySem.W.mg_none_of X G z_min, z_range := PySem.W.mg_none_of X G z_range, z_set := PySem.W.mg_none_of X G z_set, z_sorted := PySem.W.mg_none_of X G z_sorted, z_str := PySem.W.mg_none_of X G z_str, z_tuple := PySem.W.mg_none_of X G z_tuple, a_MARKS := a_MARKS, c_MARKS := PySem.W.mg_of X G n_MARKS, m_MARKS := fun H => .inr ⟨_, _, _, l_MARKS, rfl, rfl, (show 2 ≤ sizeLine by decide), (.cons ⟨_, rfl⟩ (.cons ⟨_, rfl⟩ .nil))⟩, t_MOST_WIDE := t_MOST_WIDE, c_MOST_WIDE := PySem.W.mg_of X G n_MOST_WIDE }⟩
end G
open PySem PySem.W PyProof.Rows
set_option maxRecDepth 100000 in
set_option maxHeartbeats 0 in
theorem PySem.Challenge.cw_crossbeat_k04_seen_while_it_turns_holds : PySem.Challenge.rw_crossbeat_k04_seen_while_it_turns.Holds := by
  w_on; o_law; k_head; (case hw => w_witness2)
  k_fill
  refine L2.walk_of (l := PySem.Challenge.rw_crossbeat_k04_seen_while_it_turns) (n := 63) (k := 7) (x := "_law_script") (CX := fun _ => L2.CX0) (sp := fun w => G.sp_law _) rfl (by decide) rfl ⟨rfl, by decide, by decide⟩ (fun w h Y => PySem.W.kIn_of Y) ?F (fun _ _ a ns hl _ hS => ⟨a, ns, rfl, hS, hl, fun _ => rfl⟩) (fun _ _ _ _ _ h => h)
  case F =>
    intro w mg fa h KX GG hmg
    refine' G.all_mk KX GG hmg ?a_l_alike ?l_l_alike ?c_l_alike ?k_l_alike ?a_l_dice ?l_l_dice ?c_l_dice ?k_l_dice ?a_l_off ?l_l_off ?c_l_off ?k_l_off ?a_l_mixed ?l_l_mixed ?c_l_mixed ?k_l_mixed ?a_l_plain ?l_l_plain ?c_l_plain ?k_l_plain ?a_l_seen ?l_l_seen ?c_l_seen ?k_l_seen ?a_l_gray ?l_l_gray ?c_l_gray ?k_l_gray ?a_l_words ?l_l_words ?c_l_words ?k_l_words ?a_is_word ?l_is_word ?c_is_word ?k_is_word ?a_need_words ?l_need_words ?c_need_words ?k_need_words ?a_seen_of ?l_seen_of ?c_seen_of ?k_seen_of ?a_first_torn ?l_first_torn ?c_first_torn ?k_first_torn ?a_torn ?l_torn ?c_torn ?k_torn ?a_law ?l_law ?c_law ?k_law ?z_abs ?z_all ?z_bool ?z_enumerate ?z_int ?z_isinstance ?z_len ?z_list ?z_min ?z_range ?z_set ?z_sorted ?z_str ?z_tuple ?n_MARKS ?l_MARKS ?n_MOST_WIDE
    (case a_l_alike => k_is)
    (case l_l_alike => k_is)
    (case c_l_alike => k_is)
    (case k_l_alike => k_is)
    (case a_l_dice => k_is)
    (case l_l_dice => k_is)
    (case c_l_dice => k_is)
    (case k_l_dice => k_is)
    (case a_l_off => k_is)
    (case l_l_off => k_is)
    (case c_l_off => k_is)
    (case k_l_off => k_is)
    (case a_l_mixed => k_is)
    (case l_l_mixed => k_is)
    (case c_l_mixed => k_is)
    (case k_l_mixed => k_is)
    (case a_l_plain => k_is)
    (case l_l_plain => k_is)
    (case c_l_plain => k_is)
    (case k_l_plain => k_is)
    (case a_l_seen => k_is)
    (case l_l_seen => k_is)
    (case c_l_seen => k_is)
    (case k_l_seen => k_is)
    (case a_l_gray => k_is)
    (case l_l_gray => k_is)
    (case c_l_gray => k_is)
    (case k_l_gray => k_is)
    (case a_l_words => k_is)
    (case l_l_words => k_is)
    (case c_l_words => k_is)
    (case k_l_words => k_is)
    (case a_is_word => k_is)
    (case l_is_word => k_is)
    (case c_is_word => k_is)
    (case k_is_word => k_is)
    (case a_need_words => k_is)
    (case l_need_words => k_is)
    (case c_need_words => k_is)
    (case k_need_words => k_is)
    (case a_seen_of => k_is)
    (case l_seen_of => k_is)
    (case c_seen_of => k_is)
    (case k_seen_of => k_is)
    (case a_first_torn => k_is)
    (case l_first_torn => k_is)
    (case c_first_torn => k_is)
    (case k_first_torn => k_is)
    (case a_torn => k_is)
    (case l_torn => k_is)
    (case c_torn => k_is)
    (case k_torn => k_is)
    (case a_law => k_is)
    (case l_law => k_is)
    (case c_law => k_is)
    (case k_law => k_is)
    (case z_abs => k_is)
    (case z_all => k_is)
    (case z_bool => k_is)
    (case z_enumerate => k_is)
    (case z_int => k_is)
    (case z_isinstance => k_is)
    (case z_len => k_is)
    (case z_list => k_is)
    (case z_min => k_is)
    (case z_range => k_is)
    (case z_set => k_is)
    (case z_sorted => k_is)
    (case z_str => k_is)
    (case z_tuple => k_is)
    (case n_MARKS => k_is)
    (case l_MARKS => k_is)
    (case n_MOST_WIDE => k_is)
#print axioms PySem.Challenge.cw_crossbeat_k04_seen_while_it_turns_holds
