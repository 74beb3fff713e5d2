import PyProof.Rows.All
import Wide.All
import OpenK.AllK
import Wide.FinOn
import HandS.ForMost
import HandS.Evl
import HandS.Style
import HandS.IsInst
import HandS.Strs
import HandS.Set
import PyProof.Rows.SetFrom
import HandS.Walk
import HandS.Conv
import PySem.Challenge.RW_crossbeat_k03_whole_rounds_by_one_mark
set_option Elab.async false
set_option linter.all false
set_option maxRecDepth 100000
set_option maxHeartbeats 4000000
namespace G
open PySem L2 Evl
def topS (i : Nat) : Stmt := PySem.Challenge.pw_crossbeat_k03_whole_rounds_by_one_mark.main.body.getD i (.Pass ⟨0, 0, 0, 0⟩)
abbrev s_l_dice : Stmt := topS 19
theorem sc_l_dice : FnScope ["_law_script", "_law_k", "_law_found", "_law_cell"] ["_law_script", "_law_k"] (defScope s_l_dice) := ⟨rfl, rfl, rfl, by decide +kernel, rfl, by decide +kernel, by decide +kernel⟩
abbrev s_l_is_round : Stmt := topS 21
theorem sc_l_is_round : FnScope ["_law_words", "_law_many", "_law_at", "_law_one", "_law_other", "_law_k"] ["_law_words", "_law_many"] (defScope s_l_is_round) := ⟨rfl, rfl, rfl, by decide +kernel, rfl, by decide +kernel, by decide +kernel⟩
abbrev s_l_off : Stmt := topS 20
theorem sc_l_off : FnScope ["_law_d", "_law_most", "_law_found"] ["_law_d", "_law_most"] (defScope s_l_off) := ⟨rfl, rfl, rfl, by decide +kernel, rfl, by decide +kernel, by decide +kernel⟩
abbrev s_mirrored : Stmt := topS 13
theorem sc_mirrored : FnScope ["wide", "found", "turn", "word"] ["wide"] (defScope s_mirrored) := ⟨rfl, rfl, rfl, by decide +kernel, rfl, by decide +kernel, by decide +kernel⟩
abbrev s_cut : Stmt := topS 15
theorem sc_cut : FnScope ["many", "wide", "every"] ["many"] (defScope s_cut) := ⟨rfl, rfl, rfl, by decide +kernel, rfl, by decide +kernel, by decide +kernel⟩
abbrev s_is_word : Stmt := topS 9
theorem sc_is_word : FnScope ["word", "mark"] ["word"] (defScope s_is_word) := ⟨rfl, rfl, rfl, by decide +kernel, rfl, by decide +kernel, by decide +kernel⟩
abbrev s_need_words : Stmt := topS 10
theorem sc_need_words : FnScope ["words", "at", "word"] ["words"] (defScope s_need_words) := ⟨rfl, rfl, rfl, by decide +kernel, rfl, by decide +kernel, by decide +kernel⟩
abbrev s_seen_of : Stmt := topS 16
theorem sc_seen_of : FnScope ["one", "other", "found", "at", "marks", "longer", "word", "mark"] ["one", "other"] (defScope s_seen_of) := ⟨rfl, rfl, rfl, by decide +kernel, rfl, by decide +kernel, by decide +kernel⟩
abbrev s_first_torn : Stmt := topS 17
theorem sc_first_torn : FnScope ["words", "at", "both", "others", "word"] ["words"] (defScope s_first_torn) := ⟨rfl, rfl, rfl, by decide +kernel, rfl, by decide +kernel, by decide +kernel⟩
abbrev s_need_wide : Stmt := topS 8
theorem sc_need_wide : FnScope ["wide"] ["wide"] (defScope s_need_wide) := ⟨rfl, rfl, rfl, by decide +kernel, rfl, by decide +kernel, by decide +kernel⟩
abbrev s_gray : Stmt := topS 14
theorem sc_gray : FnScope ["wide"] ["wide"] (defScope s_gray) := ⟨rfl, rfl, rfl, by decide +kernel, rfl, by decide +kernel, by decide +kernel⟩
abbrev s_all_words : Stmt := topS 11
theorem sc_all_words : FnScope ["wide", "found", "turn", "word"] ["wide"] (defScope s_all_words) := ⟨rfl, rfl, rfl, by decide +kernel, rfl, by decide +kernel, by decide +kernel⟩
abbrev s_plain : Stmt := topS 12
theorem sc_plain : FnScope ["wide"] ["wide"] (defScope s_plain) := ⟨rfl, rfl, rfl, by decide +kernel, rfl, by decide +kernel, by decide +kernel⟩
abbrev s_law : Stmt := topS 22
theorem sc_law : FnScope ["_law_script", "_law_d", "_law_many", "_law_words", "_law_wide", "_law_word"] ["_law_script"] (defScope s_law) := ⟨rfl, rfl, rfl, by decide +kernel, rfl, by decide +kernel, by decide +kernel⟩
structure TX (K : PySem.W.Frag) (mg : Str → Option Value) where
  f_l_dice : Addr
  fd_l_dice : FuncData
  F_l_dice : Fun K "_law_dice" "_law_dice" s_l_dice f_l_dice fd_l_dice
  b_l_dice : Binds K fd_l_dice ["_law_script", "_law_k"] []
  g_l_dice : mg "_law_dice" = some (.ref f_l_dice)
  f_l_is_round : Addr
  fd_l_is_round : FuncData
  F_l_is_round : Fun K "_law_is_round" "_law_is_round" s_l_is_round f_l_is_round fd_l_is_round
  b_l_is_round : Binds K fd_l_is_round ["_law_words", "_law_many"] []
  g_l_is_round : mg "_law_is_round" = some (.ref f_l_is_round)
  f_l_off : Addr
  fd_l_off : FuncData
  F_l_off : Fun K "_law_off" "_law_off" s_l_off f_l_off fd_l_off
  b_l_off : Binds K fd_l_off ["_law_d", "_law_most"] []
  g_l_off : mg "_law_off" = some (.ref f_l_off)
  f_mirrored : Addr
  fd_mirrored : FuncData
  F_mirrored : Fun K "mirrored" "mirrored" s_mirrored f_mirrored fd_mirrored
  b_mirrored : Binds K fd_mirrored ["wide"] []
  g_mirrored : mg "mirrored" = some (.ref f_mirrored)
  f_cut : Addr
  fd_cut : FuncData
  F_cut : Fun K "cut" "cut" s_cut f_cut fd_cut
  b_cut : Binds K fd_cut ["many"] []
  g_cut : mg "cut" = some (.ref f_cut)
  f_is_word : Addr
  fd_is_word : FuncData
  F_is_word : Fun K "is_word" "is_word" s_is_word f_is_word fd_is_word
  b_is_word : Binds K fd_is_word ["word"] []
  g_is_word : mg "is_word" = some (.ref f_is_word)
  f_need_words : Addr
  fd_need_words : FuncData
  F_need_words : Fun K "need_words" "need_words" s_need_words f_need_words fd_need_words
  b_need_words : Binds K fd_need_words ["words"] []
  g_need_words : mg "need_words" = some (.ref f_need_words)
  f_seen_of : Addr
  fd_seen_of : FuncData
  F_seen_of : Fun K "seen_of" "seen_of" s_seen_of f_seen_of fd_seen_of
  b_seen_of : Binds K fd_seen_of ["one", "other"] []
  g_seen_of : mg "seen_of" = some (.ref f_seen_of)
  f_first_torn : Addr
  fd_first_torn : FuncData
  F_first_torn : Fun K "first_torn" "first_torn" s_first_torn f_first_torn fd_first_torn
  b_first_torn : Binds K fd_first_torn ["words"] []
  g_first_torn : mg "first_torn" = some (.ref f_first_torn)
  f_need_wide : Addr
  fd_need_wide : FuncData
  F_need_wide : Fun K "need_wide" "need_wide" s_need_wide f_need_wide fd_need_wide
  b_need_wide : Binds K fd_need_wide ["wide"] []
  g_need_wide : mg "need_wide" = some (.ref f_need_wide)
  f_gray : Addr
  fd_gray : FuncData
  F_gray : Fun K "gray" "gray" s_gray f_gray fd_gray
  b_gray : Binds K fd_gray ["wide"] []
  g_gray : mg "gray" = some (.ref f_gray)
  f_all_words : Addr
  fd_all_words : FuncData
  F_all_words : Fun K "all_words" "all_words" s_all_words f_all_words fd_all_words
  b_all_words : Binds K fd_all_words ["wide"] []
  g_all_words : mg "all_words" = some (.ref f_all_words)
  f_plain : Addr
  fd_plain : FuncData
  F_plain : Fun K "plain" "plain" s_plain f_plain fd_plain
  b_plain : Binds K fd_plain ["wide"] []
  g_plain : mg "plain" = some (.ref f_plain)
  f_law : Addr
  fd_law : FuncData
  F_law : Fun K "law" "law" s_law f_law fd_law
  b_law : Binds K fd_law ["_law_script"] []
  g_law : mg "law" = some (.ref f_law)
  z_abs : mg "abs" = none
  z_enumerate : mg "enumerate" = none
  z_isinstance : mg "isinstance" = none
  z_len : mg "len" = none
  z_list : mg "list" = none
  z_range : mg "range" = none
  z_set : mg "set" = none
  z_sorted : mg "sorted" = none
  a_MARKS : Addr
  c_MARKS : mg "MARKS" = some (.ref a_MARKS)
  m_MARKS : ∀ H, SqT K H a_MARKS [.str "0", .str "1"]
  t_MOST_WIDE : Tok
  c_MOST_WIDE : mg "MOST_WIDE" = some (.int 4 t_MOST_WIDE)
  t_MOST_WORDS : Tok
  c_MOST_WORDS : mg "MOST_WORDS" = some (.int 16 t_MOST_WORDS)
/-! ### heaps -/
/-- all but d stays -/
def Exd (d : Addr) (H H' : Hp) : Prop := ∀ a o, H a = some o → a ≠ d → H' a = some o
theorem Exd.refl (d : Addr) (H : Hp) : Exd d H H := fun _ _ h _ => h
theorem Exd.trans {d : Addr} {H H1 H2 : Hp} (a : Exd d H H1) (b : Exd d H1 H2) : Exd d H H2 := fun x o h n => b x o (a x o h n) n
theorem Exd.of {d : Addr} {H H1 : Hp} (a : Ex H H1) : Exd d H H1 := fun x o h _ => a x o h
theorem Exd.upd {d : Addr} {H H1 : Hp} {o : HO} (a : Exd d H H1) : Exd d H (L2.upd H1 d o) := fun x o h n => by
  rw [upd_ne n]
  exact a x o h n
theorem ifP {c A B : Prop} [Decidable c] (h : c) (k : A) : if c then A else B := by
  rw [if_pos h]
  exact k
theorem ifN {c A B : Prop} [Decidable c] (h : ¬ c) (k : B) : if c then A else B := by
  rw [if_neg h]
  exact k
theorem evt_use {tt : TT} {σ : L2.St} {H : Hp} {b : Bool} {Q : Bool → Hp → Prop} (h : EvT tt σ H b) (k : ∀ H2, Ex H H2 → Q b H2) : tt σ H Q := h H (Ex.refl H) Q k
theorem lo62 (n : Nat) : -(2 ^ 62 : Int) ≤ (n : Int) := by omega
theorem hi62 {n : Nat} (h : n ≤ 1000) : (n : Int) < 2 ^ 62 := by omega
theorem ats {α : Type} {xs : List α} {z : Int} {j : Nat} {v : α} (e : z = (j : Int)) (h : xs[j]? = some v) : atI xs z = some v := by
  rw [e]
  exact atI_nat h
/-- the dice: two numbers and the great ones that are left -/
def Dice (H : Hp) (d : Addr) : Prop := ∃ (s c : Int) (r : List Int), H d = some (.lst ((s :: c :: r).map V.int)) ∧ 0 ≤ s ∧ s < 2147483647 ∧ 0 ≤ c ∧ ∀ x ∈ r, 0 ≤ x
def sp_l_off : Sp := fun vs H Q _ => ∃ (d : Addr) (n : Int), vs = [.ref d, .int n] ∧ Dice H d ∧ 0 < n ∧ n < 1073741824 ∧ ∀ (x : Int) (H' : Hp), 0 ≤ x → x < n → Exd d H H' → Dice H' d → Q (.int x) H'
def sp_l_dice (K : PySem.W.Frag) : Sp := fun vs H Q _ => ∃ (a : Addr) (ns : List Int), vs = [.ref a, .int 0] ∧ SqL K H a (ns.map V.int) ∧ ns.length ≤ 63 ∧ ∀ (d : Addr) (H' : Hp), H d = none → Ex H H' → Dice H' d → Q (.ref d) H'
section
variable {P : Program} {w : World} {K : PySem.W.Frag} {mg : Str → Option Value} {base : Heap}
theorem Dice.mono {H H' : Hp} {d : Addr} (e : Ex H H') (h : Dice H d) : Dice H' d := by
  obtain ⟨s, c, r, h, h1⟩ := h
  exact ⟨s, c, r, e _ _ h, h1⟩
theorem Dice.upd {H : Hp} {d p : Addr} {o : HO} (h : Dice H d) (n : d ≠ p) : Dice (L2.upd H p o) d := by
  obtain ⟨s, c, r, h, h1⟩ := h
  exact ⟨s, c, r, by rw [upd_ne n]; exact h, h1⟩
theorem Dice.ne {H : Hp} {d p : Addr} (h : Dice H d) (n : H p = none) : d ≠ p := by
  obtain ⟨s, c, r, h, _⟩ := h
  exact ne_of_none h n
/-- the law's own promise -/
def sp_law (K : PySem.W.Frag) : Sp := fun vs H Q _ => ∃ (a : Addr) (ns : List Int), vs = [.ref a] ∧ SqL K H a (ns.map V.int) ∧ ns.length ≤ 63 ∧ ∀ H', Q (.bl true) H'
end
/-! ### words -/
def bit (b : Bool) : Nat := if b then 49 else 48
def wd (bs : List Bool) : Str := ⟨(bs.map bit).toArray⟩
abbrev wv (bs : List Bool) : V := .str (wd bs)
theorem str0 : ("0" : Str) = wd [false] := by decide +kernel
theorem str1 : ("1" : Str) = wd [true] := by decide +kernel
theorem strE : ("" : Str) = wd [] := by decide +kernel
theorem wd_app (a b : List Bool) : wd a ++ wd b = wd (a ++ b) := by
  show Str.append (wd a) (wd b) = wd (a ++ b)
  simp [Str.append, wd, List.map_append]
theorem wd_len (a : List Bool) : (wd a).length = a.length := by
  show (List.map bit a).toArray.size = a.length
  simp
theorem bit_inj {a b : Bool} (h : bit a = bit b) : a = b := by
  revert h
  cases a <;> cases b <;> decide
theorem map_bit_inj : ∀ {a b : List Bool}, a.map bit = b.map bit → a = b
  | [], [], _ => rfl
  | [], _ :: _, h => by cases h
  | _ :: _, [], h => by cases h
  | x :: a, y :: b, h => by
    have h : bit x :: a.map bit = bit y :: b.map bit := h
    injection h with h1 h2
    rw [bit_inj h1, map_bit_inj h2]
theorem wd_inj {a b : List Bool} (h : wd a = wd b) : a = b := by
  have h : (a.map bit).toArray = (b.map bit).toArray := congrArg Str.cps h
  exact map_bit_inj (by simpa using congrArg Array.toList h)
theorem wv_inj {a b : List Bool} (h : wv a = wv b) : a = b := wd_inj (V.str.inj h)
theorem wd_toList (a : List Bool) : (wd a).cps.toList = a.map bit := by
  show (a.map bit).toArray.toList = _
  simp
theorem sgn (b : Bool) : (⟨#[bit b]⟩ : Str) = wd [b] := rfl
theorem small9 {n : Nat} (h : n ≤ 1000) : n ≤ sizeLine := Nat.le_of_lt (small1000 h)
/-- all words, as numbers rise; the mirrored way -/
def plainW : Nat → List (List Bool)
  | 0 => [[]]
  | n + 1 => (plainW n).map (false :: ·) ++ (plainW n).map (true :: ·)
def grayW : Nat → List (List Bool)
  | 0 => [[]]
  | n + 1 => (grayW n).map (false :: ·) ++ (grayW n).reverse.map (true :: ·)
theorem plainW_len : ∀ n, (plainW n).length = 2 ^ n
  | 0 => rfl
  | n + 1 => by
    show ((plainW n).map _ ++ (plainW n).map _).length = _
    rw [List.length_append, List.length_map, List.length_map, plainW_len n, Nat.pow_succ]
    omega
theorem grayW_len : ∀ n, (grayW n).length = 2 ^ n
  | 0 => rfl
  | n + 1 => by
    show ((grayW n).map _ ++ (grayW n).reverse.map _).length = _
    rw [List.length_append, List.length_map, List.length_map, List.length_reverse, grayW_len n, Nat.pow_succ]
    omega
theorem plainW_wide : ∀ n, ∀ w ∈ plainW n, w.length = n
  | 0, w, h => by
    cases (List.mem_singleton.mp h)
    rfl
  | n + 1, w, h => by
    rcases List.mem_append.mp h with h | h <;> obtain ⟨u, hu, rfl⟩ := List.mem_map.mp h <;> simp [plainW_wide n u hu]
theorem grayW_wide : ∀ n, ∀ w ∈ grayW n, w.length = n
  | 0, w, h => by
    cases (List.mem_singleton.mp h)
    rfl
  | n + 1, w, h => by
    rcases List.mem_append.mp h with h | h <;> obtain ⟨u, hu, rfl⟩ := List.mem_map.mp h
    · simp [grayW_wide n u hu]
    · simp [grayW_wide n u (List.mem_reverse.mp hu)]
theorem pow16 {n : Nat} (h : n ≤ 4) : 2 ^ n ≤ 16 := by
  have : n = 0 ∨ n = 1 ∨ n = 2 ∨ n = 3 ∨ n = 4 := by omega
  rcases this with rfl | rfl | rfl | rfl | rfl <;> decide
/-! ### comprehensions whose element is a value -/
section
variable {K : PySem.W.Frag}
/-- over a list; the test's answer p, the element g -/
theorem lcFM {α : Type} {a : Addr} (l : List α) (ev : α → V) (p : α → Bool) (g : α → V) {j : Nat} {tt : TT} {te : TE} {vs : List Nat} {σ : L2.St} {H1 : Hp} {D : Addr} {Qd : Hp → Prop}
    (hx : SqL K H1 a (l.map ev)) (hz : l.length ≤ 1000) (hD : H1 D = none) (hw : ∀ x, wipe ((wipe σ vs).set j (some x)) vs = wipe σ vs)
    (hs : ∀ x ∈ l, ∀ H, Ex H1 H → ∀ (Y : VK) (N : Hp → Prop), (∀ H2, Ex H H2 → if p x = true then Y (g x) H2 else N H2) → tt ((wipe σ vs).set j (some (ev x))) H fun b H3 => if b = true then te ((wipe σ vs).set j (some (ev x))) H3 Y else N H3)
    (hd : ∀ H2, Ex H1 H2 → H2 D = some (.lst ((l.filter p).map g)) → Qd H2) :
    ∃ W : Nat → Nat → Hp → Prop, (∃ m, W 0 m (upd H1 D (.lst []))) ∧ ∀ i m H, W i m H →
      ((Itl K a).stop i H ∧ Qd H) ∨ ((Itl K a).go i H ∧ ∃ Nx : Hp → Prop, (∀ H', Nx H' → ∃ m', m' < m ∧ W (i + 1) m' H') ∧ ∀ x H', (Itl K a).yld i H x H' → (gName j) x (wipe σ vs) H' fun σ2 H2 => wipe σ2 vs = wipe σ vs ∧ tt σ2 H2 fun b H3 =>
        if b = true then te σ2 H3 fun y H4 => ∃ acc, H4 D = some (.lst acc) ∧ acc.length < sizeLine ∧ Nx (upd H4 D (.lst (acc ++ [y]))) else Nx H3) := by
  refine lc_list (xs := l.map ev) (fun i H => Ex H1 H ∧ H D = some (.lst (((l.take i).filter p).map g))) ⟨Ex.new hD, upd_same⟩ (fun i H _ h => ex_l h.1 hx) (fun i x H hi h => ?_) (fun H h => ?_)
  · obtain ⟨y, hy, rfl⟩ : ∃ y, l[i]? = some y ∧ ev y = x := by
      rw [List.getElem?_map] at hi
      cases e : l[i]? with
      | none => rw [e] at hi; cases hi
      | some y => rw [e] at hi; exact ⟨y, rfl, Option.some.inj hi⟩
    have hm : y ∈ l := List.mem_of_getElem? hy
    have ht : l.take (i + 1) = l.take i ++ [y] := by rw [List.take_add_one, hy]; rfl
    refine ⟨hw _, hs y hm H h.1 _ _ fun H2 e2 => ?_⟩
    have hl : (((l.take i).filter p).map g).length < sizeLine := by
      rw [List.length_map]
      refine small1000 (Nat.le_trans (List.length_filter_le _ _) ?_)
      rw [List.length_take]
      omega
    by_cases hp : p y = true
    · rw [if_pos hp]
      refine ⟨_, e2 _ _ h.2, hl, Ex.mut (h.1.trans e2) hD, ?_⟩
      rw [upd_same, ht, List.filter_append, List.map_append]
      simp [hp]
    · rw [if_neg hp]
      refine ⟨h.1.trans e2, ?_⟩
      rw [e2 _ _ h.2, ht, List.filter_append, List.map_append]
      simp [hp]
  · refine hd H h.1 ?_
    rw [h.2, List.length_map, List.take_length]
theorem lcM {α : Type} {a : Addr} (l : List α) (ev : α → V) (g : α → V) {j : Nat} {te : TE} {vs : List Nat} {σ : L2.St} {H1 : Hp} {D : Addr} {Qd : Hp → Prop}
    (hx : SqL K H1 a (l.map ev)) (hz : l.length ≤ 1000) (hD : H1 D = none) (hw : ∀ x, wipe ((wipe σ vs).set j (some x)) vs = wipe σ vs)
    (hs : ∀ x ∈ l, ∀ H, Ex H1 H → ∀ (Y : VK), (∀ H2, Ex H H2 → Y (g x) H2) → te ((wipe σ vs).set j (some (ev x))) H Y)
    (hd : ∀ H2, Ex H1 H2 → H2 D = some (.lst (l.map g)) → Qd H2) :
    ∃ W : Nat → Nat → Hp → Prop, (∃ m, W 0 m (upd H1 D (.lst []))) ∧ ∀ i m H, W i m H →
      ((Itl K a).stop i H ∧ Qd H) ∨ ((Itl K a).go i H ∧ ∃ Nx : Hp → Prop, (∀ H', Nx H' → ∃ m', m' < m ∧ W (i + 1) m' H') ∧ ∀ x H', (Itl K a).yld i H x H' → (gName j) x (wipe σ vs) H' fun σ2 H2 => wipe σ2 vs = wipe σ vs ∧ tYes σ2 H2 fun b H3 =>
        if b = true then te σ2 H3 fun y H4 => ∃ acc, H4 D = some (.lst acc) ∧ acc.length < sizeLine ∧ Nx (upd H4 D (.lst (acc ++ [y]))) else Nx H3) :=
  lcFM l ev (fun _ => true) g hx hz hD hw (fun x hm H e Y N h => iteT (B := N H) (hs x hm H e Y fun H2 e2 => by simpa using h H2 e2)) (fun H2 e h => hd H2 e (by rw [h, List.filter_eq_self.mpr (fun _ _ => rfl)]))
/-- over range(n) -/
theorem lcRF (n : Nat) (p : Nat → Bool) (g : Nat → V) {j : Nat} {tt : TT} {te : TE} {vs : List Nat} {σ : L2.St} {H1 : Hp} {D : Addr} {Qd : Hp → Prop} {z : Int}
    (hz0 : z = (n : Int)) (hz : n ≤ 1000) (hD : H1 D = none) (hw : ∀ x, wipe ((wipe σ vs).set j (some x)) vs = wipe σ vs)
    (hs : ∀ i, i < n → ∀ H, Ex H1 H → ∀ (Y : VK) (N : Hp → Prop), (∀ H2, Ex H H2 → if p i = true then Y (g i) H2 else N H2) → tt ((wipe σ vs).set j (some (.int (i : Int)))) H fun b H3 => if b = true then te ((wipe σ vs).set j (some (.int (i : Int)))) H3 Y else N H3)
    (hd : ∀ H2, Ex H1 H2 → H2 D = some (.lst (((List.range n).filter p).map g)) → Qd H2) :
    ∃ W : Nat → Nat → Hp → Prop, (∃ m, W 0 m (upd H1 D (.lst []))) ∧ ∀ i m H, W i m H →
      ((Itr 0 z.toNat).stop i H ∧ Qd H) ∨ ((Itr 0 z.toNat).go i H ∧ ∃ Nx : Hp → Prop, (∀ H', Nx H' → ∃ m', m' < m ∧ W (i + 1) m' H') ∧ ∀ x H', (Itr 0 z.toNat).yld i H x H' → (gName j) x (wipe σ vs) H' fun σ2 H2 => wipe σ2 vs = wipe σ vs ∧ tt σ2 H2 fun b H3 =>
        if b = true then te σ2 H3 fun y H4 => ∃ acc, H4 D = some (.lst acc) ∧ acc.length < sizeLine ∧ Nx (upd H4 D (.lst (acc ++ [y]))) else Nx H3) := by
  have hn : z.toNat = n := by omega
  refine lc_range (lo := 0) (n := z.toNat) (fun i H => Ex H1 H ∧ H D = some (.lst (((List.range i).filter p).map g))) ⟨Ex.new hD, upd_same⟩ (fun i H hi h => ?_) (fun H h => ?_)
  · have e0 : (0 : Int) + (i : Int) = (i : Int) := Int.zero_add _
    rw [e0]
    refine ⟨hw _, hs i (by omega) H h.1 _ _ fun H2 e2 => ?_⟩
    have hl : (((List.range i).filter p).map g).length < sizeLine := by
      rw [List.length_map]
      refine small1000 (Nat.le_trans (List.length_filter_le _ _) ?_)
      rw [List.length_range]
      omega
    by_cases hp : p i = true
    · rw [if_pos hp]
      refine ⟨_, e2 _ _ h.2, hl, Ex.mut (h.1.trans e2) hD, ?_⟩
      rw [upd_same, List.range_succ, List.filter_append, List.map_append]
      simp [hp]
    · rw [if_neg hp]
      refine ⟨h.1.trans e2, ?_⟩
      rw [e2 _ _ h.2, List.range_succ, List.filter_append, List.map_append]
      simp [hp]
  · refine hd H h.1 ?_
    rw [h.2, hn]
theorem lcR (n : Nat) (g : Nat → V) {j : Nat} {te : TE} {vs : List Nat} {σ : L2.St} {H1 : Hp} {D : Addr} {Qd : Hp → Prop} {z : Int}
    (hz0 : z = (n : Int)) (hz : n ≤ 1000) (hD : H1 D = none) (hw : ∀ x, wipe ((wipe σ vs).set j (some x)) vs = wipe σ vs)
    (hs : ∀ i, i < n → ∀ H, Ex H1 H → ∀ (Y : VK), (∀ H2, Ex H H2 → Y (g i) H2) → te ((wipe σ vs).set j (some (.int (i : Int)))) H Y)
    (hd : ∀ H2, Ex H1 H2 → H2 D = some (.lst ((List.range n).map g)) → Qd H2) :
    ∃ W : Nat → Nat → Hp → Prop, (∃ m, W 0 m (upd H1 D (.lst []))) ∧ ∀ i m H, W i m H →
      ((Itr 0 z.toNat).stop i H ∧ Qd H) ∨ ((Itr 0 z.toNat).go i H ∧ ∃ Nx : Hp → Prop, (∀ H', Nx H' → ∃ m', m' < m ∧ W (i + 1) m' H') ∧ ∀ x H', (Itr 0 z.toNat).yld i H x H' → (gName j) x (wipe σ vs) H' fun σ2 H2 => wipe σ2 vs = wipe σ vs ∧ tYes σ2 H2 fun b H3 =>
        if b = true then te σ2 H3 fun y H4 => ∃ acc, H4 D = some (.lst acc) ∧ acc.length < sizeLine ∧ Nx (upd H4 D (.lst (acc ++ [y]))) else Nx H3) :=
  lcRF n (fun _ => true) g hz0 hz hD hw (fun i hi H e Y N h => iteT (B := N H) (hs i hi H e Y fun H2 e2 => by simpa using h H2 e2)) (fun H2 e h => hd H2 e (by rw [h, List.filter_eq_self.mpr (fun _ _ => rfl)]))
end
section
variable {K : PySem.W.Frag}
/-- a comprehension over anything that is walked -/
theorem lcW {α : Type} {J : It} {Gd : Hp → Prop} (l : List α) (ev : α → V) (p : α → Bool) (g : α → V) (wk : Walk J l.length Gd (fun i H x H' => H' = H ∧ ∃ y, l[i]? = some y ∧ x = ev y)) {j : Nat} {tt : TT} {te : TE} {vs : List Nat} {σ : L2.St} {H1 : Hp} {D : Addr} {Qd : Hp → Prop}
    (hG : ∀ H, Ex H1 H → Gd H) (hz : l.length ≤ 1000) (hD : H1 D = none) (hw : ∀ x, wipe ((wipe σ vs).set j (some x)) vs = wipe σ vs)
    (hs : ∀ x ∈ l, ∀ H, Ex H1 H → ∀ (Y : VK) (N : Hp → Prop), (∀ H2, Ex H H2 → if p x = true then Y (g x) H2 else N H2) → tt ((wipe σ vs).set j (some (ev x))) H fun b H3 => if b = true then te ((wipe σ vs).set j (some (ev x))) H3 Y else N H3)
    (hd : ∀ H2, Ex H1 H2 → H2 D = some (.lst ((l.filter p).map g)) → Qd H2) :
    ∃ W : Nat → Nat → Hp → Prop, (∃ m, W 0 m (upd H1 D (.lst []))) ∧ ∀ i m H, W i m H →
      (J.stop i H ∧ Qd H) ∨ (J.go i H ∧ ∃ Nx : Hp → Prop, (∀ H', Nx H' → ∃ m', m' < m ∧ W (i + 1) m' H') ∧ ∀ x H', J.yld i H x H' → (gName j) x (wipe σ vs) H' fun σ2 H2 => wipe σ2 vs = wipe σ vs ∧ tt σ2 H2 fun b H3 =>
        if b = true then te σ2 H3 fun y H4 => ∃ acc, H4 D = some (.lst acc) ∧ acc.length < sizeLine ∧ Nx (upd H4 D (.lst (acc ++ [y]))) else Nx H3) := by
  refine lc_it wk (fun i H => Ex H1 H ∧ H D = some (.lst (((l.take i).filter p).map g))) ⟨Ex.new hD, upd_same⟩ (fun i H _ h => hG H h.1) (fun i x H H' hi h hy => ?_) (fun H h => ?_)
  · obtain ⟨rfl, y, hy, rfl⟩ := hy
    have hm : y ∈ l := List.mem_of_getElem? hy
    have ht : l.take (i + 1) = l.take i ++ [y] := by rw [List.take_add_one, hy]; rfl
    refine ⟨hw _, hs y hm _ h.1 _ _ fun H2 e2 => ?_⟩
    have hl : (((l.take i).filter p).map g).length < sizeLine := by
      rw [List.length_map]
      refine small1000 (Nat.le_trans (List.length_filter_le _ _) ?_)
      rw [List.length_take]
      omega
    by_cases hp : p y = true
    · rw [if_pos hp]
      refine ⟨_, e2 _ _ h.2, hl, Ex.mut (h.1.trans e2) hD, ?_⟩
      rw [upd_same, ht, List.filter_append, List.map_append]
      simp [hp]
    · rw [if_neg hp]
      refine ⟨h.1.trans e2, ?_⟩
      rw [e2 _ _ h.2, ht, List.filter_append, List.map_append]
      simp [hp]
  · refine hd H h.1 ?_
    rw [h.2, List.take_length]
theorem walk_sgn (z : Str) : Walk (Its z) z.cps.toList.length (fun _ => True) (fun i H x H' => H' = H ∧ ∃ y, z.cps.toList[i]? = some y ∧ x = V.str ⟨#[y]⟩) := by
  rw [Array.length_toList]
  exact walk_str.mono (fun _ h => h) (fun i H x H' _ _ ⟨h1, c, h2, h3⟩ => ⟨h1, c, by rw [Array.getElem?_toList]; exact h2, h3⟩)
theorem cutTake {xs : List V} {n : Nat} : cutV xs none (some (n : Int)) = xs.take n := by
  unfold cutV
  rw [show HT.sIx xs.length xs.length (some (n : Int)) = min n xs.length from HT.sIx_nat xs.length xs.length n, HT.sIx_none, List.drop_zero, Nat.sub_zero]
  exact List.take_eq_take_iff.mpr (by omega)
theorem cutDrop {xs : List V} {n : Nat} : cutV xs (some (n : Int)) none = xs.drop n := by
  unfold cutV
  rw [show HT.sIx xs.length 0 (some (n : Int)) = min n xs.length from HT.sIx_nat xs.length 0 n, HT.sIx_none]
  by_cases h : n ≤ xs.length
  · rw [Nat.min_eq_left h, List.take_of_length_le (by simp)]
  · rw [Nat.min_eq_right (by omega), List.drop_of_length_le (Nat.le_refl _), List.drop_of_length_le (by omega)]
    simp
theorem inV_wv (w : List Bool) (l : List (List Bool)) : inV (wv w) (l.map wv) = decide (w ∈ l) := by
  unfold inV
  rw [List.any_map]
  by_cases h : w ∈ l
  · rw [decide_eq_true h, List.any_eq_true]
    exact ⟨w, h, by simp [eqV]⟩
  · rw [decide_eq_false h, List.any_eq_false]
    intro x hx he
    have he : eqV (wv x) (wv w) = true := he
    refine h ?_
    have : wd x = wd w := by simpa [eqV] using he
    rw [← wd_inj this]
    exact hx
theorem flatW (l : List (List Bool)) : (l.map wv).all flatV = true := by
  rw [List.all_eq_true]
  intro x hx
  obtain ⟨w, _, rfl⟩ := List.mem_map.mp hx
  rfl
end
theorem atW {w : List Bool} {i : Nat} {z : Int} (e : z = (i : Int)) (h : i < w.length) : atI (wd w).cps.toList z = some (bit (w.getD i false)) := by
  refine ats e ?_
  rw [wd_toList, List.getElem?_map, List.getD_eq_getElem?_getD, List.getElem?_eq_getElem h]
  rfl
theorem dec_sgn (a b : Bool) : (!decide (V.str ⟨#[bit a]⟩ = V.str ⟨#[bit b]⟩)) = (a != b) := by
  cases a <;> cases b <;> decide
/-! ### data of a bounded depth: None, ints, texts, lists and tuples -/
def Leaf (v : V) (d : PyData) : Prop := (v = .non ∧ d = .none) ∨ (∃ i, v = .int i ∧ d = .int i) ∨ (∃ x, v = .str x ∧ d = .str x)
def Da (H : Hp) : Nat → V → PyData → Prop
  | 0, v, d => Leaf v d
  | n + 1, v, d => Leaf v d ∨ (∃ a xs ds, v = .ref a ∧ d = .list ds ∧ H a = some (.lst xs) ∧ xs.length ≤ 1000 ∧ Paired (Da H n) xs ds) ∨ (∃ a xs ds, v = .ref a ∧ d = .tuple ds ∧ H a = some (.tup xs) ∧ xs.length ≤ 1000 ∧ Paired (Da H n) xs ds)
theorem paired_imp {α β : Type} {R S : α → β → Prop} (h : ∀ a b, R a b → S a b) : ∀ {xs : List α} {ys : List β}, Paired R xs ys → Paired S xs ys
  | _, _, .nil => .nil
  | _, _, .cons r t => .cons (h _ _ r) (paired_imp h t)
theorem Da.mono {H H' : Hp} (e : Ex H H') : ∀ {n : Nat} {v : V} {d : PyData}, Da H n v d → Da H' n v d
  | 0, _, _, h => h
  | n + 1, _, _, h => by
    rcases h with h | ⟨a, xs, ds, h1, h2, h3, h4, h5⟩ | ⟨a, xs, ds, h1, h2, h3, h4, h5⟩
    · exact .inl h
    · exact .inr (.inl ⟨a, xs, ds, h1, h2, e _ _ h3, h4, paired_imp (fun _ _ => Da.mono e) h5⟩)
    · exact .inr (.inr ⟨a, xs, ds, h1, h2, e _ _ h3, h4, paired_imp (fun _ _ => Da.mono e) h5⟩)
theorem Da.leaf {H : Hp} {v : V} {d : PyData} (h : Leaf v d) : ∀ {n : Nat}, Da H n v d
  | 0 => h
  | _ + 1 => .inl h
theorem Da.int {H : Hp} {n : Nat} (i : Int) : Da H n (.int i) (.int i) := Da.leaf (.inr (.inl ⟨i, rfl, rfl⟩))
theorem Da.str {H : Hp} {n : Nat} (x : Str) : Da H n (.str x) (.str x) := Da.leaf (.inr (.inr ⟨x, rfl, rfl⟩))
theorem Da.non {H : Hp} {n : Nat} : Da H n .non .none := Da.leaf (.inl ⟨rfl, rfl⟩)
theorem Da.lst {H : Hp} {n : Nat} {a : Addr} {xs : List V} {ds : List PyData} (h : H a = some (.lst xs)) (l : xs.length ≤ 1000) (p : Paired (Da H n) xs ds) : Da H (n + 1) (.ref a) (.list ds) := .inr (.inl ⟨a, xs, ds, rfl, rfl, h, l, p⟩)
theorem Da.tup {H : Hp} {n : Nat} {a : Addr} {xs : List V} {ds : List PyData} (h : H a = some (.tup xs)) (l : xs.length ≤ 1000) (p : Paired (Da H n) xs ds) : Da H (n + 1) (.ref a) (.tuple ds) := .inr (.inr ⟨a, xs, ds, rfl, rfl, h, l, p⟩)
theorem paired_map {α β γ : Type} {R : α → β → Prop} (f : γ → α) (g : γ → β) : ∀ (l : List γ), (∀ x ∈ l, R (f x) (g x)) → Paired R (l.map f) (l.map g)
  | [], _ => .nil
  | x :: l, h => .cons (h x List.mem_cons_self) (paired_map f g l fun y hy => h y (List.mem_cons_of_mem _ hy))
theorem Da.strs {H : Hp} {n : Nat} {a : Addr} {l : List (List Bool)} (h : H a = some (.lst (l.map wv))) (hl : l.length ≤ 1000) : Da H (n + 1) (.ref a) (.list (l.map fun w => .str (wd w))) :=
  Da.lst h (by simpa using hl) (paired_map _ _ l fun w _ => Da.str _)
theorem paired_at {α β : Type} {R : α → β → Prop} : ∀ {xs : List α} {ys : List β} {i : Nat}, Paired R xs ys → i < ys.length → ∃ x y, xs[i]? = some x ∧ ys[i]? = some y ∧ R x y
  | _, _, i, .nil, h => absurd h (Nat.not_lt_zero _)
  | _, _, 0, .cons r _, _ => ⟨_, _, rfl, rfl, r⟩
  | _, _, i + 1, .cons _ t, h => paired_at (i := i) t (Nat.lt_of_succ_lt_succ h)
theorem paired_len {α β : Type} {R : α → β → Prop} : ∀ {xs : List α} {ys : List β}, Paired R xs ys → xs.length = ys.length
  | _, _, .nil => rfl
  | _, _, .cons _ t => congrArg (· + 1) (paired_len t)
/-! ### data compared -/
def Sd : Nat → PyData → Prop
  | _, .none => True
  | _, .bool _ => True
  | _, .int _ => True
  | _, .str x => PyData.strOk x = true
  | 0, _ => False
  | n + 1, .list ds => ∀ d ∈ ds, Sd n d
  | n + 1, .tuple ds => ∀ d ∈ ds, Sd n d
  | _ + 1, .dict _ => False
theorem strOk_wd (b : List Bool) : PyData.strOk (wd b) = true := by
  unfold PyData.strOk
  rw [← Array.all_toList, wd_toList, List.all_eq_true]
  intro x hx
  obtain ⟨c, _, rfl⟩ := List.mem_map.mp hx
  cases c <;> decide
theorem canAll : ∀ {ds : List PyData}, (∀ d ∈ ds, d.canLay0 = true) → PyData.canLayAll0 ds = true
  | [], _ => rfl
  | d :: ds, h => by
    rw [PyData.canLayAll0, h d List.mem_cons_self, canAll fun x hx => h x (List.mem_cons_of_mem _ hx)]
    rfl
theorem depthAll_le {n : Nat} : ∀ {ds : List PyData}, (∀ d ∈ ds, d.depth ≤ n) → PyData.depthAll ds ≤ n
  | [], _ => by
    rw [PyData.depthAll]
    exact Nat.zero_le _
  | d :: ds, h => by
    rw [PyData.depthAll]
    exact Nat.max_le.mpr ⟨h d List.mem_cons_self, depthAll_le fun x hx => h x (List.mem_cons_of_mem _ hx)⟩
theorem Sd.ok : ∀ {n : Nat} {d : PyData}, Sd n d → d.canLay0 = true ∧ d.depth ≤ n := by
  intro n
  induction n with
  | zero =>
    intro d h
    cases d with
    | none => exact ⟨by rw [PyData.canLay0], by rw [PyData.depth] <;> simp⟩
    | bool b => exact ⟨by rw [PyData.canLay0], by rw [PyData.depth] <;> simp⟩
    | int i => exact ⟨by rw [PyData.canLay0], by rw [PyData.depth] <;> simp⟩
    | str x => exact ⟨by rw [PyData.canLay0]; exact h, by rw [PyData.depth] <;> simp⟩
    | list ds => exact h.elim
    | tuple ds => exact h.elim
    | dict ds => exact h.elim
  | succ n ih =>
    intro d h
    cases d with
    | none => exact ⟨by rw [PyData.canLay0], by rw [PyData.depth] <;> simp⟩
    | bool b => exact ⟨by rw [PyData.canLay0], by rw [PyData.depth] <;> simp⟩
    | int i => exact ⟨by rw [PyData.canLay0], by rw [PyData.depth] <;> simp⟩
    | str x => exact ⟨by rw [PyData.canLay0]; exact h, by rw [PyData.depth] <;> simp⟩
    | list ds => exact ⟨by rw [PyData.canLay0]; exact canAll fun x hx => (ih (h x hx)).1, by rw [PyData.depth]; exact Nat.succ_le_succ (depthAll_le fun x hx => (ih (h x hx)).2)⟩
    | tuple ds => exact ⟨by rw [PyData.canLay0]; exact canAll fun x hx => (ih (h x hx)).1, by rw [PyData.depth]; exact Nat.succ_le_succ (depthAll_le fun x hx => (ih (h x hx)).2)⟩
    | dict ds => exact h.elim
theorem Sd.shaped {n : Nat} {d : PyData} (h : Sd n d) (hn : n ≤ 64) : SeqAt.shaped d = true := by
  obtain ⟨h1, h2⟩ := h.ok
  unfold SeqAt.shaped
  rw [h1, decide_eq_true (Nat.le_trans h2 hn)]
  rfl
theorem dpAll_of {K : PySem.W.Frag} {H : Hp} {R : V → PyData → Prop} (hR : ∀ v d, R v d → Dp K H v d) : ∀ {xs : List V} {ds : List PyData}, Paired R xs ds → DpAll K H xs ds
  | _, _, .nil => .nil
  | _, _, .cons r t => .cons (hR _ _ r) (dpAll_of hR t)
theorem Da.dp {K : PySem.W.Frag} {H : Hp} : ∀ {n : Nat} {v : V} {d : PyData}, Da H n v d → Dp K H v d := by
  have leaf : ∀ {v : V} {d : PyData}, Leaf v d → Dp K H v d := by
    rintro v d (⟨rfl, rfl⟩ | ⟨i, rfl, rfl⟩ | ⟨x, rfl, rfl⟩)
    · exact .non
    · exact .int i
    · exact .str x
  intro n
  induction n with
  | zero => exact fun h => leaf h
  | succ n ih =>
    rintro v d (h | ⟨a, xs, ds, rfl, rfl, h1, h2, h3⟩ | ⟨a, xs, ds, rfl, rfl, h1, h2, h3⟩)
    · exact leaf h
    · exact .lst (SqL.of h1) (dpAll_of (fun _ _ => ih) h3)
    · exact .tup (SqT.of h1) (dpAll_of (fun _ _ => ih) h3)
theorem dpStrs {K : PySem.W.Frag} {H : Hp} : ∀ (l : List Str), DpAll K H (l.map V.str) (l.map PyData.str)
  | [] => .nil
  | x :: l => .cons (.str x) (dpStrs l)
theorem dpL {K : PySem.W.Frag} {H : Hp} {a : Addr} {l : List Str} (h : SqL K H a (l.map V.str)) : Dp K H (.ref a) (.list (l.map PyData.str)) := .lst h (dpStrs l)
theorem sdStrs {n : Nat} {l : List Str} (h : ∀ x ∈ l, PyData.strOk x = true) : Sd (n + 1) (.list (l.map PyData.str)) := fun d hd => by
  obtain ⟨x, hx, rfl⟩ := List.mem_map.mp hd
  cases n <;> exact h x hx
theorem eqvStrs : ∀ (l m : List Str), PyData.eqv (.list (l.map PyData.str)) (.list (m.map PyData.str)) = decide (l = m) := by
  intro l m
  rw [PyData.eqv]
  induction l generalizing m with
  | nil =>
    cases m with
    | nil => rfl
    | cons y m => rfl
  | cons x l ih =>
    cases m with
    | nil => rfl
    | cons y m =>
      show PyData.eqvAll (.str x :: l.map PyData.str) (.str y :: m.map PyData.str) = _
      rw [PyData.eqvAll, ih m, PyData.eqv]
      by_cases h1 : x = y
      · by_cases h2 : l = m
        · simp [h1, h2]
        · simp [h1, h2]
      · simp [h1]
/-! ### sets of texts: set(list of texts), sorted of it, its length -/
section
open PyProof.Rows
def kOf (e : Int × Value) : Str := match e.2 with
  | .str k _ => k
  | _ => Str.empty
def GE (w : World) (e : Int × Value) : Prop := ∃ k tk, e.2 = Value.str k tk ∧ e.1 = hashStr w k
/-- at a stands a set of the texts l; its table rises and may be walked -/
def SetT (w : World) (h : Heap) (a : Addr) (l : List Str) : Prop :=
  ∃ o es ep t, h.get? a = some o ∧ o.ExactSet ∧ o.data = .set es ep t ∧ (∀ e ∈ es.toList, GE w e) ∧ (es.toList.map kOf).Perm l ∧ l.Nodup ∧ es.size < scanBound ∧ t.fits es.size = true ∧ Ris t.place.toList ∧
    (w.params.followText "set-order" = true ∨ t.led = true)
def insS (l : List Str) (k : Str) : List Str := if k ∈ l then l else k :: l
section
variable {P : Program} {w : World} {h h' : Heap} {a : Addr} {l : List Str}
theorem SetT.at (R : SetT w h a l) (k : ∀ o, h.get? a = some o → h'.get? a = some o) : SetT w h' a l := by
  obtain ⟨o, es, ep, t, ho, r⟩ := R
  exact ⟨o, es, ep, t, k o ho, r⟩
theorem ge_is {e : Int × Value} (g : GE w e) (k : Str) : (strKind P w).is k e.2 = true ↔ kOf e = k := by
  obtain ⟨k0, tk, h1, _⟩ := g
  unfold kOf
  rw [h1]
  show Value.isStrOf k (.str k0 tk) = true ↔ k0 = k
  simp [Value.isStrOf]
theorem ge_elems {m : List (Int × Value)} (g : ∀ e ∈ m, GE w e) : ElemsOf (strKind P w) m := fun e he => by
  obtain ⟨k, tk, h1, h2⟩ := g e he
  exact ⟨⟨k, by rw [h1]; exact strKind_is P w k tk, h2⟩, by rw [h1] <;> rfl⟩
theorem ge_mem {m : List (Int × Value)} (g : ∀ e ∈ m, GE w e) (k : Str) : k ∈ m.map kOf ↔ ∃ e ∈ m, (strKind P w).is k e.2 = true := by
  rw [List.mem_map]
  exact ⟨fun ⟨e, he, q⟩ => ⟨e, he, (ge_is (g e he) k).2 q⟩, fun ⟨e, he, q⟩ => ⟨e, he, (ge_is (g e he) k).1 q⟩⟩
theorem SetT.size (R : SetT w h a l) : ∃ o es ep t, h.get? a = some o ∧ o.ExactSet ∧ o.data = .set es ep t ∧ es.size = l.length ∧ t.fits es.size = true := by
  obtain ⟨o, es, ep, t, ho, hx, hd, g, pm, nd, hb, hf, _⟩ := R
  exact ⟨o, es, ep, t, ho, hx, hd, by rw [← pm.length_eq, List.length_map, Array.length_toList], hf⟩
theorem SetT.setOf (R : SetT w h a l) : h.SetOf (strKind P w) a (fun k => decide (k ∈ l)) l.length := by
  obtain ⟨o, es, ep, t, ho, hx, hd, g, pm, nd, hb, hf, _⟩ := R
  refine ⟨o, es, ep, t, ho, hx, hd, ge_elems g, fun k => ?_, hb, hf, by rw [← pm.length_eq, List.length_map, Array.length_toList]⟩
  rw [decide_eq_true_eq, ← pm.mem_iff]
  exact ge_mem g k
end
section
variable {P : Program} {w : World} {A : Around} {E : Value → Shared → Prop} {s : Shared} {a : Addr} {l : List Str}
theorem tail_T {g : Bool → Sem Unit} (hg : ∀ (b : Bool) (s1 : Shared) (Q' : Unit → Shared → Prop), Q' () s1 → wpAny (model P w) A (g b) Q' E s1)
    {o : Obj} {es : Array (Int × Value)} {ep : Nat} {t : SetTable} (ho : s.heap.get? a = some o) (hex : o.ExactSet) (hd : o.data = .set es ep t)
    {es1 : Array (Int × Value)} {t2 : SetTable} {l1 : List Str} (g1 : ∀ e ∈ es1.toList, GE w e) (p1 : (es1.toList.map kOf).Perm l1) (nd1 : l1.Nodup)
    (hb1 : es1.size < scanBound) (hf2 : t2.fits es1.size = true) (hr : Ris t2.place.toList) (hl : w.params.followText "set-order" = true ∨ t2.led = true) {wasDummy : Bool} {R : Option Bool → Shared → Prop}
    (hR : ∀ h', Heap.SameBut a s.heap h' → SetT w h' a l1 → R (some true) { s with heap := h' }) :
    wpAny (model P w) A (do
        storeSet a es1 t2
        if (!wasDummy && t2.tooFull) = true then do
            g (relayAll t2 es1 (SetTable.grown es1.size)).2.2
            storeSet a (relayAll t2 es1 (SetTable.grown es1.size)).1 (relayAll t2 es1 (SetTable.grown es1.size)).2.1
            pure (some true)
          else pure (some true)) R E s := by
  have o1 := store_at (es' := es1) (t' := t2) ho hd
  have s1 := Heap.SameBut.update s.heap a (Obj.putSet es1 t2)
  refine wpAny_bind (wpAny_storeSet_of ho hd ?_ (fits_of_scanBound hb1))
  split
  · have q1 := relayAll_perm t2 es1 (SetTable.grown es1.size)
    have q2 := relayAll_fits t2 es1 (SetTable.grown es1.size)
    have q3 := relayAll_ris t2 es1 (SetTable.grown es1.size)
    have q4 := relayAll_led t2 es1 (SetTable.grown es1.size)
    generalize relayAll t2 es1 (SetTable.grown es1.size) = Z at q1 q2 q3 q4 ⊢
    obtain ⟨es2, t3, gave⟩ := Z
    dsimp only at q1 q2 q3 q4 ⊢
    have z1 : es2.size = es1.size := by rw [← Array.length_toList, q1.length_eq, Array.length_toList]
    have z2 : es2.size < scanBound := by rw [z1]; exact hb1
    refine wpAny_bind (hg _ _ _ (wpAny_bind (wpAny_storeSet_of o1 rfl ?_ (fits_of_scanBound z2))))
    exact wpAny_pure (hR _ (s1.trans (Heap.SameBut.update _ a _)) ⟨_, es2, _, t3, store_at (es' := es2) (t' := t3) o1 rfl, hex, rfl, fun e he => g1 e (q1.mem_iff.mp he), (q1.map kOf).trans p1, nd1, z2, q2, q3, hl.imp id fun z => by rw [q4]; exact z⟩)
  · exact wpAny_pure (hR _ s1 ⟨_, es1, _, t2, o1, hex, rfl, g1, p1, nd1, hb1, hf2, hr, hl⟩)
theorem add_T {k : Str} {tk : Tok} {Q : Bool → Shared → Prop} (R : SetT w s.heap a l) (room : l.length + 1 < scanBound)
    (hQ : ∀ h' b, Heap.SameBut a s.heap h' → SetT w h' a (insS l k) → Q b { s with heap := h' }) :
    wpAny (model P w) A (setAddHashed a (.str k tk) ((strKind P w).hash k)) Q E s := by
  obtain ⟨o, es, ep, t, ho, hex, hd, g, pm, nd, hb, hf, hr, hl⟩ := R
  have hkey : (strKind P w).is k (.str k tk) = true := strKind_is P w k tk
  have hsc : (Value.str k tk).scannable = true := rfl
  have hel : ElemsOf (strKind P w) es.toList := ge_elems g
  unfold setAddHashed setAddHashedIn
  refine wpAny_holding (wpAny_bind (wpAny_setState_of ho hd hf ?_))
  dsimp only
  rw [byScan_of hsc hb hel]
  simp only [↓reduceIte]
  unfold setAddByScan
  refine wpAny_bind (wpAny_bind (wpAny_rule (wpAny_bind (wpAny_setScan_of hkey ho hd hf hel ?_))))
  cases hfi : List.findIdx? (fun e => (strKind P w).is k e.2) es.toList with
  | some j =>
    dsimp only
    obtain ⟨hj, pj, _⟩ := List.findIdx?_eq_some_iff_getElem.mp hfi
    have hk : k ∈ l := pm.mem_iff.mp ((ge_mem (P := P) (w := w) g k).2 ⟨es.toList[j], List.getElem_mem hj, pj⟩)
    refine wpAny_pure (wpAny_pure (hQ s.heap _ (Heap.SameBut.refl a s.heap) ?_))
    rw [insS, if_pos hk]
    exact ⟨o, es, ep, t, ho, hex, hd, g, pm, nd, hb, hf, hr, hl⟩
  | none =>
    dsimp only
    have hk0 : k ∉ es.toList.map kOf := fun z => by
      obtain ⟨e, he, q⟩ := (ge_mem (P := P) (w := w) g k).1 z
      have c := List.findIdx?_eq_none_iff.mp hfi e he
      rw [q] at c
      cases c
    have hk : k ∉ l := fun z => hk0 (pm.mem_iff.mpr z)
    have q1 := layNew_perm t es ((strKind P w).hash k) (.str k tk)
    have q2 := layNew_fits t es ((strKind P w).hash k) (.str k tk)
    have q3 := layNew_ris t es ((strKind P w).hash k) (.str k tk) hr
    have q4 := layNew_led t es ((strKind P w).hash k) (.str k tk)
    generalize layNew t es ((strKind P w).hash k) (.str k tk) = Z at q1 q2 q3 q4 ⊢
    obtain ⟨es1, t1, wasDummy, gave⟩ := Z
    dsimp only at q1 q2 q3 q4 ⊢
    rw [Array.toList_push] at q1
    have pc : es1.toList.Perm (((strKind P w).hash k, Value.str k tk) :: es.toList) := q1.trans (List.perm_append_singleton _ _)
    have pk : (es1.toList.map kOf).Perm (insS l k) := by
      rw [insS, if_neg hk]
      exact (pc.map kOf).trans (List.Perm.cons k pm)
    have g1 : ∀ e ∈ es1.toList, GE w e := fun e he => by
      rcases List.mem_cons.mp (pc.mem_iff.mp he) with z | z
      · rw [z]
        exact ⟨k, tk, rfl, rfl⟩
      · exact g e z
    have nd1 : (insS l k).Nodup := by
      rw [insS, if_neg hk]
      exact List.nodup_cons.mpr ⟨hk, nd⟩
    have hb1 : es1.size < scanBound := by
      rw [← Array.length_toList, pc.length_eq, List.length_cons, ← List.length_map (f := kOf), pm.length_eq]
      exact room
    have hled : w.params.followText "set-order" = true ∨ t1.led = true := hl.imp id fun z => by rw [q4]; exact z
    have fin : ∀ h', Heap.SameBut a s.heap h' → SetT w h' a (insS l k) → Q true { s with heap := h' } := fun h' sb r => hQ h' true sb r
    have hgw : ∀ (b : Bool) {s1 : Shared} {Q' : Unit → Shared → Prop}, Q' () s1 → wpAny (model P w) A (match b with | true => rule "set.scan.the-table-gave-way" | false => pure ()) Q' E s1 :=
      fun b s1 Q' q => by cases b <;> first | exact wpAny_pure q | exact wpAny_rule q
    refine wpAny_bind (hgw _ ?_)
    split
    · refine wpAny_bind ?_
      rw [hashByValue_scannable 8 hsc]
      refine wpAny_pure (tail_T ?_ ho hex hd g1 pk nd1 hb1 ?_ ?_ ?_ ?_)
      · intro b s1 Q' q; cases b <;> first | exact wpAny_pure q | exact wpAny_rule q
      · first | (split <;> first | exact q2 | exact SetTable.fits_plain_off q2) | exact q2
      · first | (split <;> exact q3) | exact q3
      · first | (split <;> exact hled) | exact hled
      · intro h' sb r; dsimp only; exact wpAny_pure (fin h' sb r)
    · refine wpAny_bind (wpAny_pure ?_)
      simp only [↓reduceIte]
      refine tail_T ?_ ho hex hd g1 pk nd1 hb1 q2 q3 hled ?_
      · intro b s1 Q' q; cases b <;> first | exact wpAny_pure q | exact wpAny_rule q
      · intro h' sb r; dsimp only; exact wpAny_pure (fin h' sb r)
end
/-- the members met ahead of place i -/
def metS (val : Nat → Str) (i : Nat) : List Str := ((List.range i).map val).foldl insS []
theorem metS_succ (val : Nat → Str) (i : Nat) : metS val (i + 1) = insS (metS val i) (val i) := by
  unfold metS
  rw [List.range_succ, List.map_append, List.foldl_append]
  rfl
theorem insS_len (l : List Str) (k : Str) : (insS l k).length ≤ l.length + 1 := by
  unfold insS
  split <;> simp
theorem metS_len (val : Nat → Str) : ∀ i, (metS val i).length ≤ i
  | 0 => Nat.le_refl _
  | i + 1 => by
    rw [metS_succ]
    have := insS_len (metS val i) (val i)
    have := metS_len val i
    omega
section
variable {P : Program} {w : World} {A : Around} {R : Result → Shared → Prop} {I : Addr} {fp wr : List Addr} {Gn : Array GenState → Array GenState → Prop} {n : Nat} {Pv : Nat → Value → Prop} {St : Nat → Shared → Prop}
theorem loop_T (W : WalksS P w A.in1 I fp wr Gn n Pv St) (S : Addr) (hSf : S ∉ fp) (val : Nat → Str) (hval : ∀ i v, Pv i v → ∃ t, v = .str (val i) t) (hb : n + 1 < scanBound) :
    ∀ (k i : Nat) (s : Shared), n - i = k → i ≤ n → St i s → SetT w s.heap S (metS val i) → (∀ s', Moved (S :: wr) Gn s s' → SetT w s'.heap S (metS val n) → R (.ok (.ret .none)) s') →
      codeAny (model P w) A (.builtin "set.update.loop" ⟨[.ref S, .ref I], []⟩) R s := by
  have hSw : S ∉ wr := fun h => hSf (W.sub _ h)
  have hsub : ∀ b ∈ wr, b ∈ S :: wr := fun b hb => List.mem_cons_of_mem _ hb
  intro k
  induction k with
  | zero =>
    intro i s hk hi hst hS hR
    obtain rfl : i = n := by omega
    refine codeAny_builtin F.entry_set_update_loop ?_
    rw [Around.under_plainId F.plain_set_update_loop _]
    show wpAny _ A.in1 (pyNext (.ref I) >>= _) _ _ s
    exact wpAny_bind (W.done s _ _ hst fun s' hm => (show wpAny _ A.in1 (ret Value.none) _ _ s' from wpAny_pure (hR s' (hm.mono hsub) (hS.at fun o e => hm.heap S _ hSw e))))
  | succ k ih =>
    intro i s hk hi hst hS hR
    have hlt : i < n := by omega
    refine codeAny_builtin F.entry_set_update_loop ?_
    rw [Around.under_plainId F.plain_set_update_loop _]
    show wpAny _ A.in1 (pyNext (.ref I) >>= _) _ _ s
    refine wpAny_bind (W.item i s _ _ hlt hst fun v s' hP hst' hm => ?_)
    obtain ⟨t, rfl⟩ := hval i v hP
    have hS' : SetT w s'.heap S (metS val i) := hS.at fun o e => hm.heap S _ hSw e
    show wpAny _ A.in1 (holding [Value.str (val i) t] (setAdd S (.str (val i) t)) >>= _) _ _ s'
    refine wpAny_bind (wpAny_holding ?_)
    unfold setAdd
    refine wpAny_holding (wpAny_bind ((strKind P w).pyHash (k := val i) (strKind_is _ _ _ _) ?_))
    have hroom : (metS val i).length + 1 < scanBound := by have := metS_len val i; omega
    refine add_T (s := { s' with toks := s'.toks + 1 }) hS' hroom fun h' b hsb hS2 => ?_
    rw [← metS_succ] at hS2
    refine wpAny_pure ⟨plainId_quiet F.plain_set_update_loop _, ih (i + 1) _ (by omega) hlt (W.frame _ s' _ _ hst' (Nat.le_succ _) fun b hb o e => ?_) hS2 fun s'' hm'' hS'' => ?_⟩
    · exact (hsb.2 b (fun h : b = S => hSf (by rw [← h]; exact hb))).trans e
    · refine hR s'' (Moved.trans W.gtrans ((hm.mono hsub).then_heap (Nat.le_succ _) fun b o hb e => ?_) hm'') hS''
      exact (hsb.2 b (fun h : b = S => hb (by rw [h]; exact List.mem_cons_self))).trans e
end
section
variable {P : Program} {w : World} {A : Around} {E : Value → Shared → Prop} {s : Shared}
abbrev emptyT (w : World) : Obj := { cls := .type "set", dict := none, data := .set #[] 0 (.fresh 0 0 (!w.params.followText "set-order")) }
theorem new_T (a : Value) {Q1 : Value → Shared → Prop} (h : Q1 (.ref s.heap.objs.size) { s with heap := s.heap.push (emptyT w) }) :
    codeAny (model P w) A (.call (.builtin "set.__new__") ⟨[.type "set", a], []⟩) (wants Q1 E) s := by
  refine codeAny_of_tree ?_
  show wpAny _ A.in1 (do checkBuiltinCall "set.__new__" ⟨[.type "set", a], []⟩; again (.builtin "set.__new__" ⟨[.type "set", a], []⟩)) _ _ s
  refine wpAny_bind (wpAny_of_eq (F.newCall_set_1 a) (wpAny_pure ⟨plainId_quiet F.plain_set_new _, codeAny_builtin F.entry_set_new ?_⟩))
  rw [Around.under_plainId F.plain_set_new _]
  unfold Builtin.«set.__new__» Builtin.Frozenset.newClass
  have hsub := sub_set_self
  obtain ⟨hp, g, d, tk, os⟩ := s
  dsimp only
  wp_walk
  refine wpAny_askSetting (wpAny_pure ?_)
  dsimp only
  simp only [newObj]
  exact wpAny_bind (wpAny_alloc (wpAny_pure (wpAny_pure h)))
theorem fresh_T {h : Heap} (w : World) {a : Addr} (e : h.get? a = some (emptyT w)) : SetT w h a [] :=
  ⟨_, #[], 0, _, e, ⟨rfl, rfl, rfl⟩, rfl, (fun e he => by simp at he), (by simp), List.nodup_nil, (by decide), (by rfl), List.Pairwise.nil, by
    show _ ∨ (!w.params.followText "set-order") = true
    cases w.params.followText "set-order"
    · exact .inr rfl
    · exact .inl rfl⟩
set_option maxRecDepth 100000 in
set_option maxHeartbeats 3200000 in
theorem call_set_T {l : Addr} {items : Array Value} {xs : List Str} {Q : Value → Shared → Prop} (hh : A.handled = none) (hl : s.heap.IsList l items) (hi : StrsAre items.toList xs) (hb : items.size + 1 < scanBound)
    (h : ∀ (h' : Heap) (tk : Nat), SetT w h' s.heap.objs.size (xs.foldl insS []) → (∀ b o, b < s.heap.objs.size → s.heap.get? b = some o → h'.get? b = some o) → Q (.ref s.heap.objs.size) { s with heap := h', toks := tk }) :
    wpAny (model P w) A (call (.type "set") [.ref l]) Q E s := by
  have hsz : xs.length = items.size := by rw [← StrsAre.len_eq hi, Array.length_toList]
  have hmet : metS (fun i => xs.getD i Str.empty) items.size = xs.foldl insS [] := by
    unfold metS
    congr 1
    rw [← hsz]
    refine List.ext_getElem (by simp) fun i h1 h2 => ?_
    simp only [List.getElem_map, List.getElem_range]
    rw [List.getD_eq_getElem?_getD, List.getElem?_eq_getElem h2]
    rfl
  obtain ⟨c, tl, hmro⟩ := F.called_set.mro
  have hmade := F.called_set.made
  have hsub := F.called_set.sub
  refine wpAny_call (codeAny_of_tree ?_)
  show wpAny _ _ (callAny (.type "set") _) _ _ _
  refine wpAny_pure ⟨Code.quiet_builtin _ (by decide +kernel), codeAny_builtin F.entry_type_call ?_⟩
  rw [Around.under_plain (weight_type_call_type "set" [.ref l] []) rfl]
  have h1 := F.called_set.notType
  have h2 := F.called_set.canCreate
  have hct := F.typeCall_set_1 (.ref l)
  repeat (any_goals (first | assumption | wp_step))
  refine codeAny_mono (new_T (.ref l) (E := E) (Q1 := fun obj s1 => obj = .ref s.heap.objs.size ∧ s1 = { s with heap := s.heap.push (emptyT w) }) ⟨rfl, rfl⟩) fun r s1 hr => ?_
  cases r with
  | error e => exact hr
  | ok fl =>
    cases fl with
    | ret obj =>
      obtain ⟨rfl, rfl⟩ := hr
      have hS : (s.heap.push (emptyT w)).get? s.heap.objs.size = some (emptyT w) := Heap.get?_push_size _ rfl
      have hT : Shared.TypeIs { s with heap := s.heap.push (emptyT w) } (.ref s.heap.objs.size) "set" := ⟨_, hS, rfl⟩
      have hli := F.called_set.init.lookup
      have hbi := F.called_set.init.bind (.ref s.heap.objs.size)
      repeat (any_goals (first | assumption | wp_step))
      refine codeAny_mono (codeAny_call_builtin (R := wants (fun r s2 => r = .none ∧ ∃ h' tk, s2 = { s with heap := h', toks := tk } ∧ SetT w h' s.heap.objs.size (xs.foldl insS []) ∧
          (∀ b o, b < s.heap.objs.size → s.heap.get? b = some o → h'.get? b = some o)) E) F.called_set.init.plain F.entry_set_init (check_set_init_1 hT ?_)) fun r2 s2 hr2 => ?_
      · obtain ⟨ol, hol, hcl, nl, hdl⟩ := hl
        obtain ⟨ocls, odict, odata, oslots⟩ := ol
        simp only at hcl hdl
        subst hcl; subst hdl
        have hol' : (s.heap.push (emptyT w)).get? l = some { cls := .type "list", dict := odict, data := .seq items nl, slots := oslots } := Heap.get?_push_of_some _ hol
        have hsls := F.sub_list_set
        have hslf := F.sub_list_frozenset
        have hne : (Value.type "list" == Value.type "dict") = false := by decide
        have hl1 : (s.heap.push (emptyT w)).IsList l items := ⟨_, hol', rfl, nl, rfl⟩
        unfold Builtin.«set.__init__» noKeywords Builtin.Frozenset.updateFrom
        generalize hPI : pyIter = PI
        wp_walk
        subst hPI
        refine wpAny_pyIter_list hl1 (wpAny_bind (wpAny_runValue ?_))
        have hlS : l < s.heap.objs.size := Heap.lt_size hol
        have hh3 : A.in1.in1.in1.handled = none := by simp [hh]
        have hneI : l ≠ (s.heap.push (emptyT w)).objs.size := by
          rw [Heap.size_push]
          exact Nat.ne_of_lt (Nat.lt_succ_of_lt hlS)
        have hSf : s.heap.objs.size ∉ [(s.heap.push (emptyT w)).objs.size, l] := by
          rw [Heap.size_push]
          simp only [List.mem_cons, List.mem_singleton, List.not_mem_nil, or_false, not_or]
          exact ⟨Nat.ne_of_lt (Nat.lt_succ_self _), Nat.ne_of_gt hlS⟩
        have hval : ∀ (i : Nat) (v : Value), items[i]? = some v → ∃ t, v = .str ((fun i => xs.getD i Str.empty) i) t := fun i v hv => SS.strs_at hi i v (by rw [Array.getElem?_toList]; exact hv)
        refine loop_T ((Walks.list hh3 _ l hneI items).toS) s.heap.objs.size hSf (fun i => xs.getD i Str.empty) hval hb (items.size - 0) 0 _ (by omega) (Nat.zero_le _)
          ⟨⟨_, Heap.get?_push_size _ rfl, rfl, rfl⟩, (hl1.push _)⟩ ?hS0 ?hR
        case hS0 =>
          exact fresh_T w (Heap.get?_push_of_some _ hS)
        case hR =>
          intro s' hm hS'
          rw [hmet] at hS'
          obtain ⟨h', g', d', tk', os'⟩ := s'
          have eg : g' = s.gens := hm.gens
          have ed : d' = s.drawn := hm.drawn
          have eo : os' = s.os := hm.os
          subst eg; subst ed; subst eo
          show wpAny _ _ _ _ _ _
          refine wpAny_pure ?_
          show wpAny _ _ (ret Value.none) _ _ _
          refine wpAny_pure ⟨rfl, h', tk', rfl, hS', fun b o hb e => ?_⟩
          have hb1 : b ≠ s.heap.objs.size := Nat.ne_of_lt hb
          have hb2 : b ≠ (s.heap.push (emptyT w)).objs.size := by
            rw [Heap.size_push]
            exact Nat.ne_of_lt (Nat.lt_succ_of_lt hb)
          exact hm.heap b o (by simp only [List.mem_cons, List.mem_singleton, List.not_mem_nil, or_false, not_or]; exact ⟨hb1, hb2⟩) (Heap.get?_push_of_some _ (Heap.get?_push_of_some _ e))
      · cases r2 with
        | error e => exact hr2
        | ok fl2 =>
          cases fl2 with
          | ret r =>
            obtain ⟨rfl, h', tk, rfl, hS', hk'⟩ := hr2
            repeat (any_goals (first | assumption | wp_step))
            exact h _ _ hS' hk'
          | _ => exact hr2.elim
    | _ => exact hr.elim
end
section
variable {P : Program} {w : World} {A : Around} {E : Value → Shared → Prop} {s : Shared} {a : Addr}
theorem strs_of : ∀ (l : List Value), (∀ v ∈ l, ∃ k tk, v = Value.str k tk) → StrsAre l (l.map strOf)
  | l, h => strsAre_map l h
theorem sorted_T {l : List Str} {Q : Value → Shared → Prop} (R : SetT w s.heap a l) (hh : A.handled = none) (h64 : l.length < 64)
    (hQ : ∀ s' p (out : Array Value) (c : Nat) (ys : List Str), (∀ b o, s.heap.get? b = some o → s'.heap.get? b = some o) → s'.gens = s.gens → s'.os = s.os → s.heap.objs.size ≤ p →
      s'.heap.get? p = some (seqObj "list" out c) → StrsAre out.toList ys → ys.Perm l → sortedS ys = true → Q (.ref p) s') :
    wpAny (model P w) A (call (.builtin "sorted") [.ref a]) Q E s := by
  obtain ⟨o, es, ep, t, ho, hex, hd, g, pm, nd, hb, hf, hr, hl⟩ := R
  refine Calls.call_function_entry kind_sorted plain_sorted entry_sorted (args_sorted1 _) ?_
  unfold Builtin.«sorted»
  refine wpAny_bind (m := checkCount "sorted" 1 1 _) (wpAny_pure ?_)
  refine wpAny_bind (collect_set (A := A.in1) hh ⟨o, ho, hex.1, hd⟩ hf hb hr hl fun s1 vs k1 hz g1 o1 pv => ?_)
  have hS : StrsAre vs (vs.map strOf) := strs_of vs fun v hv => by
    obtain ⟨e, he, q⟩ := List.mem_map.mp (pv.mem_iff.mp hv)
    obtain ⟨k, tk, h1, _⟩ := g e he
    exact ⟨k, tk, by rw [← q]; exact h1⟩
  have pk : (vs.map strOf).Perm l := by
    have q := pv.map strOf
    rw [List.map_map] at q
    refine q.trans (List.Perm.trans (List.Perm.of_eq ?_) pm)
    refine List.map_congr_left fun e he => ?_
    obtain ⟨k, tk, h1, _⟩ := g e he
    show strOf e.2 = kOf e
    unfold kOf
    rw [h1]
    rfl
  have hvl : vs.length = l.length := by rw [← pk.length_eq, List.length_map]
  refine wpAny_bind (wpAny_newList ?_ (by rw [hvl, sizeLine_eq]; omega))
  have hoL : (s1.heap.push (seqObj "list" vs.toArray 0)).get? s1.heap.objs.size = some (seqObj "list" vs.toArray 0) := Heap.get?_push_size _ rfl
  refine wpAny_bind (wpAny_holding (wpAny_call_entry slot_list_sort ⟨_, hoL, rfl⟩ entry_list_sort (list_sort_treeK strKind_oneLt hoL hS.keysOf (fun v1 v2 rest e => keyKind_strs (by rw [← e]; exact hS)) (by rw [hvl]; exact h64) fun st' a1 a2 => ⟨_, rfl, ?_⟩) (args_list_sort _)))
  obtain ⟨ys, y1, y2, y3⟩ := sorted_out_str hS a1 a2
  obtain ⟨c, hc⟩ := sortedHeap_at (vs := vs) (out := (arrOf st').map (·.2)) hoL
  refine wpAny_pure ⟨_, rfl, hQ _ s1.heap.objs.size _ c ys (fun b u e => ?_) g1 o1 hz hc y1 (y2.trans pk) y3⟩
  have q := k1 b u e
  have hlt := Heap.lt_size q
  show (sortedHeap (s1.heap.push (seqObj "list" vs.toArray 0)) s1.heap.objs.size vs ((arrOf st').map (·.2))).get? b = some u
  rw [sortedHeap_old (Nat.ne_of_lt hlt) (by rw [size_push']; exact Nat.lt_succ_of_lt hlt)]
  exact Heap.get?_push_of_some _ q
end
/-! the same as rules -/
def SetH (w : World) (a : Addr) (l : List Str) : HO := .ext fun h => SetT w h a l
section
variable {X : Cx}
theorem setH_new {w : World} {P : Program} {H : Hp} {h : Heap} {a : Addr} {l : List Str} (R : SetT w h a l) : ObjOk P w H h a (SetH w a l) :=
  ⟨R, (by obtain ⟨o, _, _, _, ho, _⟩ := R; exact ⟨o, ho⟩), fun h1 h2 r k => SetT.at r k⟩
theorem setH_get {pins : List (Addr × Obj)} {σ : L2.St} {H : Hp} {s : Shared} {a : Addr} {l : List Str} (I : Inv X pins σ H s) (ha : H a = some (SetH X.w a l)) : SetT X.w s.heap a l := (I.hok a _ ha).1
def rSetS (K : PySem.W.Frag) (w : World) : List V → Hp → VK → Prop := fun vs H Q => ∃ (b : Addr) (xs : List Str), vs = [V.ref b] ∧ SqL K H b (xs.map V.str) ∧ xs.length ≤ 100 ∧ ∀ p, H p = none → Q (.ref p) (upd H p (SetH w p (xs.foldl insS [])))
theorem cr_setS (hc : X.calm = true) : CallR X (.type "set") (rSetS X.K X.w) := by
  intro pins s σ H vs us Q I r h
  obtain ⟨b, xs, rfl, hb, hx, q⟩ := h
  obtain ⟨its, rv, hl, _⟩ := I.list hb
  rw [Vals.ref1 r]
  have hlen := rv.length
  rw [List.length_map] at hlen
  refine call_set_T (I.ok.hd hc) hl.isList rv.strs (by rw [List.size_toArray, ← hlen]; unfold scanBound; omega) fun h' tk R k => ?_
  have hn : H s.heap.objs.size = none := I.hok.fresh (Nat.le_refl _)
  have J : Inv X pins σ (upd H s.heap.objs.size (SetH X.w s.heap.objs.size (xs.foldl insS []))) { s with heap := h', toks := tk } :=
    I.call (ch := []) (Un.laid (fun b o e => k b o (Heap.lt_size e) e) (Nat.le_refl _) hn) (I.hok.laid (fun b o e => k b o (Heap.lt_size e) e) (Nat.le_refl _) (setH_new R)) I.bare (fun _ z => nomatch z)
  exact ⟨.ref _, _, J, rfl, q _ hn⟩
def rSortSet (w : World) : List V → Hp → VK → Prop := fun vs H Q => ∃ (a : Addr) (l : List Str), vs = [V.ref a] ∧ H a = some (SetH w a l) ∧ l.length < 64 ∧ ∀ (ys : List Str) (p : Addr), ys.Perm l → sortedS ys = true → H p = none → Q (.ref p) (upd H p (.lst (ys.map V.str)))
theorem cr_sortSet (hc : X.calm = true) : CallR X (.builtin "sorted") (rSortSet X.w) := by
  intro pins s σ H vs us Q I r h
  obtain ⟨a, l, rfl, ha, h64, q⟩ := h
  rw [Vals.ref1 r]
  refine sorted_T (setH_get I ha) (I.ok.hd hc) h64 fun s' p out c ys k g o hp hg hi hpm hs => ?_
  have hlen : (ys.map V.str).length ≤ sizeLine := by rw [List.length_map, hpm.length_eq, sizeLine_eq]; omega
  have hn : H p = none := I.hok.fresh hp
  have J : Inv X pins σ (upd H p (.lst (ys.map V.str))) { s with heap := s'.heap, gens := s'.gens, drawn := s'.drawn, toks := s'.toks } :=
    I.call (ch := []) (Un.laid k hp hn) (I.hok.laid k hp ⟨hlen, out.toList, c, vals_of_strs hi, hg⟩) (by rw [g]; exact I.bare) (fun _ z => nomatch z)
  have e : s' = { s with heap := s'.heap, gens := s'.gens, drawn := s'.drawn, toks := s'.toks } := by
    cases s'; cases s; cases o; rfl
  rw [e]
  exact ⟨.ref p, _, J, rfl, q ys p hpm hs hn⟩
def rLenSet (w : World) : List V → Hp → VK → Prop := fun vs H Q => ∃ (a : Addr) (l : List Str), vs = [V.ref a] ∧ H a = some (SetH w a l) ∧ l.length ≤ 100 ∧ Q (.int l.length) H
theorem call_lenSet : CallR X (.builtin "len") (rLenSet X.w) := by
  intro pins s σ H vs us Q I r h
  obtain ⟨a, l, rfl, ha, hl, q⟩ := h
  rw [Vals.ref1 r]
  obtain ⟨o, es, ep, t, ho, hex, hd, hn, hf⟩ := (setH_get I ha).size
  exact call_len_set ho hex hd hf (by rw [hn]; omega) ⟨.int l.length, H, I.tok _, ⟨_, by rw [hn]⟩, q⟩
end
end
/-! ### what is seen while a word turns -/
def mk2 (x y : Bool) : List Bool := if x = y then [x] else [false, true]
def seenZ : List (Bool × Bool) → List (List Bool)
  | [] => [[]]
  | z :: zs => (mk2 z.1 z.2).flatMap fun m => (seenZ zs).map (m :: ·)
def seenW (a b : List Bool) : List (List Bool) := seenZ (a.zip b)
def stepS (F : List (List Bool)) (z : Bool × Bool) : List (List Bool) := F.flatMap fun w => (mk2 z.1 z.2).map fun m => w ++ [m]
theorem seen_fold : ∀ (zs : List (Bool × Bool)) (F : List (List Bool)), zs.foldl stepS F = F.flatMap fun w => (seenZ zs).map (w ++ ·)
  | [], F => by simp [seenZ]
  | z :: zs, F => by
    rw [List.foldl_cons, seen_fold zs]
    simp only [stepS, seenZ, List.flatMap_assoc, List.flatMap_map, List.map_flatMap, List.map_map]
    congr 1
    funext w
    congr 1
    funext m
    refine List.map_congr_left fun u _ => ?_
    simp
def sUp (a b : List Bool) (i : Nat) : List (List Bool) := ((a.zip b).take i).foldl stepS [[]]
theorem sUp_all {a b : List Bool} {n : Nat} (ha : a.length = n) (hb : b.length = n) : sUp a b n = seenW a b := by
  unfold sUp seenW
  rw [List.take_of_length_le (by simp [ha, hb]), seen_fold]
  simp
theorem sUp_succ {a b : List Bool} {i : Nat} (ha : i < a.length) (hb : i < b.length) : sUp a b (i + 1) = stepS (sUp a b i) (a.getD i false, b.getD i false) := by
  unfold sUp
  have h : (a.zip b)[i]? = some (a.getD i false, b.getD i false) := by
    rw [List.getElem?_zip_eq_some]
    rw [List.getD_eq_getElem?_getD, List.getD_eq_getElem?_getD, List.getElem?_eq_getElem ha, List.getElem?_eq_getElem hb]
    exact ⟨rfl, rfl⟩
  rw [List.take_add_one, h, List.foldl_append]
  rfl
theorem mk2_len (x y : Bool) : (mk2 x y).length ≤ 2 := by
  unfold mk2
  split <;> simp
theorem stepS_len (F : List (List Bool)) (z : Bool × Bool) : (stepS F z).length ≤ 2 * F.length := by
  unfold stepS
  induction F with
  | nil => simp
  | cons w F ih =>
    rw [List.flatMap_cons, List.length_append, List.length_map]
    have := mk2_len z.1 z.2
    simp only [List.length_cons]
    omega
theorem sUp_len (a b : List Bool) : ∀ i, (sUp a b i).length ≤ 2 ^ i
  | 0 => by simp [sUp]
  | i + 1 => by
    by_cases h : i < (a.zip b).length
    · have ha : i < a.length := by simp at h; omega
      have hb : i < b.length := by simp at h; omega
      rw [sUp_succ ha hb, Nat.pow_succ]
      have := stepS_len (sUp a b i) (a.getD i false, b.getD i false)
      have := sUp_len a b i
      omega
    · have e : sUp a b (i + 1) = sUp a b i := by
        unfold sUp
        rw [List.take_of_length_le (by omega), List.take_of_length_le (by omega)]
      rw [e, Nat.pow_succ]
      have := sUp_len a b i
      omega
theorem sUp_wide {a b : List Bool} : ∀ {i : Nat}, i ≤ a.length → i ≤ b.length → ∀ w ∈ sUp a b i, w.length = i
  | 0, _, _, w, h => by
    have h : w ∈ [[]] := by simpa [sUp] using h
    rw [List.mem_singleton.mp h]
    rfl
  | i + 1, ha, hb, w, h => by
    rw [sUp_succ (by omega) (by omega)] at h
    obtain ⟨u, hu, hw⟩ := List.mem_flatMap.mp h
    obtain ⟨m, _, rfl⟩ := List.mem_map.mp hw
    simp [sUp_wide (by omega) (by omega) u hu]
theorem seenW_len {a b : List Bool} {n : Nat} (ha : a.length = n) (hb : b.length = n) : (seenW a b).length ≤ 2 ^ n := by
  rw [← sUp_all ha hb]
  exact sUp_len a b n
theorem seenW_wide {a b : List Bool} {n : Nat} (ha : a.length = n) (hb : b.length = n) : ∀ w ∈ seenW a b, w.length = n := by
  rw [← sUp_all ha hb]
  exact sUp_wide (by omega) (by omega)
theorem perm_two {α : Type} {ys : List α} {p q : α} (h : ys.Perm [p, q]) : ys = [p, q] ∨ ys = [q, p] := by
  have hl := h.length_eq
  match ys, hl with
  | [u, v], _ =>
    have hu : u = p ∨ u = q := by simpa using h.mem_iff.mp (List.mem_cons_self)
    rcases hu with rfl | rfl
    · have := (List.perm_cons u).mp h
      have := List.perm_singleton.mp this
      exact .inl (by rw [this])
    · have h2 : [u, v].Perm [u, p] := h.trans (List.Perm.swap u p [])
      have := List.perm_singleton.mp ((List.perm_cons u).mp h2)
      exact .inr (by rw [this])
theorem sorted_marks {x y : Bool} {ys : List Str} (h : ys.Perm ([wd [x], wd [y]].foldl insS [])) (hs : PyProof.Rows.sortedS ys = true) : ys = (mk2 x y).map fun m => wd [m] := by
  have c1 : (wd [true] : Str) ∉ [wd [false]] := by decide
  have c2 : (wd [false] : Str) ∉ [wd [true]] := by decide
  have h1 : ([wd [x], wd [y]].foldl insS []) = insS [wd [x]] (wd [y]) := rfl
  rw [h1] at h
  cases x <;> cases y
  · rw [show insS [wd [false]] (wd [false]) = [wd [false]] by decide] at h
    rw [List.perm_singleton.mp h]
    rfl
  · rw [show insS [wd [false]] (wd [true]) = [wd [true], wd [false]] by decide] at h
    rcases perm_two h with rfl | rfl
    · exact absurd hs (by decide)
    · rfl
  · rw [show insS [wd [true]] (wd [false]) = [wd [false], wd [true]] by decide] at h
    rcases perm_two h with rfl | rfl
    · rfl
    · exact absurd hs (by decide)
  · rw [show insS [wd [true]] (wd [true]) = [wd [true]] by decide] at h
    rw [List.perm_singleton.mp h]
    rfl
theorem setM_len (x y : Str) : ([x, y].foldl insS []).length ≤ 2 := by
  have h1 : ([x, y].foldl insS []) = insS [x] y := rfl
  rw [h1]
  exact insS_len [x] y
def RetU (xs : List V) (H : Hp) (Q : VK) : Prop := ∀ p H2, H p = none → Ex H H2 → H2 p = some (.tup xs) → Q (.ref p) H2
section
variable {P : Program} {w : World} {K : PySem.W.Frag} {mg : Str → Option Value} {base : Heap}
def isW (z : Str) : Bool := (decide (1 ≤ z.length) && decide (z.length ≤ 4)) && z.cps.toList.all fun c => c == 48 || c == 49
theorem isW_wd {b : List Bool} (h1 : 1 ≤ b.length) (h2 : b.length ≤ 4) : isW (wd b) = true := by
  unfold isW
  rw [wd_len, wd_toList, decide_eq_true h1, decide_eq_true h2]
  simp only [Bool.true_and, List.all_eq_true]
  intro x hx
  obtain ⟨c, _, rfl⟩ := List.mem_map.mp hx
  cases c <;> decide
theorem inMarks (c : Nat) : inV (.str ⟨#[c]⟩) [.str "0", .str "1"] = (c == 48 || c == 49) := by
  have h0 : ("0" : Str) = ⟨#[48]⟩ := by decide +kernel
  have h1 : ("1" : Str) = ⟨#[49]⟩ := by decide +kernel
  unfold inV
  rw [h0, h1]
  simp only [List.any_cons, List.any_nil, Bool.or_false]
  have e : ∀ k : Nat, eqV (.str ⟨#[k]⟩) (.str ⟨#[c]⟩) = (c == k) := fun k => by
    by_cases h : c = k
    · subst h
      simp [eqV]
    · have h2 : ((⟨#[k]⟩ : Str) == ⟨#[c]⟩) = false := beq_eq_false_iff_ne.mpr fun e => h (by
        injection e with e
        simpa using e.symm)
      rw [beq_eq_false_iff_ne.mpr h]
      exact h2
  rw [e, e]
def sp_is_word : Sp := fun vs H Q _ => ∃ z : Str, vs = [.str z] ∧ z.length ≤ 1000 ∧ PyData.strOk z = true ∧ RetV (.bl (isW z)) H Q
theorem ok_is_word (T : TX K mg) : FnOk P w K mg base CX0 1 T.f_is_word T.fd_is_word ["word"] sp_is_word := by
  refine T.F_is_word.ok sc_is_word (fun vs H Q E h => ?_) (fun cdv A outer s H vs Q E hr h => ?_)
  · obtain ⟨_, rfl, _⟩ := h
    rfl
  · obtain ⟨z, rfl, hz, hok, q⟩ := h
    refine ⟨_, (pss_one (ps_ret (pe_and (pe_chain op_le op_le pe_int (pe_callB call_len_str (by rfl) T.z_len PySem.boot_len (pa_cons (pv 0) pa_nil)) (pe_glob (v := .int 4) (by rfl) T.c_MOST_WIDE ⟨_, rfl⟩)) (pe_one (pe_cmpR (op_eqD hr.units) (pe_lc (own := [("mark", 1)]) (g := gName 1) (by rfl) sc_is_word.nd (pi_str (pv 0)) (blkOk_by (own := [("mark", 1)]) (N := ["word", "mark"]) (sc := defScope s_is_word) (by decide +kernel)) (fun _ _ _ _ _ => pg_name (i := 1) sc_is_word.nd rfl (Or.inl rfl)) (fun _ _ _ _ _ => (pts_one (pt_cmpR (r := rIn K true) op_notIn_seq (pv 1) (pe_glob (v := .ref T.a_MARKS) (by rfl) T.c_MARKS rfl) (by rfl)))) (fun _ _ _ _ _ => (pv 1))) (pe_lst pa_nil) (nomark _)))))), ?_⟩
    refine ⟨_, rfl, z, rfl, small9 hz, _, _, rfl, rfl, _, rfl, ?_⟩
    by_cases h1 : 1 ≤ z.length
    · refine ifP (decide_eq_true (by omega)) ⟨_, _, rfl, rfl, _, rfl, ?_⟩
      by_cases h4 : z.length ≤ 4
      · refine ifP (decide_eq_true (by omega)) ?_
        refine ⟨_, rfl, z, rfl, fun D nD => lcW z.cps.toList (fun c => V.str ⟨#[c]⟩) (fun c => !(c == 48 || c == 49)) (fun c => V.str ⟨#[c]⟩) (walk_sgn z) (fun _ _ => trivial) (by rw [Array.length_toList]; exact hz) nD (fun _ => rfl) (fun c hc H2 e2 Y N hY => ?_) (fun H2 e2 h2 => ?_)⟩
        · refine ⟨_, rfl, T.a_MARKS, _, rfl, .inr (T.m_MARKS _), rfl, rfl, _, rfl, ?_⟩
          have hY := hY H2 (Ex.refl _)
          rw [← inMarks c] at hY
          cases hm : inV (.str ⟨#[c]⟩) [.str "0", .str "1"] with
          | true =>
            rw [hm] at hY
            exact hY
          | false =>
            rw [hm] at hY
            exact ⟨_, rfl, hY⟩
        · refine ⟨small9 (by simp), fun o no => ?_⟩
          have e3 := e2.trans (Ex.new (o := HO.lst []) no)
          have h3 : SqL K (upd H2 o (.lst [])) D (((z.cps.toList.filter fun c => !(c == 48 || c == 49)).map fun c => (⟨#[c]⟩ : Str)).map V.str) := SqL.of (by rw [(Ex.new no) _ _ h2, List.map_map]; rfl)
          have ok1 : ∀ x ∈ (z.cps.toList.filter fun c => !(c == 48 || c == 49)).map (fun c => (⟨#[c]⟩ : Str)), PyData.strOk x = true := fun x hx => by
            obtain ⟨c, hc, rfl⟩ := List.mem_map.mp hx
            have h5 : z.cps.toList.all (· < 0x110000) = true := by rw [Array.all_toList]; exact hok
            have h6 := List.all_eq_true.mp h5 c (List.mem_filter.mp hc).1
            simpa [PyData.strOk] using h6
          refine ⟨_, .list (([] : List Str).map PyData.str), dpL h3, dpL (SqL.of upd_same), (sdStrs (n := 0) ok1).shaped (by decide), (sdStrs (n := 0) (by simp)).shaped (by decide), ?_⟩
          rw [eqvStrs]
          have e : isW z = decide ((z.cps.toList.filter fun c => !(c == 48 || c == 49)).map (fun c => (⟨#[c]⟩ : Str)) = []) := by
            unfold isW
            rw [decide_eq_true h1, decide_eq_true h4, Bool.true_and, Bool.true_and]
            rw [Bool.eq_iff_iff, decide_eq_true_eq, List.map_eq_nil_iff, List.filter_eq_nil_iff, List.all_eq_true]
            simp only [Bool.not_eq_true', Bool.not_eq_false]
          rw [← e]
          exact q _ e3
      · refine ifN (by simp; omega) ?_
        have e : isW z = false := by simp [isW, h4]
        rw [← e]
        exact q _ (Ex.refl _)
    · refine ifN (by simp; omega) ⟨_, rfl, ifN (by simp) ?_⟩
      have e : isW z = false := by simp [isW, h1]
      rw [← e]
      exact q _ (Ex.refl _)
/-- words of a round -/
structure Round (ws : List (List Bool)) (n : Nat) : Prop where
  ne : ws ≠ []
  wide : ∀ w ∈ ws, w.length = n
  n1 : 1 ≤ n
  n4 : n ≤ 4
  nd : ws.Nodup
  le : ws.length ≤ 16
theorem Round.pos {ws : List (List Bool)} {n : Nat} (h : Round ws n) : 0 < ws.length := List.length_pos_iff.mpr h.ne
def sp_need_words (K : PySem.W.Frag) : Sp := fun vs H Q _ => ∃ (p : Addr) (ws : List (List Bool)) (n : Nat), vs = [.ref p] ∧ SqL K H p (ws.map wv) ∧ Round ws n ∧ RetV .non H Q
theorem ok_need_words (T : TX K mg) : FnOk P w K mg base CX0 2 T.f_need_words T.fd_need_words ["words"] (sp_need_words K) := by
  refine T.F_need_words.ok sc_need_words (fun vs H Q E h => ?_) (fun cdv A outer s H vs Q E hr h => ?_)
  · obtain ⟨_, _, _, rfl, _⟩ := h
    rfl
  · obtain ⟨p, ws, n, rfl, hp, hR, q⟩ := h
    have hpos := hR.pos
    refine ⟨_, (pss_cons (ps_if (pt_cmpR op_eq (pe_callB call_len_seq (by rfl) T.z_len PySem.boot_len (pa_cons (pv 0) pa_nil)) pe_int (nomark _))
 (pss_one ps_never)
 pss_nil)
 (pss_one (ps_for PassesOwn.never rfl (pi_enum (by rfl) T.z_enumerate (pa_cons (pv 0) pa_nil)) (pg_tup (by rfl) (pgs_cons (pg_name (i := 1) sc_need_words.nd rfl (by first | exact Or.inl rfl | exact Or.inr rfl)) (pgs_cons (pg_name (i := 2) sc_need_words.nd rfl (by first | exact Or.inl rfl | exact Or.inr rfl)) pgs_nil)))
 (pss_one (ps_if (PW.pt (pw_or (pt_not (pt_val (pe_call (ok_is_word T) (hr.mono (by decide)) (by rfl) T.g_is_word T.F_is_word.kp T.b_is_word .nil pass0 (pa_cons (pv 2) pa_nil)))) (pw_or (pt_cmpR op_ne (pe_callB call_len_str (by rfl) T.z_len PySem.boot_len (pa_cons (pv 2) pa_nil)) (pe_callB call_len_str (by rfl) T.z_len PySem.boot_len (pa_cons (pe_ix ix_list (pv 0) pe_int (fun _ _ => rfl)) pa_nil)) (nomark _)) (pw_or1 (pt_cmpR op_in_seq (pv 2) (pe_slice sl_list (pv 0) po_none (po_some (pv 1))) (by rfl))))))
 (pss_one ps_never)
 pss_nil))))), ?_⟩
    refine ⟨_, rfl, p, _, rfl, .inl hp, rfl, _, rfl, ifN (by simp; exact hR.ne) ?_⟩
    refine ⟨_, rfl, p, _, rfl, hp, ?_⟩
    refine for_it (walk_enum (K := K) (a := p) (xs := ws.map wv)) (fun i σ H' => ∃ y z, σ = [some (.ref p), y, z] ∧ Ex H H') ⟨_, _, rfl, Ex.refl _⟩ (fun i σ H' _ ⟨_, _, _, e⟩ => ex_l e hp) ?_ ?_
    · rintro i x σ H1 H2 hi ⟨y, z, rfl, e1⟩ ⟨t, u, v, rfl, nt, rfl, hu, hv⟩
      obtain rfl := Option.some.inj hu
      have hv : (ws.map wv)[i]? = some v := hv
      obtain ⟨w, hw, rfl⟩ : ∃ w, ws[i]? = some w ∧ wv w = v := by
        rw [List.getElem?_map] at hv
        cases e : ws[i]? with
        | none => rw [e] at hv; cases hv
        | some y => rw [e] at hv; exact ⟨y, rfl, Option.some.inj hv⟩
      have hwm := List.mem_of_getElem? hw
      have hwl := hR.wide w hwm
      have e2 := e1.trans (Ex.new (o := HO.tup [.int (i : Nat), wv w]) nt)
      refine ⟨t, _, rfl, SqT.of upd_same, rfl, _, _, rfl, _, _, rfl, rfl, ?_⟩
      have h1 := hR.n1
      have h4 := hR.n4
      refine ⟨_, rfl, wd w, rfl, by rw [wd_len]; omega, strOk_wd w, fun H3 e3 => ?_⟩
      rw [isW_wd (by omega) (by omega)]
      refine ⟨true, rfl, ifN (by simp) ?_⟩
      have e13 := e2.trans e3
      obtain ⟨w0, hw0⟩ : ∃ w0, ws[0]? = some w0 := ⟨ws[0], List.getElem?_eq_getElem hpos⟩
      have hl0 := hR.wide w0 (List.mem_of_getElem? hw0)
      refine ⟨_, rfl, wd w, rfl, small9 (by rw [wd_len]; omega), _, rfl, p, _, 0, wv w0, rfl, rfl, ex_l e13 hp, atI_nat (j := 0) (by rw [List.getElem?_map, hw0]; rfl), wd w0, rfl, small9 (by rw [wd_len]; omega), rfl, _, rfl, ifN ?_ ?_⟩
      · rw [decide_eq_true (by rw [wd_len, wd_len, hwl, hl0])]
        simp
      refine ⟨_, rfl, _, rfl, _, rfl, i, rfl, p, _, rfl, ex_l e13 hp, fun o no => ⟨o, _, rfl, .inl (SqL.of upd_same), rfl, ?_, _, rfl, ?_⟩⟩
      · rw [cutTake, ← List.map_take]
        exact flatW _
      · rw [cutTake, ← List.map_take]
        refine ifN ?_ ⟨_, _, rfl, e13.trans (Ex.new no)⟩
        show ¬ inV (wv w) ((ws.take i).map wv) = true
        rw [inV_wv, decide_eq_true_eq]
        intro hm
        obtain ⟨j, hj, e⟩ := List.mem_iff_getElem.mp hm
        rw [List.length_take] at hj
        rw [List.getElem_take] at e
        have hw' := (List.getElem?_eq_some_iff.mp hw)
        obtain ⟨hi', e'⟩ := hw'
        have := (List.getElem_inj hR.nd (h₀ := by omega) (h₁ := hi')).mp (e.trans e'.symm)
        omega
    · rintro σ H' ⟨y, z, rfl, e⟩
      exact q _ e
def sp_seen_of : Sp := fun vs H Q _ => ∃ (a b : List Bool) (n : Nat), vs = [wv a, wv b] ∧ a.length = n ∧ b.length = n ∧ n ≤ 4 ∧ RetL ((seenW a b).map wv) H Q
theorem ok_seen_of (T : TX K mg) : FnOk P w K mg base CX0 1 T.f_seen_of T.fd_seen_of ["one", "other"] sp_seen_of := by
  refine T.F_seen_of.ok sc_seen_of (fun vs H Q E h => ?_) (fun cdv A outer s H vs Q E hr h => ?_)
  · obtain ⟨_, _, _, rfl, _⟩ := h
    rfl
  · obtain ⟨a, b, n, rfl, ha, hb, hn, q⟩ := h
    refine ⟨_, (pss_cons (ps_set (i := 2) sc_seen_of.nd rfl (by first | exact Or.inl rfl | exact Or.inr rfl) (pe_lst (pa_cons pe_str pa_nil)))
 (pss_cons (ps_for PassesOwn.never rfl (pi_range1 (by rfl) T.z_range (pa_cons (pe_callB call_len_str (by rfl) T.z_len PySem.boot_len (pa_cons (pv 0) pa_nil)) pa_nil)) (pg_name (i := 3) sc_seen_of.nd rfl (by first | exact Or.inl rfl | exact Or.inr rfl))
 (pss_cons (ps_set (i := 4) sc_seen_of.nd rfl (by first | exact Or.inl rfl | exact Or.inr rfl) (pe_callB (r := rSortSet w) (cr_sortSet rfl) (by rfl) T.z_sorted (by decide +kernel) (pa_cons (pe_callTy (r := rSetS K w) (cr_setS rfl) (by rfl) T.z_set (by decide +kernel) (pa_cons (pe_lst (pa_cons (pe_ix ix_str (pv 0) (pv 3) (fun _ _ => rfl)) (pa_cons (pe_ix ix_str (pv 1) (pv 3) (fun _ _ => rfl)) pa_nil))) pa_nil)) pa_nil)))
 (pss_cons (ps_set (i := 5) sc_seen_of.nd rfl (by first | exact Or.inl rfl | exact Or.inr rfl) (pe_lst pa_nil))
 (pss_cons (ps_for PassesOwn.never rfl (pi_list (pv 2)) (pg_name (i := 6) sc_seen_of.nd rfl (by first | exact Or.inl rfl | exact Or.inr rfl))
 (pss_one (ps_expr (pe_bm PySem.F.plainAttrs_list PySem.F.slot_list_extend PySem.F.type_list_extend mt_extend (pv 5) (pa_cons (pe_lc (own := [("mark", 7)]) (g := gName 7) (by rfl) sc_seen_of.nd (pi_list (pv 4)) (blkOk_by (own := [("mark", 7)]) (N := ["one", "other", "found", "at", "marks", "longer", "word", "mark"]) (sc := defScope s_seen_of) (by decide +kernel)) (fun _ _ _ _ _ => pg_name (i := 7) sc_seen_of.nd rfl (Or.inl rfl)) (fun _ _ _ _ _ => pts_nil) (fun _ _ _ _ _ => (pe_op op_add_str (pv 6) (pv 7)))) pa_nil)))))
 (pss_one (ps_set (i := 2) sc_seen_of.nd rfl (by first | exact Or.inl rfl | exact Or.inr rfl) (pv 5)))))))
 (pss_one (ps_ret (pv 2))))), ?_⟩
    refine ⟨small9 (by simp), fun p np => ?_⟩
    refine ⟨_, rfl, wd a, rfl, small9 (by rw [wd_len]; omega), _, rfl, lo62 _, hi62 (by rw [wd_len]; omega), ?_⟩
    have en : (((wd a).length : Int)).toNat = n := by rw [wd_len]; omega
    rw [en]
    refine for_range (lo := 0) (n := n) (fun i σ H' => ∃ p y3 y4 y5 y6 y7, σ = [some (wv a), some (wv b), some (.ref p), y3, y4, y5, y6, y7] ∧ Ex H H' ∧ H p = none ∧ H' p = some (.lst ((sUp a b i).map wv)))
      ⟨p, _, _, _, _, _, rfl, Ex.new np, np, by rw [upd_same, strE]; rfl⟩ ?_ ?_
    · rintro i σ H1 hi ⟨p, y3, y4, y5, y6, y7, rfl, e1, np, hp⟩
      have ei : (0 : Int) + (i : Int) = (i : Int) := Int.zero_add _
      rw [ei]
      have hpw : (sUp a b i).length ≤ 16 := Nat.le_trans (sUp_len a b i) (pow16 (by omega))
      -- marks
      refine ⟨_, rfl, _, rfl, wd a, _, bit (a.getD i false), rfl, rfl, small9 (by rw [wd_len]; omega), atW rfl (by omega), _, rfl, _, rfl, wd b, _, bit (b.getD i false), rfl, rfl, small9 (by rw [wd_len]; omega), atW rfl (by omega), small9 (by simp), fun l nl => ?_⟩
      have el := Ex.new (o := HO.lst [.str ⟨#[bit (a.getD i false)]⟩, .str ⟨#[bit (b.getD i false)]⟩]) nl
      refine ⟨l, [wd [a.getD i false], wd [b.getD i false]], rfl, SqL.of upd_same, by simp, fun st nst => ?_⟩
      have est := Ex.new (o := SetH w st ([wd [a.getD i false], wd [b.getD i false]].foldl insS [])) nst
      refine ⟨st, _, rfl, upd_same, Nat.lt_of_le_of_lt (setM_len _ _) (by decide), fun ys m hperm hsort nm => ?_⟩
      rw [sorted_marks hperm hsort]
      have em := Ex.new (o := HO.lst (((mk2 (a.getD i false) (b.getD i false)).map fun m => wd [m]).map V.str)) nm
      have e2 := (el.trans est).trans em
      have hm2 : (upd (upd (upd H1 l (.lst [.str ⟨#[bit (a.getD i false)]⟩, .str ⟨#[bit (b.getD i false)]⟩])) st (SetH w st ([wd [a.getD i false], wd [b.getD i false]].foldl insS []))) m (.lst (((mk2 (a.getD i false) (b.getD i false)).map fun m => wd [m]).map V.str))) m = some (.lst ((mk2 (a.getD i false) (b.getD i false)).map fun m => wv [m])) := by
        rw [upd_same, List.map_map]
        rfl
      have hp2 := e2 _ _ hp
      have e12 := e1.trans e2
      generalize (upd (upd (upd H1 l (.lst [.str ⟨#[bit (a.getD i false)]⟩, .str ⟨#[bit (b.getD i false)]⟩])) st (SetH w st ([wd [a.getD i false], wd [b.getD i false]].foldl insS []))) m (.lst (((mk2 (a.getD i false) (b.getD i false)).map fun m => wd [m]).map V.str))) = H2 at hm2 hp2 e12 ⊢
      -- longer
      refine ⟨small9 (by simp), fun lo nlo => ?_⟩
      have elo := Ex.new (o := HO.lst []) nlo
      have nlp : p ≠ lo := ne_of_none hp2 nlo
      have nlm : m ≠ lo := ne_of_none hm2 nlo
      have nlH : H lo = none := fresh_back e12 nlo
      refine ⟨_, rfl, p, rfl, ⟨_, SqL.of (elo _ _ hp2)⟩, ?_⟩
      refine for_list (K := K) (a := p) (xs := (sUp a b i).map wv) (fun k σ H' => ∃ y6 y7, σ = [some (wv a), some (wv b), some (.ref p), some (.int (i : Int)), some (.ref m), some (.ref lo), y6, y7] ∧ Ex H H' ∧ H' p = some (.lst ((sUp a b i).map wv)) ∧ H' m = some (.lst ((mk2 (a.getD i false) (b.getD i false)).map fun m => wv [m])) ∧
          H' lo = some (.lst ((stepS ((sUp a b i).take k) (a.getD i false, b.getD i false)).map wv)))
        ⟨_, _, rfl, e12.trans elo, elo _ _ hp2, elo _ _ hm2, upd_same⟩ (fun k σ H' _ ⟨_, _, _, _, h, _⟩ => SqL.of h) ?_ ?_
      · rintro k x σ H3 hk ⟨y6, y7, rfl, e3, hp3, hm3, hl3⟩
        obtain ⟨u, hu, rfl⟩ : ∃ u, (sUp a b i)[k]? = some u ∧ wv u = x := by
          rw [List.getElem?_map] at hk
          cases e : (sUp a b i)[k]? with
          | none => rw [e] at hk; cases hk
          | some y => rw [e] at hk; exact ⟨y, rfl, Option.some.inj hk⟩
        have hul : u.length = i := sUp_wide (by omega) (by omega) u (List.mem_of_getElem? hu)
        refine ⟨_, rfl, .inl ⟨rfl, _, SqL.of hl3⟩, _, rfl, m, rfl, ⟨_, SqL.of hm3⟩, fun D nD => lcM (mk2 (a.getD i false) (b.getD i false)) (fun c => wv [c]) (fun c => wv (u ++ [c])) (SqL.of hm3) (Nat.le_trans (mk2_len _ _) (by decide)) nD (fun _ => rfl) (fun c hc H4 e4 Y hY => ?_) (fun H4 e4 h4 => ?_)⟩
        · refine ⟨_, rfl, _, rfl, _, _, rfl, rfl, small9 (by rw [wd_len, wd_len]; simp; omega), ?_⟩
          rw [wd_app]
          exact hY _ (Ex.refl _)
        · have hlen : (stepS ((sUp a b i).take k) (a.getD i false, b.getD i false)).length ≤ 32 := by
            have h1 := stepS_len ((sUp a b i).take k) (a.getD i false, b.getD i false)
            have h2 : ((sUp a b i).take k).length ≤ 16 := by rw [List.length_take]; omega
            omega
          refine ⟨lo, D, _, _, rfl, rfl, e4 _ _ hl3, h4, ?_, _, _, rfl, (e3.trans e4).mut nlH, ?_, ?_, ?_⟩
          · rw [List.length_map, List.length_map]
            have := mk2_len (a.getD i false) (b.getD i false)
            exact small9 (by omega)
          · rw [upd_ne nlp]
            exact e4 _ _ hp3
          · rw [upd_ne nlm]
            exact e4 _ _ hm3
          · rw [upd_same, List.take_add_one, hu]
            unfold stepS
            simp [Function.comp_def]
      · rintro σ H3 ⟨y6, y7, rfl, e3, hp3, hm3, hl3⟩
        rw [List.length_map, List.take_length, ← sUp_succ (by omega) (by omega)] at hl3
        exact ⟨_, rfl, lo, _, _, _, _, _, rfl, e3, nlH, hl3⟩
    · rintro σ H1 ⟨p, y3, y4, y5, y6, y7, rfl, e1, np, hp⟩
      rw [sUp_all ha hb] at hp
      exact ⟨_, rfl, q p H1 np e1 hp⟩
def sp_mirrored : Sp := fun vs H Q _ => ∃ n : Nat, vs = [.int (n : Int)] ∧ n ≤ 4 ∧ RetL ((grayW n).map wv) H Q
theorem ok_mirrored (T : TX K mg) : FnOk P w K mg base CX0 1 T.f_mirrored T.fd_mirrored ["wide"] sp_mirrored := by
  refine T.F_mirrored.ok sc_mirrored (fun vs H Q E h => ?_) (fun cdv A outer s H vs Q E hr h => ?_)
  · obtain ⟨n, rfl, _⟩ := h
    rfl
  · obtain ⟨n, rfl, hn, q⟩ := h
    refine ⟨_, (pss_cons (ps_set (i := 1) sc_mirrored.nd rfl (by first | exact Or.inl rfl | exact Or.inr rfl) (pe_lst (pa_cons pe_str pa_nil)))
 (pss_cons (ps_for PassesOwn.never rfl (pi_range1 (by rfl) T.z_range (pa_cons (pv 0) pa_nil)) (pg_name (i := 2) sc_mirrored.nd rfl (by first | exact Or.inl rfl | exact Or.inr rfl))
 (pss_one (ps_set (i := 1) sc_mirrored.nd rfl (by first | exact Or.inl rfl | exact Or.inr rfl) (pe_op op_cat (pe_lc (own := [("word", 3)]) (g := gName 3) (by rfl) sc_mirrored.nd (pi_list (pv 1)) (blkOk_by (own := [("word", 3)]) (N := ["wide", "found", "turn", "word"]) (sc := defScope s_mirrored) (by decide +kernel)) (fun _ _ _ _ _ => pg_name (i := 3) sc_mirrored.nd rfl (Or.inl rfl)) (fun _ _ _ _ _ => pts_nil) (fun _ _ _ _ _ => (pe_op op_add_str pe_str (pv 3)))) (pe_lc (own := [("word", 3)]) (g := gName 3) (by rfl) sc_mirrored.nd (pi_list (pe_revL (pv 1))) (blkOk_by (own := [("word", 3)]) (N := ["wide", "found", "turn", "word"]) (sc := defScope s_mirrored) (by decide +kernel)) (fun _ _ _ _ _ => pg_name (i := 3) sc_mirrored.nd rfl (Or.inl rfl)) (fun _ _ _ _ _ => pts_nil) (fun _ _ _ _ _ => (pe_op op_add_str pe_str (pv 3))))))))
 (pss_one (ps_ret (pv 1))))), ?_⟩
    refine ⟨small9 (by decide), fun p np => ?_⟩
    refine q_forR1 (ea_cons (ev_var rfl) ea_nil) ⟨by omega, by omega⟩ (fun i σ H' => i ≤ n ∧ ∃ p y z, σ = [some (.int (n : Int)), some (.ref p), y, z] ∧ Ex H H' ∧ H p = none ∧ H' p = some (.lst ((grayW i).map wv))) (fun H1 e1 => ⟨Nat.zero_le _, p, _, _, rfl, (Ex.new np).trans e1, np, ?_⟩) ?_ ?_
    · rw [e1 _ _ upd_same, strE]
      rfl
    · rintro i σ H' hi ⟨_, p, y, z, rfl, e1, np, hp⟩
      have hw : (grayW i).length ≤ 1000 := by
        rw [grayW_len]
        exact Nat.le_trans (pow16 (by omega)) (by decide)
      refine ⟨.ref p, rfl, p, rfl, ⟨_, SqL.of hp⟩, fun D1 n1 => lcM (grayW i) wv (fun w => wv (false :: w)) (SqL.of hp) hw n1 (fun _ => rfl) (fun x hx H2 e2 Y hY => ?_) (fun H2 e2 h2 => ?_)⟩
      · refine ⟨_, rfl, _, _, rfl, rfl, ?_, ?_⟩
        · rw [str0, wd_len, wd_len, grayW_wide i x hx]
          exact small9 (by simp; omega)
        · rw [str0, wd_app]
          exact hY _ (Ex.refl _)
      · refine ⟨.ref p, rfl, p, _, rfl, SqL.of (e2 _ _ hp), fun r nr => ?_⟩
        have e2r := Ex.new (o := HO.lst ((grayW i).map wv).reverse) nr
        have hr2 : SqL K (upd H2 r (.lst ((grayW i).map wv).reverse)) r ((grayW i).reverse.map wv) := SqL.of (by rw [upd_same, List.map_reverse])
        refine ⟨r, rfl, ⟨_, hr2⟩, fun D2 n2 => lcM (grayW i).reverse wv (fun w => wv (true :: w)) hr2 (by rw [List.length_reverse]; exact hw) n2 (fun _ => rfl) (fun x hx H2 e2 Y hY => ?_) (fun H3 e3 h3 => ?_)⟩
        · refine ⟨_, rfl, _, _, rfl, rfl, ?_, ?_⟩
          · rw [str1, wd_len, wd_len, grayW_wide i x (List.mem_reverse.mp hx)]
            exact small9 (by simp; omega)
          · rw [str1, wd_app]
            exact hY _ (Ex.refl _)
        · have e23 := e2.trans (e2r.trans e3)
          refine ⟨D1, D2, _, _, rfl, rfl, e3 _ _ (e2r _ _ h2), h3, ?_, fun o no => ?_⟩
          · simp only [List.length_map, List.length_reverse, grayW_len]
            have := pow16 (n := i) (by omega)
            exact small9 (by omega)
          · refine ⟨by omega, o, _, _, rfl, (e1.trans e23).trans (Ex.new no), fresh_back (e1.trans e23) no, ?_⟩
            rw [upd_same]
            show some (HO.lst _) = some (HO.lst _)
            simp [grayW, Function.comp_def]
    · rintro σ H' ⟨_, p, y, z, rfl, e1, np, hp⟩
      exact ⟨_, rfl, q p H' np e1 hp⟩
def bothOf (ws : List (List Bool)) (i : Nat) : List (List Bool) := [ws.getD i [], ws.getD ((i + 1) % ws.length) []]
def othersOf (ws : List (List Bool)) (i : Nat) : List (List Bool) := (seenW (ws.getD i []) (ws.getD ((i + 1) % ws.length) [])).filter fun w => !decide (w ∈ bothOf ws i)
/-- the first place whose turn lets another word be seen, and that word -/
def tornAt (ws : List (List Bool)) : Nat → Option (Nat × List Bool)
  | 0 => none
  | n + 1 => match tornAt ws n with
    | some x => some x
    | none => (othersOf ws n).head?.map fun w => (n, w)
def torn1 (ws : List (List Bool)) : Option (Nat × List Bool) := tornAt ws ws.length
theorem tornAt_none {ws : List (List Bool)} {n : Nat} (h : tornAt ws n = none) (ho : othersOf ws n = []) : tornAt ws (n + 1) = none := by
  unfold tornAt
  rw [h, ho]
  rfl
theorem tornAt_some {ws : List (List Bool)} {n : Nat} {w : List Bool} {r : List (List Bool)} (h : tornAt ws n = none) (ho : othersOf ws n = w :: r) : ∀ k, tornAt ws (n + 1 + k) = some (n, w)
  | 0 => by
    show tornAt ws (n + 1) = _
    unfold tornAt
    rw [h, ho]
    rfl
  | k + 1 => by
    show tornAt ws (n + 1 + k + 1) = _
    unfold tornAt
    rw [tornAt_some h ho k]
/-- the answer: None, or a new pair -/
def RetP (o : Option (Nat × List Bool)) (H : Hp) (Q : VK) : Prop := match o with
  | none => RetV .non H Q
  | some (i, w) => RetU [.int (i : Int), wv w] H Q
def sp_first_torn (K : PySem.W.Frag) : Sp := fun vs H Q _ => ∃ (p : Addr) (ws : List (List Bool)) (n : Nat), vs = [.ref p] ∧ SqL K H p (ws.map wv) ∧ Round ws n ∧ RetP (torn1 ws) H Q
theorem getDW {ws : List (List Bool)} {i : Nat} (h : i < ws.length) : (ws.map wv)[i]? = some (wv (ws.getD i [])) := by
  rw [List.getElem?_map, List.getD_eq_getElem?_getD, List.getElem?_eq_getElem h]
  rfl
theorem getD_mem {ws : List (List Bool)} {i : Nat} (h : i < ws.length) : ws.getD i [] ∈ ws := by
  rw [List.getD_eq_getElem?_getD, List.getElem?_eq_getElem h]
  exact List.getElem_mem h
theorem ok_first_torn (T : TX K mg) : FnOk P w K mg base CX0 3 T.f_first_torn T.fd_first_torn ["words"] (sp_first_torn K) := by
  refine T.F_first_torn.ok sc_first_torn (fun vs H Q E h => ?_) (fun cdv A outer s H vs Q E hr h => ?_)
  · obtain ⟨_, _, _, rfl, _⟩ := h
    rfl
  · obtain ⟨p, ws, n, rfl, hp, hR, q⟩ := h
    have hpos := hR.pos
    have hle := hR.le
    refine ⟨_, (pss_cons (ps_expr (pe_call (ok_need_words T) (hr.mono (by decide)) (by rfl) T.g_need_words T.F_need_words.kp T.b_need_words .nil pass0 (pa_cons (pv 0) pa_nil)))
 (pss_cons (ps_for PassesOwn.never rfl (pi_range1 (by rfl) T.z_range (pa_cons (pe_callB call_len_seq (by rfl) T.z_len PySem.boot_len (pa_cons (pv 0) pa_nil)) pa_nil)) (pg_name (i := 1) sc_first_torn.nd rfl (by first | exact Or.inl rfl | exact Or.inr rfl))
 (pss_cons (ps_set (i := 2) sc_first_torn.nd rfl (by first | exact Or.inl rfl | exact Or.inr rfl) (pe_lst (pa_cons (pe_ix ix_list (pv 0) (pv 1) (fun _ _ => rfl)) (pa_cons (pe_ix ix_list (pv 0) (pe_op op_mod (pe_op op_add (pv 1) pe_int) (pe_callB call_len_seq (by rfl) T.z_len PySem.boot_len (pa_cons (pv 0) pa_nil))) (fun _ _ => rfl)) pa_nil))))
 (pss_cons (ps_setLc (i := 3) (own := [("word", 4)]) (g := gName 4) (by rfl) sc_first_torn.nd rfl rfl (sw_true rfl rfl rfl (by decide +kernel)) (pi_list (pe_call (ok_seen_of T) (hr.mono (by decide)) (by rfl) T.g_seen_of T.F_seen_of.kp T.b_seen_of .nil pass0 (pa_cons (pe_ix ix_list (pv 2) pe_int (fun _ _ => rfl)) (pa_cons (pe_ix ix_list (pv 2) pe_int (fun _ _ => rfl)) pa_nil)))) (blkOk_by (own := [("word", 4)]) (N := ["words", "at", "both", "others", "word"]) (sc := defScope s_first_torn) (by decide +kernel)) (fun _ _ _ _ _ => pg_name (i := 4) sc_first_torn.nd rfl (Or.inl rfl)) (fun _ _ _ _ _ => (pts_one (pt_cmpR (r := rIn K true) op_notIn_seq (pv 4) (pv 2) (by rfl)))) (fun _ _ _ _ _ => (pv 4)))
 (pss_one (ps_if (pt_cmpR (op_neD hr.units) (pv 3) (pe_lst pa_nil) (nomark _))
 (pss_one (ps_ret (pe_tup (pa_cons (pv 1) (pa_cons (pe_ix ix_list (pv 3) pe_int (fun _ _ => rfl)) pa_nil)))))
 pss_nil)))))
 (pss_one (ps_ret pe_non)))), ?_⟩
    refine ⟨_, rfl, p, ws, n, rfl, hp, hR, fun H1 e1 => ?_⟩
    refine ⟨_, rfl, p, _, rfl, .inl (ex_l e1 hp), _, rfl, lo62 _, hi62 (by rw [List.length_map]; omega), ?_⟩
    rw [List.length_map]
    refine for_range (lo := 0) (n := ws.length) (fun i σ H' => ∃ y1 y2 y3 y4, σ = [some (.ref p), y1, y2, y3, y4] ∧ Ex H H' ∧ tornAt ws i = none) ⟨_, _, _, _, rfl, e1, rfl⟩ ?_ ?_
    · rintro i σ H2 hi ⟨y1, y2, y3, y4, rfl, e2, ht⟩
      have ei : (0 : Int) + (i : Int) = (i : Int) := Int.zero_add _
      rw [ei]
      have hj : (i + 1) % ws.length < ws.length := Nat.mod_lt _ hpos
      have w1 := hR.wide _ (getD_mem hi)
      have w2 := hR.wide _ (getD_mem hj)
      refine ⟨_, rfl, _, rfl, p, _, _, wv (ws.getD i []), rfl, rfl, ex_l e2 hp, atI_nat (getDW hi), _, rfl, _, rfl, _, _, rfl, rfl, _, rfl, p, _, rfl, .inl (ex_l e2 hp), _, _, rfl, rfl, ?_, p, _, _, wv (ws.getD ((i + 1) % ws.length) []), rfl, rfl, ex_l e2 hp, ats ?_ (getDW hj), small9 (by simp), fun b nb => ?_⟩
      · show (0 : Int) < ((ws.map wv).length : Int)
        rw [List.length_map]
        omega
      · rw [List.length_map]
        simp
      have eb := Ex.new (o := HO.lst [wv (ws.getD i []), wv (ws.getD ((i + 1) % ws.length) [])]) nb
      refine ⟨_, rfl, b, _, 0, _, rfl, rfl, SqL.of upd_same, atI_nat (j := 0) rfl, _, rfl, b, _, 1, _, rfl, rfl, SqL.of upd_same, atI_nat (j := 1) rfl, ?_⟩
      refine ⟨_, _, n, rfl, w1, w2, hR.n4, fun l H3 nl e3 hl => ?_⟩
      have hb3 := e3 _ _ (upd_same (H := H2) (a := b) (o := HO.lst [wv (ws.getD i []), wv (ws.getD ((i + 1) % ws.length) [])]))
      have hsl : (seenW (ws.getD i []) (ws.getD ((i + 1) % ws.length) [])).length ≤ 16 := Nat.le_trans (seenW_len w1 w2) (pow16 hR.n4)
      refine ⟨l, rfl, ⟨_, SqL.of hl⟩, fun D nD => lcFM (seenW (ws.getD i []) (ws.getD ((i + 1) % ws.length) [])) wv (fun w => !decide (w ∈ bothOf ws i)) wv (SqL.of hl) (by omega) nD (fun _ => rfl) (fun x hx H4 e4 Y N hY => ?_) (fun H4 e4 h4 => ?_)⟩
      · refine ⟨_, rfl, _, rfl, b, _, rfl, .inl (SqL.of (e4 _ _ hb3)), rfl, flatW (bothOf ws i), _, rfl, ?_⟩
        have hY := hY H4 (Ex.refl _)
        show if (!inV (wv x) ((bothOf ws i).map wv)) = true then _ else _
        rw [inV_wv]
        cases hd : decide (x ∈ bothOf ws i) with
        | true =>
          rw [hd] at hY
          exact hY
        | false =>
          rw [hd] at hY
          exact ⟨_, rfl, hY⟩
      have h4 : H4 D = some (.lst (((othersOf ws i).map wd).map V.str)) := by
        rw [h4, List.map_map]
        rfl
      have e24 := ((e2.trans eb).trans e3).trans e4
      refine ⟨_, rfl, small9 (by simp), fun o no => ?_⟩
      have eo := Ex.new (o := HO.lst []) no
      refine ⟨_, .list (([] : List Str).map PyData.str), dpL (SqL.of (eo _ _ h4)), dpL (SqL.of upd_same), (sdStrs (n := 0) (fun x hx => ?_)).shaped (by decide), (sdStrs (n := 0) (by simp)).shaped (by decide), _, rfl, ?_⟩
      · obtain ⟨u, _, rfl⟩ := List.mem_map.mp hx
        exact strOk_wd u
      rw [eqvStrs]
      cases hot : othersOf ws i with
      | nil =>
        refine ifN (by simp) ?_
        exact ⟨_, _, _, _, rfl, e24.trans eo, tornAt_none ht hot⟩
      | cons u r =>
        refine ifP (by simp) ?_
        rw [hot] at h4
        refine ⟨_, rfl, _, rfl, D, _, 0, wv u, rfl, rfl, SqL.of (eo _ _ h4), atI_nat (j := 0) rfl, small9 (by simp), fun t nt => ?_⟩
        have hq : torn1 ws = some (i, u) := by
          have := tornAt_some ht hot (ws.length - (i + 1))
          rw [show i + 1 + (ws.length - (i + 1)) = ws.length by omega] at this
          exact this
        rw [hq] at q
        exact q t _ (fresh_back (e24.trans eo) nt) ((e24.trans eo).trans (Ex.new nt)) upd_same
    · rintro σ H2 ⟨y1, y2, y3, y4, rfl, e2, ht⟩
      have hq : torn1 ws = none := ht
      rw [hq] at q
      exact q _ e2
def cwide (h : Nat) : Nat := if h ≤ 1 then 1 else if h ≤ 2 then 2 else if h ≤ 4 then 3 else 4
def cutWs (h : Nat) : List (List Bool) := (grayW (cwide h)).take h ++ (grayW (cwide h)).drop (2 ^ cwide h - h)
def sp_cut : Sp := fun vs H Q _ => ∃ h : Nat, vs = [.int (2 * (h : Int))] ∧ 1 ≤ h ∧ h ≤ 8 ∧ RetL ((cutWs h).map wv) H Q
theorem cwide_iff {h n : Nat} (h1 : 1 ≤ h) (h8 : h ≤ 8) (n1 : 1 ≤ n) (hn : n ≤ cwide h) : 2 ^ n < 2 * h ↔ n < cwide h := by
  have : h = 1 ∨ h = 2 ∨ h = 3 ∨ h = 4 ∨ h = 5 ∨ h = 6 ∨ h = 7 ∨ h = 8 := by omega
  have hc : cwide h ≤ 4 := by unfold cwide; split <;> (try split) <;> (try split) <;> omega
  have : n = 1 ∨ n = 2 ∨ n = 3 ∨ n = 4 := by omega
  rename_i hh
  rcases hh with rfl | rfl | rfl | rfl | rfl | rfl | rfl | rfl <;> rcases this with rfl | rfl | rfl | rfl <;> revert hn <;> decide
theorem cwide_le (h : Nat) : 1 ≤ cwide h ∧ cwide h ≤ 4 := by
  unfold cwide
  split
  · decide
  · split
    · decide
    · split <;> decide
theorem ok_cut (T : TX K mg) : FnOk P w K mg base CX0 2 T.f_cut T.fd_cut ["many"] sp_cut := by
  refine T.F_cut.ok sc_cut (fun vs H Q E h => ?_) (fun cdv A outer s H vs Q E hr h => ?_)
  · obtain ⟨_, rfl, _⟩ := h
    rfl
  · obtain ⟨h, rfl, h1, h8, q⟩ := h
    have hc := cwide_le h
    have h16 := pow16 hc.2
    refine ⟨_, (pss_cons (ps_if (PW.pt (pw_or (pt_not (pt_chain op_le op_le pe_int (pv 0) (pe_glob (v := .int 16) (by rfl) T.c_MOST_WORDS ⟨_, rfl⟩))) (pw_or1 (pt_cmpR op_eq (pe_op op_mod (pv 0) pe_int) pe_int (nomark _)))))
 (pss_one ps_never)
 pss_nil)
 (pss_cons (ps_set (i := 1) sc_cut.nd rfl (by first | exact Or.inl rfl | exact Or.inr rfl) pe_int)
 (pss_cons (ps_while PassesOwn.never (pt_cmpR op_lt (pe_callB call_len_seq (by rfl) T.z_len PySem.boot_len (pa_cons (pe_call (ok_mirrored T) (hr.mono (by decide)) (by rfl) T.g_mirrored T.F_mirrored.kp T.b_mirrored .nil pass0 (pa_cons (pv 1) pa_nil)) pa_nil)) (pv 0) (nomark _))
 (pss_one (ps_set (i := 1) sc_cut.nd rfl (by first | exact Or.inl rfl | exact Or.inr rfl) (pe_op op_add (pv 1) pe_int))))
 (pss_cons (ps_set (i := 2) sc_cut.nd rfl (by first | exact Or.inl rfl | exact Or.inr rfl) (pe_call (ok_mirrored T) (hr.mono (by decide)) (by rfl) T.g_mirrored T.F_mirrored.kp T.b_mirrored .nil pass0 (pa_cons (pv 1) pa_nil)))
 (pss_one (ps_ret (pe_op op_cat (pe_slice sl_list (pv 2) po_none (po_some (pe_op op_fdiv (pv 0) pe_int))) (pe_slice sl_list (pv 2) (po_some (pe_op op_sub (pe_callB call_len_seq (by rfl) T.z_len PySem.boot_len (pa_cons (pv 2) pa_nil)) (pe_op op_fdiv (pv 0) pe_int))) po_none)))))))), ?_⟩
    refine ⟨_, rfl, _, _, rfl, rfl, _, rfl, ifP (decide_eq_true (by omega)) ⟨_, _, rfl, rfl, _, rfl, ifN (by simp; omega) ?_⟩⟩
    refine ⟨_, rfl, _, _, rfl, rfl, (by decide : (0 : Int) < 2), rfl, _, rfl, ifN ?_ ?_⟩
    · show ¬ decide (V.int (2 * (h : Int) % 2) = V.int 1) = true
      rw [show (2 * (h : Int)) % 2 = 0 by omega]
      decide
    refine ⟨fun f σ H' => ∃ (n : Nat) (y2 : Option V), σ = [some (.int (2 * (h : Int))), some (.int (n : Int)), y2] ∧ Ex H H' ∧ 1 ≤ n ∧ n + f = cwide h, ⟨cwide h - 1, 1, none, rfl, Ex.refl _, by omega, by omega⟩, ?_⟩
    rintro f σ H1 ⟨n, y2, rfl, e1, n1, hf⟩
    have hiff := cwide_iff h1 h8 n1 (show n ≤ cwide h by omega)
    refine ⟨_, rfl, n, rfl, by omega, fun p H2 np e2 hp => ?_⟩
    refine ⟨p, _, rfl, .inl (SqL.of hp), _, rfl, _, _, rfl, rfl, _, rfl, ?_⟩
    rw [List.length_map, grayW_len]
    by_cases hlt : 2 ^ n < 2 * h
    · refine ifP (decide_eq_true (by exact_mod_cast hlt)) ?_
      refine ⟨fun σ' H' => ∃ (n : Nat) (y2 : Option V), σ' = [some (.int (2 * (h : Int))), some (.int (n : Int)), y2] ∧ Ex H H' ∧ 1 ≤ n ∧ n + f = cwide h + 1 ∧ 0 < f, fun σ' H' hN => ?_, ?_⟩
      · obtain ⟨n', y', a1, a2, a3, a4, a5⟩ := hN
        exact ⟨f - 1, by omega, n', y', a1, a2, a3, by omega⟩
      · have := hiff.mp hlt
        exact ⟨_, rfl, _, _, rfl, rfl, n + 1, _, rfl, e1.trans e2, by omega, by omega, by omega⟩
    · refine ifN (by simp; exact_mod_cast Nat.le_of_not_lt hlt) ?_
      have hn : n = cwide h := by
        have : ¬ n < cwide h := fun z => hlt (hiff.mpr z)
        omega
      subst hn
      refine ⟨_, rfl, cwide h, rfl, hc.2, fun p H3 np e3 hp => ?_⟩
      have ed : 2 * (h : Int) / 2 = (h : Int) := by omega
      refine ⟨_, rfl, _, rfl, _, _, rfl, rfl, ⟨by decide, by decide⟩, _, rfl, p, _, rfl, SqL.of hp, fun s1 ns1 => ?_⟩
      have es1 := Ex.new (o := HO.lst (cutV ((grayW (cwide h)).map wv) none (some (2 * (h : Int) / 2)))) ns1
      refine ⟨_, rfl, _, rfl, p, _, rfl, .inl (SqL.of (es1 _ _ hp)), _, rfl, _, _, rfl, rfl, ⟨by decide, by decide⟩, _, _, rfl, rfl, _, rfl, p, _, rfl, SqL.of (es1 _ _ hp), fun s2 ns2 => ?_⟩
      have hle : h ≤ 2 ^ cwide h := by
        have := cwide_iff h1 h8 hc.1 (Nat.le_refl _)
        omega
      have ex : (((grayW (cwide h)).map wv).length : Int) - (h : Int) = ((2 ^ cwide h - h : Nat) : Int) := by
        rw [List.length_map, grayW_len]
        omega
      refine ⟨s1, s2, _, _, rfl, rfl, (Ex.new ns2) _ _ upd_same, upd_same, ?_, fun o no => ?_⟩
      · rw [ed, ex, cutTake, cutDrop, List.length_take, List.length_drop, List.length_map, grayW_len]
        exact small9 (by omega)
      · refine q o _ (fresh_back (((e1.trans e2).trans e3).trans (es1.trans (Ex.new ns2))) no) ((((e1.trans e2).trans e3).trans (es1.trans (Ex.new ns2))).trans (Ex.new no)) ?_
        rw [upd_same, ed, ex, cutTake, cutDrop, cutWs, List.map_append, List.map_take, List.map_drop]
theorem insS_all : ∀ (xs acc : List Str), (∀ x ∈ xs, x ∉ acc) → xs.Nodup → (xs.foldl insS acc).length = acc.length + xs.length
  | [], acc, _, _ => rfl
  | x :: xs, acc, h, nd => by
    obtain ⟨h1, h2⟩ := List.nodup_cons.mp nd
    have hx : x ∉ acc := h x List.mem_cons_self
    have e : insS acc x = x :: acc := by rw [insS, if_neg hx]
    rw [List.foldl_cons, e, insS_all xs (x :: acc) (fun y hy hm => ?_) h2]
    · simp
      omega
    · rcases List.mem_cons.mp hm with rfl | hm
      · exact h1 hy
      · exact h y (List.mem_cons_of_mem _ hy) hm
theorem nodup_wd {ws : List (List Bool)} (h : ws.Nodup) : (ws.map wd).Nodup := by
  refine List.pairwise_map.mpr (h.imp fun ne e => ne (wd_inj e))
def diffs (a b : List Bool) : List Nat := (List.range a.length).filter fun k => a.getD k false != b.getD k false
/-- words of one width, unlike, each unlike the next in one mark -/
structure ByOne (ws : List (List Bool)) (n : Nat) : Prop where
  nd : ws.Nodup
  wide : ∀ w ∈ ws, w.length = n
  n4 : n ≤ 4
  le : ws.length ≤ 16
  one : ∀ i, i < ws.length → (diffs (ws.getD i []) (ws.getD ((i + 1) % ws.length) [])).length = 1
def sp_l_is_round : Sp := fun vs H Q _ => ∃ (p : Addr) (ws : List (List Bool)) (n : Nat), vs = [.ref p, .int (ws.length : Int)] ∧ H p = some (.lst (ws.map wv)) ∧ ByOne ws n ∧ RetV (.bl true) H Q
theorem kb_ll' : kitB "list" "list" = some true := by decide +kernel
theorem ok_l_is_round (T : TX K mg) : FnOk P w K mg base CX0 1 T.f_l_is_round T.fd_l_is_round ["_law_words", "_law_many"] sp_l_is_round := by
  refine T.F_l_is_round.ok sc_l_is_round (fun vs H Q E h => ?_) (fun cdv A outer s H vs Q E hr h => ?_)
  · obtain ⟨_, _, _, rfl, _⟩ := h
    rfl
  · obtain ⟨p, ws, n, rfl, hp, hB, q⟩ := h
    have hle := hB.le
    have h4 := hB.n4
    refine ⟨_, (pss_cons (ps_if (PW.pt (pw_or (pt_not (pt_val (pe_callB call_isi (by rfl) T.z_isinstance (by decide +kernel) (pa_cons (pv 0) (pa_cons (pe_bltn (v := .ty "list") (u := .type "list") (by rfl) T.z_list (by decide +kernel) rfl) pa_nil))))) (pw_or (pt_cmpR op_ne (pe_callB call_len_seq (by rfl) T.z_len PySem.boot_len (pa_cons (pv 0) pa_nil)) (pv 1) (nomark _)) (pw_or1 (pt_cmpR op_ne (pe_callB (r := rLenSet w) call_lenSet (by rfl) T.z_len PySem.boot_len (pa_cons (pe_callTy (r := rSetS K w) (cr_setS rfl) (by rfl) T.z_set (by decide +kernel) (pa_cons (pv 0) pa_nil)) pa_nil)) (pv 1) (nomark _))))))
 (pss_one (ps_ret pe_bl))
 pss_nil)
 (pss_cons (ps_for PassesOwn.never rfl (pi_range1 (by rfl) T.z_range (pa_cons (pv 1) pa_nil)) (pg_name (i := 2) sc_l_is_round.nd rfl (by first | exact Or.inl rfl | exact Or.inr rfl))
 (pss_cons (ps_asg (pe_tup (pa_cons (pe_ix ix_list (pv 0) (pv 2) (fun _ _ => rfl)) (pa_cons (pe_ix ix_list (pv 0) (pe_op op_mod (pe_op op_add (pv 2) pe_int) (pv 1)) (fun _ _ => rfl)) pa_nil))) (pg_tup (by rfl) (pgs_cons (pg_name (i := 3) sc_l_is_round.nd rfl (by first | exact Or.inl rfl | exact Or.inr rfl)) (pgs_cons (pg_name (i := 4) sc_l_is_round.nd rfl (by first | exact Or.inl rfl | exact Or.inr rfl)) pgs_nil))))
 (pss_one (ps_if (PW.pt (pw_or (pt_cmpR op_ne (pe_callB call_len_str (by rfl) T.z_len PySem.boot_len (pa_cons (pv 3) pa_nil)) (pe_callB call_len_str (by rfl) T.z_len PySem.boot_len (pa_cons (pv 4) pa_nil)) (nomark _)) (pw_or1 (pt_cmpR op_ne (pe_callB call_len_seq (by rfl) T.z_len PySem.boot_len (pa_cons (pe_lc (own := [("_law_k", 5)]) (g := gName 5) (by rfl) sc_l_is_round.nd (pi_range1 (by rfl) T.z_range (pa_cons (pe_callB call_len_str (by rfl) T.z_len PySem.boot_len (pa_cons (pv 3) pa_nil)) pa_nil)) (blkOk_by (own := [("_law_k", 5)]) (N := ["_law_words", "_law_many", "_law_at", "_law_one", "_law_other", "_law_k"]) (sc := defScope s_l_is_round) (by decide +kernel)) (fun _ _ _ _ _ => pg_name (i := 5) sc_l_is_round.nd rfl (Or.inl rfl)) (fun _ _ _ _ _ => (pts_one (pt_cmpR op_ne (pe_ix ix_str (pv 3) (pv 5) (fun _ _ => rfl)) (pe_ix ix_str (pv 4) (pv 5) (fun _ _ => rfl)) (nomark _)))) (fun _ _ _ _ _ => (pv 5))) pa_nil)) pe_int (nomark _)))))
 (pss_one (ps_ret pe_bl))
 pss_nil))))
 (pss_one (ps_ret pe_bl)))), ?_⟩
    refine ⟨_, rfl, _, _, _, _, _, rfl, .ty _, .base (.lst hp), kit_ty kb_ll', _, rfl, ifN (by simp) ?_⟩
    refine ⟨_, rfl, p, _, rfl, .inl (SqL.of hp), _, rfl, rfl, _, rfl, ifN ?_ ?_⟩
    · rw [decide_eq_true (by rw [List.length_map])]
      simp
    refine ⟨_, rfl, p, ws.map wd, rfl, SqL.of (by rw [hp, List.map_map]; rfl), by rw [List.length_map]; omega, fun st nst => ?_⟩
    have est := Ex.new (o := SetH w st ((ws.map wd).foldl insS [])) nst
    have hsl : ((ws.map wd).foldl insS []).length = ws.length := by
      rw [insS_all _ _ (by simp) (nodup_wd hB.nd)]
      simp
    refine ⟨st, _, rfl, upd_same, by rw [hsl]; omega, _, rfl, rfl, _, rfl, ifN ?_ ?_⟩
    · rw [decide_eq_true (by rw [hsl])]
      simp
    refine ⟨_, rfl, _, rfl, lo62 _, hi62 (by omega), ?_⟩
    rw [show ((ws.length : Int)).toNat = ws.length by omega]
    refine for_range (lo := 0) (n := ws.length) (fun i σ H' => ∃ y2 y3 y4 y5, σ = [some (.ref p), some (.int (ws.length : Int)), y2, y3, y4, y5] ∧ Ex H H') ⟨_, _, _, _, rfl, est⟩ ?_ ?_
    · rintro i σ H2 hi ⟨y2, y3, y4, y5, rfl, e2⟩
      have ei : (0 : Int) + (i : Int) = (i : Int) := Int.zero_add _
      rw [ei]
      have hp2 := SqL.of (K := K) (e2 _ _ hp)
      have hj : (i + 1) % ws.length < ws.length := Nat.mod_lt _ (by omega)
      have w1 := hB.wide _ (getD_mem hi)
      have w2 := hB.wide _ (getD_mem hj)
      have h1 := hB.one i hi
      generalize ea : ws.getD i [] = a at w1 h1
      generalize eb : ws.getD ((i + 1) % ws.length) [] = b at w2 h1
      refine ⟨_, rfl, _, rfl, p, _, _, wv a, rfl, rfl, hp2, atI_nat (by rw [← ea]; exact getDW hi), _, rfl, _, rfl, _, _, rfl, rfl, _, rfl, _, _, rfl, rfl, ?_, p, _, _, wv b, rfl, rfl, hp2, ats ?_ (by rw [← eb]; exact getDW hj), small9 (by simp), fun t nt => ⟨t, _, rfl, SqT.of upd_same, rfl, _, _, rfl, _, _, rfl, rfl, ?_⟩⟩
      · show (0 : Int) < (ws.length : Int)
        omega
      · simp
      have et := e2.trans (Ex.new (o := HO.tup [wv a, wv b]) nt)
      refine ⟨_, rfl, wd a, rfl, small9 (by rw [wd_len]; omega), _, rfl, wd b, rfl, small9 (by rw [wd_len]; omega), rfl, _, rfl, ifN ?_ ?_⟩
      · rw [decide_eq_true (by rw [wd_len, wd_len, w1, w2])]
        simp
      refine ⟨_, rfl, wd a, rfl, small9 (by rw [wd_len]; omega), _, rfl, lo62 _, hi62 (by rw [wd_len]; omega), fun D nD => lcRF a.length (fun k => a.getD k false != b.getD k false) (fun k => .int (k : Int)) (by rw [wd_len]) (by omega) nD (fun _ => rfl) (fun k hk H3 e3 Y N hY => ?_) (fun H3 e3 h3 => ?_)⟩
      · refine ⟨_, rfl, _, rfl, wd a, _, bit (a.getD k false), rfl, rfl, small9 (by rw [wd_len]; omega), atW rfl hk, _, rfl, _, rfl, wd b, _, bit (b.getD k false), rfl, rfl, small9 (by rw [wd_len]; omega), atW rfl (by omega), rfl, _, rfl, ?_⟩
        rw [dec_sgn]
        have hY := hY H3 (Ex.refl _)
        cases hd : (a.getD k false != b.getD k false) with
        | true =>
          rw [hd] at hY
          exact ⟨_, rfl, hY⟩
        | false =>
          rw [hd] at hY
          exact hY
      · refine ⟨D, _, rfl, .inl (SqL.of h3), rfl, _, rfl, ifN ?_ ⟨_, _, _, _, rfl, et.trans e3⟩⟩
        have : (((List.range a.length).filter fun k => a.getD k false != b.getD k false).map fun k : Nat => V.int (k : Int)).length = 1 := by
          rw [List.length_map]
          exact h1
        rw [this]
        simp
    · rintro σ H2 ⟨y2, y3, y4, y5, rfl, e2⟩
      exact q _ e2
theorem ok_l_off (T : TX K mg) : FnOk P w K mg base CX0 1 T.f_l_off T.fd_l_off ["_law_d", "_law_most"] sp_l_off := by
  refine T.F_l_off.ok sc_l_off (fun vs H Q E h => ?_) (fun cdv A outer s H vs Q E hr h => ?_)
  · obtain ⟨d, n, rfl, _⟩ := h
    rfl
  · obtain ⟨d, n, rfl, ⟨s0, c, r, hd, s1, s2, c0, r0⟩, n0, n1, q⟩ := h
    refine ⟨_, (pss_cut (ps_if (PW.pt (pw_and (pt_cmpR op_eq (pe_ix ix_list (pv 0) pe_int (fun _ _ => rfl)) pe_int (nomark _)) (pw_and1 (pt_cmpR op_gt (pe_callB call_len_seq (by rfl) T.z_len PySem.boot_len (pa_cons (pv 0) pa_nil)) pe_int (nomark _)))))
 (pss_one (ps_asg (pe_bm PySem.F.plainAttrs_list PySem.F.slot_list_pop PySem.F.type_list_pop mt_popAt (pv 0) (pa_cons pe_int pa_nil)) (pg_sub (pv 0) pe_int set_list)))
 pss_nil)
 (pss_cons (ps_if (pt_cmpR op_gt (pe_ix ix_list (pv 0) pe_int (fun _ _ => rfl)) pe_int (nomark _))
 (pss_cons (ps_set (i := 2) sc_l_off.nd rfl (by first | exact Or.inl rfl | exact Or.inr rfl) (pe_op op_mod (pe_ix ix_list (pv 0) pe_int (fun _ _ => rfl)) (pv 1)))
 (pss_cons (ps_asg (pe_op op_fdiv (pe_ix ix_list (pv 0) pe_int (fun _ _ => rfl)) (pv 1)) (pg_sub (pv 0) pe_int set_list))
 (pss_one (ps_ret (pv 2)))))
 pss_nil)
 (pss_cons (ps_asg (pe_op op_mod (pe_op op_add (pe_op op_mul (pe_ix ix_list (pv 0) pe_int (fun _ _ => rfl)) pe_int) pe_int) pe_int) (pg_sub (pv 0) pe_int set_list))
 (pss_one (ps_ret (pe_op op_mod (pe_op op_fdiv (pe_ix ix_list (pv 0) pe_int (fun _ _ => rfl)) pe_int) (pv 1))))))), ?_⟩
    refine ⟨fun σ H1 => σ = [some (.ref d), some (.int n), none] ∧ Exd d H H1 ∧ ∃ c r, H1 d = some (.lst ((s0 :: c :: r).map V.int)) ∧ 0 ≤ c ∧ ∀ x ∈ r, 0 ≤ x, ?_, ?_⟩
    · refine ⟨_, rfl, d, _, 1, .int c, rfl, rfl, SqL.of hd, atI_nat (j := 1) rfl, rfl, _, rfl, ite2 (fun e => ?_) (fun e => ?_)⟩
      · refine ⟨_, rfl, d, _, rfl, .inl (SqL.of hd), _, _, rfl, rfl, _, rfl, ite2 (fun e2 => ?_) (fun e2 => ⟨rfl, Exd.refl _ _, c, r, hd, c0, r0⟩)⟩
        cases r with
        | nil => exact absurd e2 (by simp)
        | cons z r =>
          refine ⟨_, rfl, .inl ⟨rfl, _, SqL.of hd⟩, d, _, 2, 2, .int z, rfl, rfl, hd, by decide, by decide, ?_, rfl, _, rfl, d, _, 1, 1, rfl, rfl, upd_same, ?_, rfl, ?_, z, r, ?_, r0 _ (List.mem_cons_self), fun x hx => r0 x (List.mem_cons_of_mem _ hx)⟩
          · simp [seqIndex?]; omega
          · simp [ixN]; omega
          · exact ((Exd.refl _ _).upd).upd
          · rw [upd_same]; rfl
      · exact ⟨rfl, Exd.refl _ _, c, r, hd, c0, r0⟩
    · rintro σ H1 ⟨rfl, e1, c, r, hd, c0, r0⟩
      refine ⟨_, rfl, d, _, 1, .int c, rfl, rfl, SqL.of hd, atI_nat (j := 1) rfl, _, _, rfl, rfl, _, rfl, ite2 (fun e => ?_) (fun e => ?_)⟩
      · refine ⟨_, rfl, d, _, 1, .int c, rfl, rfl, SqL.of hd, atI_nat (j := 1) rfl, _, rfl, _, _, rfl, rfl, n0, ?_⟩
        refine ⟨_, rfl, d, _, 1, .int c, rfl, rfl, SqL.of hd, atI_nat (j := 1) rfl, _, rfl, _, _, rfl, rfl, ⟨n0, n1⟩, _, rfl, d, _, 1, 1, rfl, rfl, hd, ?_, ?_⟩
        · simp [ixN]; omega
        · refine ⟨_, rfl, q _ _ (Int.emod_nonneg _ (by omega)) (Int.emod_lt_of_pos _ n0) e1.upd ⟨s0, c / n, r, ?_, s1, s2, Int.ediv_nonneg c0 (by omega), r0⟩⟩
          rw [upd_same]; rfl
      · refine ⟨_, rfl, d, _, 0, .int s0, rfl, rfl, SqL.of hd, atI_nat (j := 0) rfl, _, _, rfl, rfl, .inl ⟨by omega, by omega⟩, _, _, rfl, rfl, _, _, rfl, rfl, (by decide : (0 : Int) < 2147483647), _, rfl, d, _, 0, 0, rfl, rfl, hd, ?_, ?_⟩
        · simp [ixN]; omega
        · refine ⟨_, rfl, d, _, 0, .int ((s0 * 48271 + 11) % 2147483647), rfl, rfl, SqL.of upd_same, atI_nat (j := 0) rfl, _, _, rfl, rfl, ⟨by decide, by decide⟩, _, rfl, _, _, rfl, rfl, n0, ?_⟩
          refine q _ _ (Int.emod_nonneg _ (by omega)) (Int.emod_lt_of_pos _ n0) e1.upd ⟨(s0 * 48271 + 11) % 2147483647, c, r, ?_, Int.emod_nonneg _ (by decide), Int.emod_lt_of_pos _ (by decide), c0, r0⟩
          rw [upd_same]; rfl
theorem ok_l_dice (T : TX K mg) : FnOk P w K mg base CX0 1 T.f_l_dice T.fd_l_dice ["_law_script", "_law_k"] (sp_l_dice K) := by
  refine T.F_l_dice.ok sc_l_dice (fun vs H Q E h => ?_) (fun cdv A outer s H vs Q E hr h => ?_)
  · obtain ⟨a, ns, rfl, _⟩ := h
    rfl
  · obtain ⟨a, ns, rfl, hS, hl, q⟩ := h
    refine ⟨_, (pss_cons (ps_set (i := 2) sc_l_dice.nd rfl (by first | exact Or.inl rfl | exact Or.inr rfl) (pv 1))
 (pss_cons (ps_for PassesOwn.never rfl (pi_list (pv 0)) (pg_name (i := 3) sc_l_dice.nd rfl (by first | exact Or.inl rfl | exact Or.inr rfl))
 (pss_one (ps_set (i := 2) sc_l_dice.nd rfl (by first | exact Or.inl rfl | exact Or.inr rfl) (pe_op op_mod (pe_op op_add (pe_op op_mul (pv 2) pe_int) (pe_callB call_abs (by rfl) T.z_abs (by decide +kernel) (pa_cons (pv 3) pa_nil))) pe_int))))
 (pss_one (ps_ret (pe_op op_cat (pe_lst (pa_cons (pv 2) (pa_cons pe_int pa_nil))) (pe_lc (own := [("_law_cell", 3)]) (g := gName 3) (by rfl) sc_l_dice.nd (pi_list (pv 0)) (blkOk_by (own := [("_law_cell", 3)]) (N := ["_law_script", "_law_k", "_law_found", "_law_cell"]) (sc := defScope s_l_dice) (by decide +kernel)) (fun _ _ _ _ _ => pg_name (i := 3) sc_l_dice.nd rfl (Or.inl rfl)) (fun _ _ _ _ _ => (pts_one (pt_cmpR op_ge (pv 3) (pe_op op_pow pe_int pe_int) (nomark _)))) (fun _ _ _ _ _ => (pv 3)))))))), ?_⟩
    refine ⟨_, rfl, .ref a, rfl, a, rfl, ⟨_, hS⟩, for_list (xs := ns.map V.int) (fun i σ H' => H' = H ∧ ∃ f y, σ = [some (.ref a), some (.int 0), some (.int f), y] ∧ 0 ≤ f ∧ f < 2147483647) ⟨rfl, 0, none, rfl, by decide, by decide⟩ (fun i σ H' _ h => by rw [h.1]; exact hS) ?_ ?_⟩
    · rintro i x σ H' hi ⟨rfl, f, y, rfl, f0, f1⟩
      obtain ⟨z, hz, rfl⟩ : ∃ z, ns[i]? = some z ∧ V.int z = x := by
        rw [List.getElem?_map] at hi
        cases e : ns[i]? with
        | none => rw [e] at hi; cases hi
        | some y => rw [e] at hi; exact ⟨y, rfl, Option.some.inj hi⟩
      refine ⟨_, rfl, _, _, rfl, rfl, .inl ⟨by omega, by omega⟩, _, rfl, z, rfl, _, _, rfl, rfl, _, _, rfl, rfl, (by decide : (0 : Int) < 2147483647), rfl, _, _, rfl, Int.emod_nonneg _ (by decide), Int.emod_lt_of_pos _ (by decide)⟩
    · rintro σ H' ⟨rfl, f, y, rfl, f0, f1⟩
      refine ⟨_, rfl, small9 (by simp), fun p np => ?_⟩
      have e1 : Ex H' (upd H' p (.lst [.int f, .int 0])) := Ex.new np
      refine ⟨.ref a, rfl, a, rfl, ⟨_, ex_l e1 hS⟩, fun D hD => lcFM ns V.int (fun z => decide ((1000000000000000000 : Int) ≤ z)) V.int (ex_l e1 hS) (by omega) hD (fun _ => rfl) (fun z hz H2 e2 Y N hq => ?_) (fun H2 e2 h2 => ?_)⟩
      · refine ⟨_, rfl, _, _, rfl, rfl, ⟨by decide, by decide, by decide⟩, _, _, rfl, rfl, _, rfl, ?_⟩
        have hq := hq H2 (Ex.refl _)
        by_cases hc : (1000000000000000000 : Int) ≤ z
        · rw [if_pos (decide_eq_true hc)] at hq
          exact ifP (decide_eq_true (show (10 : Int) ^ (18 : Int).toNat ≤ z by simpa using hc)) ⟨_, rfl, hq⟩
        · rw [if_neg (by simpa using hc)] at hq
          exact ifN (show ¬ decide ((10 : Int) ^ (18 : Int).toNat ≤ z) = true by simpa using hc) hq
      · refine ⟨p, D, _, _, rfl, rfl, e2 _ _ upd_same, h2, ?_, fun o no => ?_⟩
        · have := List.length_filter_le (fun z => decide ((1000000000000000000 : Int) ≤ z)) ns
          simp only [List.length_map, List.length_cons, List.length_nil]
          exact small9 (by omega)
        · have e3 : Ex H' (upd H2 o (.lst ([.int f, .int 0] ++ (ns.filter (fun z => decide ((1000000000000000000 : Int) ≤ z))).map V.int))) := (e1.trans e2).trans (Ex.new no)
          refine q o _ (fresh_back (e1.trans e2) no) e3 ⟨f, 0, ns.filter (fun z => decide ((1000000000000000000 : Int) ≤ z)), ?_, f0, f1, by decide, fun x hx => ?_⟩
          · rw [upd_same]
            rfl
          · have := (List.mem_filter.mp hx).2
            simp at this
            omega
def sp_need_wide : Sp := fun vs H Q _ => ∃ n : Nat, vs = [.int (n : Int)] ∧ 1 ≤ n ∧ n ≤ 4 ∧ Q .non H
theorem ok_need_wide (T : TX K mg) : FnOk P w K mg base CX0 1 T.f_need_wide T.fd_need_wide ["wide"] sp_need_wide := by
  refine T.F_need_wide.ok sc_need_wide (fun vs H Q E h => ?_) (fun cdv A outer s H vs Q E hr h => ?_)
  · obtain ⟨n, rfl, _⟩ := h
    rfl
  · obtain ⟨n, rfl, h1, h4, q⟩ := h
    refine ⟨_, (pss_one (ps_if (pt_not (pt_chain op_le op_le pe_int (pv 0) (pe_glob (v := .int 4) (by rfl) T.c_MOST_WIDE ⟨_, rfl⟩)))
 (pss_one ps_never)
 pss_nil)), ?_⟩
    refine ⟨_, rfl, _, _, rfl, rfl, _, rfl, ?_⟩
    refine ifP (decide_eq_true (by omega)) ⟨_, _, rfl, rfl, _, rfl, ?_⟩
    refine ifN ?_ q
    simp
    omega
def sp_gray : Sp := fun vs H Q _ => ∃ n : Nat, vs = [.int (n : Int)] ∧ 1 ≤ n ∧ n ≤ 4 ∧ RetL ((grayW n).map wv) H Q
theorem ok_gray (T : TX K mg) : FnOk P w K mg base CX0 2 T.f_gray T.fd_gray ["wide"] sp_gray := by
  refine T.F_gray.ok sc_gray (fun vs H Q E h => ?_) (fun cdv A outer s H vs Q E hr h => ?_)
  · obtain ⟨n, rfl, _⟩ := h
    rfl
  · obtain ⟨n, rfl, h1, h4, q⟩ := h
    refine ⟨_, (pss_cons (ps_expr (pe_call (ok_need_wide T) (hr.mono (by decide)) (by rfl) T.g_need_wide T.F_need_wide.kp T.b_need_wide .nil pass0 (pa_cons (pv 0) pa_nil)))
 (pss_one (ps_ret (pe_call (ok_mirrored T) (hr.mono (by decide)) (by rfl) T.g_mirrored T.F_mirrored.kp T.b_mirrored .nil pass0 (pa_cons (pv 0) pa_nil))))), ?_⟩
    exact ⟨_, rfl, n, rfl, h1, h4, _, rfl, n, rfl, h4, q⟩
def sp_all_words : Sp := fun vs H Q _ => ∃ n : Nat, vs = [.int (n : Int)] ∧ n ≤ 4 ∧ RetL ((plainW n).map wv) H Q
theorem ok_all_words (T : TX K mg) : FnOk P w K mg base CX0 1 T.f_all_words T.fd_all_words ["wide"] sp_all_words := by
  refine T.F_all_words.ok sc_all_words (fun vs H Q E h => ?_) (fun cdv A outer s H vs Q E hr h => ?_)
  · obtain ⟨n, rfl, _⟩ := h
    rfl
  · obtain ⟨n, rfl, hn, q⟩ := h
    refine ⟨_, (pss_cons (ps_set (i := 1) sc_all_words.nd rfl (by first | exact Or.inl rfl | exact Or.inr rfl) (pe_lst (pa_cons pe_str pa_nil)))
 (pss_cons (ps_for PassesOwn.never rfl (pi_range1 (by rfl) T.z_range (pa_cons (pv 0) pa_nil)) (pg_name (i := 2) sc_all_words.nd rfl (by first | exact Or.inl rfl | exact Or.inr rfl))
 (pss_one (ps_set (i := 1) sc_all_words.nd rfl (by first | exact Or.inl rfl | exact Or.inr rfl) (pe_op op_cat (pe_lc (own := [("word", 3)]) (g := gName 3) (by rfl) sc_all_words.nd (pi_list (pv 1)) (blkOk_by (own := [("word", 3)]) (N := ["wide", "found", "turn", "word"]) (sc := defScope s_all_words) (by decide +kernel)) (fun _ _ _ _ _ => pg_name (i := 3) sc_all_words.nd rfl (Or.inl rfl)) (fun _ _ _ _ _ => pts_nil) (fun _ _ _ _ _ => (pe_op op_add_str pe_str (pv 3)))) (pe_lc (own := [("word", 3)]) (g := gName 3) (by rfl) sc_all_words.nd (pi_list (pv 1)) (blkOk_by (own := [("word", 3)]) (N := ["wide", "found", "turn", "word"]) (sc := defScope s_all_words) (by decide +kernel)) (fun _ _ _ _ _ => pg_name (i := 3) sc_all_words.nd rfl (Or.inl rfl)) (fun _ _ _ _ _ => pts_nil) (fun _ _ _ _ _ => (pe_op op_add_str pe_str (pv 3))))))))
 (pss_one (ps_ret (pv 1))))), ?_⟩
    refine ⟨small9 (by decide), fun p np => ?_⟩
    refine q_forR1 (ea_cons (ev_var rfl) ea_nil) ⟨by omega, by omega⟩ (fun i σ H' => i ≤ n ∧ ∃ p y z, σ = [some (.int (n : Int)), some (.ref p), y, z] ∧ Ex H H' ∧ H p = none ∧ H' p = some (.lst ((plainW i).map wv))) (fun H1 e1 => ⟨Nat.zero_le _, p, _, _, rfl, (Ex.new np).trans e1, np, ?_⟩) ?_ ?_
    · rw [e1 _ _ upd_same, strE]
      rfl
    · rintro i σ H' hi ⟨_, p, y, z, rfl, e1, np, hp⟩
      have hw : (plainW i).length ≤ 1000 := by
        rw [plainW_len]
        exact Nat.le_trans (pow16 (by omega)) (by decide)
      refine ⟨.ref p, rfl, p, rfl, ⟨_, SqL.of hp⟩, fun D1 n1 => lcM (plainW i) wv (fun w => wv (false :: w)) (SqL.of hp) hw n1 (fun _ => rfl) (fun x hx H2 e2 Y hY => ?_) (fun H2 e2 h2 => ?_)⟩
      · refine ⟨_, rfl, _, _, rfl, rfl, ?_, ?_⟩
        · rw [str0, wd_len, wd_len, plainW_wide i x hx]
          exact small9 (by simp; omega)
        · rw [str0, wd_app]
          exact hY _ (Ex.refl _)
      · refine ⟨.ref p, rfl, p, rfl, ⟨_, SqL.of (e2 _ _ hp)⟩, fun D2 n2 => lcM (plainW i) wv (fun w => wv (true :: w)) (SqL.of (e2 _ _ hp)) hw n2 (fun _ => rfl) (fun x hx H2 e2 Y hY => ?_) (fun H3 e3 h3 => ?_)⟩
        · refine ⟨_, rfl, _, _, rfl, rfl, ?_, ?_⟩
          · rw [str1, wd_len, wd_len, plainW_wide i x hx]
            exact small9 (by simp; omega)
          · rw [str1, wd_app]
            exact hY _ (Ex.refl _)
        · refine ⟨D1, D2, _, _, rfl, rfl, e3 _ _ h2, h3, ?_, fun o no => ?_⟩
          · simp only [List.length_map, plainW_len]
            have := pow16 (n := i) (by omega)
            exact small9 (by omega)
          · refine ⟨by omega, o, _, _, rfl, ((e1.trans e2).trans e3).trans (Ex.new no), fresh_back ((e1.trans e2).trans e3) no, ?_⟩
            rw [upd_same]
            show some (HO.lst _) = some (HO.lst _)
            simp [plainW, Function.comp_def]
    · rintro σ H' ⟨_, p, y, z, rfl, e1, np, hp⟩
      exact ⟨_, rfl, q p H' np e1 hp⟩
def sp_plain : Sp := fun vs H Q _ => ∃ n : Nat, vs = [.int (n : Int)] ∧ 1 ≤ n ∧ n ≤ 4 ∧ RetL ((plainW n).map wv) H Q
theorem ok_plain (T : TX K mg) : FnOk P w K mg base CX0 2 T.f_plain T.fd_plain ["wide"] sp_plain := by
  refine T.F_plain.ok sc_plain (fun vs H Q E h => ?_) (fun cdv A outer s H vs Q E hr h => ?_)
  · obtain ⟨n, rfl, _⟩ := h
    rfl
  · obtain ⟨n, rfl, h1, h4, q⟩ := h
    refine ⟨_, (pss_cons (ps_expr (pe_call (ok_need_wide T) (hr.mono (by decide)) (by rfl) T.g_need_wide T.F_need_wide.kp T.b_need_wide .nil pass0 (pa_cons (pv 0) pa_nil)))
 (pss_one (ps_ret (pe_call (ok_all_words T) (hr.mono (by decide)) (by rfl) T.g_all_words T.F_all_words.kp T.b_all_words .nil pass0 (pa_cons (pv 0) pa_nil))))), ?_⟩
    exact ⟨_, rfl, n, rfl, h1, h4, _, rfl, n, rfl, h4, q⟩
theorem mem_plainW : ∀ {n : Nat} {w : List Bool}, w.length = n → w ∈ plainW n
  | 0, w, h => by
    rw [List.length_eq_zero_iff.mp h]
    exact List.mem_singleton.mpr rfl
  | n + 1, [], h => by simp at h
  | n + 1, x :: w, h => by
    have hw : w ∈ plainW n := mem_plainW (by simpa using h)
    cases x with
    | false => exact List.mem_append_left _ (List.mem_map.mpr ⟨w, hw, rfl⟩)
    | true => exact List.mem_append_right _ (List.mem_map.mpr ⟨w, hw, rfl⟩)
def byOneB (ws : List (List Bool)) (n : Nat) : Bool := decide ws.Nodup && (ws.all fun w => decide (w.length = n)) && (List.range ws.length).all fun i => decide ((diffs (ws.getD i []) (ws.getD ((i + 1) % ws.length) [])).length = 1)
theorem byOne_of {ws : List (List Bool)} {n : Nat} (h : byOneB ws n = true) (h4 : n ≤ 4) (hl : ws.length ≤ 16) : ByOne ws n := by
  unfold byOneB at h
  rw [Bool.and_eq_true, Bool.and_eq_true] at h
  refine ⟨of_decide_eq_true h.1.1, fun w hw => of_decide_eq_true (List.all_eq_true.mp h.1.2 w hw), h4, hl, fun i hi => of_decide_eq_true (List.all_eq_true.mp h.2 i (List.mem_range.mpr hi))⟩
theorem cut_all : ((List.range 8).all fun k => byOneB (cutWs (k + 1)) (cwide (k + 1)) && decide ((cutWs (k + 1)).length = 2 * (k + 1)) && decide (torn1 (cutWs (k + 1)) = none) && (decide (cwide (k + 1) = 1) || decide (2 ^ (cwide (k + 1) - 1) < 2 * (k + 1)))) = true := by decide +kernel
theorem cut_ok {h : Nat} (h1 : 1 ≤ h) (h8 : h ≤ 8) : ByOne (cutWs h) (cwide h) ∧ (cutWs h).length = 2 * h ∧ torn1 (cutWs h) = none ∧ (cwide h = 1 ∨ 2 ^ (cwide h - 1) < 2 * h) := by
  have q := List.all_eq_true.mp cut_all (h - 1) (List.mem_range.mpr (by omega))
  rw [show h - 1 + 1 = h by omega] at q
  rw [Bool.and_eq_true, Bool.and_eq_true, Bool.and_eq_true, Bool.or_eq_true] at q
  obtain ⟨⟨⟨q1, q2⟩, q3⟩, q4⟩ := q
  have hl := of_decide_eq_true q2
  refine ⟨byOne_of q1 (cwide_le h).2 (by omega), hl, of_decide_eq_true q3, ?_⟩
  rcases q4 with q4 | q4
  · exact .inl (of_decide_eq_true q4)
  · exact .inr (of_decide_eq_true q4)
theorem gray_all : ((List.range 4).all fun k => byOneB (grayW (k + 1)) (k + 1) && decide ((grayW (k + 1)).Perm (plainW (k + 1)))) = true := by decide +kernel
theorem gray_one {n : Nat} (h1 : 1 ≤ n) (h4 : n ≤ 4) : ByOne (grayW n) n ∧ (grayW n).Perm (plainW n) := by
  have q := List.all_eq_true.mp gray_all (n - 1) (List.mem_range.mpr (by omega))
  rw [show n - 1 + 1 = n by omega, Bool.and_eq_true] at q
  exact ⟨byOne_of q.1 h4 (by rw [grayW_len]; exact pow16 h4), of_decide_eq_true q.2⟩
theorem ByOne.round {ws : List (List Bool)} {n : Nat} (h : ByOne ws n) (n1 : 1 ≤ n) (hp : 0 < ws.length) : Round ws n := ⟨List.length_pos_iff.mp hp, h.wide, n1, h.n4, h.nd, h.le⟩
theorem rising_pw : ∀ (l : List Str) (p : Str), PyProof.Rows.risingS p l = true → (p :: l).Pairwise fun a b => a.cps.toList ≤ b.cps.toList
  | [], p, _ => by simp
  | x :: r, p, h => by
    have h : (!PySem.Spec.ltCps x.cps.toList p.cps.toList && PyProof.Rows.risingS x r) = true := h
    rw [Bool.and_eq_true, PyProof.Rows.ltCps_eq] at h
    have h1 : p.cps.toList ≤ x.cps.toList := by
      have := h.1
      rw [Bool.not_eq_true', decide_eq_false_iff_not] at this
      exact List.not_lt.mp this
    have ih := rising_pw r x h.2
    refine List.pairwise_cons.mpr ⟨fun y hy => ?_, ih⟩
    rcases List.mem_cons.mp hy with rfl | hy
    · exact h1
    · exact List.le_trans h1 ((List.pairwise_cons.mp ih).1 y hy)
theorem sorted_pw : ∀ {l : List Str}, PyProof.Rows.sortedS l = true → l.Pairwise fun a b => a.cps.toList ≤ b.cps.toList
  | [], _ => List.Pairwise.nil
  | x :: r, h => rising_pw r x h
theorem sorted_one {l m : List Str} (hp : l.Perm m) (h1 : PyProof.Rows.sortedS l = true) (h2 : PyProof.Rows.sortedS m = true) : l = m :=
  List.Perm.eq_of_pairwise (le := fun a b : Str => a.cps.toList ≤ b.cps.toList) (fun a b _ _ h h' => by
    have := List.le_antisymm h h'
    cases a; cases b
    simp only [Str.mk.injEq]
    exact Array.toList_inj.mp this) (sorted_pw h1) (sorted_pw h2) hp
theorem plain_sorted {n : Nat} (h4 : n ≤ 4) : PyProof.Rows.sortedS ((plainW n).map wd) = true := by
  have : n = 0 ∨ n = 1 ∨ n = 2 ∨ n = 3 ∨ n = 4 := by omega
  rcases this with rfl | rfl | rfl | rfl | rfl <;> decide +kernel
theorem ok_law (T : TX K mg) : FnOk P w K mg base CX0 4 T.f_law T.fd_law ["_law_script"] (sp_law K) := by
  refine T.F_law.ok sc_law (fun vs H Q E h => ?_) (fun cdv A outer s H vs Q E hr h => ?_)
  · obtain ⟨a, ns, rfl, _⟩ := h
    rfl
  · obtain ⟨a, ns, rfl, hS, hlen, q⟩ := h
    refine ⟨_, (pss_cons (ps_set (i := 1) sc_law.nd rfl (by first | exact Or.inl rfl | exact Or.inr rfl) (pe_call (ok_l_dice T) (hr.mono (by decide)) (by rfl) T.g_l_dice T.F_l_dice.kp T.b_l_dice .nil pass0 (pa_cons (pv 0) (pa_cons pe_int pa_nil))))
 (pss_cons (ps_for PassesOwn.never rfl (pi_range3 (by rfl) T.z_range (pa_cons pe_int (pa_cons pe_int (pa_cons pe_int pa_nil)))) (pg_name (i := 2) sc_law.nd rfl (by first | exact Or.inl rfl | exact Or.inr rfl))
 (pss_cons (ps_set (i := 3) sc_law.nd rfl (by first | exact Or.inl rfl | exact Or.inr rfl) (pe_call (ok_cut T) (hr.mono (by decide)) (by rfl) T.g_cut T.F_cut.kp T.b_cut .nil pass0 (pa_cons (pv 2) pa_nil)))
 (pss_cons (ps_if (PW.pt (pw_or (pt_not (pt_val (pe_call (ok_l_is_round T) (hr.mono (by decide)) (by rfl) T.g_l_is_round T.F_l_is_round.kp T.b_l_is_round .nil pass0 (pa_cons (pv 3) (pa_cons (pv 2) pa_nil))))) (pw_or1 (pt_cmpR op_notN (pe_call (ok_first_torn T) (hr.mono (by decide)) (by rfl) T.g_first_torn T.F_first_torn.kp T.b_first_torn .nil pass0 (pa_cons (pv 3) pa_nil)) pe_non (nomark _)))))
 (pss_one (ps_ret pe_bl))
 pss_nil)
 (pss_cons (ps_set (i := 4) sc_law.nd rfl (by first | exact Or.inl rfl | exact Or.inr rfl) (pe_callB call_len_str (by rfl) T.z_len PySem.boot_len (pa_cons (pe_ix ix_list (pv 3) pe_int (fun _ _ => rfl)) pa_nil)))
 (pss_cons (ps_if (PW.pt (pw_or (pt_cmpR (op_neD hr.units) (pe_lc (own := [("_law_word", 5)]) (g := gName 5) (by rfl) sc_law.nd (pi_list (pv 3)) (blkOk_by (own := [("_law_word", 5)]) (N := ["_law_script", "_law_d", "_law_many", "_law_words", "_law_wide", "_law_word"]) (sc := defScope s_law) (by decide +kernel)) (fun _ _ _ _ _ => pg_name (i := 5) sc_law.nd rfl (Or.inl rfl)) (fun _ _ _ _ _ => (pts_one (pt_cmpR (r := rIn K true) op_notIn_seq (pv 5) (pe_call (ok_plain T) (hr.mono (by decide)) (by rfl) T.g_plain T.F_plain.kp T.b_plain .nil pass0 (pa_cons (pv 4) pa_nil)) (by rfl)))) (fun _ _ _ _ _ => (pv 5))) (pe_lst pa_nil) (nomark _)) (pw_or1 (PW.pt (pw_and (pt_cmpR op_gt (pv 4) pe_int (nomark _)) (pw_and1 (pt_cmpR op_ge (pe_callB call_len_seq (by rfl) T.z_len PySem.boot_len (pa_cons (pe_call (ok_plain T) (hr.mono (by decide)) (by rfl) T.g_plain T.F_plain.kp T.b_plain .nil pass0 (pa_cons (pe_op op_sub (pv 4) pe_int) pa_nil)) pa_nil)) (pv 2) (nomark _))))))))
 (pss_one (ps_ret pe_bl))
 pss_nil)
 (pss_cons (ps_expr (pe_bm PySem.F.plainAttrs_list PySem.F.slot_list_append PySem.F.type_list_append mt_append (pv 3) (pa_cons pe_str pa_nil)))
 (pss_one (ps_if (pt_not (pt_val (pe_call (ok_l_is_round T) (hr.mono (by decide)) (by rfl) T.g_l_is_round T.F_l_is_round.kp T.b_l_is_round .nil pass0 (pa_cons (pe_call (ok_cut T) (hr.mono (by decide)) (by rfl) T.g_cut T.F_cut.kp T.b_cut .nil pass0 (pa_cons (pv 2) pa_nil)) (pa_cons (pv 2) pa_nil)))))
 (pss_one (ps_ret pe_bl))
 pss_nil))))))))
 (pss_cons (ps_set (i := 4) sc_law.nd rfl (by first | exact Or.inl rfl | exact Or.inr rfl) (pe_op op_add pe_int (pe_call (ok_l_off T) (hr.mono (by decide)) (by rfl) T.g_l_off T.F_l_off.kp T.b_l_off .nil pass0 (pa_cons (pv 1) (pa_cons pe_int pa_nil)))))
 (pss_one (ps_ret (pe_and (pe_call (ok_l_is_round T) (hr.mono (by decide)) (by rfl) T.g_l_is_round T.F_l_is_round.kp T.b_l_is_round .nil pass0 (pa_cons (pe_call (ok_gray T) (hr.mono (by decide)) (by rfl) T.g_gray T.F_gray.kp T.b_gray .nil pass0 (pa_cons (pv 4) pa_nil)) (pa_cons (pe_callB call_len_seq (by rfl) T.z_len PySem.boot_len (pa_cons (pe_call (ok_plain T) (hr.mono (by decide)) (by rfl) T.g_plain T.F_plain.kp T.b_plain .nil pass0 (pa_cons (pv 4) pa_nil)) pa_nil)) pa_nil))) (pe_one (pe_cmpR (op_eqD hr.units) (pe_callB cr_sortedS (by rfl) T.z_sorted (by decide +kernel) (pa_cons (pe_call (ok_gray T) (hr.mono (by decide)) (by rfl) T.g_gray T.F_gray.kp T.b_gray .nil pass0 (pa_cons (pv 4) pa_nil)) pa_nil)) (pe_call (ok_plain T) (hr.mono (by decide)) (by rfl) T.g_plain T.F_plain.kp T.b_plain .nil pass0 (pa_cons (pv 4) pa_nil)) (nomark _))))))))), ?_⟩
    refine ⟨.ref a, rfl, a, ns, rfl, hS, hlen, fun d H1 _ _ hd => ?_⟩
    refine ⟨2, 17, 2, 8, rfl, ⟨by decide, by decide, by decide +kernel, by decide +kernel⟩, for_rangeC (lo := 2) (c := 2) (n := 8) (fun i σ H' => ∃ y2 y3 y4 y5, σ = [some (.ref a), some (.ref d), y2, y3, y4, y5] ∧ Dice H' d) ⟨_, _, _, _, rfl, hd⟩ ?_ ?_⟩
    · rintro i σ H2 hi ⟨y2, y3, y4, y5, rfl, hd⟩
      obtain ⟨h, eh⟩ : ∃ h : Nat, h = i + 1 := ⟨_, rfl⟩
      have e2 : (2 : Int) + (i : Nat) * 2 = 2 * (h : Int) := by omega
      rw [e2]
      have h1 : 1 ≤ h := by omega
      have h8 : h ≤ 8 := by omega
      obtain ⟨c1, c2, c3, c4⟩ := cut_ok h1 h8
      have hc := cwide_le h
      have h16 := pow16 hc.2
      have el : ((cutWs h).length : Int) = 2 * (h : Int) := by omega
      refine ⟨_, rfl, h, rfl, h1, h8, fun p H3 np e3 hp => ?_⟩
      refine ⟨_, rfl, _, rfl, p, cutWs h, cwide h, by rw [el]; rfl, hp, c1, fun H4 e4 => ⟨true, rfl, ifN (by simp) ?_⟩⟩
      have hR := c1.round hc.1 (by omega)
      have q3 : ∀ (H : Hp) (Q : VK), RetV .non H Q → RetP (torn1 (cutWs h)) H Q := fun H Q k => by
        rw [c3]
        exact k
      refine ⟨_, rfl, p, cutWs h, cwide h, rfl, SqL.of (e4 _ _ hp), hR, q3 _ _ fun H5 e5 => ⟨rfl, _, rfl, ifN (by simp) ?_⟩⟩
      have e35 := e4.trans e5
      have hp5 := e35 _ _ hp
      have hpos : 0 < (cutWs h).length := by omega
      have wl0 := c1.wide _ (getD_mem hpos)
      refine ⟨_, rfl, p, _, 0, wv ((cutWs h).getD 0 []), rfl, rfl, SqL.of hp5, atI_nat (j := 0) (getDW hpos), wd ((cutWs h).getD 0 []), rfl, small9 (by rw [wd_len]; omega), ?_⟩
      rw [wd_len, wl0]
      -- all are words
      refine ⟨_, rfl, p, rfl, ⟨_, SqL.of hp5⟩, fun D nD => lcFM (cutWs h) wv (fun _ => false) wv (SqL.of hp5) (by omega) nD (fun _ => rfl) (fun x hx H6 e6 Y N hY => ?_) (fun H6 e6 h6 => ?_)⟩
      · refine ⟨_, rfl, _, rfl, cwide h, rfl, hc.1, hc.2, fun l H7 nl e7 hl => ⟨l, _, rfl, .inl (SqL.of hl), rfl, flatW _, _, rfl, ?_⟩⟩
        show if (!inV (wv x) ((plainW (cwide h)).map wv)) = true then _ else _
        rw [inV_wv, decide_eq_true (mem_plainW (c1.wide x hx))]
        exact hY H7 e7
      have h6 : H6 D = some (.lst (([] : List Str).map V.str)) := by
        rw [h6]
        simp
      refine ⟨small9 (by simp), fun o no => ?_⟩
      have eo := Ex.new (o := HO.lst []) no
      refine ⟨.list (([] : List Str).map PyData.str), .list (([] : List Str).map PyData.str), dpL (SqL.of (eo _ _ h6)), dpL (SqL.of upd_same), (sdStrs (n := 0) (by simp)).shaped (by decide), (sdStrs (n := 0) (by simp)).shaped (by decide), _, rfl, ?_⟩
      rw [eqvStrs]
      refine ifN (by simp) ?_
      have e56 := (e6.trans eo)
      have hdice : Dice (upd H6 o (.lst [])) d := hd.mono ((e3.trans e35).trans e56)
      have hp6 := e56 _ _ hp5
      have ndp : d ≠ p := hd.ne np
      generalize upd H6 o (.lst []) = H7 at hdice hp6 ⊢
      refine evt_use (b := false) (fun H1 e1 Q k => ?_) (fun H8 e8 => ifN (by simp) ?_)
      · by_cases hw1 : cwide h = 1
        · refine ⟨_, rfl, _, _, rfl, rfl, _, rfl, ifN (by simp; omega) (k _ (Ex.refl _))⟩
        · refine ⟨_, rfl, _, _, rfl, rfl, _, rfl, ifP (decide_eq_true (by omega)) ?_⟩
          have c5 := c4.resolve_left hw1
          refine ⟨_, rfl, _, _, rfl, rfl, cwide h - 1, ?_, by omega, by omega, fun l H9 nl e9 hl => ?_⟩
          · show [V.int ((cwide h : Int) - 1)] = _
            rw [show (cwide h : Int) - 1 = ((cwide h - 1 : Nat) : Int) by omega]
          · refine ⟨l, _, rfl, .inl (SqL.of hl), _, rfl, _, _, rfl, rfl, _, rfl, ?_⟩
            rw [List.length_map, plainW_len, decide_eq_false (by
              have : ((2 ^ (cwide h - 1) : Nat) : Int) < 2 * (h : Int) := by exact_mod_cast c5
              omega)]
            exact k _ e9
      -- told again where it was changed
      refine ⟨_, rfl, .inl ⟨rfl, _, SqL.of (e8 _ _ hp6)⟩, p, _, _, rfl, rfl, e8 _ _ hp6, by rw [List.length_map]; exact small1000 (by omega), ?_⟩
      have hdice := (hdice.mono e8).upd (o := HO.lst ((cutWs h).map wv ++ [.str ""])) ndp
      generalize upd H8 p (.lst ((cutWs h).map wv ++ [.str ""])) = H9 at hdice ⊢
      refine ⟨_, rfl, h, rfl, h1, h8, fun p2 H10 np2 e10 hp2 => ?_⟩
      refine ⟨_, rfl, p2, cutWs h, cwide h, by rw [el]; rfl, hp2, c1, fun H11 e11 => ⟨true, rfl, ifN (by simp) ?_⟩⟩
      exact ⟨_, _, _, _, rfl, hdice.mono (e10.trans e11)⟩
    · rintro σ H2 ⟨y2, y3, y4, y5, rfl, hd⟩
      refine ⟨_, rfl, d, 4, rfl, hd, by decide, by decide, fun r H3 r0 r1 _ hd3 => ⟨_, _, rfl, rfl, ?_⟩⟩
      obtain ⟨n, hn⟩ : ∃ n : Nat, 1 + r = (n : Int) := ⟨(1 + r).toNat, by omega⟩
      have n1 : 1 ≤ n := by omega
      have n4 : n ≤ 4 := by omega
      have ev : V.int (1 + r) = .int (n : Int) := congrArg V.int hn
      obtain ⟨g1, g2⟩ := gray_one n1 n4
      have h16 := pow16 n4
      refine ⟨_, rfl, n, congrArg (fun x => [x]) ev, n1, n4, fun p H4 np e4 hp => ⟨_, rfl, n, congrArg (fun x => [x]) ev, n1, n4, fun l H5 nl e5 hl => ⟨l, _, rfl, .inl (SqL.of hl), ?_⟩⟩⟩
      refine ⟨p, grayW n, n, ?_, e5 _ _ hp, g1, fun H6 e6 => ⟨true, rfl, ifP rfl ?_⟩⟩
      · show [V.ref p, V.int (((plainW n).map wv).length : Int)] = _
        rw [List.length_map, plainW_len, grayW_len]
      refine ⟨_, rfl, n, congrArg (fun x => [x]) ev, n1, n4, fun p3 H7 np3 e7 hp3 => ⟨p3, (grayW n).map wd, rfl, SqL.of (by rw [hp3, List.map_map]; rfl), by rw [List.length_map, grayW_len]; omega, fun ys o hpm hso no => ?_⟩⟩
      have eys : ys = (plainW n).map wd := sorted_one (hpm.trans (g2.map wd)) hso (plain_sorted n4)
      rw [eys]
      refine ⟨_, rfl, n, congrArg (fun x => [x]) ev, n1, n4, fun l2 H8 nl2 e8 hl2 => ?_⟩
      have ok : ∀ x ∈ (plainW n).map wd, PyData.strOk x = true := fun x hx => by
        obtain ⟨u, _, rfl⟩ := List.mem_map.mp hx
        exact strOk_wd u
      refine ⟨_, _, dpL (SqL.of (e8 _ _ upd_same)), dpL (l := (plainW n).map wd) (SqL.of (by rw [hl2, List.map_map]; rfl)), (sdStrs (n := 0) ok).shaped (by decide), (sdStrs (n := 0) ok).shaped (by decide), ?_⟩
      rw [eqvStrs, decide_eq_true rfl]
      exact q _
end
theorem all_mk {l : PySem.W.OpenLaw} {w : World} {K : PySem.W.Frag} {h : Heap} {mg : Str → Option Value} {fa : Addr} (X : K.In h) (G : h.Ns mainGlobals mg) (hfa : mg "law" = some (.ref fa))
    {f_l_dice : Addr} {od_l_dice an_l_dice : Option Addr} {sl_l_dice : Array (Option Value)} {oc_l_dice kV_l_dice dc_l_dice pm_l_dice cd_l_dice ct_l_dice : Value}
    {f_l_is_round : Addr} {od_l_is_round an_l_is_round : Option Addr} {sl_l_is_round : Array (Option Value)} {oc_l_is_round kV_l_is_round dc_l_is_round pm_l_is_round cd_l_is_round ct_l_is_round : Value}
    {f_l_off : Addr} {od_l_off an_l_off : Option Addr} {sl_l_off : Array (Option Value)} {oc_l_off kV_l_off dc_l_off pm_l_off cd_l_off ct_l_off : Value}
    {f_mirrored : Addr} {od_mirrored an_mirrored : Option Addr} {sl_mirrored : Array (Option Value)} {oc_mirrored kV_mirrored dc_mirrored pm_mirrored cd_mirrored ct_mirrored : Value}
    {f_cut : Addr} {od_cut an_cut : Option Addr} {sl_cut : Array (Option Value)} {oc_cut kV_cut dc_cut pm_cut cd_cut ct_cut : Value}
    {f_is_word : Addr} {od_is_word an_is_word : Option Addr} {sl_is_word : Array (Option Value)} {oc_is_word kV_is_word dc_is_word pm_is_word cd_is_word ct_is_word : Value}
    {f_need_words : Addr} {od_need_words an_need_words : Option Addr} {sl_need_words : Array (Option Value)} {oc_need_words kV_need_words dc_need_words pm_need_words cd_need_words ct_need_words : Value}
    {f_seen_of : Addr} {od_seen_of an_seen_of : Option Addr} {sl_seen_of : Array (Option Value)} {oc_seen_of kV_seen_of dc_seen_of pm_seen_of cd_seen_of ct_seen_of : Value}
    {f_first_torn : Addr} {od_first_torn an_first_torn : Option Addr} {sl_first_torn : Array (Option Value)} {oc_first_torn kV_first_torn dc_first_torn pm_first_torn cd_first_torn ct_first_torn : Value}
    {f_need_wide : Addr} {od_need_wide an_need_wide : Option Addr} {sl_need_wide : Array (Option Value)} {oc_need_wide kV_need_wide dc_need_wide pm_need_wide cd_need_wide ct_need_wide : Value}
    {f_gray : Addr} {od_gray an_gray : Option Addr} {sl_gray : Array (Option Value)} {oc_gray kV_gray dc_gray pm_gray cd_gray ct_gray : Value}
    {f_all_words : Addr} {od_all_words an_all_words : Option Addr} {sl_all_words : Array (Option Value)} {oc_all_words kV_all_words dc_all_words pm_all_words cd_all_words ct_all_words : Value}
    {f_plain : Addr} {od_plain an_plain : Option Addr} {sl_plain : Array (Option Value)} {oc_plain kV_plain dc_plain pm_plain cd_plain ct_plain : Value}
    {f_law : Addr} {od_law an_law : Option Addr} {sl_law : Array (Option Value)} {oc_law kV_law dc_law pm_law cd_law ct_law : Value}
    {a_MARKS : Addr} {dd_MARKS : Option Addr} {nn_MARKS : Nat} {sl_MARKS : Array (Option Value)} {t0_MARKS t1_MARKS : Tok}
    {t_MOST_WIDE : Tok}
    {t_MOST_WORDS : Tok}
    (a_l_dice : PySem.W.nsIn K mainGlobals "_law_dice" = some (some (.ref f_l_dice)))
    (l_l_dice : K.lookup f_l_dice = some ⟨oc_l_dice, od_l_dice, .func (PySem.W.fnOf "_law_dice" "_law_dice" (defArgs s_l_dice) (defBody s_l_dice) (defScope s_l_dice) .none kV_l_dice dc_l_dice pm_l_dice an_l_dice cd_l_dice ct_l_dice), sl_l_dice⟩) (c_l_dice : PySem.W.codeIn K cd_l_dice "_law_dice" = true) (k_l_dice : PySem.W.keepIn K (.ref f_l_dice) = true)
    (a_l_is_round : PySem.W.nsIn K mainGlobals "_law_is_round" = some (some (.ref f_l_is_round)))
    (l_l_is_round : K.lookup f_l_is_round = some ⟨oc_l_is_round, od_l_is_round, .func (PySem.W.fnOf "_law_is_round" "_law_is_round" (defArgs s_l_is_round) (defBody s_l_is_round) (defScope s_l_is_round) .none kV_l_is_round dc_l_is_round pm_l_is_round an_l_is_round cd_l_is_round ct_l_is_round), sl_l_is_round⟩) (c_l_is_round : PySem.W.codeIn K cd_l_is_round "_law_is_round" = true) (k_l_is_round : PySem.W.keepIn K (.ref f_l_is_round) = true)
    (a_l_off : PySem.W.nsIn K mainGlobals "_law_off" = some (some (.ref f_l_off)))
    (l_l_off : K.lookup f_l_off = some ⟨oc_l_off, od_l_off, .func (PySem.W.fnOf "_law_off" "_law_off" (defArgs s_l_off) (defBody s_l_off) (defScope s_l_off) .none kV_l_off dc_l_off pm_l_off an_l_off cd_l_off ct_l_off), sl_l_off⟩) (c_l_off : PySem.W.codeIn K cd_l_off "_law_off" = true) (k_l_off : PySem.W.keepIn K (.ref f_l_off) = true)
    (a_mirrored : PySem.W.nsIn K mainGlobals "mirrored" = some (some (.ref f_mirrored)))
    (l_mirrored : K.lookup f_mirrored = some ⟨oc_mirrored, od_mirrored, .func (PySem.W.fnOf "mirrored" "mirrored" (defArgs s_mirrored) (defBody s_mirrored) (defScope s_mirrored) .none kV_mirrored dc_mirrored pm_mirrored an_mirrored cd_mirrored ct_mirrored), sl_mirrored⟩) (c_mirrored : PySem.W.codeIn K cd_mirrored "mirrored" = true) (k_mirrored : PySem.W.keepIn K (.ref f_mirrored) = true)
    (a_cut : PySem.W.nsIn K mainGlobals "cut" = some (some (.ref f_cut)))
    (l_cut : K.lookup f_cut = some ⟨oc_cut, od_cut, .func (PySem.W.fnOf "cut" "cut" (defArgs s_cut) (defBody s_cut) (defScope s_cut) .none kV_cut dc_cut pm_cut an_cut cd_cut ct_cut), sl_cut⟩) (c_cut : PySem.W.codeIn K cd_cut "cut" = true) (k_cut : PySem.W.keepIn K (.ref f_cut) = true)
    (a_is_word : PySem.W.nsIn K mainGlobals "is_word" = some (some (.ref f_is_word)))
    (l_is_word : K.lookup f_is_word = some ⟨oc_is_word, od_is_word, .func (PySem.W.fnOf "is_word" "is_word" (defArgs s_is_word) (defBody s_is_word) (defScope s_is_word) .none kV_is_word dc_is_word pm_is_word an_is_word cd_is_word ct_is_word), sl_is_word⟩) (c_is_word : PySem.W.codeIn K cd_is_word "is_word" = true) (k_is_word : PySem.W.keepIn K (.ref f_is_word) = true)
    (a_need_words : PySem.W.nsIn K mainGlobals "need_words" = some (some (.ref f_need_words)))
    (l_need_words : K.lookup f_need_words = some ⟨oc_need_words, od_need_words, .func (PySem.W.fnOf "need_words" "need_words" (defArgs s_need_words) (defBody s_need_words) (defScope s_need_words) .none kV_need_words dc_need_words pm_need_words an_need_words cd_need_words ct_need_words), sl_need_words⟩) (c_need_words : PySem.W.codeIn K cd_need_words "need_words" = true) (k_need_words : PySem.W.keepIn K (.ref f_need_words) = true)
    (a_seen_of : PySem.W.nsIn K mainGlobals "seen_of" = some (some (.ref f_seen_of)))
    (l_seen_of : K.lookup f_seen_of = some ⟨oc_seen_of, od_seen_of, .func (PySem.W.fnOf "seen_of" "seen_of" (defArgs s_seen_of) (defBody s_seen_of) (defScope s_seen_of) .none kV_seen_of dc_seen_of pm_seen_of an_seen_of cd_seen_of ct_seen_of), sl_seen_of⟩) (c_seen_of : PySem.W.codeIn K cd_seen_of "seen_of" = true) (k_seen_of : PySem.W.keepIn K (.ref f_seen_of) = true)
    (a_first_torn : PySem.W.nsIn K mainGlobals "first_torn" = some (some (.ref f_first_torn)))
    (l_first_torn : K.lookup f_first_torn = some ⟨oc_first_torn, od_first_torn, .func (PySem.W.fnOf "first_torn" "first_torn" (defArgs s_first_torn) (defBody s_first_torn) (defScope s_first_torn) .none kV_first_torn dc_first_torn pm_first_torn an_first_torn cd_first_torn ct_first_torn), sl_first_torn⟩) (c_first_torn : PySem.W.codeIn K cd_first_torn "first_torn" = true) (k_first_torn : PySem.W.keepIn K (.ref f_first_torn) = true)
    (a_need_wide : PySem.W.nsIn K mainGlobals "need_wide" = some (some (.ref f_need_wide)))
    (l_need_wide : K.lookup f_need_wide = some ⟨oc_need_wide, od_need_wide, .func (PySem.W.fnOf "need_wide" "need_wide" (defArgs s_need_wide) (defBody s_need_wide) (defScope s_need_wide) .none kV_need_wide dc_need_wide pm_need_wide an_need_wide cd_need_wide ct_need_wide), sl_need_wide⟩) (c_need_wide : PySem.W.codeIn K cd_need_wide "need_wide" = true) (k_need_wide : PySem.W.keepIn K (.ref f_need_wide) = true)
    (a_gray : PySem.W.nsIn K mainGlobals "gray" = some (some (.ref f_gray)))
    (l_gray : K.lookup f_gray = some ⟨oc_gray, od_gray, .func (PySem.W.fnOf "gray" "gray" (defArgs s_gray) (defBody s_gray) (defScope s_gray) .none kV_gray dc_gray pm_gray an_gray cd_gray ct_gray), sl_gray⟩) (c_gray : PySem.W.codeIn K cd_gray "gray" = true) (k_gray : PySem.W.keepIn K (.ref f_gray) = true)
    (a_all_words : PySem.W.nsIn K mainGlobals "all_words" = some (some (.ref f_all_words)))
    (l_all_words : K.lookup f_all_words = some ⟨oc_all_words, od_all_words, .func (PySem.W.fnOf "all_words" "all_words" (defArgs s_all_words) (defBody s_all_words) (defScope s_all_words) .none kV_all_words dc_all_words pm_all_words an_all_words cd_all_words ct_all_words), sl_all_words⟩) (c_all_words : PySem.W.codeIn K cd_all_words "all_words" = true) (k_all_words : PySem.W.keepIn K (.ref f_all_words) = true)
    (a_plain : PySem.W.nsIn K mainGlobals "plain" = some (some (.ref f_plain)))
    (l_plain : K.lookup f_plain = some ⟨oc_plain, od_plain, .func (PySem.W.fnOf "plain" "plain" (defArgs s_plain) (defBody s_plain) (defScope s_plain) .none kV_plain dc_plain pm_plain an_plain cd_plain ct_plain), sl_plain⟩) (c_plain : PySem.W.codeIn K cd_plain "plain" = true) (k_plain : PySem.W.keepIn K (.ref f_plain) = true)
    (a_law : PySem.W.nsIn K mainGlobals "law" = some (some (.ref f_law)))
    (l_law : K.lookup f_law = some ⟨oc_law, od_law, .func (PySem.W.fnOf "law" "law" (defArgs s_law) (defBody s_law) (defScope s_law) .none kV_law dc_law pm_law an_law cd_law ct_law), sl_law⟩) (c_law : PySem.W.codeIn K cd_law "law" = true) (k_law : PySem.W.keepIn K (.ref f_law) = true)
    (z_abs : PySem.W.nsIn K mainGlobals "abs" = some none)
    (z_enumerate : PySem.W.nsIn K mainGlobals "enumerate" = some none)
    (z_isinstance : PySem.W.nsIn K mainGlobals "isinstance" = some none)
    (z_len : PySem.W.nsIn K mainGlobals "len" = some none)
    (z_list : PySem.W.nsIn K mainGlobals "list" = some none)
    (z_range : PySem.W.nsIn K mainGlobals "range" = some none)
    (z_set : PySem.W.nsIn K mainGlobals "set" = some none)
    (z_sorted : PySem.W.nsIn K mainGlobals "sorted" = some none)
    (n_MARKS : PySem.W.nsIn K mainGlobals "MARKS" = some (some (.ref a_MARKS)))
    (l_MARKS : K.lookup a_MARKS = some ⟨.type "tuple", dd_MARKS, .seq #[.str "0" t0_MARKS, .str "1" t1_MARKS] nn_MARKS, sl_MARKS⟩)
    (n_MOST_WIDE : PySem.W.nsIn K mainGlobals "MOST_WIDE" = some (some (.int 4 t_MOST_WIDE)))
    (n_MOST_WORDS : PySem.W.nsIn K mainGlobals "MOST_WORDS" = some (some (.int 16 t_MOST_WORDS)))
    : ∃ fd : FuncData, (∀ (s : Shared) (v : Value), BindsTo s fd ⟨[v], []⟩ [("_law_script", v)]) ∧ ∀ base : Heap, K.In base → base.Ns mainGlobals mg → FnOk l.prog w K mg base CX0 4 fa fd ["_law_script"] (sp_law K) := by
  have e := hfa.symm.trans (PySem.W.mg_of X G a_law)
  cases e
  have F_l_dice := fun_mk (st := s_l_dice) l_l_dice c_l_dice k_l_dice
  have b_l_dice := F_l_dice.binds (ps := ["_law_script", "_law_k"]) fun _ _ _ _ _ _ us hl => match us, hl with | [_, _], _ => rfl
  have F_l_is_round := fun_mk (st := s_l_is_round) l_l_is_round c_l_is_round k_l_is_round
  have b_l_is_round := F_l_is_round.binds (ps := ["_law_words", "_law_many"]) fun _ _ _ _ _ _ us hl => match us, hl with | [_, _], _ => rfl
  have F_l_off := fun_mk (st := s_l_off) l_l_off c_l_off k_l_off
  have b_l_off := F_l_off.binds (ps := ["_law_d", "_law_most"]) fun _ _ _ _ _ _ us hl => match us, hl with | [_, _], _ => rfl
  have F_mirrored := fun_mk (st := s_mirrored) l_mirrored c_mirrored k_mirrored
  have b_mirrored := F_mirrored.binds (ps := ["wide"]) fun _ _ _ _ _ _ us hl => match us, hl with | [_], _ => rfl
  have F_cut := fun_mk (st := s_cut) l_cut c_cut k_cut
  have b_cut := F_cut.binds (ps := ["many"]) fun _ _ _ _ _ _ us hl => match us, hl with | [_], _ => rfl
  have F_is_word := fun_mk (st := s_is_word) l_is_word c_is_word k_is_word
  have b_is_word := F_is_word.binds (ps := ["word"]) fun _ _ _ _ _ _ us hl => match us, hl with | [_], _ => rfl
  have F_need_words := fun_mk (st := s_need_words) l_need_words c_need_words k_need_words
  have b_need_words := F_need_words.binds (ps := ["words"]) fun _ _ _ _ _ _ us hl => match us, hl with | [_], _ => rfl
  have F_seen_of := fun_mk (st := s_seen_of) l_seen_of c_seen_of k_seen_of
  have b_seen_of := F_seen_of.binds (ps := ["one", "other"]) fun _ _ _ _ _ _ us hl => match us, hl with | [_, _], _ => rfl
  have F_first_torn := fun_mk (st := s_first_torn) l_first_torn c_first_torn k_first_torn
  have b_first_torn := F_first_torn.binds (ps := ["words"]) fun _ _ _ _ _ _ us hl => match us, hl with | [_], _ => rfl
  have F_need_wide := fun_mk (st := s_need_wide) l_need_wide c_need_wide k_need_wide
  have b_need_wide := F_need_wide.binds (ps := ["wide"]) fun _ _ _ _ _ _ us hl => match us, hl with | [_], _ => rfl
  have F_gray := fun_mk (st := s_gray) l_gray c_gray k_gray
  have b_gray := F_gray.binds (ps := ["wide"]) fun _ _ _ _ _ _ us hl => match us, hl with | [_], _ => rfl
  have F_all_words := fun_mk (st := s_all_words) l_all_words c_all_words k_all_words
  have b_all_words := F_all_words.binds (ps := ["wide"]) fun _ _ _ _ _ _ us hl => match us, hl with | [_], _ => rfl
  have F_plain := fun_mk (st := s_plain) l_plain c_plain k_plain
  have b_plain := F_plain.binds (ps := ["wide"]) fun _ _ _ _ _ _ us hl => match us, hl with | [_], _ => rfl
  have F_law := fun_mk (st := s_law) l_law c_law k_law
  have b_law := F_law.binds (ps := ["_law_script"]) fun _ _ _ _ _ _ us hl => match us, hl with | [_], _ => rfl
  exact ⟨PySem.W.fnOf "law" "law" (defArgs s_law) (defBody s_law) (defScope s_law) .none kV_law dc_law pm_law an_law cd_law ct_law, fun s v => .of_eq rfl, fun base _ _ => ok_law { f_l_dice := _, fd_l_dice := _, F_l_dice := F_l_dice, b_l_dice := b_l_dice, g_l_dice := PySem.W.mg_of X G a_l_dice, f_l_is_round := _, fd_l_is_round := _, F_l_is_round := F_l_is_round, b_l_is_round := b_l_is_round, g_l_is_round := PySem.W.mg_of X G a_l_is_round, f_l_off := _, fd_l_off := _, F_l_off := F_l_off, b_l_off := b_l_off, g_l_off := PySem.W.mg_of X G a_l_off, f_mirrored := _, fd_mirrored := _, F_mirrored := F_mirrored, b_mirrored := b_mirrored, g_mirrored := PySem.W.mg_of X G a_mirrored, f_cut := _, fd_cut := _, F_cut := F_cut, b_cut := b_cut, g_cut := PySem.W.mg_of X G a_cut, f_is_word := _, fd_is_word := _, F_is_word := F_is_word, b_is_word := b_is_word, g_is_word := PySem.W.mg_of X G a_is_word, f_need_words := _, fd_need_words := _, F_need_words := F_need_words, b_need_words := b_need_words, g_need_words := PySem.W.mg_of X G a_need_words, f_seen_of := _, fd_seen_of := _, F_seen_of := F_seen_of, b_seen_of := b_seen_of, g_seen_of := PySem.W.mg_of X G a_seen_of, f_first_torn := _, fd_first_torn := _, F_first_torn := F_first_torn, b_first_torn := b_first_torn, g_first_torn := PySem.W.mg_of X G a_first_torn, f_need_wide := _, fd_need_wide := _, F_need_wide := F_need_wide, b_need_wide := b_need_wide, g_need_wide := PySem.W.mg_of X G a_need_wide, f_gray := _, fd_gray := _, F_gray := F_gray, b_gray := b_gray, g_gray := PySem.W.mg_of X G a_gray, f_all_words := _, fd_all_words := _, F_all_words := F_all_words, b_all_words := b_all_words, g_all_words := PySem.W.mg_of X G a_all_words, f_plain := _, fd_plain := _, F_plain := F_plain, b_plain := b_plain, g_plain := PySem.W.mg_of X G a_plain, f_law := _, fd_law := _, F_law := F_law, b_law := b_law, g_law := PySem.W.mg_of X G a_law, z_abs := PySem.W.mg_none_of X G z_abs, z_enumerate := PySem.W.mg_none_of X G z_enumerate, z_isinstance := PySem.W.mg_none_of X G z_isinstance, z_len := PySem.W.mg_none_of X G z_len, z_list := PySem.W.mg_none_of X G z_list, z_range := PySem.W.mg_none_of X G z_range, z_set := PySem.W.mg_none_of X G z_set, z_sorted := PySem.W.mg_none_of X G z_sorted, a_MARKS := a_MARKS, c_MARKS := PySem.W.mg_of X G n_MARKS, m_MARKS := fun H => .inr ⟨_, _, _, l_MARKS, rfl, rfl, (show 2 ≤ sizeLine by decide), (.cons ⟨_, rfl⟩ (.cons ⟨_, rfl⟩ .nil))⟩, t_MOST_WIDE := t_MOST_WIDE, c_MOST_WIDE := PySem.W.mg_of X G n_MOST_WIDE, t_MOST_WORDS := t_MOST_WORDS, c_MOST_WORDS := PySem.W.mg_of X G n_MOST_WORDS }⟩
end G
open PySem PySem.W PyProof.Rows
set_option maxRecDepth 100000 in
set_option maxHeartbeats 0 in
theorem PySem.Challenge.cw_crossbeat_k03_whole_rounds_by_one_mark_holds : PySem.Challenge.rw_crossbeat_k03_whole_rounds_by_one_mark.Holds := by
  w_on; o_law; k_head; (case hw => w_witness2)
  k_fill
  refine L2.walk_of (l := PySem.Challenge.rw_crossbeat_k03_whole_rounds_by_one_mark) (n := 63) (k := 4) (x := "_law_script") (CX := fun _ => L2.CX0) (sp := fun w => G.sp_law _) rfl (by decide) rfl ⟨rfl, by decide, by decide⟩ (fun w h Y => PySem.W.kIn_of Y) ?F (fun _ _ a ns hl _ hS => ⟨a, ns, rfl, hS, hl, fun _ => rfl⟩) (fun _ _ _ _ _ h => h)
  case F =>
    intro w mg fa h KX GG hmg
    refine' G.all_mk KX GG hmg ?a_l_dice ?l_l_dice ?c_l_dice ?k_l_dice ?a_l_is_round ?l_l_is_round ?c_l_is_round ?k_l_is_round ?a_l_off ?l_l_off ?c_l_off ?k_l_off ?a_mirrored ?l_mirrored ?c_mirrored ?k_mirrored ?a_cut ?l_cut ?c_cut ?k_cut ?a_is_word ?l_is_word ?c_is_word ?k_is_word ?a_need_words ?l_need_words ?c_need_words ?k_need_words ?a_seen_of ?l_seen_of ?c_seen_of ?k_seen_of ?a_first_torn ?l_first_torn ?c_first_torn ?k_first_torn ?a_need_wide ?l_need_wide ?c_need_wide ?k_need_wide ?a_gray ?l_gray ?c_gray ?k_gray ?a_all_words ?l_all_words ?c_all_words ?k_all_words ?a_plain ?l_plain ?c_plain ?k_plain ?a_law ?l_law ?c_law ?k_law ?z_abs ?z_enumerate ?z_isinstance ?z_len ?z_list ?z_range ?z_set ?z_sorted ?n_MARKS ?l_MARKS ?n_MOST_WIDE ?n_MOST_WORDS
    (case a_l_dice => k_is)
    (case l_l_dice => k_is)
    (case c_l_dice => k_is)
    (case k_l_dice => k_is)
    (case a_l_is_round => k_is)
    (case l_l_is_round => k_is)
    (case c_l_is_round => k_is)
    (case k_l_is_round => k_is)
    (case a_l_off => k_is)
    (case l_l_off => k_is)
    (case c_l_off => k_is)
    (case k_l_off => k_is)
    (case a_mirrored => k_is)
    (case l_mirrored => k_is)
    (case c_mirrored => k_is)
    (case k_mirrored => k_is)
    (case a_cut => k_is)
    (case l_cut => k_is)
    (case c_cut => k_is)
    (case k_cut => k_is)
    (case a_is_word => k_is)
    (case l_is_word => k_is)
    (case c_is_word => k_is)
    (case k_is_word => k_is)
    (case a_need_words => k_is)
    (case l_need_words => k_is)
    (case c_need_words => k_is)
    (case k_need_words => k_is)
    (case a_seen_of => k_is)
    (case l_seen_of => k_is)
    (case c_seen_of => k_is)
    (case k_seen_of => k_is)
    (case a_first_torn => k_is)
    (case l_first_torn => k_is)
    (case c_first_torn => k_is)
    (case k_first_torn => k_is)
    (case a_need_wide => k_is)
    (case l_need_wide => k_is)
    (case c_need_wide => k_is)
    (case k_need_wide => k_is)
    (case a_gray => k_is)
    (case l_gray => k_is)
    (case c_gray => k_is)
    (case k_gray => k_is)
    (case a_all_words => k_is)
    (case l_all_words => k_is)
    (case c_all_words => k_is)
    (case k_all_words => k_is)
    (case a_plain => k_is)
    (case l_plain => k_is)
    (case c_plain => k_is)
    (case k_plain => k_is)
    (case a_law => k_is)
    (case l_law => k_is)
    (case c_law => k_is)
    (case k_law => k_is)
    (case z_abs => k_is)
    (case z_enumerate => k_is)
    (case z_isinstance => k_is)
    (case z_len => k_is)
    (case z_list => k_is)
    (case z_range => k_is)
    (case z_set => k_is)
    (case z_sorted => k_is)
    (case n_MARKS => k_is)
    (case l_MARKS => k_is)
    (case n_MOST_WIDE => k_is)
    (case n_MOST_WORDS => k_is)
#print axioms PySem.Challenge.cw_crossbeat_k03_whole_rounds_by_one_mark_holds
