import PyProof.Rows.All
import Wide.All
import OpenK.AllK
import Wide.FinOn
import HandS.ForMost
import HandS.Evl
import HandS.Style
import HandS.IsInst
import PySem.Challenge.RW_crossbeat_k02_all_words
set_option Elab.async false
set_option linter.all false
set_option maxRecDepth 100000
set_option maxHeartbeats 4000000
namespace G
open PySem L2 Evl
def topS (i : Nat) : Stmt := PySem.Challenge.pw_crossbeat_k02_all_words.main.body.getD i (.Pass ⟨0, 0, 0, 0⟩)
abbrev s_l_alike : Stmt := topS 13
theorem sc_l_alike : FnScope ["_law_found", "_law_due", "_law_k"] ["_law_found", "_law_due"] (defScope s_l_alike) := ⟨rfl, rfl, rfl, by decide +kernel, rfl, by decide +kernel, by decide +kernel⟩
abbrev s_l_dice : Stmt := topS 11
theorem sc_l_dice : FnScope ["_law_script", "_law_k", "_law_found", "_law_cell"] ["_law_script", "_law_k"] (defScope s_l_dice) := ⟨rfl, rfl, rfl, by decide +kernel, rfl, by decide +kernel, by decide +kernel⟩
abbrev s_l_plain : Stmt := topS 14
theorem sc_l_plain : FnScope ["_law_wide", "_law_found", "_law_number", "_law_word", "_law_at"] ["_law_wide"] (defScope s_l_plain) := ⟨rfl, rfl, rfl, by decide +kernel, rfl, by decide +kernel, by decide +kernel⟩
abbrev s_l_gray : Stmt := topS 15
theorem sc_l_gray : FnScope ["_law_wide", "_law_found", "_law_word", "_law_marks", "_law_at"] ["_law_wide"] (defScope s_l_gray) := ⟨rfl, rfl, rfl, by decide +kernel, rfl, by decide +kernel, by decide +kernel⟩
abbrev s_l_off : Stmt := topS 12
theorem sc_l_off : FnScope ["_law_d", "_law_most", "_law_found"] ["_law_d", "_law_most"] (defScope s_l_off) := ⟨rfl, rfl, rfl, by decide +kernel, rfl, by decide +kernel, by decide +kernel⟩
abbrev s_mirrored : Stmt := topS 8
theorem sc_mirrored : FnScope ["wide", "found", "turn", "word"] ["wide"] (defScope s_mirrored) := ⟨rfl, rfl, rfl, by decide +kernel, rfl, by decide +kernel, by decide +kernel⟩
abbrev s_need_wide : Stmt := topS 5
theorem sc_need_wide : FnScope ["wide"] ["wide"] (defScope s_need_wide) := ⟨rfl, rfl, rfl, by decide +kernel, rfl, by decide +kernel, by decide +kernel⟩
abbrev s_gray : Stmt := topS 9
theorem sc_gray : FnScope ["wide"] ["wide"] (defScope s_gray) := ⟨rfl, rfl, rfl, by decide +kernel, rfl, by decide +kernel, by decide +kernel⟩
abbrev s_all_words : Stmt := topS 6
theorem sc_all_words : FnScope ["wide", "found", "turn", "word"] ["wide"] (defScope s_all_words) := ⟨rfl, rfl, rfl, by decide +kernel, rfl, by decide +kernel, by decide +kernel⟩
abbrev s_plain : Stmt := topS 7
theorem sc_plain : FnScope ["wide"] ["wide"] (defScope s_plain) := ⟨rfl, rfl, rfl, by decide +kernel, rfl, by decide +kernel, by decide +kernel⟩
abbrev s_law : Stmt := topS 16
theorem sc_law : FnScope ["_law_script", "_law_d", "_law_turn", "_law_wide", "_law_again", "_law_found"] ["_law_script"] (defScope s_law) := ⟨rfl, rfl, rfl, by decide +kernel, rfl, by decide +kernel, by decide +kernel⟩
structure TX (K : PySem.W.Frag) (mg : Str → Option Value) where
  f_l_alike : Addr
  fd_l_alike : FuncData
  F_l_alike : Fun K "_law_alike" "_law_alike" s_l_alike f_l_alike fd_l_alike
  b_l_alike : Binds K fd_l_alike ["_law_found", "_law_due"] []
  g_l_alike : mg "_law_alike" = some (.ref f_l_alike)
  f_l_dice : Addr
  fd_l_dice : FuncData
  F_l_dice : Fun K "_law_dice" "_law_dice" s_l_dice f_l_dice fd_l_dice
  b_l_dice : Binds K fd_l_dice ["_law_script", "_law_k"] []
  g_l_dice : mg "_law_dice" = some (.ref f_l_dice)
  f_l_plain : Addr
  fd_l_plain : FuncData
  F_l_plain : Fun K "_law_plain" "_law_plain" s_l_plain f_l_plain fd_l_plain
  b_l_plain : Binds K fd_l_plain ["_law_wide"] []
  g_l_plain : mg "_law_plain" = some (.ref f_l_plain)
  f_l_gray : Addr
  fd_l_gray : FuncData
  F_l_gray : Fun K "_law_gray" "_law_gray" s_l_gray f_l_gray fd_l_gray
  b_l_gray : Binds K fd_l_gray ["_law_wide"] []
  g_l_gray : mg "_law_gray" = some (.ref f_l_gray)
  f_l_off : Addr
  fd_l_off : FuncData
  F_l_off : Fun K "_law_off" "_law_off" s_l_off f_l_off fd_l_off
  b_l_off : Binds K fd_l_off ["_law_d", "_law_most"] []
  g_l_off : mg "_law_off" = some (.ref f_l_off)
  f_mirrored : Addr
  fd_mirrored : FuncData
  F_mirrored : Fun K "mirrored" "mirrored" s_mirrored f_mirrored fd_mirrored
  b_mirrored : Binds K fd_mirrored ["wide"] []
  g_mirrored : mg "mirrored" = some (.ref f_mirrored)
  f_need_wide : Addr
  fd_need_wide : FuncData
  F_need_wide : Fun K "need_wide" "need_wide" s_need_wide f_need_wide fd_need_wide
  b_need_wide : Binds K fd_need_wide ["wide"] []
  g_need_wide : mg "need_wide" = some (.ref f_need_wide)
  f_gray : Addr
  fd_gray : FuncData
  F_gray : Fun K "gray" "gray" s_gray f_gray fd_gray
  b_gray : Binds K fd_gray ["wide"] []
  g_gray : mg "gray" = some (.ref f_gray)
  f_all_words : Addr
  fd_all_words : FuncData
  F_all_words : Fun K "all_words" "all_words" s_all_words f_all_words fd_all_words
  b_all_words : Binds K fd_all_words ["wide"] []
  g_all_words : mg "all_words" = some (.ref f_all_words)
  f_plain : Addr
  fd_plain : FuncData
  F_plain : Fun K "plain" "plain" s_plain f_plain fd_plain
  b_plain : Binds K fd_plain ["wide"] []
  g_plain : mg "plain" = some (.ref f_plain)
  f_law : Addr
  fd_law : FuncData
  F_law : Fun K "law" "law" s_law f_law fd_law
  b_law : Binds K fd_law ["_law_script"] []
  g_law : mg "law" = some (.ref f_law)
  z_abs : mg "abs" = none
  z_all : mg "all" = none
  z_bool : mg "bool" = none
  z_int : mg "int" = none
  z_isinstance : mg "isinstance" = none
  z_len : mg "len" = none
  z_list : mg "list" = none
  z_range : mg "range" = none
  z_str : mg "str" = none
  z_tuple : mg "tuple" = none
  t_MOST_WIDE : Tok
  c_MOST_WIDE : mg "MOST_WIDE" = some (.int 4 t_MOST_WIDE)
/-! ### heaps -/
/-- all but d stays -/
def Exd (d : Addr) (H H' : Hp) : Prop := ∀ a o, H a = some o → a ≠ d → H' a = some o
theorem Exd.refl (d : Addr) (H : Hp) : Exd d H H := fun _ _ h _ => h
theorem Exd.trans {d : Addr} {H H1 H2 : Hp} (a : Exd d H H1) (b : Exd d H1 H2) : Exd d H H2 := fun x o h n => b x o (a x o h n) n
theorem Exd.of {d : Addr} {H H1 : Hp} (a : Ex H H1) : Exd d H H1 := fun x o h _ => a x o h
theorem Exd.upd {d : Addr} {H H1 : Hp} {o : HO} (a : Exd d H H1) : Exd d H (L2.upd H1 d o) := fun x o h n => by
  rw [upd_ne n]
  exact a x o h n
theorem ifP {c A B : Prop} [Decidable c] (h : c) (k : A) : if c then A else B := by
  rw [if_pos h]
  exact k
theorem ifN {c A B : Prop} [Decidable c] (h : ¬ c) (k : B) : if c then A else B := by
  rw [if_neg h]
  exact k
theorem lo62 (n : Nat) : -(2 ^ 62 : Int) ≤ (n : Int) := by omega
theorem hi62 {n : Nat} (h : n ≤ 1000) : (n : Int) < 2 ^ 62 := by omega
theorem ats {α : Type} {xs : List α} {z : Int} {j : Nat} {v : α} (e : z = (j : Int)) (h : xs[j]? = some v) : atI xs z = some v := by
  rw [e]
  exact atI_nat h
/-- the dice: two numbers and the great ones that are left -/
def Dice (H : Hp) (d : Addr) : Prop := ∃ (s c : Int) (r : List Int), H d = some (.lst ((s :: c :: r).map V.int)) ∧ 0 ≤ s ∧ s < 2147483647 ∧ 0 ≤ c ∧ ∀ x ∈ r, 0 ≤ x
def sp_l_off : Sp := fun vs H Q _ => ∃ (d : Addr) (n : Int), vs = [.ref d, .int n] ∧ Dice H d ∧ 0 < n ∧ n < 1073741824 ∧ ∀ (x : Int) (H' : Hp), 0 ≤ x → x < n → Exd d H H' → Dice H' d → Q (.int x) H'
def sp_l_dice (K : PySem.W.Frag) : Sp := fun vs H Q _ => ∃ (a : Addr) (ns : List Int), vs = [.ref a, .int 0] ∧ SqL K H a (ns.map V.int) ∧ ns.length ≤ 63 ∧ ∀ (d : Addr) (H' : Hp), H d = none → Ex H H' → Dice H' d → Q (.ref d) H'
section
variable {P : Program} {w : World} {K : PySem.W.Frag} {mg : Str → Option Value} {base : Heap}
theorem Dice.mono {H H' : Hp} {d : Addr} (e : Ex H H') (h : Dice H d) : Dice H' d := by
  obtain ⟨s, c, r, h, h1⟩ := h
  exact ⟨s, c, r, e _ _ h, h1⟩
theorem Dice.upd {H : Hp} {d p : Addr} {o : HO} (h : Dice H d) (n : d ≠ p) : Dice (L2.upd H p o) d := by
  obtain ⟨s, c, r, h, h1⟩ := h
  exact ⟨s, c, r, by rw [upd_ne n]; exact h, h1⟩
theorem Dice.ne {H : Hp} {d p : Addr} (h : Dice H d) (n : H p = none) : d ≠ p := by
  obtain ⟨s, c, r, h, _⟩ := h
  exact ne_of_none h n
/-- the law's own promise -/
def sp_law (K : PySem.W.Frag) : Sp := fun vs H Q _ => ∃ (a : Addr) (ns : List Int), vs = [.ref a] ∧ SqL K H a (ns.map V.int) ∧ ns.length ≤ 63 ∧ ∀ H', Q (.bl true) H'
end
/-! ### words -/
def bit (b : Bool) : Nat := if b then 49 else 48
def wd (bs : List Bool) : Str := ⟨(bs.map bit).toArray⟩
abbrev wv (bs : List Bool) : V := .str (wd bs)
theorem str0 : ("0" : Str) = wd [false] := by decide +kernel
theorem str1 : ("1" : Str) = wd [true] := by decide +kernel
theorem strE : ("" : Str) = wd [] := by decide +kernel
theorem wd_app (a b : List Bool) : wd a ++ wd b = wd (a ++ b) := by
  show Str.append (wd a) (wd b) = wd (a ++ b)
  simp [Str.append, wd, List.map_append]
theorem wd_len (a : List Bool) : (wd a).length = a.length := by
  show (List.map bit a).toArray.size = a.length
  simp
theorem bit_inj {a b : Bool} (h : bit a = bit b) : a = b := by
  revert h
  cases a <;> cases b <;> decide
theorem map_bit_inj : ∀ {a b : List Bool}, a.map bit = b.map bit → a = b
  | [], [], _ => rfl
  | [], _ :: _, h => by cases h
  | _ :: _, [], h => by cases h
  | x :: a, y :: b, h => by
    have h : bit x :: a.map bit = bit y :: b.map bit := h
    injection h with h1 h2
    rw [bit_inj h1, map_bit_inj h2]
theorem wd_inj {a b : List Bool} (h : wd a = wd b) : a = b := by
  have h : (a.map bit).toArray = (b.map bit).toArray := congrArg Str.cps h
  exact map_bit_inj (by simpa using congrArg Array.toList h)
theorem wv_inj {a b : List Bool} (h : wv a = wv b) : a = b := wd_inj (V.str.inj h)
theorem wd_toList (a : List Bool) : (wd a).cps.toList = a.map bit := by
  show (a.map bit).toArray.toList = _
  simp
theorem sgn (b : Bool) : (⟨#[bit b]⟩ : Str) = wd [b] := rfl
theorem small9 {n : Nat} (h : n ≤ 1000) : n ≤ sizeLine := Nat.le_of_lt (small1000 h)
/-- all words, as numbers rise; the mirrored way -/
def plainW : Nat → List (List Bool)
  | 0 => [[]]
  | n + 1 => (plainW n).map (false :: ·) ++ (plainW n).map (true :: ·)
def grayW : Nat → List (List Bool)
  | 0 => [[]]
  | n + 1 => (grayW n).map (false :: ·) ++ (grayW n).reverse.map (true :: ·)
theorem plainW_len : ∀ n, (plainW n).length = 2 ^ n
  | 0 => rfl
  | n + 1 => by
    show ((plainW n).map _ ++ (plainW n).map _).length = _
    rw [List.length_append, List.length_map, List.length_map, plainW_len n, Nat.pow_succ]
    omega
theorem grayW_len : ∀ n, (grayW n).length = 2 ^ n
  | 0 => rfl
  | n + 1 => by
    show ((grayW n).map _ ++ (grayW n).reverse.map _).length = _
    rw [List.length_append, List.length_map, List.length_map, List.length_reverse, grayW_len n, Nat.pow_succ]
    omega
theorem plainW_wide : ∀ n, ∀ w ∈ plainW n, w.length = n
  | 0, w, h => by
    cases (List.mem_singleton.mp h)
    rfl
  | n + 1, w, h => by
    rcases List.mem_append.mp h with h | h <;> obtain ⟨u, hu, rfl⟩ := List.mem_map.mp h <;> simp [plainW_wide n u hu]
theorem grayW_wide : ∀ n, ∀ w ∈ grayW n, w.length = n
  | 0, w, h => by
    cases (List.mem_singleton.mp h)
    rfl
  | n + 1, w, h => by
    rcases List.mem_append.mp h with h | h <;> obtain ⟨u, hu, rfl⟩ := List.mem_map.mp h
    · simp [grayW_wide n u hu]
    · simp [grayW_wide n u (List.mem_reverse.mp hu)]
theorem pow16 {n : Nat} (h : n ≤ 4) : 2 ^ n ≤ 16 := by
  have : n = 0 ∨ n = 1 ∨ n = 2 ∨ n = 3 ∨ n = 4 := by omega
  rcases this with rfl | rfl | rfl | rfl | rfl <;> decide
/-! ### comprehensions whose element is a value -/
section
variable {K : PySem.W.Frag}
/-- over a list; the test's answer p, the element g -/
theorem lcFM {α : Type} {a : Addr} (l : List α) (ev : α → V) (p : α → Bool) (g : α → V) {j : Nat} {tt : TT} {te : TE} {vs : List Nat} {σ : L2.St} {H1 : Hp} {D : Addr} {Qd : Hp → Prop}
    (hx : SqL K H1 a (l.map ev)) (hz : l.length ≤ 1000) (hD : H1 D = none) (hw : ∀ x, wipe ((wipe σ vs).set j (some x)) vs = wipe σ vs)
    (hs : ∀ x ∈ l, ∀ H, Ex H1 H → ∀ (Y : VK) (N : Hp → Prop), (∀ H2, Ex H H2 → if p x = true then Y (g x) H2 else N H2) → tt ((wipe σ vs).set j (some (ev x))) H fun b H3 => if b = true then te ((wipe σ vs).set j (some (ev x))) H3 Y else N H3)
    (hd : ∀ H2, Ex H1 H2 → H2 D = some (.lst ((l.filter p).map g)) → Qd H2) :
    ∃ W : Nat → Nat → Hp → Prop, (∃ m, W 0 m (upd H1 D (.lst []))) ∧ ∀ i m H, W i m H →
      ((Itl K a).stop i H ∧ Qd H) ∨ ((Itl K a).go i H ∧ ∃ Nx : Hp → Prop, (∀ H', Nx H' → ∃ m', m' < m ∧ W (i + 1) m' H') ∧ ∀ x H', (Itl K a).yld i H x H' → (gName j) x (wipe σ vs) H' fun σ2 H2 => wipe σ2 vs = wipe σ vs ∧ tt σ2 H2 fun b H3 =>
        if b = true then te σ2 H3 fun y H4 => ∃ acc, H4 D = some (.lst acc) ∧ acc.length < sizeLine ∧ Nx (upd H4 D (.lst (acc ++ [y]))) else Nx H3) := by
  refine lc_list (xs := l.map ev) (fun i H => Ex H1 H ∧ H D = some (.lst (((l.take i).filter p).map g))) ⟨Ex.new hD, upd_same⟩ (fun i H _ h => ex_l h.1 hx) (fun i x H hi h => ?_) (fun H h => ?_)
  · obtain ⟨y, hy, rfl⟩ : ∃ y, l[i]? = some y ∧ ev y = x := by
      rw [List.getElem?_map] at hi
      cases e : l[i]? with
      | none => rw [e] at hi; cases hi
      | some y => rw [e] at hi; exact ⟨y, rfl, Option.some.inj hi⟩
    have hm : y ∈ l := List.mem_of_getElem? hy
    have ht : l.take (i + 1) = l.take i ++ [y] := by rw [List.take_add_one, hy]; rfl
    refine ⟨hw _, hs y hm H h.1 _ _ fun H2 e2 => ?_⟩
    have hl : (((l.take i).filter p).map g).length < sizeLine := by
      rw [List.length_map]
      refine small1000 (Nat.le_trans (List.length_filter_le _ _) ?_)
      rw [List.length_take]
      omega
    by_cases hp : p y = true
    · rw [if_pos hp]
      refine ⟨_, e2 _ _ h.2, hl, Ex.mut (h.1.trans e2) hD, ?_⟩
      rw [upd_same, ht, List.filter_append, List.map_append]
      simp [hp]
    · rw [if_neg hp]
      refine ⟨h.1.trans e2, ?_⟩
      rw [e2 _ _ h.2, ht, List.filter_append, List.map_append]
      simp [hp]
  · refine hd H h.1 ?_
    rw [h.2, List.length_map, List.take_length]
theorem lcM {α : Type} {a : Addr} (l : List α) (ev : α → V) (g : α → V) {j : Nat} {te : TE} {vs : List Nat} {σ : L2.St} {H1 : Hp} {D : Addr} {Qd : Hp → Prop}
    (hx : SqL K H1 a (l.map ev)) (hz : l.length ≤ 1000) (hD : H1 D = none) (hw : ∀ x, wipe ((wipe σ vs).set j (some x)) vs = wipe σ vs)
    (hs : ∀ x ∈ l, ∀ H, Ex H1 H → ∀ (Y : VK), (∀ H2, Ex H H2 → Y (g x) H2) → te ((wipe σ vs).set j (some (ev x))) H Y)
    (hd : ∀ H2, Ex H1 H2 → H2 D = some (.lst (l.map g)) → Qd H2) :
    ∃ W : Nat → Nat → Hp → Prop, (∃ m, W 0 m (upd H1 D (.lst []))) ∧ ∀ i m H, W i m H →
      ((Itl K a).stop i H ∧ Qd H) ∨ ((Itl K a).go i H ∧ ∃ Nx : Hp → Prop, (∀ H', Nx H' → ∃ m', m' < m ∧ W (i + 1) m' H') ∧ ∀ x H', (Itl K a).yld i H x H' → (gName j) x (wipe σ vs) H' fun σ2 H2 => wipe σ2 vs = wipe σ vs ∧ tYes σ2 H2 fun b H3 =>
        if b = true then te σ2 H3 fun y H4 => ∃ acc, H4 D = some (.lst acc) ∧ acc.length < sizeLine ∧ Nx (upd H4 D (.lst (acc ++ [y]))) else Nx H3) :=
  lcFM l ev (fun _ => true) g hx hz hD hw (fun x hm H e Y N h => iteT (B := N H) (hs x hm H e Y fun H2 e2 => by simpa using h H2 e2)) (fun H2 e h => hd H2 e (by rw [h, List.filter_eq_self.mpr (fun _ _ => rfl)]))
/-- over range(n) -/
theorem lcRF (n : Nat) (p : Nat → Bool) (g : Nat → V) {j : Nat} {tt : TT} {te : TE} {vs : List Nat} {σ : L2.St} {H1 : Hp} {D : Addr} {Qd : Hp → Prop} {z : Int}
    (hz0 : z = (n : Int)) (hz : n ≤ 1000) (hD : H1 D = none) (hw : ∀ x, wipe ((wipe σ vs).set j (some x)) vs = wipe σ vs)
    (hs : ∀ i, i < n → ∀ H, Ex H1 H → ∀ (Y : VK) (N : Hp → Prop), (∀ H2, Ex H H2 → if p i = true then Y (g i) H2 else N H2) → tt ((wipe σ vs).set j (some (.int (i : Int)))) H fun b H3 => if b = true then te ((wipe σ vs).set j (some (.int (i : Int)))) H3 Y else N H3)
    (hd : ∀ H2, Ex H1 H2 → H2 D = some (.lst (((List.range n).filter p).map g)) → Qd H2) :
    ∃ W : Nat → Nat → Hp → Prop, (∃ m, W 0 m (upd H1 D (.lst []))) ∧ ∀ i m H, W i m H →
      ((Itr 0 z.toNat).stop i H ∧ Qd H) ∨ ((Itr 0 z.toNat).go i H ∧ ∃ Nx : Hp → Prop, (∀ H', Nx H' → ∃ m', m' < m ∧ W (i + 1) m' H') ∧ ∀ x H', (Itr 0 z.toNat).yld i H x H' → (gName j) x (wipe σ vs) H' fun σ2 H2 => wipe σ2 vs = wipe σ vs ∧ tt σ2 H2 fun b H3 =>
        if b = true then te σ2 H3 fun y H4 => ∃ acc, H4 D = some (.lst acc) ∧ acc.length < sizeLine ∧ Nx (upd H4 D (.lst (acc ++ [y]))) else Nx H3) := by
  have hn : z.toNat = n := by omega
  refine lc_range (lo := 0) (n := z.toNat) (fun i H => Ex H1 H ∧ H D = some (.lst (((List.range i).filter p).map g))) ⟨Ex.new hD, upd_same⟩ (fun i H hi h => ?_) (fun H h => ?_)
  · have e0 : (0 : Int) + (i : Int) = (i : Int) := Int.zero_add _
    rw [e0]
    refine ⟨hw _, hs i (by omega) H h.1 _ _ fun H2 e2 => ?_⟩
    have hl : (((List.range i).filter p).map g).length < sizeLine := by
      rw [List.length_map]
      refine small1000 (Nat.le_trans (List.length_filter_le _ _) ?_)
      rw [List.length_range]
      omega
    by_cases hp : p i = true
    · rw [if_pos hp]
      refine ⟨_, e2 _ _ h.2, hl, Ex.mut (h.1.trans e2) hD, ?_⟩
      rw [upd_same, List.range_succ, List.filter_append, List.map_append]
      simp [hp]
    · rw [if_neg hp]
      refine ⟨h.1.trans e2, ?_⟩
      rw [e2 _ _ h.2, List.range_succ, List.filter_append, List.map_append]
      simp [hp]
  · refine hd H h.1 ?_
    rw [h.2, hn]
theorem lcR (n : Nat) (g : Nat → V) {j : Nat} {te : TE} {vs : List Nat} {σ : L2.St} {H1 : Hp} {D : Addr} {Qd : Hp → Prop} {z : Int}
    (hz0 : z = (n : Int)) (hz : n ≤ 1000) (hD : H1 D = none) (hw : ∀ x, wipe ((wipe σ vs).set j (some x)) vs = wipe σ vs)
    (hs : ∀ i, i < n → ∀ H, Ex H1 H → ∀ (Y : VK), (∀ H2, Ex H H2 → Y (g i) H2) → te ((wipe σ vs).set j (some (.int (i : Int)))) H Y)
    (hd : ∀ H2, Ex H1 H2 → H2 D = some (.lst ((List.range n).map g)) → Qd H2) :
    ∃ W : Nat → Nat → Hp → Prop, (∃ m, W 0 m (upd H1 D (.lst []))) ∧ ∀ i m H, W i m H →
      ((Itr 0 z.toNat).stop i H ∧ Qd H) ∨ ((Itr 0 z.toNat).go i H ∧ ∃ Nx : Hp → Prop, (∀ H', Nx H' → ∃ m', m' < m ∧ W (i + 1) m' H') ∧ ∀ x H', (Itr 0 z.toNat).yld i H x H' → (gName j) x (wipe σ vs) H' fun σ2 H2 => wipe σ2 vs = wipe σ vs ∧ tYes σ2 H2 fun b H3 =>
        if b = true then te σ2 H3 fun y H4 => ∃ acc, H4 D = some (.lst acc) ∧ acc.length < sizeLine ∧ Nx (upd H4 D (.lst (acc ++ [y]))) else Nx H3) :=
  lcRF n (fun _ => true) g hz0 hz hD hw (fun i hi H e Y N h => iteT (B := N H) (hs i hi H e Y fun H2 e2 => by simpa using h H2 e2)) (fun H2 e h => hd H2 e (by rw [h, List.filter_eq_self.mpr (fun _ _ => rfl)]))
end
section
variable {P : Program} {w : World} {K : PySem.W.Frag} {mg : Str → Option Value} {base : Heap}
/-! ### data of a bounded depth: None, ints, texts, lists and tuples -/
def Leaf (v : V) (d : PyData) : Prop := (v = .non ∧ d = .none) ∨ (∃ i, v = .int i ∧ d = .int i) ∨ (∃ x, v = .str x ∧ d = .str x)
def Da (H : Hp) : Nat → V → PyData → Prop
  | 0, v, d => Leaf v d
  | n + 1, v, d => Leaf v d ∨ (∃ a xs ds, v = .ref a ∧ d = .list ds ∧ H a = some (.lst xs) ∧ xs.length ≤ 1000 ∧ Paired (Da H n) xs ds) ∨ (∃ a xs ds, v = .ref a ∧ d = .tuple ds ∧ H a = some (.tup xs) ∧ xs.length ≤ 1000 ∧ Paired (Da H n) xs ds)
theorem paired_imp {α β : Type} {R S : α → β → Prop} (h : ∀ a b, R a b → S a b) : ∀ {xs : List α} {ys : List β}, Paired R xs ys → Paired S xs ys
  | _, _, .nil => .nil
  | _, _, .cons r t => .cons (h _ _ r) (paired_imp h t)
theorem Da.mono {H H' : Hp} (e : Ex H H') : ∀ {n : Nat} {v : V} {d : PyData}, Da H n v d → Da H' n v d
  | 0, _, _, h => h
  | n + 1, _, _, h => by
    rcases h with h | ⟨a, xs, ds, h1, h2, h3, h4, h5⟩ | ⟨a, xs, ds, h1, h2, h3, h4, h5⟩
    · exact .inl h
    · exact .inr (.inl ⟨a, xs, ds, h1, h2, e _ _ h3, h4, paired_imp (fun _ _ => Da.mono e) h5⟩)
    · exact .inr (.inr ⟨a, xs, ds, h1, h2, e _ _ h3, h4, paired_imp (fun _ _ => Da.mono e) h5⟩)
theorem Da.leaf {H : Hp} {v : V} {d : PyData} (h : Leaf v d) : ∀ {n : Nat}, Da H n v d
  | 0 => h
  | _ + 1 => .inl h
theorem Da.int {H : Hp} {n : Nat} (i : Int) : Da H n (.int i) (.int i) := Da.leaf (.inr (.inl ⟨i, rfl, rfl⟩))
theorem Da.str {H : Hp} {n : Nat} (x : Str) : Da H n (.str x) (.str x) := Da.leaf (.inr (.inr ⟨x, rfl, rfl⟩))
theorem Da.non {H : Hp} {n : Nat} : Da H n .non .none := Da.leaf (.inl ⟨rfl, rfl⟩)
theorem Da.lst {H : Hp} {n : Nat} {a : Addr} {xs : List V} {ds : List PyData} (h : H a = some (.lst xs)) (l : xs.length ≤ 1000) (p : Paired (Da H n) xs ds) : Da H (n + 1) (.ref a) (.list ds) := .inr (.inl ⟨a, xs, ds, rfl, rfl, h, l, p⟩)
theorem Da.tup {H : Hp} {n : Nat} {a : Addr} {xs : List V} {ds : List PyData} (h : H a = some (.tup xs)) (l : xs.length ≤ 1000) (p : Paired (Da H n) xs ds) : Da H (n + 1) (.ref a) (.tuple ds) := .inr (.inr ⟨a, xs, ds, rfl, rfl, h, l, p⟩)
theorem paired_map {α β γ : Type} {R : α → β → Prop} (f : γ → α) (g : γ → β) : ∀ (l : List γ), (∀ x ∈ l, R (f x) (g x)) → Paired R (l.map f) (l.map g)
  | [], _ => .nil
  | x :: l, h => .cons (h x List.mem_cons_self) (paired_map f g l fun y hy => h y (List.mem_cons_of_mem _ hy))
theorem Da.strs {H : Hp} {n : Nat} {a : Addr} {l : List (List Bool)} (h : H a = some (.lst (l.map wv))) (hl : l.length ≤ 1000) : Da H (n + 1) (.ref a) (.list (l.map fun w => .str (wd w))) :=
  Da.lst h (by simpa using hl) (paired_map _ _ l fun w _ => Da.str _)
theorem paired_at {α β : Type} {R : α → β → Prop} : ∀ {xs : List α} {ys : List β} {i : Nat}, Paired R xs ys → i < ys.length → ∃ x y, xs[i]? = some x ∧ ys[i]? = some y ∧ R x y
  | _, _, i, .nil, h => absurd h (Nat.not_lt_zero _)
  | _, _, 0, .cons r _, _ => ⟨_, _, rfl, rfl, r⟩
  | _, _, i + 1, .cons _ t, h => paired_at (i := i) t (Nat.lt_of_succ_lt_succ h)
theorem paired_len {α β : Type} {R : α → β → Prop} : ∀ {xs : List α} {ys : List β}, Paired R xs ys → xs.length = ys.length
  | _, _, .nil => rfl
  | _, _, .cons _ t => congrArg (· + 1) (paired_len t)
theorem kb_ib : kitB "int" "bool" = some false := by decide +kernel
theorem kb_ii : kitB "int" "int" = some true := by decide +kernel
theorem kb_sb : kitB "str" "bool" = some false := by decide +kernel
theorem kb_si : kitB "str" "int" = some false := by decide +kernel
theorem kb_ss : kitB "str" "str" = some true := by decide +kernel
theorem kb_lb : kitB "list" "bool" = some false := by decide +kernel
theorem kb_li : kitB "list" "int" = some false := by decide +kernel
theorem kb_ls : kitB "list" "str" = some false := by decide +kernel
theorem kb_lt : kitB "list" "tuple" = some false := by decide +kernel
theorem kb_ll : kitB "list" "list" = some true := by decide +kernel
theorem kb_tb : kitB "tuple" "bool" = some false := by decide +kernel
theorem kb_ti : kitB "tuple" "int" = some false := by decide +kernel
theorem kb_ts : kitB "tuple" "str" = some false := by decide +kernel
theorem kb_tt : kitB "tuple" "tuple" = some true := by decide +kernel
theorem kb_tl : kitB "tuple" "list" = some false := by decide +kernel
theorem isiR {K : PySem.W.Frag} {H : Hp} {Q : VK} {x : V} {t n : String} {b : Bool} (hx : TyX K H x (.type t)) (hk : kitB t n = some b) (q : Q (.bl b) H) : rIsi K [x, .ty n] H Q := ⟨x, .ty n, .type t, .type n, b, rfl, .ty n, hx, kit_ty hk, q⟩
theorem Da.both {H : Hp} {n : Nat} {x y : V} {d : PyData} (hx : Da H n x d) (hy : Da H n y d) : (Leaf x d ∧ Leaf y d) ∨
    (∃ m a xs b ys ds, n = m + 1 ∧ x = .ref a ∧ y = .ref b ∧ d = .list ds ∧ H a = some (.lst xs) ∧ H b = some (.lst ys) ∧ ys.length ≤ 1000 ∧ Paired (Da H m) xs ds ∧ Paired (Da H m) ys ds) ∨
    (∃ m a xs b ys ds, n = m + 1 ∧ x = .ref a ∧ y = .ref b ∧ d = .tuple ds ∧ H a = some (.tup xs) ∧ H b = some (.tup ys) ∧ ys.length ≤ 1000 ∧ Paired (Da H m) xs ds ∧ Paired (Da H m) ys ds) := by
  cases n with
  | zero => exact .inl ⟨hx, hy⟩
  | succ n =>
    rcases hy with ly | ⟨b, ys, ds, rfl, rfl, hb, lb, pb⟩ | ⟨b, ys, ds, rfl, rfl, hb, lb, pb⟩
    · rcases hx with lx | ⟨a, xs, ds, _, rfl, _⟩ | ⟨a, xs, ds, _, rfl, _⟩
      · exact .inl ⟨lx, ly⟩
      · rcases ly with ⟨_, h⟩ | ⟨_, _, h⟩ | ⟨_, _, h⟩ <;> cases h
      · rcases ly with ⟨_, h⟩ | ⟨_, _, h⟩ | ⟨_, _, h⟩ <;> cases h
    · rcases hx with lx | ⟨a, xs, ds', e, h, h1, h2, h3⟩ | ⟨a, xs, ds', _, h, _⟩
      · rcases lx with ⟨_, h⟩ | ⟨_, _, h⟩ | ⟨_, _, h⟩ <;> cases h
      · cases h; exact .inr (.inl ⟨n, a, xs, b, ys, _, rfl, e, rfl, rfl, h1, hb, lb, h3, pb⟩)
      · cases h
    · rcases hx with lx | ⟨a, xs, ds', _, h, _⟩ | ⟨a, xs, ds', e, h, h1, h2, h3⟩
      · rcases lx with ⟨_, h⟩ | ⟨_, _, h⟩ | ⟨_, _, h⟩ <;> cases h
      · cases h
      · cases h; exact .inr (.inr ⟨n, a, xs, b, ys, _, rfl, e, rfl, rfl, h1, hb, lb, h3, pb⟩)
def sp_l_alike : Nat → Sp
  | 0 => fun _ _ _ _ => False
  | n + 1 => fun vs H Q _ => ∃ x y d, vs = [x, y] ∧ Da H n x d ∧ Da H n y d ∧ RetV (.bl true) H Q
theorem ok_alikeN (T : TX K mg) : ∀ n : Nat, FnOk P w K mg base CX0 n T.f_l_alike T.fd_l_alike ["_law_found", "_law_due"] (sp_l_alike n)
  | 0 => ⟨fun _ _ _ _ h => h.elim, fun _ _ _ _ _ _ _ _ _ _ _ _ _ h => h.elim⟩
  | n + 1 => by
    have ih := ok_alikeN T n
    refine T.F_l_alike.ok sc_l_alike (fun vs H Q E h => ?_) (fun cdv A outer s H vs Q E hr h => ?_)
    · obtain ⟨x, y, d, rfl, _⟩ := h
      rfl
    · obtain ⟨x, y, d, rfl, hx, hy, q⟩ := h
      refine ⟨_, (pss_cons (ps_if (pt_cmpR op_isN (pv 1) pe_non (nomark _))
 (pss_one (ps_ret (pe_cmpR op_isN (pv 0) pe_non (nomark _))))
 pss_nil)
 (pss_cons (ps_if (pt_val (pe_callB call_isi (by rfl) T.z_isinstance (by decide +kernel) (pa_cons (pv 1) (pa_cons (pe_bltn (v := .ty "bool") (u := .type "bool") (by rfl) T.z_bool (by decide +kernel) rfl) pa_nil))))
 (pss_one (ps_ret (pe_and (pe_callB call_isi (by rfl) T.z_isinstance (by decide +kernel) (pa_cons (pv 0) (pa_cons (pe_bltn (v := .ty "bool") (u := .type "bool") (by rfl) T.z_bool (by decide +kernel) rfl) pa_nil))) (pe_one (pe_cmpR op_eq (pv 0) (pv 1) (nomark _))))))
 pss_nil)
 (pss_cons (ps_if (pt_val (pe_callB call_isi (by rfl) T.z_isinstance (by decide +kernel) (pa_cons (pv 1) (pa_cons (pe_bltn (v := .ty "int") (u := .type "int") (by rfl) T.z_int (by decide +kernel) rfl) pa_nil))))
 (pss_one (ps_ret (pe_and (pe_callB call_isi (by rfl) T.z_isinstance (by decide +kernel) (pa_cons (pv 0) (pa_cons (pe_bltn (v := .ty "int") (u := .type "int") (by rfl) T.z_int (by decide +kernel) rfl) pa_nil))) (pe_and (pe_not (pe_callB call_isi (by rfl) T.z_isinstance (by decide +kernel) (pa_cons (pv 0) (pa_cons (pe_bltn (v := .ty "bool") (u := .type "bool") (by rfl) T.z_bool (by decide +kernel) rfl) pa_nil)))) (pe_one (pe_cmpR op_eq (pv 0) (pv 1) (nomark _)))))))
 pss_nil)
 (pss_cons (ps_if (pt_val (pe_callB call_isi (by rfl) T.z_isinstance (by decide +kernel) (pa_cons (pv 1) (pa_cons (pe_bltn (v := .ty "str") (u := .type "str") (by rfl) T.z_str (by decide +kernel) rfl) pa_nil))))
 (pss_one (ps_ret (pe_and (pe_callB call_isi (by rfl) T.z_isinstance (by decide +kernel) (pa_cons (pv 0) (pa_cons (pe_bltn (v := .ty "str") (u := .type "str") (by rfl) T.z_str (by decide +kernel) rfl) pa_nil))) (pe_one (pe_cmpR op_eq (pv 0) (pv 1) (nomark _))))))
 pss_nil)
 (pss_cons (ps_if (PW.pt (pw_or (pt_cmpR op_ne (pe_callB call_isi (by rfl) T.z_isinstance (by decide +kernel) (pa_cons (pv 1) (pa_cons (pe_bltn (v := .ty "tuple") (u := .type "tuple") (by rfl) T.z_tuple (by decide +kernel) rfl) pa_nil))) (pe_callB call_isi (by rfl) T.z_isinstance (by decide +kernel) (pa_cons (pv 0) (pa_cons (pe_bltn (v := .ty "tuple") (u := .type "tuple") (by rfl) T.z_tuple (by decide +kernel) rfl) pa_nil))) (nomark _)) (pw_or1 (pt_cmpR op_ne (pe_callB call_isi (by rfl) T.z_isinstance (by decide +kernel) (pa_cons (pv 1) (pa_cons (pe_bltn (v := .ty "list") (u := .type "list") (by rfl) T.z_list (by decide +kernel) rfl) pa_nil))) (pe_callB call_isi (by rfl) T.z_isinstance (by decide +kernel) (pa_cons (pv 0) (pa_cons (pe_bltn (v := .ty "list") (u := .type "list") (by rfl) T.z_list (by decide +kernel) rfl) pa_nil))) (nomark _)))))
 (pss_one (ps_ret pe_bl))
 pss_nil)
 (pss_cons (ps_if (pt_cmpR op_ne (pe_callB call_len (by rfl) T.z_len PySem.boot_len (pa_cons (pv 0) pa_nil)) (pe_callB call_len (by rfl) T.z_len PySem.boot_len (pa_cons (pv 1) pa_nil)) (nomark _))
 (pss_one (ps_ret pe_bl))
 pss_nil)
 (pss_one (ps_ret (pe_callB (cr_all rfl) (by rfl) T.z_all (by decide +kernel) (pa_cons (pe_lc (own := [("_law_k", 2)]) (g := gName 2) (by rfl) sc_l_alike.nd (pi_range1 (by rfl) T.z_range (pa_cons (pe_callB call_len (by rfl) T.z_len PySem.boot_len (pa_cons (pv 1) pa_nil)) pa_nil)) (blkOk_by (own := [("_law_k", 2)]) (N := ["_law_found", "_law_due", "_law_k"]) (sc := defScope s_l_alike) (by decide +kernel)) (fun _ _ _ _ _ => pg_name (i := 2) sc_l_alike.nd rfl (Or.inl rfl)) (fun _ _ _ _ _ => pts_nil) (fun _ _ _ _ _ => (pe_call ih hr (by rfl) T.g_l_alike T.F_l_alike.kp T.b_l_alike .nil pass0 (pa_cons (pe_ix (r := rIx K) ix_seq (pv 0) (pv 2) (fun _ _ => rfl)) (pa_cons (pe_ix (r := rIx K) ix_seq (pv 1) (pv 2) (fun _ _ => rfl)) pa_nil))))) pa_nil)))))))))), ?_⟩
      rcases hx.both hy with ⟨lx, ly⟩ | ⟨n, a, xs, b, ys, ds, rfl, rfl, rfl, rfl, ha, hb, lb, pa, pb⟩ | ⟨n, a, xs, b, ys, ds, rfl, rfl, rfl, rfl, ha, hb, lb, pa, pb⟩
      · rcases ly with ⟨rfl, rfl⟩ | ⟨i, rfl, rfl⟩ | ⟨z, rfl, rfl⟩
        · obtain rfl : x = .non := by
            rcases lx with ⟨h, _⟩ | ⟨_, _, h⟩ | ⟨_, _, h⟩
            · exact h
            · cases h
            · cases h
          exact ⟨_, rfl, rfl, _, rfl, ifP rfl ⟨_, rfl, rfl, q _ (Ex.refl _)⟩⟩
        · obtain rfl : x = .int i := by
            rcases lx with ⟨_, h⟩ | ⟨_, e, h⟩ | ⟨_, _, h⟩
            · cases h
            · cases h; exact e
            · cases h
          refine ⟨_, rfl, rfl, _, rfl, ifN (by simp) ⟨_, rfl, _, _, _, _, _, rfl, .ty _, (.base (.int i)), kit_ty kb_ib, ⟨_, rfl, ifN (by simp) ⟨_, rfl, _, _, _, _, _, rfl, .ty _, (.base (.int i)), kit_ty kb_ii, ⟨_, rfl, ifP rfl ?_⟩⟩⟩⟩⟩
          refine ⟨_, rfl, _, _, _, _, _, rfl, .ty _, (.base (.int i)), kit_ty kb_ii, ⟨_, rfl, ifP rfl ⟨_, rfl, _, _, _, _, _, rfl, .ty _, (.base (.int i)), kit_ty kb_ib, ⟨_, rfl, _, rfl, ifP rfl ⟨_, rfl, _, rfl, rfl, ?_⟩⟩⟩⟩⟩
          rw [decide_eq_true rfl]
          exact q _ (Ex.refl _)
        · obtain rfl : x = .str z := by
            rcases lx with ⟨_, h⟩ | ⟨_, _, h⟩ | ⟨_, e, h⟩
            · cases h
            · cases h
            · cases h; exact e
          refine ⟨_, rfl, rfl, _, rfl, ifN (by simp) ⟨_, rfl, _, _, _, _, _, rfl, .ty _, (.base (.str z)), kit_ty kb_sb, ⟨_, rfl, ifN (by simp) ⟨_, rfl, _, _, _, _, _, rfl, .ty _, (.base (.str z)), kit_ty kb_si, ⟨_, rfl, ifN (by simp) ⟨_, rfl, _, _, _, _, _, rfl, .ty _, (.base (.str z)), kit_ty kb_ss, ⟨_, rfl, ifP rfl ?_⟩⟩⟩⟩⟩⟩⟩
          refine ⟨_, rfl, _, _, _, _, _, rfl, .ty _, (.base (.str z)), kit_ty kb_ss, ⟨_, rfl, ifP rfl ⟨_, rfl, _, rfl, rfl, ?_⟩⟩⟩
          rw [decide_eq_true rfl]
          exact q _ (Ex.refl _)
      · have tx : TyX K H (.ref a) (.type "list") := .base (.lst ha)
        have ty : TyX K H (.ref b) (.type "list") := .base (.lst hb)
        refine ⟨_, rfl, rfl, _, rfl, ifN (by simp) ⟨_, rfl, _, _, _, _, _, rfl, .ty _, ty, kit_ty kb_lb, ⟨_, rfl, ifN (by simp) ⟨_, rfl, _, _, _, _, _, rfl, .ty _, ty, kit_ty kb_li, ⟨_, rfl, ifN (by simp) ⟨_, rfl, _, _, _, _, _, rfl, .ty _, ty, kit_ty kb_ls, ⟨_, rfl, ifN (by simp) ?_⟩⟩⟩⟩⟩⟩⟩
        refine ⟨_, rfl, _, _, _, _, _, rfl, .ty _, ty, kit_ty kb_lt, ⟨_, rfl, _, _, _, _, _, rfl, .ty _, tx, kit_ty kb_lt, ⟨rfl, _, rfl, ifN (by simp) ⟨_, rfl, _, _, _, _, _, rfl, .ty _, ty, kit_ty kb_ll, ⟨_, rfl, _, _, _, _, _, rfl, .ty _, tx, kit_ty kb_ll, ⟨rfl, _, rfl, ifN (by simp) ?_⟩⟩⟩⟩⟩⟩
        refine ⟨_, rfl, _, _, rfl, .inl ⟨_, SqL.of ha, rfl⟩, _, rfl, _, _, rfl, .inl ⟨_, SqL.of hb, rfl⟩, rfl, _, rfl, ifN ?_ ?_⟩
        · rw [decide_eq_true (by rw [paired_len pa, paired_len pb])]
          decide
        refine ⟨_, rfl, _, _, rfl, .inl ⟨_, SqL.of hb, rfl⟩, _, rfl, lo62 _, hi62 lb, fun D nD => lcR ys.length (fun _ => .bl true) rfl lb nD (fun _ => rfl) (fun i hi H3 e3 Y hY => ?_) (fun H3 e3 h3 => ?_)⟩
        · obtain ⟨y, z, hy, hz, ry⟩ := paired_at pb (i := i) (by rw [← paired_len pb]; exact hi)
          obtain ⟨x, z', hx, hz', rx⟩ := paired_at pa (i := i) (by rw [← paired_len pb]; exact hi)
          obtain rfl : z = z' := Option.some.inj (hz.symm.trans hz')
          exact ⟨_, rfl, _, rfl, .inl ⟨a, xs, _, x, rfl, rfl, SqL.of (e3 _ _ ha), atI_nat hx, _, rfl, _, rfl, .inl ⟨b, ys, _, y, rfl, rfl, SqL.of (e3 _ _ hb), atI_nat hy, x, y, z, rfl, rx.mono e3, ry.mono e3, hY⟩⟩⟩
        · refine ⟨D, (List.range ys.length).map (fun _ => true), rfl, SqL.of (by rw [h3, List.map_map]; rfl), ?_⟩
          rw [show ((List.range ys.length).map (fun _ => true)).all id = true by simp]
          exact q _ e3
      · have tx : TyX K H (.ref a) (.type "tuple") := .base (.tup ha)
        have ty : TyX K H (.ref b) (.type "tuple") := .base (.tup hb)
        refine ⟨_, rfl, rfl, _, rfl, ifN (by simp) ⟨_, rfl, _, _, _, _, _, rfl, .ty _, ty, kit_ty kb_tb, ⟨_, rfl, ifN (by simp) ⟨_, rfl, _, _, _, _, _, rfl, .ty _, ty, kit_ty kb_ti, ⟨_, rfl, ifN (by simp) ⟨_, rfl, _, _, _, _, _, rfl, .ty _, ty, kit_ty kb_ts, ⟨_, rfl, ifN (by simp) ?_⟩⟩⟩⟩⟩⟩⟩
        refine ⟨_, rfl, _, _, _, _, _, rfl, .ty _, ty, kit_ty kb_tt, ⟨_, rfl, _, _, _, _, _, rfl, .ty _, tx, kit_ty kb_tt, ⟨rfl, _, rfl, ifN (by simp) ⟨_, rfl, _, _, _, _, _, rfl, .ty _, ty, kit_ty kb_tl, ⟨_, rfl, _, _, _, _, _, rfl, .ty _, tx, kit_ty kb_tl, ⟨rfl, _, rfl, ifN (by simp) ?_⟩⟩⟩⟩⟩⟩
        refine ⟨_, rfl, _, _, rfl, .inr ⟨_, SqT.of ha, rfl⟩, _, rfl, _, _, rfl, .inr ⟨_, SqT.of hb, rfl⟩, rfl, _, rfl, ifN ?_ ?_⟩
        · rw [decide_eq_true (by rw [paired_len pa, paired_len pb])]
          decide
        refine ⟨_, rfl, _, _, rfl, .inr ⟨_, SqT.of hb, rfl⟩, _, rfl, lo62 _, hi62 lb, fun D nD => lcR ys.length (fun _ => .bl true) rfl lb nD (fun _ => rfl) (fun i hi H3 e3 Y hY => ?_) (fun H3 e3 h3 => ?_)⟩
        · obtain ⟨y, z, hy, hz, ry⟩ := paired_at pb (i := i) (by rw [← paired_len pb]; exact hi)
          obtain ⟨x, z', hx, hz', rx⟩ := paired_at pa (i := i) (by rw [← paired_len pb]; exact hi)
          obtain rfl : z = z' := Option.some.inj (hz.symm.trans hz')
          exact ⟨_, rfl, _, rfl, .inr (.inl ⟨a, xs, _, x, rfl, rfl, SqT.of (e3 _ _ ha), atI_nat hx, _, rfl, _, rfl, .inr (.inl ⟨b, ys, _, y, rfl, rfl, SqT.of (e3 _ _ hb), atI_nat hy, x, y, z, rfl, rx.mono e3, ry.mono e3, hY⟩)⟩)⟩
        · refine ⟨D, (List.range ys.length).map (fun _ => true), rfl, SqL.of (by rw [h3, List.map_map]; rfl), ?_⟩
          rw [show ((List.range ys.length).map (fun _ => true)).all id = true by simp]
          exact q _ e3
theorem ok_l_alike (T : TX K mg) : FnOk P w K mg base CX0 6 T.f_l_alike T.fd_l_alike ["_law_found", "_law_due"] (sp_l_alike 6) := ok_alikeN T 6
theorem ok_l_dice (T : TX K mg) : FnOk P w K mg base CX0 1 T.f_l_dice T.fd_l_dice ["_law_script", "_law_k"] (sp_l_dice K) := by
  refine T.F_l_dice.ok sc_l_dice (fun vs H Q E h => ?_) (fun cdv A outer s H vs Q E hr h => ?_)
  · obtain ⟨a, ns, rfl, _⟩ := h
    rfl
  · obtain ⟨a, ns, rfl, hS, hl, q⟩ := h
    refine ⟨_, (pss_cons (ps_set (i := 2) sc_l_dice.nd rfl (by first | exact Or.inl rfl | exact Or.inr rfl) (pv 1))
 (pss_cons (ps_for PassesOwn.never rfl (pi_list (pv 0)) (pg_name (i := 3) sc_l_dice.nd rfl (by first | exact Or.inl rfl | exact Or.inr rfl))
 (pss_one (ps_set (i := 2) sc_l_dice.nd rfl (by first | exact Or.inl rfl | exact Or.inr rfl) (pe_op op_mod (pe_op op_add (pe_op op_mul (pv 2) pe_int) (pe_callB call_abs (by rfl) T.z_abs (by decide +kernel) (pa_cons (pv 3) pa_nil))) pe_int))))
 (pss_one (ps_ret (pe_op op_cat (pe_lst (pa_cons (pv 2) (pa_cons pe_int pa_nil))) (pe_lc (own := [("_law_cell", 3)]) (g := gName 3) (by rfl) sc_l_dice.nd (pi_list (pv 0)) (blkOk_by (own := [("_law_cell", 3)]) (N := ["_law_script", "_law_k", "_law_found", "_law_cell"]) (sc := defScope s_l_dice) (by decide +kernel)) (fun _ _ _ _ _ => pg_name (i := 3) sc_l_dice.nd rfl (Or.inl rfl)) (fun _ _ _ _ _ => (pts_one (pt_cmpR op_ge (pv 3) (pe_op op_pow pe_int pe_int) (nomark _)))) (fun _ _ _ _ _ => (pv 3)))))))), ?_⟩
    refine ⟨_, rfl, .ref a, rfl, a, rfl, ⟨_, hS⟩, for_list (xs := ns.map V.int) (fun i σ H' => H' = H ∧ ∃ f y, σ = [some (.ref a), some (.int 0), some (.int f), y] ∧ 0 ≤ f ∧ f < 2147483647) ⟨rfl, 0, none, rfl, by decide, by decide⟩ (fun i σ H' _ h => by rw [h.1]; exact hS) ?_ ?_⟩
    · rintro i x σ H' hi ⟨rfl, f, y, rfl, f0, f1⟩
      obtain ⟨z, hz, rfl⟩ : ∃ z, ns[i]? = some z ∧ V.int z = x := by
        rw [List.getElem?_map] at hi
        cases e : ns[i]? with
        | none => rw [e] at hi; cases hi
        | some y => rw [e] at hi; exact ⟨y, rfl, Option.some.inj hi⟩
      refine ⟨_, rfl, _, _, rfl, rfl, .inl ⟨by omega, by omega⟩, _, rfl, z, rfl, _, _, rfl, rfl, _, _, rfl, rfl, (by decide : (0 : Int) < 2147483647), rfl, _, _, rfl, Int.emod_nonneg _ (by decide), Int.emod_lt_of_pos _ (by decide)⟩
    · rintro σ H' ⟨rfl, f, y, rfl, f0, f1⟩
      refine ⟨_, rfl, small9 (by simp), fun p np => ?_⟩
      have e1 : Ex H' (upd H' p (.lst [.int f, .int 0])) := Ex.new np
      refine ⟨.ref a, rfl, a, rfl, ⟨_, ex_l e1 hS⟩, fun D hD => lcFM ns V.int (fun z => decide ((1000000000000000000 : Int) ≤ z)) V.int (ex_l e1 hS) (by omega) hD (fun _ => rfl) (fun z hz H2 e2 Y N hq => ?_) (fun H2 e2 h2 => ?_)⟩
      · refine ⟨_, rfl, _, _, rfl, rfl, ⟨by decide, by decide, by decide⟩, _, _, rfl, rfl, _, rfl, ?_⟩
        have hq := hq H2 (Ex.refl _)
        by_cases hc : (1000000000000000000 : Int) ≤ z
        · rw [if_pos (decide_eq_true hc)] at hq
          exact ifP (decide_eq_true (show (10 : Int) ^ (18 : Int).toNat ≤ z by simpa using hc)) ⟨_, rfl, hq⟩
        · rw [if_neg (by simpa using hc)] at hq
          exact ifN (show ¬ decide ((10 : Int) ^ (18 : Int).toNat ≤ z) = true by simpa using hc) hq
      · refine ⟨p, D, _, _, rfl, rfl, e2 _ _ upd_same, h2, ?_, fun o no => ?_⟩
        · have := List.length_filter_le (fun z => decide ((1000000000000000000 : Int) ≤ z)) ns
          simp only [List.length_map, List.length_cons, List.length_nil]
          exact small9 (by omega)
        · have e3 : Ex H' (upd H2 o (.lst ([.int f, .int 0] ++ (ns.filter (fun z => decide ((1000000000000000000 : Int) ≤ z))).map V.int))) := (e1.trans e2).trans (Ex.new no)
          refine q o _ (fresh_back (e1.trans e2) no) e3 ⟨f, 0, ns.filter (fun z => decide ((1000000000000000000 : Int) ≤ z)), ?_, f0, f1, by decide, fun x hx => ?_⟩
          · rw [upd_same]
            rfl
          · have := (List.mem_filter.mp hx).2
            simp at this
            omega
def bitsN (k : Nat) : Nat → List Bool
  | 0 => []
  | m + 1 => (k / 2 ^ m % 2 == 1) :: bitsN k m
theorem bitsN_len (k : Nat) : ∀ m, (bitsN k m).length = m
  | 0 => rfl
  | m + 1 => by simp [bitsN, bitsN_len k m]
theorem bits_plain {n : Nat} (h : n ≤ 4) : (List.range (2 ^ n)).map (fun k => bitsN k n) = plainW n := by
  have : n = 0 ∨ n = 1 ∨ n = 2 ∨ n = 3 ∨ n = 4 := by omega
  rcases this with rfl | rfl | rfl | rfl | rfl <;> decide
theorem tab5 {n : Nat} (h : n ≤ 4) : atI ([.int 1, .int 2, .int 4, .int 8, .int 16] : List V) (n : Int) = some (.int ((2 ^ n : Nat) : Int)) := by
  have : n = 0 ∨ n = 1 ∨ n = 2 ∨ n = 3 ∨ n = 4 := by omega
  rcases this with rfl | rfl | rfl | rfl | rfl <;> rfl
theorem tab4 {n : Nat} (h : n < 4) : atI ([.int 1, .int 2, .int 4, .int 8] : List V) (n : Int) = some (.int ((2 ^ n : Nat) : Int)) := by
  have : n = 0 ∨ n = 1 ∨ n = 2 ∨ n = 3 := by omega
  rcases this with rfl | rfl | rfl | rfl <;> rfl
theorem at01 (b : Bool) : atI (("01" : Str)).cps.toList (if b then 1 else 0) = some (bit b) := by
  cases b <;> decide +kernel
theorem modBit (k m : Nat) : (k : Int) / ((2 ^ m : Nat) : Int) % 2 = if (k / 2 ^ m % 2 == 1) then 1 else 0 := by
  have h : (k : Int) / ((2 ^ m : Nat) : Int) % 2 = ((k / 2 ^ m % 2 : Nat) : Int) := by simp
  rw [h]
  have h2 : k / 2 ^ m % 2 < 2 := Nat.mod_lt _ (by decide)
  have : k / 2 ^ m % 2 = 0 ∨ k / 2 ^ m % 2 = 1 := by omega
  rcases this with e | e <;> rw [e] <;> rfl
def sp_l_plain : Sp := fun vs H Q _ => ∃ n : Nat, vs = [.int (n : Int)] ∧ n ≤ 4 ∧ RetL ((plainW n).map wv) H Q
theorem ok_l_plain (T : TX K mg) : FnOk P w K mg base CX0 1 T.f_l_plain T.fd_l_plain ["_law_wide"] sp_l_plain := by
  refine T.F_l_plain.ok sc_l_plain (fun vs H Q E h => ?_) (fun cdv A outer s H vs Q E hr h => ?_)
  · obtain ⟨n, rfl, _⟩ := h
    rfl
  · obtain ⟨n, rfl, hn, q⟩ := h
    have h16 := pow16 hn
    refine ⟨_, (pss_cons (ps_set (i := 1) sc_l_plain.nd rfl (by first | exact Or.inl rfl | exact Or.inr rfl) (pe_lst pa_nil))
 (pss_cons (ps_for PassesOwn.never rfl (pi_range1 (by rfl) T.z_range (pa_cons (pe_ix ix_list (pe_lst (pa_cons pe_int (pa_cons pe_int (pa_cons pe_int (pa_cons pe_int (pa_cons pe_int pa_nil)))))) (pv 0) (fun _ _ => rfl)) pa_nil)) (pg_name (i := 2) sc_l_plain.nd rfl (by first | exact Or.inl rfl | exact Or.inr rfl))
 (pss_cons (ps_set (i := 3) sc_l_plain.nd rfl (by first | exact Or.inl rfl | exact Or.inr rfl) pe_str)
 (pss_cons (ps_for PassesOwn.never rfl (pi_range1 (by rfl) T.z_range (pa_cons (pv 0) pa_nil)) (pg_name (i := 4) sc_l_plain.nd rfl (by first | exact Or.inl rfl | exact Or.inr rfl))
 (pss_one (ps_set (i := 3) sc_l_plain.nd rfl (by first | exact Or.inl rfl | exact Or.inr rfl) (pe_op op_add_str (pe_ix ix_str pe_str (pe_op op_mod (pe_op op_fdiv (pv 2) (pe_ix ix_list (pe_lst (pa_cons pe_int (pa_cons pe_int (pa_cons pe_int (pa_cons pe_int pa_nil))))) (pv 4) (fun _ _ => rfl))) pe_int) (fun _ _ => rfl)) (pv 3)))))
 (pss_one (ps_expr (pe_bm PySem.F.plainAttrs_list PySem.F.slot_list_append PySem.F.type_list_append mt_append (pv 1) (pa_cons (pv 3) pa_nil)))))))
 (pss_one (ps_ret (pv 1))))), ?_⟩
    refine ⟨small9 (by simp), fun p np => ⟨small9 (by simp), fun l nl => ⟨_, rfl, l, _, (n : Int), _, rfl, rfl, SqL.of upd_same, tab5 hn, _, rfl, lo62 _, hi62 (by omega), ?_⟩⟩⟩
    have e0 := (Ex.new (o := HO.lst []) np).trans (Ex.new (o := HO.lst [.int 1, .int 2, .int 4, .int 8, .int 16]) nl)
    refine for_range (fun i σ H' => i ≤ 2 ^ n ∧ ∃ y z u, σ = [some (.int (n : Int)), some (.ref p), y, z, u] ∧ Ex H H' ∧ H' p = some (.lst ((List.range i).map fun k => wv (bitsN k n))))
      ⟨Nat.zero_le _, none, none, none, rfl, e0, (Ex.new nl) _ _ upd_same⟩ ?_ ?_
    · rintro i σ H' hi ⟨_, y, z, u, rfl, e1, hp⟩
      refine ⟨_, rfl, n, rfl, by omega, by omega, for_range (lo := 0) (fun m σ H2 => m ≤ n ∧ ∃ u, σ = [some (.int (n : Int)), some (.ref p), some (.int (0 + (i : Int))), some (wv (bitsN i m)), u] ∧ Ex H' H2) ⟨Nat.zero_le _, u, by rw [strE]; rfl, Ex.refl _⟩ ?_ ?_⟩
      · rintro m σ H2 hm ⟨_, u, rfl, e2⟩
        refine ⟨_, rfl, small9 (by simp), fun l nl => ⟨_, rfl, l, _, (m : Int), _, rfl, by rw [Int.zero_add], SqL.of upd_same, tab4 (by omega), _, _, rfl, rfl, ?_, _, _, rfl, rfl, (by decide : (0 : Int) < 2), ?_⟩⟩
        · have : 2 ^ m ≤ 16 := pow16 (by omega)
          have : 0 < 2 ^ m := Nat.two_pow_pos m
          exact ⟨by omega, by omega⟩
        · refine ⟨"01", _, bit (i / 2 ^ m % 2 == 1), rfl, rfl, by decide +kernel, ?_, _, rfl, _, _, rfl, rfl, ?_, ?_⟩
          · rw [Int.zero_add, modBit]
            exact at01 _
          · rw [sgn, wd_len, wd_len, bitsN_len]
            exact small9 (by simp; omega)
          · refine ⟨by omega, some (.int (0 + (m : Int))), ?_, e2.trans (Ex.new nl)⟩
            rw [sgn, wd_app]
            rfl
      · rintro σ H2 ⟨_, u, rfl, e2⟩
        refine ⟨_, rfl, .inl ⟨rfl, _, SqL.of (e2 _ _ hp)⟩, _, rfl, p, _, _, rfl, rfl, e2 _ _ hp, ?_, by omega, some (.int (0 + (i : Int))), some (wv (bitsN i n)), u, rfl, (e1.trans e2).mut np, ?_⟩
        · rw [List.length_map, List.length_range]
          exact small1000 (by omega)
        · rw [upd_same, List.range_succ, List.map_append]
          rfl
    · rintro σ H' ⟨_, y, z, u, rfl, e1, hp⟩
      refine ⟨_, rfl, q p H' np e1 ?_⟩
      rw [hp, ← bits_plain hn, List.map_map]
      rfl
def grayOf (w : List Bool) : List Bool := (List.range w.length).map fun i => ((false :: w).getD i false != w.getD i false)
theorem gray_of {n : Nat} (h : n ≤ 4) : (plainW n).map grayOf = grayW n := by
  have : n = 0 ∨ n = 1 ∨ n = 2 ∨ n = 3 ∨ n = 4 := by omega
  rcases this with rfl | rfl | rfl | rfl | rfl <;> decide
theorem joinB : ∀ bs : List Bool, Txt.join (wd []) (bs.map fun b => wd [b]) = wd bs := by
  intro bs
  refine TL.ext_tl ?_
  rw [TL.join_eq, TL.tl_join, List.map_map]
  show TL.joinL [] (bs.map fun b => [bit b]) = bs.map bit
  induction bs with
  | nil => rfl
  | cons a r ih =>
    cases r with
    | nil => rfl
    | cons b r =>
      show [bit a] ++ ([] ++ TL.joinL [] ((b :: r).map fun b => [bit b])) = bit a :: (b :: r).map bit
      rw [ih]
      rfl
theorem atW {w : List Bool} {i : Nat} {z : Int} (e : z = (i : Int)) (h : i < w.length) : atI (wd w).cps.toList z = some (bit (w.getD i false)) := by
  refine ats e ?_
  rw [wd_toList, List.getElem?_map, List.getD_eq_getElem?_getD, List.getElem?_eq_getElem h]
  rfl
theorem dec_sgn (a b : Bool) : (!decide (V.str ⟨#[bit a]⟩ = V.str ⟨#[bit b]⟩)) = (a != b) := by
  cases a <;> cases b <;> decide
theorem sz_words {l : List (List Bool)} {n : Nat} (h : ∀ w ∈ l, w.length ≤ n) : (l.map fun w => (wd w).length).sum ≤ l.length * n := by
  induction l with
  | nil => simp
  | cons a r ih =>
    have h1 := h a (List.mem_cons_self)
    have h2 := ih fun w hw => h w (List.mem_cons_of_mem _ hw)
    simp only [List.map_cons, List.sum_cons, List.length_cons, wd_len, Nat.add_mul] at *
    omega
def sp_l_gray : Sp := fun vs H Q _ => ∃ n : Nat, vs = [.int (n : Int)] ∧ n ≤ 4 ∧ RetL ((grayW n).map wv) H Q
theorem ok_l_gray (T : TX K mg) : FnOk P w K mg base CX0 2 T.f_l_gray T.fd_l_gray ["_law_wide"] sp_l_gray := by
  refine T.F_l_gray.ok sc_l_gray (fun vs H Q E h => ?_) (fun cdv A outer s H vs Q E hr h => ?_)
  · obtain ⟨n, rfl, _⟩ := h
    rfl
  · obtain ⟨n, rfl, hn, q⟩ := h
    have h16 := pow16 hn
    refine ⟨_, (pss_cons (ps_set (i := 1) sc_l_gray.nd rfl (by first | exact Or.inl rfl | exact Or.inr rfl) (pe_lst pa_nil))
 (pss_cons (ps_for PassesOwn.never rfl (pi_list (pe_call (ok_l_plain T) (hr.mono (by decide)) (by rfl) T.g_l_plain T.F_l_plain.kp T.b_l_plain .nil pass0 (pa_cons (pv 0) pa_nil))) (pg_name (i := 2) sc_l_gray.nd rfl (by first | exact Or.inl rfl | exact Or.inr rfl))
 (pss_cons (ps_set (i := 3) sc_l_gray.nd rfl (by first | exact Or.inl rfl | exact Or.inr rfl) (pe_op op_add_str pe_str (pv 2)))
 (pss_one (ps_expr (pe_bm PySem.F.plainAttrs_list PySem.F.slot_list_append PySem.F.type_list_append mt_append (pv 1) (pa_cons (pe_join pe_str (pe_lc (own := [("_law_at", 4)]) (g := gName 4) (by rfl) sc_l_gray.nd (pi_range1 (by rfl) T.z_range (pa_cons (pv 0) pa_nil)) (blkOk_by (own := [("_law_at", 4)]) (N := ["_law_wide", "_law_found", "_law_word", "_law_marks", "_law_at"]) (sc := defScope s_l_gray) (by decide +kernel)) (fun _ _ _ _ _ => pg_name (i := 4) sc_l_gray.nd rfl (Or.inl rfl)) (fun _ _ _ _ _ => pts_nil) (fun _ _ _ _ _ => (pe_ix ix_str pe_str (pe_callTy call_int1 (by rfl) T.z_int (by decide +kernel) (pa_cons (pe_cmpR op_ne (pe_ix ix_str (pv 3) (pv 4) (fun _ _ => rfl)) (pe_ix ix_str (pv 3) (pe_op op_add (pv 4) pe_int) (fun _ _ => rfl)) (nomark _)) pa_nil)) (fun _ _ => rfl))))) pa_nil))))))
 (pss_one (ps_ret (pv 1))))), ?_⟩
    refine ⟨small9 (by simp), fun p np => ⟨_, rfl, n, rfl, hn, fun l H1 nl e1 hl => ⟨l, rfl, ⟨_, SqL.of hl⟩, ?_⟩⟩⟩
    have e0 := (Ex.new (o := HO.lst []) np).trans e1
    refine for_list (K := K) (a := l) (xs := (plainW n).map wv) (fun i σ H' => ∃ y z u, σ = [some (.int (n : Int)), some (.ref p), y, z, u] ∧ H' l = some (.lst ((plainW n).map wv)) ∧ Ex H H' ∧ H' p = some (.lst (((plainW n).take i).map fun w => wv (grayOf w))))
      ⟨none, none, none, rfl, hl, e0, e1 _ _ upd_same⟩ (fun i σ H' _ ⟨_, _, _, _, e, _⟩ => SqL.of e) ?_ ?_
    · rintro i x σ H' hi ⟨y, z, u, rfl, eL, e2, hp⟩
      obtain ⟨w, hw, rfl⟩ : ∃ w, (plainW n)[i]? = some w ∧ wv w = x := by
        rw [List.getElem?_map] at hi
        cases e : (plainW n)[i]? with
        | none => rw [e] at hi; cases hi
        | some y => rw [e] at hi; exact ⟨y, rfl, Option.some.inj hi⟩
      have hwl : w.length = n := plainW_wide n w (List.mem_of_getElem? hw)
      refine ⟨_, rfl, "0", wd w, rfl, rfl, ?_, ?_⟩
      · rw [str0, wd_len, wd_len]
        exact small9 (by simp; omega)
      rw [str0, wd_app]
      refine ⟨_, rfl, .inl ⟨rfl, _, SqL.of hp⟩, ⟨_, rfl⟩, _, rfl, n, rfl, by omega, by omega, fun D nD => lcR n (fun i => wv [((false :: w).getD i false != w.getD i false)]) rfl (by omega) nD (fun _ => rfl) (fun k hk H3 e3 Y hY => ?_) (fun H3 e3 h3 => ?_)⟩
      · refine ⟨_, rfl, _, rfl, _, _, bit ((false :: w).getD k false), rfl, rfl, ?_, atW (w := false :: w) rfl (by simp; omega), _, rfl, _, rfl, _, _, rfl, rfl, _, _, bit (w.getD k false), rfl, rfl, ?_, ?_, rfl, .inr ⟨_, rfl, "01", _, _, rfl, rfl, by decide +kernel, ?_, hY _ (Ex.refl _)⟩⟩
        · show (wd (false :: w)).length ≤ sizeLine
          rw [wd_len]
          exact small9 (by simp; omega)
        · show (wd (false :: w)).length ≤ sizeLine
          rw [wd_len]
          exact small9 (by simp; omega)
        · exact atW (w := false :: w) (i := k + 1) rfl (by simp; omega)
        · rw [dec_sgn]
          exact at01 _
      · refine ⟨"", D, (grayOf w).map (fun b => wd [b]), rfl, rfl, .inl (SqL.of ?_), ?_, ?_⟩
        · rw [h3, grayOf, List.map_map, List.map_map, hwl]
          rfl
        · have h1 := sz_words (l := (grayOf w).map fun b => [b]) (n := 1) (fun w hw => by obtain ⟨b, _, rfl⟩ := List.mem_map.mp hw; exact Nat.le_refl _)
          simp only [List.map_map, List.length_map, Function.comp_def] at *
          have : (grayOf w).length = n := by simp [grayOf, hwl]
          rw [strE, wd_len]
          simp at *
          omega
        · rw [strE, joinB]
          refine ⟨p, _, _, rfl, rfl, e3 _ _ hp, ?_, some (wv w), some (wv ([false] ++ w)), u, rfl, ?_, (e2.trans e3).mut np, ?_⟩
          · rw [List.length_map, List.length_take]
            have := plainW_len n
            exact small1000 (by omega)
          · rw [upd_ne (ne_of_none upd_same nl).symm]
            exact e3 _ _ eL
          · rw [upd_same, List.take_add_one, hw, List.map_append]
            rfl
    · rintro σ H' ⟨y, z, u, rfl, eL, e1, hp⟩
      refine ⟨_, rfl, q p H' np e1 ?_⟩
      rw [hp, ← gray_of hn, List.length_map, List.take_length, List.map_map]
      rfl
theorem ok_l_off (T : TX K mg) : FnOk P w K mg base CX0 1 T.f_l_off T.fd_l_off ["_law_d", "_law_most"] sp_l_off := by
  refine T.F_l_off.ok sc_l_off (fun vs H Q E h => ?_) (fun cdv A outer s H vs Q E hr h => ?_)
  · obtain ⟨d, n, rfl, _⟩ := h
    rfl
  · obtain ⟨d, n, rfl, ⟨s0, c, r, hd, s1, s2, c0, r0⟩, n0, n1, q⟩ := h
    refine ⟨_, (pss_cut (ps_if (PW.pt (pw_and (pt_cmpR op_eq (pe_ix ix_list (pv 0) pe_int (fun _ _ => rfl)) pe_int (nomark _)) (pw_and1 (pt_cmpR op_gt (pe_callB call_len_seq (by rfl) T.z_len PySem.boot_len (pa_cons (pv 0) pa_nil)) pe_int (nomark _)))))
 (pss_one (ps_asg (pe_bm PySem.F.plainAttrs_list PySem.F.slot_list_pop PySem.F.type_list_pop mt_popAt (pv 0) (pa_cons pe_int pa_nil)) (pg_sub (pv 0) pe_int set_list)))
 pss_nil)
 (pss_cons (ps_if (pt_cmpR op_gt (pe_ix ix_list (pv 0) pe_int (fun _ _ => rfl)) pe_int (nomark _))
 (pss_cons (ps_set (i := 2) sc_l_off.nd rfl (by first | exact Or.inl rfl | exact Or.inr rfl) (pe_op op_mod (pe_ix ix_list (pv 0) pe_int (fun _ _ => rfl)) (pv 1)))
 (pss_cons (ps_asg (pe_op op_fdiv (pe_ix ix_list (pv 0) pe_int (fun _ _ => rfl)) (pv 1)) (pg_sub (pv 0) pe_int set_list))
 (pss_one (ps_ret (pv 2)))))
 pss_nil)
 (pss_cons (ps_asg (pe_op op_mod (pe_op op_add (pe_op op_mul (pe_ix ix_list (pv 0) pe_int (fun _ _ => rfl)) pe_int) pe_int) pe_int) (pg_sub (pv 0) pe_int set_list))
 (pss_one (ps_ret (pe_op op_mod (pe_op op_fdiv (pe_ix ix_list (pv 0) pe_int (fun _ _ => rfl)) pe_int) (pv 1))))))), ?_⟩
    refine ⟨fun σ H1 => σ = [some (.ref d), some (.int n), none] ∧ Exd d H H1 ∧ ∃ c r, H1 d = some (.lst ((s0 :: c :: r).map V.int)) ∧ 0 ≤ c ∧ ∀ x ∈ r, 0 ≤ x, ?_, ?_⟩
    · refine ⟨_, rfl, d, _, 1, .int c, rfl, rfl, SqL.of hd, atI_nat (j := 1) rfl, rfl, _, rfl, ite2 (fun e => ?_) (fun e => ?_)⟩
      · refine ⟨_, rfl, d, _, rfl, .inl (SqL.of hd), _, _, rfl, rfl, _, rfl, ite2 (fun e2 => ?_) (fun e2 => ⟨rfl, Exd.refl _ _, c, r, hd, c0, r0⟩)⟩
        cases r with
        | nil => exact absurd e2 (by simp)
        | cons z r =>
          refine ⟨_, rfl, .inl ⟨rfl, _, SqL.of hd⟩, d, _, 2, 2, .int z, rfl, rfl, hd, by decide, by decide, ?_, rfl, _, rfl, d, _, 1, 1, rfl, rfl, upd_same, ?_, rfl, ?_, z, r, ?_, r0 _ (List.mem_cons_self), fun x hx => r0 x (List.mem_cons_of_mem _ hx)⟩
          · simp [seqIndex?]; omega
          · simp [ixN]; omega
          · exact ((Exd.refl _ _).upd).upd
          · rw [upd_same]; rfl
      · exact ⟨rfl, Exd.refl _ _, c, r, hd, c0, r0⟩
    · rintro σ H1 ⟨rfl, e1, c, r, hd, c0, r0⟩
      refine ⟨_, rfl, d, _, 1, .int c, rfl, rfl, SqL.of hd, atI_nat (j := 1) rfl, _, _, rfl, rfl, _, rfl, ite2 (fun e => ?_) (fun e => ?_)⟩
      · refine ⟨_, rfl, d, _, 1, .int c, rfl, rfl, SqL.of hd, atI_nat (j := 1) rfl, _, rfl, _, _, rfl, rfl, n0, ?_⟩
        refine ⟨_, rfl, d, _, 1, .int c, rfl, rfl, SqL.of hd, atI_nat (j := 1) rfl, _, rfl, _, _, rfl, rfl, ⟨n0, n1⟩, _, rfl, d, _, 1, 1, rfl, rfl, hd, ?_, ?_⟩
        · simp [ixN]; omega
        · refine ⟨_, rfl, q _ _ (Int.emod_nonneg _ (by omega)) (Int.emod_lt_of_pos _ n0) e1.upd ⟨s0, c / n, r, ?_, s1, s2, Int.ediv_nonneg c0 (by omega), r0⟩⟩
          rw [upd_same]; rfl
      · refine ⟨_, rfl, d, _, 0, .int s0, rfl, rfl, SqL.of hd, atI_nat (j := 0) rfl, _, _, rfl, rfl, .inl ⟨by omega, by omega⟩, _, _, rfl, rfl, _, _, rfl, rfl, (by decide : (0 : Int) < 2147483647), _, rfl, d, _, 0, 0, rfl, rfl, hd, ?_, ?_⟩
        · simp [ixN]; omega
        · refine ⟨_, rfl, d, _, 0, .int ((s0 * 48271 + 11) % 2147483647), rfl, rfl, SqL.of upd_same, atI_nat (j := 0) rfl, _, _, rfl, rfl, ⟨by decide, by decide⟩, _, rfl, _, _, rfl, rfl, n0, ?_⟩
          refine q _ _ (Int.emod_nonneg _ (by omega)) (Int.emod_lt_of_pos _ n0) e1.upd ⟨(s0 * 48271 + 11) % 2147483647, c, r, ?_, Int.emod_nonneg _ (by decide), Int.emod_lt_of_pos _ (by decide), c0, r0⟩
          rw [upd_same]; rfl
def sp_mirrored : Sp := fun vs H Q _ => ∃ n : Nat, vs = [.int (n : Int)] ∧ n ≤ 4 ∧ RetL ((grayW n).map wv) H Q
theorem ok_mirrored (T : TX K mg) : FnOk P w K mg base CX0 1 T.f_mirrored T.fd_mirrored ["wide"] sp_mirrored := by
  refine T.F_mirrored.ok sc_mirrored (fun vs H Q E h => ?_) (fun cdv A outer s H vs Q E hr h => ?_)
  · obtain ⟨n, rfl, _⟩ := h
    rfl
  · obtain ⟨n, rfl, hn, q⟩ := h
    refine ⟨_, (pss_cons (ps_set (i := 1) sc_mirrored.nd rfl (by first | exact Or.inl rfl | exact Or.inr rfl) (pe_lst (pa_cons pe_str pa_nil)))
 (pss_cons (ps_for PassesOwn.never rfl (pi_range1 (by rfl) T.z_range (pa_cons (pv 0) pa_nil)) (pg_name (i := 2) sc_mirrored.nd rfl (by first | exact Or.inl rfl | exact Or.inr rfl))
 (pss_one (ps_set (i := 1) sc_mirrored.nd rfl (by first | exact Or.inl rfl | exact Or.inr rfl) (pe_op op_cat (pe_lc (own := [("word", 3)]) (g := gName 3) (by rfl) sc_mirrored.nd (pi_list (pv 1)) (blkOk_by (own := [("word", 3)]) (N := ["wide", "found", "turn", "word"]) (sc := defScope s_mirrored) (by decide +kernel)) (fun _ _ _ _ _ => pg_name (i := 3) sc_mirrored.nd rfl (Or.inl rfl)) (fun _ _ _ _ _ => pts_nil) (fun _ _ _ _ _ => (pe_op op_add_str pe_str (pv 3)))) (pe_lc (own := [("word", 3)]) (g := gName 3) (by rfl) sc_mirrored.nd (pi_list (pe_revL (pv 1))) (blkOk_by (own := [("word", 3)]) (N := ["wide", "found", "turn", "word"]) (sc := defScope s_mirrored) (by decide +kernel)) (fun _ _ _ _ _ => pg_name (i := 3) sc_mirrored.nd rfl (Or.inl rfl)) (fun _ _ _ _ _ => pts_nil) (fun _ _ _ _ _ => (pe_op op_add_str pe_str (pv 3))))))))
 (pss_one (ps_ret (pv 1))))), ?_⟩
    refine ⟨small9 (by decide), fun p np => ?_⟩
    refine q_forR1 (ea_cons (ev_var rfl) ea_nil) ⟨by omega, by omega⟩ (fun i σ H' => i ≤ n ∧ ∃ p y z, σ = [some (.int (n : Int)), some (.ref p), y, z] ∧ Ex H H' ∧ H p = none ∧ H' p = some (.lst ((grayW i).map wv))) (fun H1 e1 => ⟨Nat.zero_le _, p, _, _, rfl, (Ex.new np).trans e1, np, ?_⟩) ?_ ?_
    · rw [e1 _ _ upd_same, strE]
      rfl
    · rintro i σ H' hi ⟨_, p, y, z, rfl, e1, np, hp⟩
      have hw : (grayW i).length ≤ 1000 := by
        rw [grayW_len]
        exact Nat.le_trans (pow16 (by omega)) (by decide)
      refine ⟨.ref p, rfl, p, rfl, ⟨_, SqL.of hp⟩, fun D1 n1 => lcM (grayW i) wv (fun w => wv (false :: w)) (SqL.of hp) hw n1 (fun _ => rfl) (fun x hx H2 e2 Y hY => ?_) (fun H2 e2 h2 => ?_)⟩
      · refine ⟨_, rfl, _, _, rfl, rfl, ?_, ?_⟩
        · rw [str0, wd_len, wd_len, grayW_wide i x hx]
          exact small9 (by simp; omega)
        · rw [str0, wd_app]
          exact hY _ (Ex.refl _)
      · refine ⟨.ref p, rfl, p, _, rfl, SqL.of (e2 _ _ hp), fun r nr => ?_⟩
        have e2r := Ex.new (o := HO.lst ((grayW i).map wv).reverse) nr
        have hr2 : SqL K (upd H2 r (.lst ((grayW i).map wv).reverse)) r ((grayW i).reverse.map wv) := SqL.of (by rw [upd_same, List.map_reverse])
        refine ⟨r, rfl, ⟨_, hr2⟩, fun D2 n2 => lcM (grayW i).reverse wv (fun w => wv (true :: w)) hr2 (by rw [List.length_reverse]; exact hw) n2 (fun _ => rfl) (fun x hx H2 e2 Y hY => ?_) (fun H3 e3 h3 => ?_)⟩
        · refine ⟨_, rfl, _, _, rfl, rfl, ?_, ?_⟩
          · rw [str1, wd_len, wd_len, grayW_wide i x (List.mem_reverse.mp hx)]
            exact small9 (by simp; omega)
          · rw [str1, wd_app]
            exact hY _ (Ex.refl _)
        · have e23 := e2.trans (e2r.trans e3)
          refine ⟨D1, D2, _, _, rfl, rfl, e3 _ _ (e2r _ _ h2), h3, ?_, fun o no => ?_⟩
          · simp only [List.length_map, List.length_reverse, grayW_len]
            have := pow16 (n := i) (by omega)
            exact small9 (by omega)
          · refine ⟨by omega, o, _, _, rfl, (e1.trans e23).trans (Ex.new no), fresh_back (e1.trans e23) no, ?_⟩
            rw [upd_same]
            show some (HO.lst _) = some (HO.lst _)
            simp [grayW, Function.comp_def]
    · rintro σ H' ⟨_, p, y, z, rfl, e1, np, hp⟩
      exact ⟨_, rfl, q p H' np e1 hp⟩
def sp_need_wide : Sp := fun vs H Q _ => ∃ n : Nat, vs = [.int (n : Int)] ∧ 1 ≤ n ∧ n ≤ 4 ∧ Q .non H
theorem ok_need_wide (T : TX K mg) : FnOk P w K mg base CX0 1 T.f_need_wide T.fd_need_wide ["wide"] sp_need_wide := by
  refine T.F_need_wide.ok sc_need_wide (fun vs H Q E h => ?_) (fun cdv A outer s H vs Q E hr h => ?_)
  · obtain ⟨n, rfl, _⟩ := h
    rfl
  · obtain ⟨n, rfl, h1, h4, q⟩ := h
    refine ⟨_, (pss_one (ps_if (pt_not (pt_chain op_le op_le pe_int (pv 0) (pe_glob (v := .int 4) (by rfl) T.c_MOST_WIDE ⟨_, rfl⟩)))
 (pss_one ps_never)
 pss_nil)), ?_⟩
    refine ⟨_, rfl, _, _, rfl, rfl, _, rfl, ?_⟩
    refine ifP (decide_eq_true (by omega)) ⟨_, _, rfl, rfl, _, rfl, ?_⟩
    refine ifN ?_ q
    simp
    omega
def sp_gray : Sp := fun vs H Q _ => ∃ n : Nat, vs = [.int (n : Int)] ∧ 1 ≤ n ∧ n ≤ 4 ∧ RetL ((grayW n).map wv) H Q
theorem ok_gray (T : TX K mg) : FnOk P w K mg base CX0 2 T.f_gray T.fd_gray ["wide"] sp_gray := by
  refine T.F_gray.ok sc_gray (fun vs H Q E h => ?_) (fun cdv A outer s H vs Q E hr h => ?_)
  · obtain ⟨n, rfl, _⟩ := h
    rfl
  · obtain ⟨n, rfl, h1, h4, q⟩ := h
    refine ⟨_, (pss_cons (ps_expr (pe_call (ok_need_wide T) (hr.mono (by decide)) (by rfl) T.g_need_wide T.F_need_wide.kp T.b_need_wide .nil pass0 (pa_cons (pv 0) pa_nil)))
 (pss_one (ps_ret (pe_call (ok_mirrored T) (hr.mono (by decide)) (by rfl) T.g_mirrored T.F_mirrored.kp T.b_mirrored .nil pass0 (pa_cons (pv 0) pa_nil))))), ?_⟩
    exact ⟨_, rfl, n, rfl, h1, h4, _, rfl, n, rfl, h4, q⟩
def sp_all_words : Sp := fun vs H Q _ => ∃ n : Nat, vs = [.int (n : Int)] ∧ n ≤ 4 ∧ RetL ((plainW n).map wv) H Q
theorem ok_all_words (T : TX K mg) : FnOk P w K mg base CX0 1 T.f_all_words T.fd_all_words ["wide"] sp_all_words := by
  refine T.F_all_words.ok sc_all_words (fun vs H Q E h => ?_) (fun cdv A outer s H vs Q E hr h => ?_)
  · obtain ⟨n, rfl, _⟩ := h
    rfl
  · obtain ⟨n, rfl, hn, q⟩ := h
    refine ⟨_, (pss_cons (ps_set (i := 1) sc_all_words.nd rfl (by first | exact Or.inl rfl | exact Or.inr rfl) (pe_lst (pa_cons pe_str pa_nil)))
 (pss_cons (ps_for PassesOwn.never rfl (pi_range1 (by rfl) T.z_range (pa_cons (pv 0) pa_nil)) (pg_name (i := 2) sc_all_words.nd rfl (by first | exact Or.inl rfl | exact Or.inr rfl))
 (pss_one (ps_set (i := 1) sc_all_words.nd rfl (by first | exact Or.inl rfl | exact Or.inr rfl) (pe_op op_cat (pe_lc (own := [("word", 3)]) (g := gName 3) (by rfl) sc_all_words.nd (pi_list (pv 1)) (blkOk_by (own := [("word", 3)]) (N := ["wide", "found", "turn", "word"]) (sc := defScope s_all_words) (by decide +kernel)) (fun _ _ _ _ _ => pg_name (i := 3) sc_all_words.nd rfl (Or.inl rfl)) (fun _ _ _ _ _ => pts_nil) (fun _ _ _ _ _ => (pe_op op_add_str pe_str (pv 3)))) (pe_lc (own := [("word", 3)]) (g := gName 3) (by rfl) sc_all_words.nd (pi_list (pv 1)) (blkOk_by (own := [("word", 3)]) (N := ["wide", "found", "turn", "word"]) (sc := defScope s_all_words) (by decide +kernel)) (fun _ _ _ _ _ => pg_name (i := 3) sc_all_words.nd rfl (Or.inl rfl)) (fun _ _ _ _ _ => pts_nil) (fun _ _ _ _ _ => (pe_op op_add_str pe_str (pv 3))))))))
 (pss_one (ps_ret (pv 1))))), ?_⟩
    refine ⟨small9 (by decide), fun p np => ?_⟩
    refine q_forR1 (ea_cons (ev_var rfl) ea_nil) ⟨by omega, by omega⟩ (fun i σ H' => i ≤ n ∧ ∃ p y z, σ = [some (.int (n : Int)), some (.ref p), y, z] ∧ Ex H H' ∧ H p = none ∧ H' p = some (.lst ((plainW i).map wv))) (fun H1 e1 => ⟨Nat.zero_le _, p, _, _, rfl, (Ex.new np).trans e1, np, ?_⟩) ?_ ?_
    · rw [e1 _ _ upd_same, strE]
      rfl
    · rintro i σ H' hi ⟨_, p, y, z, rfl, e1, np, hp⟩
      have hw : (plainW i).length ≤ 1000 := by
        rw [plainW_len]
        exact Nat.le_trans (pow16 (by omega)) (by decide)
      refine ⟨.ref p, rfl, p, rfl, ⟨_, SqL.of hp⟩, fun D1 n1 => lcM (plainW i) wv (fun w => wv (false :: w)) (SqL.of hp) hw n1 (fun _ => rfl) (fun x hx H2 e2 Y hY => ?_) (fun H2 e2 h2 => ?_)⟩
      · refine ⟨_, rfl, _, _, rfl, rfl, ?_, ?_⟩
        · rw [str0, wd_len, wd_len, plainW_wide i x hx]
          exact small9 (by simp; omega)
        · rw [str0, wd_app]
          exact hY _ (Ex.refl _)
      · refine ⟨.ref p, rfl, p, rfl, ⟨_, SqL.of (e2 _ _ hp)⟩, fun D2 n2 => lcM (plainW i) wv (fun w => wv (true :: w)) (SqL.of (e2 _ _ hp)) hw n2 (fun _ => rfl) (fun x hx H2 e2 Y hY => ?_) (fun H3 e3 h3 => ?_)⟩
        · refine ⟨_, rfl, _, _, rfl, rfl, ?_, ?_⟩
          · rw [str1, wd_len, wd_len, plainW_wide i x hx]
            exact small9 (by simp; omega)
          · rw [str1, wd_app]
            exact hY _ (Ex.refl _)
        · refine ⟨D1, D2, _, _, rfl, rfl, e3 _ _ h2, h3, ?_, fun o no => ?_⟩
          · simp only [List.length_map, plainW_len]
            have := pow16 (n := i) (by omega)
            exact small9 (by omega)
          · refine ⟨by omega, o, _, _, rfl, ((e1.trans e2).trans e3).trans (Ex.new no), fresh_back ((e1.trans e2).trans e3) no, ?_⟩
            rw [upd_same]
            show some (HO.lst _) = some (HO.lst _)
            simp [plainW, Function.comp_def]
    · rintro σ H' ⟨_, p, y, z, rfl, e1, np, hp⟩
      exact ⟨_, rfl, q p H' np e1 hp⟩
def sp_plain : Sp := fun vs H Q _ => ∃ n : Nat, vs = [.int (n : Int)] ∧ 1 ≤ n ∧ n ≤ 4 ∧ RetL ((plainW n).map wv) H Q
theorem ok_plain (T : TX K mg) : FnOk P w K mg base CX0 2 T.f_plain T.fd_plain ["wide"] sp_plain := by
  refine T.F_plain.ok sc_plain (fun vs H Q E h => ?_) (fun cdv A outer s H vs Q E hr h => ?_)
  · obtain ⟨n, rfl, _⟩ := h
    rfl
  · obtain ⟨n, rfl, h1, h4, q⟩ := h
    refine ⟨_, (pss_cons (ps_expr (pe_call (ok_need_wide T) (hr.mono (by decide)) (by rfl) T.g_need_wide T.F_need_wide.kp T.b_need_wide .nil pass0 (pa_cons (pv 0) pa_nil)))
 (pss_one (ps_ret (pe_call (ok_all_words T) (hr.mono (by decide)) (by rfl) T.g_all_words T.F_all_words.kp T.b_all_words .nil pass0 (pa_cons (pv 0) pa_nil))))), ?_⟩
    exact ⟨_, rfl, n, rfl, h1, h4, _, rfl, n, rfl, h4, q⟩
theorem ok_law (T : TX K mg) : FnOk P w K mg base CX0 7 T.f_law T.fd_law ["_law_script"] (sp_law K) := by
  refine T.F_law.ok sc_law (fun vs H Q E h => ?_) (fun cdv A outer s H vs Q E hr h => ?_)
  · obtain ⟨a, ns, rfl, _⟩ := h
    rfl
  · obtain ⟨a, ns, rfl, hS, hlen, q⟩ := h
    refine ⟨_, (pss_cons (ps_set (i := 1) sc_law.nd rfl (by first | exact Or.inl rfl | exact Or.inr rfl) (pe_call (ok_l_dice T) (hr.mono (by decide)) (by rfl) T.g_l_dice T.F_l_dice.kp T.b_l_dice .nil pass0 (pa_cons (pv 0) (pa_cons pe_int pa_nil))))
 (pss_cons (ps_for PassesOwn.never rfl (pi_range1 (by rfl) T.z_range (pa_cons pe_int pa_nil)) (pg_name (i := 2) sc_law.nd rfl (by first | exact Or.inl rfl | exact Or.inr rfl))
 (pss_cons (ps_set (i := 3) sc_law.nd rfl (by first | exact Or.inl rfl | exact Or.inr rfl) (pe_op op_add pe_int (pe_call (ok_l_off T) (hr.mono (by decide)) (by rfl) T.g_l_off T.F_l_off.kp T.b_l_off .nil pass0 (pa_cons (pv 1) (pa_cons pe_int pa_nil)))))
 (pss_one (ps_for PassesOwn.never rfl (pi_range1 (by rfl) T.z_range (pa_cons pe_int pa_nil)) (pg_name (i := 4) sc_law.nd rfl (by first | exact Or.inl rfl | exact Or.inr rfl))
 (pss_cons (ps_set (i := 5) sc_law.nd rfl (by first | exact Or.inl rfl | exact Or.inr rfl) (pe_lst (pa_cons (pe_call (ok_plain T) (hr.mono (by decide)) (by rfl) T.g_plain T.F_plain.kp T.b_plain .nil pass0 (pa_cons (pv 3) pa_nil)) (pa_cons (pe_call (ok_gray T) (hr.mono (by decide)) (by rfl) T.g_gray T.F_gray.kp T.b_gray .nil pass0 (pa_cons (pv 3) pa_nil)) pa_nil))))
 (pss_cons (ps_if (pt_not (pt_val (pe_call (ok_l_alike T) (hr.mono (by decide)) (by rfl) T.g_l_alike T.F_l_alike.kp T.b_l_alike .nil pass0 (pa_cons (pv 5) (pa_cons (pe_lst (pa_cons (pe_call (ok_l_plain T) (hr.mono (by decide)) (by rfl) T.g_l_plain T.F_l_plain.kp T.b_l_plain .nil pass0 (pa_cons (pv 3) pa_nil)) (pa_cons (pe_call (ok_l_gray T) (hr.mono (by decide)) (by rfl) T.g_l_gray T.F_l_gray.kp T.b_l_gray .nil pass0 (pa_cons (pv 3) pa_nil)) pa_nil))) pa_nil)))))
 (pss_one (ps_ret pe_bl))
 pss_nil)
 (pss_cons (ps_expr (pe_bm PySem.F.plainAttrs_list PySem.F.slot_list_append PySem.F.type_list_append mt_append (pe_ix ix_list (pv 5) pe_int (fun _ _ => rfl)) (pa_cons pe_str pa_nil)))
 (pss_one (ps_expr (pe_bm0 PySem.F.plainAttrs_list PySem.F.slot_list_clear PySem.F.type_list_clear mt_clear (pe_ix ix_list (pv 5) pe_int (fun _ _ => rfl))))))))))))
 (pss_one (ps_ret pe_bl)))), ?_⟩
    refine ⟨.ref a, rfl, a, ns, rfl, hS, hlen, fun d H1 _ _ hd => ?_⟩
    refine ⟨4, rfl, by decide, by decide, for_range (lo := 0) (n := 4) (fun i σ H' => ∃ x y z u, σ = [some (.ref a), some (.ref d), x, y, z, u] ∧ Dice H' d) ⟨_, _, _, _, rfl, hd⟩ ?_ ?_⟩
    · rintro i σ H2 _ ⟨x, y, z, u, rfl, hd⟩
      refine ⟨_, rfl, d, 4, rfl, hd, by decide, by decide, fun r H3 r0 r1 _ hd3 => ⟨_, _, rfl, rfl, ?_⟩⟩
      obtain ⟨n, hn⟩ : ∃ n : Nat, 1 + r = (n : Int) := ⟨(1 + r).toNat, by omega⟩
      have n1 : 1 ≤ n := by omega
      have n4 : n ≤ 4 := by omega
      have h16 := pow16 n4
      refine ⟨2, rfl, by decide, by decide, for_range (lo := 0) (n := 2) (fun _ σ H' => ∃ x z u, σ = [some (.ref a), some (.ref d), x, some (.int (n : Int)), z, u] ∧ Dice H' d) ⟨_, _, _, by rw [← hn]; rfl, hd3⟩ ?_ ?_⟩
      · rintro i σ H2 _ ⟨x, z, u, rfl, hd⟩
        refine ⟨_, rfl, n, rfl, n1, n4, fun p1 H3 np1 e3 h3 => ⟨_, rfl, n, rfl, n1, n4, fun p2 H4 np2 e4 h4 => ⟨small9 (by simp), fun l nl => ?_⟩⟩⟩
        have eL := Ex.new (o := HO.lst [.ref p1, .ref p2]) nl
        refine ⟨_, rfl, _, rfl, n, rfl, n4, fun p3 H5 np3 e5 h5 => ⟨_, rfl, n, rfl, n4, fun p4 H6 np4 e6 h6 => ⟨small9 (by simp), fun l2 nl2 => ?_⟩⟩⟩
        have eL2 := Ex.new (o := HO.lst [.ref p3, .ref p4]) nl2
        have e56 := (e5.trans e6).trans eL2
        have e46 := eL.trans e56
        have lp : (plainW n).length ≤ 1000 := by rw [plainW_len]; omega
        have lg : (grayW n).length ≤ 1000 := by rw [grayW_len]; omega
        have d1 := Da.lst (n := 4) (e56 _ _ upd_same) (by simp) (.cons (Da.strs (e46 _ _ (e4 _ _ h3)) lp) (.cons (Da.strs (e46 _ _ h4) lg) .nil))
        have d2 := Da.lst (n := 4) (H := upd H6 l2 (.lst [.ref p3, .ref p4])) upd_same (by simp) (.cons (Da.strs (eL2 _ _ (e6 _ _ h5)) lp) (.cons (Da.strs (eL2 _ _ h6) lg) .nil))
        refine ⟨.ref l, .ref l2, _, rfl, d1, d2, fun H7 e7 => ⟨true, rfl, ifN (by simp) ?_⟩⟩
        have e47 := e46.trans e7
        have nd1 := hd.ne np1
        have nd2 := (hd.mono e3).ne np2
        have hl7 : H7 l = some (.lst [.ref p1, .ref p2]) := e7 _ _ (e56 _ _ upd_same)
        have h17 := e47 _ _ (e4 _ _ h3)
        have h27 := e47 _ _ h4
        have n12 : p1 ≠ p2 := ne_of_none h3 np2
        have nl1 : l ≠ p1 := (ne_of_none (e4 _ _ h3) nl).symm
        refine ⟨_, rfl, l, _, 0, .ref p1, rfl, rfl, SqL.of hl7, atI_nat (j := 0) rfl, .inl ⟨rfl, _, SqL.of h17⟩, p1, _, _, rfl, rfl, h17, by rw [List.length_map]; exact small1000 lp, ?_⟩
        refine ⟨_, rfl, l, _, 1, .ref p2, rfl, rfl, SqL.of (by rw [upd_ne nl1]; exact hl7), atI_nat (j := 1) rfl, .inl ⟨rfl, _, SqL.of (by rw [upd_ne n12.symm]; exact h27)⟩, p2, _, rfl, rfl, by rw [upd_ne n12.symm]; exact h27, ?_⟩
        exact ⟨_, _, _, rfl, ((hd.mono ((e3.trans e4).trans e47)).upd nd1).upd nd2⟩
      · rintro σ H2 ⟨x, z, u, rfl, hd⟩
        exact ⟨_, _, _, _, rfl, hd⟩
    · rintro σ H2 ⟨x, y, z, u, rfl, hd⟩
      exact q _
end
theorem all_mk {l : PySem.W.OpenLaw} {w : World} {K : PySem.W.Frag} {h : Heap} {mg : Str → Option Value} {fa : Addr} (X : K.In h) (G : h.Ns mainGlobals mg) (hfa : mg "law" = some (.ref fa))
    {f_l_alike : Addr} {od_l_alike an_l_alike : Option Addr} {sl_l_alike : Array (Option Value)} {oc_l_alike kV_l_alike dc_l_alike pm_l_alike cd_l_alike ct_l_alike : Value}
    {f_l_dice : Addr} {od_l_dice an_l_dice : Option Addr} {sl_l_dice : Array (Option Value)} {oc_l_dice kV_l_dice dc_l_dice pm_l_dice cd_l_dice ct_l_dice : Value}
    {f_l_plain : Addr} {od_l_plain an_l_plain : Option Addr} {sl_l_plain : Array (Option Value)} {oc_l_plain kV_l_plain dc_l_plain pm_l_plain cd_l_plain ct_l_plain : Value}
    {f_l_gray : Addr} {od_l_gray an_l_gray : Option Addr} {sl_l_gray : Array (Option Value)} {oc_l_gray kV_l_gray dc_l_gray pm_l_gray cd_l_gray ct_l_gray : Value}
    {f_l_off : Addr} {od_l_off an_l_off : Option Addr} {sl_l_off : Array (Option Value)} {oc_l_off kV_l_off dc_l_off pm_l_off cd_l_off ct_l_off : Value}
    {f_mirrored : Addr} {od_mirrored an_mirrored : Option Addr} {sl_mirrored : Array (Option Value)} {oc_mirrored kV_mirrored dc_mirrored pm_mirrored cd_mirrored ct_mirrored : Value}
    {f_need_wide : Addr} {od_need_wide an_need_wide : Option Addr} {sl_need_wide : Array (Option Value)} {oc_need_wide kV_need_wide dc_need_wide pm_need_wide cd_need_wide ct_need_wide : Value}
    {f_gray : Addr} {od_gray an_gray : Option Addr} {sl_gray : Array (Option Value)} {oc_gray kV_gray dc_gray pm_gray cd_gray ct_gray : Value}
    {f_all_words : Addr} {od_all_words an_all_words : Option Addr} {sl_all_words : Array (Option Value)} {oc_all_words kV_all_words dc_all_words pm_all_words cd_all_words ct_all_words : Value}
    {f_plain : Addr} {od_plain an_plain : Option Addr} {sl_plain : Array (Option Value)} {oc_plain kV_plain dc_plain pm_plain cd_plain ct_plain : Value}
    {f_law : Addr} {od_law an_law : Option Addr} {sl_law : Array (Option Value)} {oc_law kV_law dc_law pm_law cd_law ct_law : Value}
    {t_MOST_WIDE : Tok}
    (a_l_alike : PySem.W.nsIn K mainGlobals "_law_alike" = some (some (.ref f_l_alike)))
    (l_l_alike : K.lookup f_l_alike = some ⟨oc_l_alike, od_l_alike, .func (PySem.W.fnOf "_law_alike" "_law_alike" (defArgs s_l_alike) (defBody s_l_alike) (defScope s_l_alike) .none kV_l_alike dc_l_alike pm_l_alike an_l_alike cd_l_alike ct_l_alike), sl_l_alike⟩) (c_l_alike : PySem.W.codeIn K cd_l_alike "_law_alike" = true) (k_l_alike : PySem.W.keepIn K (.ref f_l_alike) = true)
    (a_l_dice : PySem.W.nsIn K mainGlobals "_law_dice" = some (some (.ref f_l_dice)))
    (l_l_dice : K.lookup f_l_dice = some ⟨oc_l_dice, od_l_dice, .func (PySem.W.fnOf "_law_dice" "_law_dice" (defArgs s_l_dice) (defBody s_l_dice) (defScope s_l_dice) .none kV_l_dice dc_l_dice pm_l_dice an_l_dice cd_l_dice ct_l_dice), sl_l_dice⟩) (c_l_dice : PySem.W.codeIn K cd_l_dice "_law_dice" = true) (k_l_dice : PySem.W.keepIn K (.ref f_l_dice) = true)
    (a_l_plain : PySem.W.nsIn K mainGlobals "_law_plain" = some (some (.ref f_l_plain)))
    (l_l_plain : K.lookup f_l_plain = some ⟨oc_l_plain, od_l_plain, .func (PySem.W.fnOf "_law_plain" "_law_plain" (defArgs s_l_plain) (defBody s_l_plain) (defScope s_l_plain) .none kV_l_plain dc_l_plain pm_l_plain an_l_plain cd_l_plain ct_l_plain), sl_l_plain⟩) (c_l_plain : PySem.W.codeIn K cd_l_plain "_law_plain" = true) (k_l_plain : PySem.W.keepIn K (.ref f_l_plain) = true)
    (a_l_gray : PySem.W.nsIn K mainGlobals "_law_gray" = some (some (.ref f_l_gray)))
    (l_l_gray : K.lookup f_l_gray = some ⟨oc_l_gray, od_l_gray, .func (PySem.W.fnOf "_law_gray" "_law_gray" (defArgs s_l_gray) (defBody s_l_gray) (defScope s_l_gray) .none kV_l_gray dc_l_gray pm_l_gray an_l_gray cd_l_gray ct_l_gray), sl_l_gray⟩) (c_l_gray : PySem.W.codeIn K cd_l_gray "_law_gray" = true) (k_l_gray : PySem.W.keepIn K (.ref f_l_gray) = true)
    (a_l_off : PySem.W.nsIn K mainGlobals "_law_off" = some (some (.ref f_l_off)))
    (l_l_off : K.lookup f_l_off = some ⟨oc_l_off, od_l_off, .func (PySem.W.fnOf "_law_off" "_law_off" (defArgs s_l_off) (defBody s_l_off) (defScope s_l_off) .none kV_l_off dc_l_off pm_l_off an_l_off cd_l_off ct_l_off), sl_l_off⟩) (c_l_off : PySem.W.codeIn K cd_l_off "_law_off" = true) (k_l_off : PySem.W.keepIn K (.ref f_l_off) = true)
    (a_mirrored : PySem.W.nsIn K mainGlobals "mirrored" = some (some (.ref f_mirrored)))
    (l_mirrored : K.lookup f_mirrored = some ⟨oc_mirrored, od_mirrored, .func (PySem.W.fnOf "mirrored" "mirrored" (defArgs s_mirrored) (defBody s_mirrored) (defScope s_mirrored) .none kV_mirrored dc_mirrored pm_mirrored an_mirrored cd_mirrored ct_mirrored), sl_mirrored⟩) (c_mirrored : PySem.W.codeIn K cd_mirrored "mirrored" = true) (k_mirrored : PySem.W.keepIn K (.ref f_mirrored) = true)
    (a_need_wide : PySem.W.nsIn K mainGlobals "need_wide" = some (some (.ref f_need_wide)))
    (l_need_wide : K.lookup f_need_wide = some ⟨oc_need_wide, od_need_wide, .func (PySem.W.fnOf "need_wide" "need_wide" (defArgs s_need_wide) (defBody s_need_wide) (defScope s_need_wide) .none kV_need_wide dc_need_wide pm_need_wide an_need_wide cd_need_wide ct_need_wide), sl_need_wide⟩) (c_need_wide : PySem.W.codeIn K cd_need_wide "need_wide" = true) (k_need_wide : PySem.W.keepIn K (.ref f_need_wide) = true)
    (a_gray : PySem.W.nsIn K mainGlobals "gray" = some (some (.ref f_gray)))
    (l_gray : K.lookup f_gray = some ⟨oc_gray, od_gray, .func (PySem.W.fnOf "gray" "gray" (defArgs s_gray) (defBody s_gray) (defScope s_gray) .none kV_gray dc_gray pm_gray an_gray cd_gray ct_gray), sl_gray⟩) (c_gray : PySem.W.codeIn K cd_gray "gray" = true) (k_gray : PySem.W.keepIn K (.ref f_gray) = true)
    (a_all_words : PySem.W.nsIn K mainGlobals "all_words" = some (some (.ref f_all_words)))
    (l_all_words : K.lookup f_all_words = some ⟨oc_all_words, od_all_words, .func (PySem.W.fnOf "all_words" "all_words" (defArgs s_all_words) (defBody s_all_words) (defScope s_all_words) .none kV_all_words dc_all_words pm_all_words an_all_words cd_all_words ct_all_words), sl_all_words⟩) (c_all_words : PySem.W.codeIn K cd_all_words "all_words" = true) (k_all_words : PySem.W.keepIn K (.ref f_all_words) = true)
    (a_plain : PySem.W.nsIn K mainGlobals "plain" = some (some (.ref f_plain)))
    (l_plain : K.lookup f_plain = some ⟨oc_plain, od_plain, .func (PySem.W.fnOf "plain" "plain" (defArgs s_plain) (defBody s_plain) (defScope s_plain) .none kV_plain dc_plain pm_plain an_plain cd_plain ct_plain), sl_plain⟩) (c_plain : PySem.W.codeIn K cd_plain "plain" = true) (k_plain : PySem.W.keepIn K (.ref f_plain) = true)
    (a_law : PySem.W.nsIn K mainGlobals "law" = some (some (.ref f_law)))
    (l_law : K.lookup f_law = some ⟨oc_law, od_law, .func (PySem.W.fnOf "law" "law" (defArgs s_law) (defBody s_law) (defScope s_law) .none kV_law dc_law pm_law an_law cd_law ct_law), sl_law⟩) (c_law : PySem.W.codeIn K cd_law "law" = true) (k_law : PySem.W.keepIn K (.ref f_law) = true)
    (z_abs : PySem.W.nsIn K mainGlobals "abs" = some none)
    (z_all : PySem.W.nsIn K mainGlobals "all" = some none)
    (z_bool : PySem.W.nsIn K mainGlobals "bool" = some none)
    (z_int : PySem.W.nsIn K mainGlobals "int" = some none)
    (z_isinstance : PySem.W.nsIn K mainGlobals "isinstance" = some none)
    (z_len : PySem.W.nsIn K mainGlobals "len" = some none)
    (z_list : PySem.W.nsIn K mainGlobals "list" = some none)
    (z_range : PySem.W.nsIn K mainGlobals "range" = some none)
    (z_str : PySem.W.nsIn K mainGlobals "str" = some none)
    (z_tuple : PySem.W.nsIn K mainGlobals "tuple" = some none)
    (n_MOST_WIDE : PySem.W.nsIn K mainGlobals "MOST_WIDE" = some (some (.int 4 t_MOST_WIDE)))
    : ∃ fd : FuncData, (∀ (s : Shared) (v : Value), BindsTo s fd ⟨[v], []⟩ [("_law_script", v)]) ∧ ∀ base : Heap, K.In base → base.Ns mainGlobals mg → FnOk l.prog w K mg base CX0 7 fa fd ["_law_script"] (sp_law K) := by
  have e := hfa.symm.trans (PySem.W.mg_of X G a_law)
  cases e
  have F_l_alike := fun_mk (st := s_l_alike) l_l_alike c_l_alike k_l_alike
  have b_l_alike := F_l_alike.binds (ps := ["_law_found", "_law_due"]) fun _ _ _ _ _ _ us hl => match us, hl with | [_, _], _ => rfl
  have F_l_dice := fun_mk (st := s_l_dice) l_l_dice c_l_dice k_l_dice
  have b_l_dice := F_l_dice.binds (ps := ["_law_script", "_law_k"]) fun _ _ _ _ _ _ us hl => match us, hl with | [_, _], _ => rfl
  have F_l_plain := fun_mk (st := s_l_plain) l_l_plain c_l_plain k_l_plain
  have b_l_plain := F_l_plain.binds (ps := ["_law_wide"]) fun _ _ _ _ _ _ us hl => match us, hl with | [_], _ => rfl
  have F_l_gray := fun_mk (st := s_l_gray) l_l_gray c_l_gray k_l_gray
  have b_l_gray := F_l_gray.binds (ps := ["_law_wide"]) fun _ _ _ _ _ _ us hl => match us, hl with | [_], _ => rfl
  have F_l_off := fun_mk (st := s_l_off) l_l_off c_l_off k_l_off
  have b_l_off := F_l_off.binds (ps := ["_law_d", "_law_most"]) fun _ _ _ _ _ _ us hl => match us, hl with | [_, _], _ => rfl
  have F_mirrored := fun_mk (st := s_mirrored) l_mirrored c_mirrored k_mirrored
  have b_mirrored := F_mirrored.binds (ps := ["wide"]) fun _ _ _ _ _ _ us hl => match us, hl with | [_], _ => rfl
  have F_need_wide := fun_mk (st := s_need_wide) l_need_wide c_need_wide k_need_wide
  have b_need_wide := F_need_wide.binds (ps := ["wide"]) fun _ _ _ _ _ _ us hl => match us, hl with | [_], _ => rfl
  have F_gray := fun_mk (st := s_gray) l_gray c_gray k_gray
  have b_gray := F_gray.binds (ps := ["wide"]) fun _ _ _ _ _ _ us hl => match us, hl with | [_], _ => rfl
  have F_all_words := fun_mk (st := s_all_words) l_all_words c_all_words k_all_words
  have b_all_words := F_all_words.binds (ps := ["wide"]) fun _ _ _ _ _ _ us hl => match us, hl with | [_], _ => rfl
  have F_plain := fun_mk (st := s_plain) l_plain c_plain k_plain
  have b_plain := F_plain.binds (ps := ["wide"]) fun _ _ _ _ _ _ us hl => match us, hl with | [_], _ => rfl
  have F_law := fun_mk (st := s_law) l_law c_law k_law
  have b_law := F_law.binds (ps := ["_law_script"]) fun _ _ _ _ _ _ us hl => match us, hl with | [_], _ => rfl
  exact ⟨PySem.W.fnOf "law" "law" (defArgs s_law) (defBody s_law) (defScope s_law) .none kV_law dc_law pm_law an_law cd_law ct_law, fun s v => .of_eq rfl, fun base _ _ => ok_law { f_l_alike := _, fd_l_alike := _, F_l_alike := F_l_alike, b_l_alike := b_l_alike, g_l_alike := PySem.W.mg_of X G a_l_alike, f_l_dice := _, fd_l_dice := _, F_l_dice := F_l_dice, b_l_dice := b_l_dice, g_l_dice := PySem.W.mg_of X G a_l_dice, f_l_plain := _, fd_l_plain := _, F_l_plain := F_l_plain, b_l_plain := b_l_plain, g_l_plain := PySem.W.mg_of X G a_l_plain, f_l_gray := _, fd_l_gray := _, F_l_gray := F_l_gray, b_l_gray := b_l_gray, g_l_gray := PySem.W.mg_of X G a_l_gray, f_l_off := _, fd_l_off := _, F_l_off := F_l_off, b_l_off := b_l_off, g_l_off := PySem.W.mg_of X G a_l_off, f_mirrored := _, fd_mirrored := _, F_mirrored := F_mirrored, b_mirrored := b_mirrored, g_mirrored := PySem.W.mg_of X G a_mirrored, f_need_wide := _, fd_need_wide := _, F_need_wide := F_need_wide, b_need_wide := b_need_wide, g_need_wide := PySem.W.mg_of X G a_need_wide, f_gray := _, fd_gray := _, F_gray := F_gray, b_gray := b_gray, g_gray := PySem.W.mg_of X G a_gray, f_all_words := _, fd_all_words := _, F_all_words := F_all_words, b_all_words := b_all_words, g_all_words := PySem.W.mg_of X G a_all_words, f_plain := _, fd_plain := _, F_plain := F_plain, b_plain := b_plain, g_plain := PySem.W.mg_of X G a_plain, f_law := _, fd_law := _, F_law := F_law, b_law := b_law, g_law := PySem.W.mg_of X G a_law, z_abs := PySem.W.mg_none_of X G z_abs, z_all := PySem.W.mg_none_of X G z_all, z_bool := PySem.W.mg_none_of X G z_bool, z_int := PySem.W.mg_none_of X G z_int, z_isinstance := PySem.W.mg_none_of X G z_isinstance, z_len := PySem.W.mg_none_of X G z_len, z_list := PySem.W.mg_none_of X G z_list, z_range := PySem.W.mg_none_of X G z_range, z_str := PySem.W.mg_none_of X G z_str, z_tuple := PySem.W.mg_none_of X G z_tuple, t_MOST_WIDE := t_MOST_WIDE, c_MOST_WIDE := PySem.W.mg_of X G n_MOST_WIDE }⟩
end G
open PySem PySem.W PyProof.Rows
set_option maxRecDepth 100000 in
set_option maxHeartbeats 0 in
theorem PySem.Challenge.cw_crossbeat_k02_all_words_holds : PySem.Challenge.rw_crossbeat_k02_all_words.Holds := by
  w_on; o_law; k_head; (case hw => w_witness2)
  k_fill
  refine L2.walk_of (l := PySem.Challenge.rw_crossbeat_k02_all_words) (n := 63) (k := 7) (x := "_law_script") (CX := fun _ => L2.CX0) (sp := fun w => G.sp_law _) rfl (by decide) rfl ⟨rfl, by decide, by decide⟩ (fun w h Y => PySem.W.kIn_of Y) ?F (fun _ _ a ns hl _ hS => ⟨a, ns, rfl, hS, hl, fun _ => rfl⟩) (fun _ _ _ _ _ h => h)
  case F =>
    intro w mg fa h KX GG hmg
    refine' G.all_mk KX GG hmg ?a_l_alike ?l_l_alike ?c_l_alike ?k_l_alike ?a_l_dice ?l_l_dice ?c_l_dice ?k_l_dice ?a_l_plain ?l_l_plain ?c_l_plain ?k_l_plain ?a_l_gray ?l_l_gray ?c_l_gray ?k_l_gray ?a_l_off ?l_l_off ?c_l_off ?k_l_off ?a_mirrored ?l_mirrored ?c_mirrored ?k_mirrored ?a_need_wide ?l_need_wide ?c_need_wide ?k_need_wide ?a_gray ?l_gray ?c_gray ?k_gray ?a_all_words ?l_all_words ?c_all_words ?k_all_words ?a_plain ?l_plain ?c_plain ?k_plain ?a_law ?l_law ?c_law ?k_law ?z_abs ?z_all ?z_bool ?z_int ?z_isinstance ?z_len ?z_list ?z_range ?z_str ?z_tuple ?n_MOST_WIDE
    (case a_l_alike => k_is)
    (case l_l_alike => k_is)
    (case c_l_alike => k_is)
    (case k_l_alike => k_is)
    (case a_l_dice => k_is)
    (case l_l_dice => k_is)
    (case c_l_dice => k_is)
    (case k_l_dice => k_is)
    (case a_l_plain => k_is)
    (case l_l_plain => k_is)
    (case c_l_plain => k_is)
    (case k_l_plain => k_is)
    (case a_l_gray => k_is)
    (case l_l_gray => k_is)
    (case c_l_gray => k_is)
    (case k_l_gray => k_is)
    (case a_l_off => k_is)
    (case l_l_off => k_is)
    (case c_l_off => k_is)
    (case k_l_off => k_is)
    (case a_mirrored => k_is)
    (case l_mirrored => k_is)
    (case c_mirrored => k_is)
    (case k_mirrored => k_is)
    (case a_need_wide => k_is)
    (case l_need_wide => k_is)
    (case c_need_wide => k_is)
    (case k_need_wide => k_is)
    (case a_gray => k_is)
    (case l_gray => k_is)
    (case c_gray => k_is)
    (case k_gray => k_is)
    (case a_all_words => k_is)
    (case l_all_words => k_is)
    (case c_all_words => k_is)
    (case k_all_words => k_is)
    (case a_plain => k_is)
    (case l_plain => k_is)
    (case c_plain => k_is)
    (case k_plain => k_is)
    (case a_law => k_is)
    (case l_law => k_is)
    (case c_law => k_is)
    (case k_law => k_is)
    (case z_abs => k_is)
    (case z_all => k_is)
    (case z_bool => k_is)
    (case z_int => k_is)
    (case z_isinstance => k_is)
    (case z_len => k_is)
    (case z_list => k_is)
    (case z_range => k_is)
    (case z_str => k_is)
    (case z_tuple => k_is)
    (case n_MOST_WIDE => k_is)
#print axioms PySem.Challenge.cw_crossbeat_k02_all_words_holds
