import PyProof.Rows.All
import Wide.All
import OpenK.AllK
import Wide.FinOn
import HandS.ForMost
import HandS.Evl
import HandS.Style
import HandS.IsInst
import PySem.Challenge.RW_crossbeat_k10_whole_the_least_room
set_option Elab.async false
set_option linter.all false
set_option maxRecDepth 100000
set_option maxHeartbeats 4000000
namespace G
open PySem L2 Evl
def topS (i : Nat) : Stmt := PySem.Challenge.pw_crossbeat_k10_whole_the_least_room.main.body.getD i (.Pass ⟨0, 0, 0, 0⟩)
abbrev s_l_alike : Stmt := topS 13
theorem sc_l_alike : FnScope ["_law_found", "_law_due", "_law_k"] ["_law_found", "_law_due"] (defScope s_l_alike) := ⟨rfl, rfl, rfl, by decide +kernel, rfl, by decide +kernel, by decide +kernel⟩
abbrev s_l_dice : Stmt := topS 11
theorem sc_l_dice : FnScope ["_law_script", "_law_k", "_law_found", "_law_cell"] ["_law_script", "_law_k"] (defScope s_l_dice) := ⟨rfl, rfl, rfl, by decide +kernel, rfl, by decide +kernel, by decide +kernel⟩
abbrev s_l_off : Stmt := topS 12
theorem sc_l_off : FnScope ["_law_d", "_law_most", "_law_found"] ["_law_d", "_law_most"] (defScope s_l_off) := ⟨rfl, rfl, rfl, by decide +kernel, rfl, by decide +kernel, by decide +kernel⟩
abbrev s_gone_through : Stmt := topS 7
theorem sc_gone_through : FnScope ["room", "one", "other", "many", "puts", "gets", "met", "moment", "base", "key", "number", "begin", "put", "goes_in", "goes_out"] ["room", "one", "other"] (defScope s_gone_through) := ⟨rfl, rfl, rfl, by decide +kernel, rfl, by decide +kernel, by decide +kernel⟩
abbrev s_need_late : Stmt := topS 6
theorem sc_need_late : FnScope ["one", "other"] ["one", "other"] (defScope s_need_late) := ⟨rfl, rfl, rfl, by decide +kernel, rfl, by decide +kernel, by decide +kernel⟩
abbrev s_least_room : Stmt := topS 9
theorem sc_least_room : FnScope ["one", "other", "room", "begin", "beats", "letters"] ["one", "other"] (defScope s_least_room) := ⟨rfl, rfl, rfl, by decide +kernel, rfl, by decide +kernel, by decide +kernel⟩
abbrev s_steady : Stmt := topS 8
theorem sc_steady : FnScope ["room", "one", "other"] ["room", "one", "other"] (defScope s_steady) := ⟨rfl, rfl, rfl, by decide +kernel, rfl, by decide +kernel, by decide +kernel⟩
abbrev s_law : Stmt := topS 14
theorem sc_law : FnScope ["_law_script", "_law_d", "_law_one", "_law_other", "_law_least", "_law_room", "_law_begin", "_law_beats", "_law_letters"] ["_law_script"] (defScope s_law) := ⟨rfl, rfl, rfl, by decide +kernel, rfl, by decide +kernel, by decide +kernel⟩
structure TX (K : PySem.W.Frag) (mg : Str → Option Value) where
  f_l_alike : Addr
  fd_l_alike : FuncData
  F_l_alike : Fun K "_law_alike" "_law_alike" s_l_alike f_l_alike fd_l_alike
  b_l_alike : Binds K fd_l_alike ["_law_found", "_law_due"] []
  g_l_alike : mg "_law_alike" = some (.ref f_l_alike)
  f_l_dice : Addr
  fd_l_dice : FuncData
  F_l_dice : Fun K "_law_dice" "_law_dice" s_l_dice f_l_dice fd_l_dice
  b_l_dice : Binds K fd_l_dice ["_law_script", "_law_k"] []
  g_l_dice : mg "_law_dice" = some (.ref f_l_dice)
  f_l_off : Addr
  fd_l_off : FuncData
  F_l_off : Fun K "_law_off" "_law_off" s_l_off f_l_off fd_l_off
  b_l_off : Binds K fd_l_off ["_law_d", "_law_most"] []
  g_l_off : mg "_law_off" = some (.ref f_l_off)
  f_gone_through : Addr
  fd_gone_through : FuncData
  F_gone_through : Fun K "gone_through" "gone_through" s_gone_through f_gone_through fd_gone_through
  b_gone_through : Binds K fd_gone_through ["room", "one", "other"] []
  g_gone_through : mg "gone_through" = some (.ref f_gone_through)
  f_need_late : Addr
  fd_need_late : FuncData
  F_need_late : Fun K "need_late" "need_late" s_need_late f_need_late fd_need_late
  b_need_late : Binds K fd_need_late ["one", "other"] []
  g_need_late : mg "need_late" = some (.ref f_need_late)
  f_least_room : Addr
  fd_least_room : FuncData
  F_least_room : Fun K "least_room" "least_room" s_least_room f_least_room fd_least_room
  b_least_room : Binds K fd_least_room ["one", "other"] []
  g_least_room : mg "least_room" = some (.ref f_least_room)
  f_steady : Addr
  fd_steady : FuncData
  F_steady : Fun K "steady" "steady" s_steady f_steady fd_steady
  b_steady : Binds K fd_steady ["room", "one", "other"] []
  g_steady : mg "steady" = some (.ref f_steady)
  f_law : Addr
  fd_law : FuncData
  F_law : Fun K "law" "law" s_law f_law fd_law
  b_law : Binds K fd_law ["_law_script"] []
  g_law : mg "law" = some (.ref f_law)
  z_abs : mg "abs" = none
  z_all : mg "all" = none
  z_bool : mg "bool" = none
  z_int : mg "int" = none
  z_isinstance : mg "isinstance" = none
  z_len : mg "len" = none
  z_list : mg "list" = none
  z_max : mg "max" = none
  z_min : mg "min" = none
  z_range : mg "range" = none
  z_str : mg "str" = none
  z_tuple : mg "tuple" = none
  t_MOST_LATE : Tok
  c_MOST_LATE : mg "MOST_LATE" = some (.int 6 t_MOST_LATE)
  t_MOST_STEADY : Tok
  c_MOST_STEADY : mg "MOST_STEADY" = some (.int 20 t_MOST_STEADY)
/-! ### heaps -/
/-- all but d stays -/
def Exd (d : Addr) (H H' : Hp) : Prop := ∀ a o, H a = some o → a ≠ d → H' a = some o
theorem Exd.refl (d : Addr) (H : Hp) : Exd d H H := fun _ _ h _ => h
theorem Exd.trans {d : Addr} {H H1 H2 : Hp} (a : Exd d H H1) (b : Exd d H1 H2) : Exd d H H2 := fun x o h n => b x o (a x o h n) n
theorem Exd.of {d : Addr} {H H1 : Hp} (a : Ex H H1) : Exd d H H1 := fun x o h _ => a x o h
theorem Exd.upd {d : Addr} {H H1 : Hp} {o : HO} (a : Exd d H H1) : Exd d H (L2.upd H1 d o) := fun x o h n => by
  rw [upd_ne n]
  exact a x o h n
theorem ifP {c A B : Prop} [Decidable c] (h : c) (k : A) : if c then A else B := by
  rw [if_pos h]
  exact k
theorem ifN {c A B : Prop} [Decidable c] (h : ¬ c) (k : B) : if c then A else B := by
  rw [if_neg h]
  exact k
theorem lo62 (n : Nat) : -(2 ^ 62 : Int) ≤ (n : Int) := by omega
theorem hi62 {n : Nat} (h : n ≤ 1000) : (n : Int) < 2 ^ 62 := by omega
theorem ats {α : Type} {xs : List α} {z : Int} {j : Nat} {v : α} (e : z = (j : Int)) (h : xs[j]? = some v) : atI xs z = some v := by
  rw [e]
  exact atI_nat h
/-- the dice: two numbers and the great ones that are left -/
def Dice (H : Hp) (d : Addr) : Prop := ∃ (s c : Int) (r : List Int), H d = some (.lst ((s :: c :: r).map V.int)) ∧ 0 ≤ s ∧ s < 2147483647 ∧ 0 ≤ c ∧ ∀ x ∈ r, 0 ≤ x
def sp_l_off : Sp := fun vs H Q _ => ∃ (d : Addr) (n : Int), vs = [.ref d, .int n] ∧ Dice H d ∧ 0 < n ∧ n < 1073741824 ∧ ∀ (x : Int) (H' : Hp), 0 ≤ x → x < n → Exd d H H' → Dice H' d → Q (.int x) H'
def sp_l_dice (K : PySem.W.Frag) : Sp := fun vs H Q _ => ∃ (a : Addr) (ns : List Int), vs = [.ref a, .int 0] ∧ SqL K H a (ns.map V.int) ∧ ns.length ≤ 63 ∧ ∀ (d : Addr) (H' : Hp), H d = none → Ex H H' → Dice H' d → Q (.ref d) H'
section
variable {P : Program} {w : World} {K : PySem.W.Frag} {mg : Str → Option Value} {base : Heap}
theorem Dice.mono {H H' : Hp} {d : Addr} (e : Ex H H') (h : Dice H d) : Dice H' d := by
  obtain ⟨s, c, r, h, h1⟩ := h
  exact ⟨s, c, r, e _ _ h, h1⟩
theorem Dice.upd {H : Hp} {d p : Addr} {o : HO} (h : Dice H d) (n : d ≠ p) : Dice (L2.upd H p o) d := by
  obtain ⟨s, c, r, h, h1⟩ := h
  exact ⟨s, c, r, by rw [upd_ne n]; exact h, h1⟩
theorem Dice.ne {H : Hp} {d p : Addr} (h : Dice H d) (n : H p = none) : d ≠ p := by
  obtain ⟨s, c, r, h, _⟩ := h
  exact ne_of_none h n
/-- the law's own promise -/
def sp_law (K : PySem.W.Frag) : Sp := fun vs H Q _ => ∃ (a : Addr) (ns : List Int), vs = [.ref a] ∧ SqL K H a (ns.map V.int) ∧ ns.length ≤ 63 ∧ ∀ H', Q (.bl true) H'
end
/-! ### words -/
def bit (b : Bool) : Nat := if b then 49 else 48
def wd (bs : List Bool) : Str := ⟨(bs.map bit).toArray⟩
abbrev wv (bs : List Bool) : V := .str (wd bs)
theorem str0 : ("0" : Str) = wd [false] := by decide +kernel
theorem str1 : ("1" : Str) = wd [true] := by decide +kernel
theorem strE : ("" : Str) = wd [] := by decide +kernel
theorem wd_app (a b : List Bool) : wd a ++ wd b = wd (a ++ b) := by
  show Str.append (wd a) (wd b) = wd (a ++ b)
  simp [Str.append, wd, List.map_append]
theorem wd_len (a : List Bool) : (wd a).length = a.length := by
  show (List.map bit a).toArray.size = a.length
  simp
theorem bit_inj {a b : Bool} (h : bit a = bit b) : a = b := by
  revert h
  cases a <;> cases b <;> decide
theorem map_bit_inj : ∀ {a b : List Bool}, a.map bit = b.map bit → a = b
  | [], [], _ => rfl
  | [], _ :: _, h => by cases h
  | _ :: _, [], h => by cases h
  | x :: a, y :: b, h => by
    have h : bit x :: a.map bit = bit y :: b.map bit := h
    injection h with h1 h2
    rw [bit_inj h1, map_bit_inj h2]
theorem wd_inj {a b : List Bool} (h : wd a = wd b) : a = b := by
  have h : (a.map bit).toArray = (b.map bit).toArray := congrArg Str.cps h
  exact map_bit_inj (by simpa using congrArg Array.toList h)
theorem wv_inj {a b : List Bool} (h : wv a = wv b) : a = b := wd_inj (V.str.inj h)
theorem wd_toList (a : List Bool) : (wd a).cps.toList = a.map bit := by
  show (a.map bit).toArray.toList = _
  simp
theorem sgn (b : Bool) : (⟨#[bit b]⟩ : Str) = wd [b] := rfl
theorem small9 {n : Nat} (h : n ≤ 1000) : n ≤ sizeLine := Nat.le_of_lt (small1000 h)
/-- all words, as numbers rise; the mirrored way -/
def plainW : Nat → List (List Bool)
  | 0 => [[]]
  | n + 1 => (plainW n).map (false :: ·) ++ (plainW n).map (true :: ·)
def grayW : Nat → List (List Bool)
  | 0 => [[]]
  | n + 1 => (grayW n).map (false :: ·) ++ (grayW n).reverse.map (true :: ·)
theorem plainW_len : ∀ n, (plainW n).length = 2 ^ n
  | 0 => rfl
  | n + 1 => by
    show ((plainW n).map _ ++ (plainW n).map _).length = _
    rw [List.length_append, List.length_map, List.length_map, plainW_len n, Nat.pow_succ]
    omega
theorem grayW_len : ∀ n, (grayW n).length = 2 ^ n
  | 0 => rfl
  | n + 1 => by
    show ((grayW n).map _ ++ (grayW n).reverse.map _).length = _
    rw [List.length_append, List.length_map, List.length_map, List.length_reverse, grayW_len n, Nat.pow_succ]
    omega
theorem plainW_wide : ∀ n, ∀ w ∈ plainW n, w.length = n
  | 0, w, h => by
    cases (List.mem_singleton.mp h)
    rfl
  | n + 1, w, h => by
    rcases List.mem_append.mp h with h | h <;> obtain ⟨u, hu, rfl⟩ := List.mem_map.mp h <;> simp [plainW_wide n u hu]
theorem grayW_wide : ∀ n, ∀ w ∈ grayW n, w.length = n
  | 0, w, h => by
    cases (List.mem_singleton.mp h)
    rfl
  | n + 1, w, h => by
    rcases List.mem_append.mp h with h | h <;> obtain ⟨u, hu, rfl⟩ := List.mem_map.mp h
    · simp [grayW_wide n u hu]
    · simp [grayW_wide n u (List.mem_reverse.mp hu)]
theorem pow16 {n : Nat} (h : n ≤ 4) : 2 ^ n ≤ 16 := by
  have : n = 0 ∨ n = 1 ∨ n = 2 ∨ n = 3 ∨ n = 4 := by omega
  rcases this with rfl | rfl | rfl | rfl | rfl <;> decide
/-! ### comprehensions whose element is a value -/
section
variable {K : PySem.W.Frag}
/-- over a list; the test's answer p, the element g -/
theorem lcFM {α : Type} {a : Addr} (l : List α) (ev : α → V) (p : α → Bool) (g : α → V) {j : Nat} {tt : TT} {te : TE} {vs : List Nat} {σ : L2.St} {H1 : Hp} {D : Addr} {Qd : Hp → Prop}
    (hx : SqL K H1 a (l.map ev)) (hz : l.length ≤ 1000) (hD : H1 D = none) (hw : ∀ x, wipe ((wipe σ vs).set j (some x)) vs = wipe σ vs)
    (hs : ∀ x ∈ l, ∀ H, Ex H1 H → ∀ (Y : VK) (N : Hp → Prop), (∀ H2, Ex H H2 → if p x = true then Y (g x) H2 else N H2) → tt ((wipe σ vs).set j (some (ev x))) H fun b H3 => if b = true then te ((wipe σ vs).set j (some (ev x))) H3 Y else N H3)
    (hd : ∀ H2, Ex H1 H2 → H2 D = some (.lst ((l.filter p).map g)) → Qd H2) :
    ∃ W : Nat → Nat → Hp → Prop, (∃ m, W 0 m (upd H1 D (.lst []))) ∧ ∀ i m H, W i m H →
      ((Itl K a).stop i H ∧ Qd H) ∨ ((Itl K a).go i H ∧ ∃ Nx : Hp → Prop, (∀ H', Nx H' → ∃ m', m' < m ∧ W (i + 1) m' H') ∧ ∀ x H', (Itl K a).yld i H x H' → (gName j) x (wipe σ vs) H' fun σ2 H2 => wipe σ2 vs = wipe σ vs ∧ tt σ2 H2 fun b H3 =>
        if b = true then te σ2 H3 fun y H4 => ∃ acc, H4 D = some (.lst acc) ∧ acc.length < sizeLine ∧ Nx (upd H4 D (.lst (acc ++ [y]))) else Nx H3) := by
  refine lc_list (xs := l.map ev) (fun i H => Ex H1 H ∧ H D = some (.lst (((l.take i).filter p).map g))) ⟨Ex.new hD, upd_same⟩ (fun i H _ h => ex_l h.1 hx) (fun i x H hi h => ?_) (fun H h => ?_)
  · obtain ⟨y, hy, rfl⟩ : ∃ y, l[i]? = some y ∧ ev y = x := by
      rw [List.getElem?_map] at hi
      cases e : l[i]? with
      | none => rw [e] at hi; cases hi
      | some y => rw [e] at hi; exact ⟨y, rfl, Option.some.inj hi⟩
    have hm : y ∈ l := List.mem_of_getElem? hy
    have ht : l.take (i + 1) = l.take i ++ [y] := by rw [List.take_add_one, hy]; rfl
    refine ⟨hw _, hs y hm H h.1 _ _ fun H2 e2 => ?_⟩
    have hl : (((l.take i).filter p).map g).length < sizeLine := by
      rw [List.length_map]
      refine small1000 (Nat.le_trans (List.length_filter_le _ _) ?_)
      rw [List.length_take]
      omega
    by_cases hp : p y = true
    · rw [if_pos hp]
      refine ⟨_, e2 _ _ h.2, hl, Ex.mut (h.1.trans e2) hD, ?_⟩
      rw [upd_same, ht, List.filter_append, List.map_append]
      simp [hp]
    · rw [if_neg hp]
      refine ⟨h.1.trans e2, ?_⟩
      rw [e2 _ _ h.2, ht, List.filter_append, List.map_append]
      simp [hp]
  · refine hd H h.1 ?_
    rw [h.2, List.length_map, List.take_length]
theorem lcM {α : Type} {a : Addr} (l : List α) (ev : α → V) (g : α → V) {j : Nat} {te : TE} {vs : List Nat} {σ : L2.St} {H1 : Hp} {D : Addr} {Qd : Hp → Prop}
    (hx : SqL K H1 a (l.map ev)) (hz : l.length ≤ 1000) (hD : H1 D = none) (hw : ∀ x, wipe ((wipe σ vs).set j (some x)) vs = wipe σ vs)
    (hs : ∀ x ∈ l, ∀ H, Ex H1 H → ∀ (Y : VK), (∀ H2, Ex H H2 → Y (g x) H2) → te ((wipe σ vs).set j (some (ev x))) H Y)
    (hd : ∀ H2, Ex H1 H2 → H2 D = some (.lst (l.map g)) → Qd H2) :
    ∃ W : Nat → Nat → Hp → Prop, (∃ m, W 0 m (upd H1 D (.lst []))) ∧ ∀ i m H, W i m H →
      ((Itl K a).stop i H ∧ Qd H) ∨ ((Itl K a).go i H ∧ ∃ Nx : Hp → Prop, (∀ H', Nx H' → ∃ m', m' < m ∧ W (i + 1) m' H') ∧ ∀ x H', (Itl K a).yld i H x H' → (gName j) x (wipe σ vs) H' fun σ2 H2 => wipe σ2 vs = wipe σ vs ∧ tYes σ2 H2 fun b H3 =>
        if b = true then te σ2 H3 fun y H4 => ∃ acc, H4 D = some (.lst acc) ∧ acc.length < sizeLine ∧ Nx (upd H4 D (.lst (acc ++ [y]))) else Nx H3) :=
  lcFM l ev (fun _ => true) g hx hz hD hw (fun x hm H e Y N h => iteT (B := N H) (hs x hm H e Y fun H2 e2 => by simpa using h H2 e2)) (fun H2 e h => hd H2 e (by rw [h, List.filter_eq_self.mpr (fun _ _ => rfl)]))
/-- over range(n) -/
theorem lcRF (n : Nat) (p : Nat → Bool) (g : Nat → V) {j : Nat} {tt : TT} {te : TE} {vs : List Nat} {σ : L2.St} {H1 : Hp} {D : Addr} {Qd : Hp → Prop} {z : Int}
    (hz0 : z = (n : Int)) (hz : n ≤ 1000) (hD : H1 D = none) (hw : ∀ x, wipe ((wipe σ vs).set j (some x)) vs = wipe σ vs)
    (hs : ∀ i, i < n → ∀ H, Ex H1 H → ∀ (Y : VK) (N : Hp → Prop), (∀ H2, Ex H H2 → if p i = true then Y (g i) H2 else N H2) → tt ((wipe σ vs).set j (some (.int (i : Int)))) H fun b H3 => if b = true then te ((wipe σ vs).set j (some (.int (i : Int)))) H3 Y else N H3)
    (hd : ∀ H2, Ex H1 H2 → H2 D = some (.lst (((List.range n).filter p).map g)) → Qd H2) :
    ∃ W : Nat → Nat → Hp → Prop, (∃ m, W 0 m (upd H1 D (.lst []))) ∧ ∀ i m H, W i m H →
      ((Itr 0 z.toNat).stop i H ∧ Qd H) ∨ ((Itr 0 z.toNat).go i H ∧ ∃ Nx : Hp → Prop, (∀ H', Nx H' → ∃ m', m' < m ∧ W (i + 1) m' H') ∧ ∀ x H', (Itr 0 z.toNat).yld i H x H' → (gName j) x (wipe σ vs) H' fun σ2 H2 => wipe σ2 vs = wipe σ vs ∧ tt σ2 H2 fun b H3 =>
        if b = true then te σ2 H3 fun y H4 => ∃ acc, H4 D = some (.lst acc) ∧ acc.length < sizeLine ∧ Nx (upd H4 D (.lst (acc ++ [y]))) else Nx H3) := by
  have hn : z.toNat = n := by omega
  refine lc_range (lo := 0) (n := z.toNat) (fun i H => Ex H1 H ∧ H D = some (.lst (((List.range i).filter p).map g))) ⟨Ex.new hD, upd_same⟩ (fun i H hi h => ?_) (fun H h => ?_)
  · have e0 : (0 : Int) + (i : Int) = (i : Int) := Int.zero_add _
    rw [e0]
    refine ⟨hw _, hs i (by omega) H h.1 _ _ fun H2 e2 => ?_⟩
    have hl : (((List.range i).filter p).map g).length < sizeLine := by
      rw [List.length_map]
      refine small1000 (Nat.le_trans (List.length_filter_le _ _) ?_)
      rw [List.length_range]
      omega
    by_cases hp : p i = true
    · rw [if_pos hp]
      refine ⟨_, e2 _ _ h.2, hl, Ex.mut (h.1.trans e2) hD, ?_⟩
      rw [upd_same, List.range_succ, List.filter_append, List.map_append]
      simp [hp]
    · rw [if_neg hp]
      refine ⟨h.1.trans e2, ?_⟩
      rw [e2 _ _ h.2, List.range_succ, List.filter_append, List.map_append]
      simp [hp]
  · refine hd H h.1 ?_
    rw [h.2, hn]
theorem lcR (n : Nat) (g : Nat → V) {j : Nat} {te : TE} {vs : List Nat} {σ : L2.St} {H1 : Hp} {D : Addr} {Qd : Hp → Prop} {z : Int}
    (hz0 : z = (n : Int)) (hz : n ≤ 1000) (hD : H1 D = none) (hw : ∀ x, wipe ((wipe σ vs).set j (some x)) vs = wipe σ vs)
    (hs : ∀ i, i < n → ∀ H, Ex H1 H → ∀ (Y : VK), (∀ H2, Ex H H2 → Y (g i) H2) → te ((wipe σ vs).set j (some (.int (i : Int)))) H Y)
    (hd : ∀ H2, Ex H1 H2 → H2 D = some (.lst ((List.range n).map g)) → Qd H2) :
    ∃ W : Nat → Nat → Hp → Prop, (∃ m, W 0 m (upd H1 D (.lst []))) ∧ ∀ i m H, W i m H →
      ((Itr 0 z.toNat).stop i H ∧ Qd H) ∨ ((Itr 0 z.toNat).go i H ∧ ∃ Nx : Hp → Prop, (∀ H', Nx H' → ∃ m', m' < m ∧ W (i + 1) m' H') ∧ ∀ x H', (Itr 0 z.toNat).yld i H x H' → (gName j) x (wipe σ vs) H' fun σ2 H2 => wipe σ2 vs = wipe σ vs ∧ tYes σ2 H2 fun b H3 =>
        if b = true then te σ2 H3 fun y H4 => ∃ acc, H4 D = some (.lst acc) ∧ acc.length < sizeLine ∧ Nx (upd H4 D (.lst (acc ++ [y]))) else Nx H3) :=
  lcRF n (fun _ => true) g hz0 hz hD hw (fun i hi H e Y N h => iteT (B := N H) (hs i hi H e Y fun H2 e2 => by simpa using h H2 e2)) (fun H2 e h => hd H2 e (by rw [h, List.filter_eq_self.mpr (fun _ _ => rfl)]))
end
def nwin (m : Nat) (ps : List Nat) : List Nat := (List.range m).map fun i => ps.getD (m - 1 - i) 0
def skey (m : Nat) (ps gs : List Nat) : List Nat := (nwin m ps ++ nwin m gs).map (· - gs.getD (m - 1) 0)
def ixOf (k : List Nat) : List (List Nat) → Option Nat
  | [] => none
  | x :: r => if x = k then some 0 else (ixOf k r).map (· + 1)
def newP (r a : Nat) (ps gs : List Nat) : Nat := if ps.getD 0 0 < r + gs.getD a 0 then ps.getD 0 0 + 1 else ps.getD 0 0
def newG (b : Nat) (ps gs : List Nat) : Nat := if gs.getD 0 0 < ps.getD b 0 then gs.getD 0 0 + 1 else gs.getD 0 0
/-- the going by beats: fuel, the beat, the counts (newest first), the keys met (newest first) -/
def sgo (r a b m : Nat) : Nat → Nat → List Nat → List Nat → List (List Nat) → Option (Nat × Nat × Nat)
  | 0, _, _, _, _ => none
  | f + 1, t, ps, gs, ks => match ixOf (skey m ps gs) ks with
    | some i => some (t - 1 - i, i + 1, ps.getD 0 0 - ps.getD (i + 1) 0)
    | none => sgo r a b m f (t + 1) (newP r a ps gs :: ps) (newG b ps gs :: gs) (skey m ps gs :: ks)
def sRes (r a b : Nat) : Option (Nat × Nat × Nat) := sgo r a b (max a b + 1) 40 0 [0] [0] []
/-! quick forms for the kernel -/
def beqL : List Nat → List Nat → Bool
  | [], [] => true
  | x :: a, y :: b => Nat.beq x y && beqL a b
  | _, _ => false
def at0 : List Nat → Nat → Nat
  | [], _ => 0
  | x :: _, 0 => x
  | _ :: r, n + 1 => at0 r n
def winQ (base : Nat) : Nat → List Nat → List Nat → List Nat
  | 0, _, acc => acc
  | m + 1, [], acc => winQ base m [] (0 :: acc)
  | m + 1, x :: r, acc => winQ base m r ((x - base) :: acc)
def ixQ (k : List Nat) : List (List Nat) → Nat → Option Nat
  | [], _ => none
  | x :: r, i => cond (beqL x k) (some i) (ixQ k r (i + 1))
def sQ (r a b m : Nat) : Nat → Nat → List Nat → List Nat → List (List Nat) → Option (Nat × Nat × Nat)
  | 0, _, _, _, _ => none
  | f + 1, t, ps, gs, ks =>
    match ixQ (winQ (at0 gs (m - 1)) m ps (winQ (at0 gs (m - 1)) m gs [])) ks 0 with
    | some i => some (t - 1 - i, i + 1, at0 ps 0 - at0 ps (i + 1))
    | none => sQ r a b m f (t + 1) ((cond (Nat.blt (at0 ps 0) (r + at0 gs a)) (at0 ps 0 + 1) (at0 ps 0)) :: ps) ((cond (Nat.blt (at0 gs 0) (at0 ps b)) (at0 gs 0 + 1) (at0 gs 0)) :: gs) (winQ (at0 gs (m - 1)) m ps (winQ (at0 gs (m - 1)) m gs []) :: ks)
theorem at0_eq : ∀ (l : List Nat) (n : Nat), at0 l n = l.getD n 0
  | [], _ => by simp [at0]
  | x :: _, 0 => by simp [at0]
  | _ :: r, n + 1 => by simp [at0, at0_eq r n]
theorem beqL_iff : ∀ (a b : List Nat), beqL a b = true ↔ a = b
  | [], [] => by simp [beqL]
  | [], _ :: _ => by simp [beqL]
  | _ :: _, [] => by simp [beqL]
  | x :: a, y :: b => by simp [beqL, beqL_iff a b]
theorem nwin_succ (m : Nat) (ps : List Nat) : nwin (m + 1) ps = nwin m ps.tail ++ [ps.getD 0 0] := by
  unfold nwin
  rw [List.range_succ, List.map_append]
  congr 1
  · refine List.map_congr_left fun i hi => ?_
    have hi : i < m := List.mem_range.mp hi
    have e : m + 1 - 1 - i = (m - 1 - i) + 1 := by omega
    rw [e]
    cases ps with
    | nil => simp
    | cons x r => simp
  · simp
theorem winQ_eq (base : Nat) : ∀ (m : Nat) (ps acc : List Nat), winQ base m ps acc = (nwin m ps).map (· - base) ++ acc
  | 0, _, _ => by simp [winQ, nwin]
  | m + 1, [], acc => by
    rw [nwin_succ]
    show winQ base m [] (0 :: acc) = _
    rw [winQ_eq base m [] (0 :: acc)]
    simp
  | m + 1, x :: r, acc => by
    rw [nwin_succ]
    show winQ base m r ((x - base) :: acc) = _
    rw [winQ_eq base m r]
    simp
theorem key_eq (m : Nat) (ps gs : List Nat) : winQ (at0 gs (m - 1)) m ps (winQ (at0 gs (m - 1)) m gs []) = skey m ps gs := by
  rw [winQ_eq, winQ_eq, at0_eq]
  simp [skey]
theorem ixQ_eq (k : List Nat) : ∀ (ks : List (List Nat)) (i : Nat), ixQ k ks i = (ixOf k ks).map (· + i)
  | [], _ => rfl
  | x :: r, i => by
    unfold ixQ ixOf
    by_cases h : x = k
    · rw [(beqL_iff x k).mpr h, if_pos h]
      simp
    · have hb : beqL x k = false := by
        cases e : beqL x k with
        | false => rfl
        | true => exact absurd ((beqL_iff x k).mp e) h
      rw [hb, if_neg h, Option.map_map]
      show ixQ k r (i + 1) = _
      rw [ixQ_eq k r (i + 1)]
      congr 1
      funext j
      simp
      omega
theorem sQ_eq (r a b m : Nat) : ∀ (f t : Nat) (ps gs : List Nat) (ks : List (List Nat)), sQ r a b m f t ps gs ks = sgo r a b m f t ps gs ks
  | 0, _, _, _, _ => rfl
  | f + 1, t, ps, gs, ks => by
    unfold sQ sgo
    rw [key_eq, ixQ_eq]
    cases ixOf (skey m ps gs) ks with
    | some i => simp [at0_eq]
    | none =>
      show sQ r a b m f (t + 1) _ _ _ = sgo r a b m f (t + 1) _ _ _
      rw [sQ_eq r a b m f]
      simp only [at0_eq]
      have e1 : (cond (Nat.blt (ps.getD 0 0) (r + gs.getD a 0)) (ps.getD 0 0 + 1) (ps.getD 0 0)) = newP r a ps gs := by
        unfold newP
        by_cases h : ps.getD 0 0 < r + gs.getD a 0
        · rw [if_pos h, show Nat.blt (ps.getD 0 0) (r + gs.getD a 0) = true from Nat.ble_eq.mpr h]
          rfl
        · rw [if_neg h]
          cases e : Nat.blt (ps.getD 0 0) (r + gs.getD a 0) with
          | false => rfl
          | true => exact absurd (Nat.ble_eq.mp e) h
      have e2 : (cond (Nat.blt (gs.getD 0 0) (ps.getD b 0)) (gs.getD 0 0 + 1) (gs.getD 0 0)) = newG b ps gs := by
        unfold newG
        by_cases h : gs.getD 0 0 < ps.getD b 0
        · rw [if_pos h, show Nat.blt (gs.getD 0 0) (ps.getD b 0) = true from Nat.ble_eq.mpr h]
          rfl
        · rw [if_neg h]
          cases e : Nat.blt (gs.getD 0 0) (ps.getD b 0) with
          | false => rfl
          | true => exact absurd (Nat.ble_eq.mp e) h
      rw [e1, e2]
def okQ (r a b : Nat) : Bool := match sQ r a b (max a b + 1) 40 0 [0] [0] [] with
  | some (_, p, q) => Nat.beq (q * (a + b + 2)) (p * min r (a + b + 2)) && (Nat.blt 0 p && Nat.blt p 100)
  | none => false
def upTo (p : Nat → Bool) : Nat → Bool
  | 0 => true
  | n + 1 => p n && upTo p n
theorem upTo_ok {p : Nat → Bool} : ∀ {n : Nat}, upTo p n = true → ∀ i, i < n → p i = true
  | 0, _, i, h => absurd h (Nat.not_lt_zero _)
  | n + 1, h, i, hi => by
    have h : (p n && upTo p n) = true := h
    rw [Bool.and_eq_true] at h
    by_cases e : i = n
    · rw [e]
      exact h.1
    · exact upTo_ok h.2 i (by omega)
def allQ : Bool := upTo (fun a => upTo (fun b => upTo (fun r => okQ (r + 1) a b) 20) 7) 7
set_option maxHeartbeats 0 in
theorem allQ_ok : allQ = true := by decide +kernel
/-- of each room, each lateness: it goes round, and as many letters as told -/
theorem sRes_ok {r a b : Nat} (h1 : 1 ≤ r) (h2 : r ≤ 20) (ha : a ≤ 6) (hb : b ≤ 6) : ∃ s p q, sRes r a b = some (s, p, q) ∧ q * (a + b + 2) = p * min r (a + b + 2) ∧ 1 ≤ p ∧ p < 100 := by
  have h := upTo_ok (upTo_ok (upTo_ok allQ_ok a (by omega)) b (by omega)) (r - 1) (by omega)
  have e : r - 1 + 1 = r := by omega
  rw [e] at h
  unfold okQ at h
  rw [sQ_eq] at h
  unfold sRes
  cases hs : sgo r a b (max a b + 1) 40 0 [0] [0] [] with
  | none =>
    rw [hs] at h
    cases h
  | some x =>
    obtain ⟨s, p, q⟩ := x
    rw [hs] at h
    have h : (Nat.beq (q * (a + b + 2)) (p * min r (a + b + 2)) && (Nat.blt 0 p && Nat.blt p 100)) = true := h
    rw [Bool.and_eq_true, Bool.and_eq_true] at h
    exact ⟨s, p, q, rfl, Nat.eq_of_beq_eq_true h.1, Nat.ble_eq.mp h.2.1, Nat.ble_eq.mp h.2.2⟩
/-! ### steady: windows, keys met -/
abbrev nv (n : Nat) : V := .int (n : Int)
theorem nwin_len (m : Nat) (ps : List Nat) : (nwin m ps).length = m := by simp [nwin]
theorem nwin_at {m i : Nat} (ps : List Nat) (h : i < m) : ((nwin m ps).map nv)[i]? = some (nv (ps.getD (m - 1 - i) 0)) := by
  unfold nwin
  rw [List.map_map, List.getElem?_map, List.getElem?_range h]
  rfl
theorem nwin_last {m : Nat} (ps : List Nat) (h : 0 < m) : atI ((nwin m ps).map nv) (-1) = some (nv (ps.getD 0 0)) := by
  obtain ⟨k, rfl⟩ : ∃ k, m = k + 1 := ⟨m - 1, by omega⟩
  rw [nwin_succ, List.map_append]
  exact atI_last _ _
theorem nwin_new {m : Nat} (ps : List Nat) (x : Nat) (h : 0 < m) : (nwin m ps).drop 1 ++ [x] = nwin m (x :: ps) := by
  obtain ⟨k, rfl⟩ : ∃ k, m = k + 1 := ⟨m - 1, by omega⟩
  rw [nwin_succ k (x :: ps)]
  show (nwin (k + 1) ps).drop 1 ++ [x] = nwin k ps ++ [x]
  congr 1
  unfold nwin
  rw [← List.map_drop, List.range_succ_eq_map, List.drop_one, List.tail_cons, List.map_map]
  refine List.map_congr_left fun i hi => ?_
  have hi := List.mem_range.mp hi
  show ps.getD (k + 1 - 1 - (i + 1)) 0 = ps.getD (k - 1 - i) 0
  congr 1
  omega
theorem nwin_zero (m : Nat) : nwin m [0] = List.replicate m 0 := by
  unfold nwin
  have h : ∀ i ∈ List.range m, (fun i => [0].getD (m - 1 - i) 0) i = (fun _ => 0) i := fun i _ => by
    show [0].getD (m - 1 - i) 0 = 0
    cases (m - 1 - i) <;> rfl
  rw [List.map_congr_left h, List.map_const', List.length_range]
theorem rep_flat (n : Nat) (x : V) : (List.replicate n [x]).flatten = List.replicate n x := by
  induction n with
  | zero => rfl
  | succ n ih => rw [List.replicate_succ, List.flatten_cons, ih]; rfl
/-- the counts never fall, no more are got than put -/
structure SInv (ps gs : List Nat) : Prop where
  g : ∀ i, gs.getD (i + 1) 0 ≤ gs.getD i 0
  p : ∀ i, ps.getD (i + 1) 0 ≤ ps.getD i 0
  gp : ∀ i, gs.getD i 0 ≤ ps.getD i 0
theorem SInv.start : SInv [0] [0] := ⟨fun i => by simp, fun i => by simp, fun i => by cases i <;> simp⟩
theorem mono_getD {l : List Nat} (h : ∀ i, l.getD (i + 1) 0 ≤ l.getD i 0) : ∀ (i j : Nat), l.getD (i + j) 0 ≤ l.getD i 0
  | i, 0 => Nat.le_refl _
  | i, j + 1 => Nat.le_trans (h (i + j)) (mono_getD h i j)
theorem SInv.step {ps gs : List Nat} (h : SInv ps gs) (r a b : Nat) : SInv (newP r a ps gs :: ps) (newG b ps gs :: gs) := by
  have hp : ps.getD 0 0 ≤ newP r a ps gs := by unfold newP; split <;> omega
  have hg : gs.getD 0 0 ≤ newG b ps gs := by unfold newG; split <;> omega
  have hgp : newG b ps gs ≤ newP r a ps gs := by
    have h1 := h.gp 0
    have h2 := mono_getD h.p 0 b
    rw [Nat.zero_add] at h2
    have : newG b ps gs ≤ ps.getD 0 0 := by unfold newG; split <;> omega
    omega
  refine ⟨fun i => ?_, fun i => ?_, fun i => ?_⟩
  · cases i with
    | zero => simpa using hg
    | succ i => simpa using h.g i
  · cases i with
    | zero => simpa using hp
    | succ i => simpa using h.p i
  · cases i with
    | zero => simpa using hgp
    | succ i => simpa using h.gp i
theorem SInv.base {ps gs : List Nat} (h : SInv ps gs) (m : Nat) : ∀ x ∈ nwin m ps ++ nwin m gs, gs.getD (m - 1) 0 ≤ x := by
  intro x hx
  have key : ∀ i, gs.getD (m - 1) 0 ≤ gs.getD (m - 1 - i) 0 := fun i => by
    have h1 := mono_getD h.g (m - 1 - i) (min i (m - 1))
    have e : m - 1 - i + min i (m - 1) = m - 1 := by omega
    rw [e] at h1
    exact h1
  rcases List.mem_append.mp hx with hx | hx <;> obtain ⟨i, _, rfl⟩ := List.mem_map.mp hx
  · exact Nat.le_trans (key i) (h.gp _)
  · exact key i
theorem skey_len (m : Nat) (ps gs : List Nat) : (skey m ps gs).length = 2 * m := by simp [skey, nwin_len]; omega
/-- what is met: keys (newest first), the counts beside them, the dict's pairs; F: what stands for a beat and a count -/
def Met (F : Hp → Nat → Nat → V → Prop) (H : Hp) : List (List Nat) → List Nat → List (List Key × V) → Prop
  | [], _, kvs => kvs = []
  | k :: ks, qs, kvs => ∃ kvs' v, kvs = kvs' ++ [(k.map fun (n : Nat) => (Sum.inl (n : Int) : Key), v)] ∧ F H ks.length (qs.getD 0 0) v ∧ k ∉ ks ∧ Met F H ks qs.tail kvs'
abbrev skk (k : List Nat) : List Key := k.map fun (n : Nat) => (Sum.inl (n : Int) : Key)
theorem skk_inj : ∀ {a b : List Nat}, skk a = skk b → a = b
  | [], [], _ => rfl
  | [], _ :: _, h => by cases h
  | _ :: _, [], h => by cases h
  | x :: a, y :: b, h => by
    have h : (Sum.inl (x : Int) : Key) :: skk a = (Sum.inl (y : Int) : Key) :: skk b := h
    injection h with h1 h2
    have h3 := Sum.inl.inj h1
    rw [skk_inj h2, show x = y by omega]
theorem skk_kV (k : List Nat) : (skk k).map kV = k.map nv := by
  rw [List.map_map]
  rfl
theorem Met.imp {F : Hp → Nat → Nat → V → Prop} {H H' : Hp} (h : ∀ j q v, F H j q v → F H' j q v) : ∀ {ks : List (List Nat)} {qs : List Nat} {kvs : List (List Key × V)}, Met F H ks qs kvs → Met F H' ks qs kvs
  | [], _, _, m => m
  | _ :: _, _, _, ⟨kvs', v, e, f, n, m⟩ => ⟨kvs', v, e, h _ _ _ f, n, Met.imp h m⟩
theorem Met.len {F : Hp → Nat → Nat → V → Prop} {H : Hp} : ∀ {ks : List (List Nat)} {qs : List Nat} {kvs : List (List Key × V)}, Met F H ks qs kvs → kvs.length = ks.length
  | [], _, _, m => by
    have m : _ = [] := m
    rw [m]
    rfl
  | _ :: _, _, _, ⟨kvs', v, e, f, n, m⟩ => by
    rw [e, List.length_append, Met.len m]
    rfl
theorem Met.none {F : Hp → Nat → Nat → V → Prop} {H : Hp} {k : List Nat} : ∀ {ks : List (List Nat)} {qs : List Nat} {kvs : List (List Key × V)}, Met F H ks qs kvs → k ∉ ks → valV kvs (skk k) = Option.none
  | [], _, _, m, _ => by
    have m : _ = [] := m
    rw [m]
    rfl
  | k' :: ks, qs, _, ⟨kvs', v, e, f, n, m⟩, h => by
    have h1 : ¬ k = k' := fun e => h (by rw [e]; exact List.mem_cons_self)
    have h2 : k ∉ ks := fun q => h (List.mem_cons_of_mem _ q)
    rw [e, valV_snoc _ _ _ _ (Met.none m n), if_neg (fun q => h1 (skk_inj q)), Met.none m h2]
theorem ixOf_none {k : List Nat} : ∀ {ks : List (List Nat)}, ixOf k ks = Option.none → k ∉ ks
  | [], _ => by simp
  | x :: r, h => by
    unfold ixOf at h
    by_cases e : x = k
    · rw [if_pos e] at h
      cases h
    · rw [if_neg e] at h
      intro hm
      rcases List.mem_cons.mp hm with q | q
      · exact e q.symm
      · exact ixOf_none (Option.map_eq_none_iff.mp h) q
theorem ixOf_some {k : List Nat} : ∀ {ks : List (List Nat)} {i : Nat}, ixOf k ks = some i → i < ks.length ∧ k ∈ ks
  | [], _, h => by cases h
  | x :: r, i, h => by
    unfold ixOf at h
    by_cases e : x = k
    · rw [if_pos e] at h
      obtain rfl := Option.some.inj h
      exact ⟨by simp, by rw [e]; exact List.mem_cons_self⟩
    · rw [if_neg e] at h
      obtain ⟨j, hj, rfl⟩ := Option.map_eq_some_iff.mp h
      have := ixOf_some hj
      exact ⟨by simp; omega, List.mem_cons_of_mem _ this.2⟩
theorem Met.some {F : Hp → Nat → Nat → V → Prop} {H : Hp} {k : List Nat} : ∀ {ks : List (List Nat)} {qs : List Nat} {kvs : List (List Key × V)} {i : Nat}, Met F H ks qs kvs → ixOf k ks = some i →
    ∃ v, valV kvs (skk k) = some v ∧ F H (ks.length - 1 - i) (qs.getD i 0) v
  | [], _, _, _, _, h => by cases h
  | k' :: ks, qs, _, i, ⟨kvs', v, e, f, n, m⟩, h => by
    unfold ixOf at h
    by_cases q : k' = k
    · rw [if_pos q] at h
      obtain rfl := Option.some.inj h
      subst q
      refine ⟨v, ?_, ?_⟩
      · rw [e, valV_snoc _ _ _ _ (Met.none m n), if_pos rfl]
      · simpa using f
    · rw [if_neg q] at h
      obtain ⟨j, hj, rfl⟩ := Option.map_eq_some_iff.mp h
      obtain ⟨v', h1, h2⟩ := Met.some m hj
      refine ⟨v', ?_, ?_⟩
      · rw [e, valV_snoc _ _ _ _ (Met.none m n), if_neg (fun z => q (skk_inj z).symm), h1]
      · have e1 : (k' :: ks).length - 1 - (j + 1) = ks.length - 1 - j := by simp; omega
        have e2 : qs.getD (j + 1) 0 = qs.tail.getD j 0 := by cases qs <;> simp
        rw [e1, e2]
        exact h2
theorem Met.add {F : Hp → Nat → Nat → V → Prop} {H : Hp} {k : List Nat} {ks : List (List Nat)} {ps : List Nat} {kvs : List (List Key × V)} {v : V} (m : Met F H ks ps.tail kvs) (h : k ∉ ks) (f : F H ks.length (ps.getD 0 0) v) : Met F H (k :: ks) ps (putK kvs (skk k) v) :=
  ⟨kvs, v, putK_new _ (Met.none m h), f, h, m⟩
theorem cut1 (xs : List V) : cutV xs (some 1) none = xs.drop 1 := by
  unfold cutV
  rw [show HT.sIx xs.length 0 (some 1) = min 1 xs.length from HT.sIx_nat xs.length 0 1, HT.sIx_none]
  cases xs with
  | nil => rfl
  | cons x r =>
    rw [show min 1 (x :: r).length = 1 by simp]
    simp
/-- the answer of the going -/
def RetU (xs : List V) (H : Hp) (Q : VK) : Prop := ∀ p H2, H p = none → Ex H H2 → H2 p = some (.tup xs) → Q (.ref p) H2
def sp_gone_through : Sp := fun vs H Q _ => ∃ r a b s p q : Nat, vs = [nv r, nv a, nv b] ∧ r ≤ 1000 ∧ a ≤ 100 ∧ b ≤ 100 ∧ sRes r a b = some (s, p, q) ∧ RetU [nv s, nv p, nv q] H Q
theorem int_max (a b : Nat) : (if (b : Int) > (a : Int) then (b : Int) else (a : Int)) = ((max a b : Nat) : Int) := by
  by_cases h : (b : Int) > (a : Int)
  · rw [if_pos h]
    omega
  · rw [if_neg h]
    omega
theorem b2n (c : Bool) (n : Nat) : (n : Int) + (if c = true then (1 : Int) else 0) = ((if c = true then n + 1 else n : Nat) : Int) := by
  cases c <;> simp
theorem sgo_pos {r a b m t : Nat} {ps gs : List Nat} {ks : List (List Nat)} {x : Nat × Nat × Nat} : ∀ {f : Nat}, sgo r a b m f t ps gs ks = some x → ∃ f', f = f' + 1
  | 0, h => by cases h
  | f + 1, _ => ⟨f, rfl⟩
theorem sgo_hit {r a b m f t i : Nat} {ps gs : List Nat} {ks : List (List Nat)} {x : Nat × Nat × Nat} (h : sgo r a b m (f + 1) t ps gs ks = some x) (hi : ixOf (skey m ps gs) ks = some i) : x = (t - 1 - i, i + 1, ps.getD 0 0 - ps.getD (i + 1) 0) := by
  unfold sgo at h
  rw [hi] at h
  exact (Option.some.inj h).symm
theorem sgo_miss {r a b m f t : Nat} {ps gs : List Nat} {ks : List (List Nat)} {x : Nat × Nat × Nat} (h : sgo r a b m (f + 1) t ps gs ks = some x) (hi : ixOf (skey m ps gs) ks = none) : sgo r a b m f (t + 1) (newP r a ps gs :: ps) (newG b ps gs :: gs) (skey m ps gs :: ks) = some x := by
  unfold sgo at h
  rw [hi] at h
  exact h
section
variable {P : Program} {w : World} {K : PySem.W.Frag} {mg : Str → Option Value} {base : Heap}
/-! ### data of a bounded depth: None, ints, texts, lists and tuples -/
def Leaf (v : V) (d : PyData) : Prop := (v = .non ∧ d = .none) ∨ (∃ i, v = .int i ∧ d = .int i) ∨ (∃ x, v = .str x ∧ d = .str x)
def Da (H : Hp) : Nat → V → PyData → Prop
  | 0, v, d => Leaf v d
  | n + 1, v, d => Leaf v d ∨ (∃ a xs ds, v = .ref a ∧ d = .list ds ∧ H a = some (.lst xs) ∧ xs.length ≤ 1000 ∧ Paired (Da H n) xs ds) ∨ (∃ a xs ds, v = .ref a ∧ d = .tuple ds ∧ H a = some (.tup xs) ∧ xs.length ≤ 1000 ∧ Paired (Da H n) xs ds)
theorem paired_imp {α β : Type} {R S : α → β → Prop} (h : ∀ a b, R a b → S a b) : ∀ {xs : List α} {ys : List β}, Paired R xs ys → Paired S xs ys
  | _, _, .nil => .nil
  | _, _, .cons r t => .cons (h _ _ r) (paired_imp h t)
theorem Da.mono {H H' : Hp} (e : Ex H H') : ∀ {n : Nat} {v : V} {d : PyData}, Da H n v d → Da H' n v d
  | 0, _, _, h => h
  | n + 1, _, _, h => by
    rcases h with h | ⟨a, xs, ds, h1, h2, h3, h4, h5⟩ | ⟨a, xs, ds, h1, h2, h3, h4, h5⟩
    · exact .inl h
    · exact .inr (.inl ⟨a, xs, ds, h1, h2, e _ _ h3, h4, paired_imp (fun _ _ => Da.mono e) h5⟩)
    · exact .inr (.inr ⟨a, xs, ds, h1, h2, e _ _ h3, h4, paired_imp (fun _ _ => Da.mono e) h5⟩)
theorem Da.leaf {H : Hp} {v : V} {d : PyData} (h : Leaf v d) : ∀ {n : Nat}, Da H n v d
  | 0 => h
  | _ + 1 => .inl h
theorem Da.int {H : Hp} {n : Nat} (i : Int) : Da H n (.int i) (.int i) := Da.leaf (.inr (.inl ⟨i, rfl, rfl⟩))
theorem Da.str {H : Hp} {n : Nat} (x : Str) : Da H n (.str x) (.str x) := Da.leaf (.inr (.inr ⟨x, rfl, rfl⟩))
theorem Da.non {H : Hp} {n : Nat} : Da H n .non .none := Da.leaf (.inl ⟨rfl, rfl⟩)
theorem Da.lst {H : Hp} {n : Nat} {a : Addr} {xs : List V} {ds : List PyData} (h : H a = some (.lst xs)) (l : xs.length ≤ 1000) (p : Paired (Da H n) xs ds) : Da H (n + 1) (.ref a) (.list ds) := .inr (.inl ⟨a, xs, ds, rfl, rfl, h, l, p⟩)
theorem Da.tup {H : Hp} {n : Nat} {a : Addr} {xs : List V} {ds : List PyData} (h : H a = some (.tup xs)) (l : xs.length ≤ 1000) (p : Paired (Da H n) xs ds) : Da H (n + 1) (.ref a) (.tuple ds) := .inr (.inr ⟨a, xs, ds, rfl, rfl, h, l, p⟩)
theorem paired_map {α β γ : Type} {R : α → β → Prop} (f : γ → α) (g : γ → β) : ∀ (l : List γ), (∀ x ∈ l, R (f x) (g x)) → Paired R (l.map f) (l.map g)
  | [], _ => .nil
  | x :: l, h => .cons (h x List.mem_cons_self) (paired_map f g l fun y hy => h y (List.mem_cons_of_mem _ hy))
theorem Da.strs {H : Hp} {n : Nat} {a : Addr} {l : List (List Bool)} (h : H a = some (.lst (l.map wv))) (hl : l.length ≤ 1000) : Da H (n + 1) (.ref a) (.list (l.map fun w => .str (wd w))) :=
  Da.lst h (by simpa using hl) (paired_map _ _ l fun w _ => Da.str _)
theorem paired_at {α β : Type} {R : α → β → Prop} : ∀ {xs : List α} {ys : List β} {i : Nat}, Paired R xs ys → i < ys.length → ∃ x y, xs[i]? = some x ∧ ys[i]? = some y ∧ R x y
  | _, _, i, .nil, h => absurd h (Nat.not_lt_zero _)
  | _, _, 0, .cons r _, _ => ⟨_, _, rfl, rfl, r⟩
  | _, _, i + 1, .cons _ t, h => paired_at (i := i) t (Nat.lt_of_succ_lt_succ h)
theorem paired_len {α β : Type} {R : α → β → Prop} : ∀ {xs : List α} {ys : List β}, Paired R xs ys → xs.length = ys.length
  | _, _, .nil => rfl
  | _, _, .cons _ t => congrArg (· + 1) (paired_len t)
theorem kb_ib : kitB "int" "bool" = some false := by decide +kernel
theorem kb_ii : kitB "int" "int" = some true := by decide +kernel
theorem kb_sb : kitB "str" "bool" = some false := by decide +kernel
theorem kb_si : kitB "str" "int" = some false := by decide +kernel
theorem kb_ss : kitB "str" "str" = some true := by decide +kernel
theorem kb_lb : kitB "list" "bool" = some false := by decide +kernel
theorem kb_li : kitB "list" "int" = some false := by decide +kernel
theorem kb_ls : kitB "list" "str" = some false := by decide +kernel
theorem kb_lt : kitB "list" "tuple" = some false := by decide +kernel
theorem kb_ll : kitB "list" "list" = some true := by decide +kernel
theorem kb_tb : kitB "tuple" "bool" = some false := by decide +kernel
theorem kb_ti : kitB "tuple" "int" = some false := by decide +kernel
theorem kb_ts : kitB "tuple" "str" = some false := by decide +kernel
theorem kb_tt : kitB "tuple" "tuple" = some true := by decide +kernel
theorem kb_tl : kitB "tuple" "list" = some false := by decide +kernel
theorem isiR {K : PySem.W.Frag} {H : Hp} {Q : VK} {x : V} {t n : String} {b : Bool} (hx : TyX K H x (.type t)) (hk : kitB t n = some b) (q : Q (.bl b) H) : rIsi K [x, .ty n] H Q := ⟨x, .ty n, .type t, .type n, b, rfl, .ty n, hx, kit_ty hk, q⟩
theorem Da.both {H : Hp} {n : Nat} {x y : V} {d : PyData} (hx : Da H n x d) (hy : Da H n y d) : (Leaf x d ∧ Leaf y d) ∨
    (∃ m a xs b ys ds, n = m + 1 ∧ x = .ref a ∧ y = .ref b ∧ d = .list ds ∧ H a = some (.lst xs) ∧ H b = some (.lst ys) ∧ ys.length ≤ 1000 ∧ Paired (Da H m) xs ds ∧ Paired (Da H m) ys ds) ∨
    (∃ m a xs b ys ds, n = m + 1 ∧ x = .ref a ∧ y = .ref b ∧ d = .tuple ds ∧ H a = some (.tup xs) ∧ H b = some (.tup ys) ∧ ys.length ≤ 1000 ∧ Paired (Da H m) xs ds ∧ Paired (Da H m) ys ds) := by
  cases n with
  | zero => exact .inl ⟨hx, hy⟩
  | succ n =>
    rcases hy with ly | ⟨b, ys, ds, rfl, rfl, hb, lb, pb⟩ | ⟨b, ys, ds, rfl, rfl, hb, lb, pb⟩
    · rcases hx with lx | ⟨a, xs, ds, _, rfl, _⟩ | ⟨a, xs, ds, _, rfl, _⟩
      · exact .inl ⟨lx, ly⟩
      · rcases ly with ⟨_, h⟩ | ⟨_, _, h⟩ | ⟨_, _, h⟩ <;> cases h
      · rcases ly with ⟨_, h⟩ | ⟨_, _, h⟩ | ⟨_, _, h⟩ <;> cases h
    · rcases hx with lx | ⟨a, xs, ds', e, h, h1, h2, h3⟩ | ⟨a, xs, ds', _, h, _⟩
      · rcases lx with ⟨_, h⟩ | ⟨_, _, h⟩ | ⟨_, _, h⟩ <;> cases h
      · cases h; exact .inr (.inl ⟨n, a, xs, b, ys, _, rfl, e, rfl, rfl, h1, hb, lb, h3, pb⟩)
      · cases h
    · rcases hx with lx | ⟨a, xs, ds', _, h, _⟩ | ⟨a, xs, ds', e, h, h1, h2, h3⟩
      · rcases lx with ⟨_, h⟩ | ⟨_, _, h⟩ | ⟨_, _, h⟩ <;> cases h
      · cases h
      · cases h; exact .inr (.inr ⟨n, a, xs, b, ys, _, rfl, e, rfl, rfl, h1, hb, lb, h3, pb⟩)
def sp_l_alike : Nat → Sp
  | 0 => fun _ _ _ _ => False
  | n + 1 => fun vs H Q _ => ∃ x y d, vs = [x, y] ∧ Da H n x d ∧ Da H n y d ∧ RetV (.bl true) H Q
theorem ok_alikeN (T : TX K mg) : ∀ n : Nat, FnOk P w K mg base CX0 n T.f_l_alike T.fd_l_alike ["_law_found", "_law_due"] (sp_l_alike n)
  | 0 => ⟨fun _ _ _ _ h => h.elim, fun _ _ _ _ _ _ _ _ _ _ _ _ _ h => h.elim⟩
  | n + 1 => by
    have ih := ok_alikeN T n
    refine T.F_l_alike.ok sc_l_alike (fun vs H Q E h => ?_) (fun cdv A outer s H vs Q E hr h => ?_)
    · obtain ⟨x, y, d, rfl, _⟩ := h
      rfl
    · obtain ⟨x, y, d, rfl, hx, hy, q⟩ := h
      refine ⟨_, (pss_cons (ps_if (pt_cmpR op_isN (pv 1) pe_non (nomark _))
 (pss_one (ps_ret (pe_cmpR op_isN (pv 0) pe_non (nomark _))))
 pss_nil)
 (pss_cons (ps_if (pt_val (pe_callB call_isi (by rfl) T.z_isinstance (by decide +kernel) (pa_cons (pv 1) (pa_cons (pe_bltn (v := .ty "bool") (u := .type "bool") (by rfl) T.z_bool (by decide +kernel) rfl) pa_nil))))
 (pss_one (ps_ret (pe_and (pe_callB call_isi (by rfl) T.z_isinstance (by decide +kernel) (pa_cons (pv 0) (pa_cons (pe_bltn (v := .ty "bool") (u := .type "bool") (by rfl) T.z_bool (by decide +kernel) rfl) pa_nil))) (pe_one (pe_cmpR op_eq (pv 0) (pv 1) (nomark _))))))
 pss_nil)
 (pss_cons (ps_if (pt_val (pe_callB call_isi (by rfl) T.z_isinstance (by decide +kernel) (pa_cons (pv 1) (pa_cons (pe_bltn (v := .ty "int") (u := .type "int") (by rfl) T.z_int (by decide +kernel) rfl) pa_nil))))
 (pss_one (ps_ret (pe_and (pe_callB call_isi (by rfl) T.z_isinstance (by decide +kernel) (pa_cons (pv 0) (pa_cons (pe_bltn (v := .ty "int") (u := .type "int") (by rfl) T.z_int (by decide +kernel) rfl) pa_nil))) (pe_and (pe_not (pe_callB call_isi (by rfl) T.z_isinstance (by decide +kernel) (pa_cons (pv 0) (pa_cons (pe_bltn (v := .ty "bool") (u := .type "bool") (by rfl) T.z_bool (by decide +kernel) rfl) pa_nil)))) (pe_one (pe_cmpR op_eq (pv 0) (pv 1) (nomark _)))))))
 pss_nil)
 (pss_cons (ps_if (pt_val (pe_callB call_isi (by rfl) T.z_isinstance (by decide +kernel) (pa_cons (pv 1) (pa_cons (pe_bltn (v := .ty "str") (u := .type "str") (by rfl) T.z_str (by decide +kernel) rfl) pa_nil))))
 (pss_one (ps_ret (pe_and (pe_callB call_isi (by rfl) T.z_isinstance (by decide +kernel) (pa_cons (pv 0) (pa_cons (pe_bltn (v := .ty "str") (u := .type "str") (by rfl) T.z_str (by decide +kernel) rfl) pa_nil))) (pe_one (pe_cmpR op_eq (pv 0) (pv 1) (nomark _))))))
 pss_nil)
 (pss_cons (ps_if (PW.pt (pw_or (pt_cmpR op_ne (pe_callB call_isi (by rfl) T.z_isinstance (by decide +kernel) (pa_cons (pv 1) (pa_cons (pe_bltn (v := .ty "tuple") (u := .type "tuple") (by rfl) T.z_tuple (by decide +kernel) rfl) pa_nil))) (pe_callB call_isi (by rfl) T.z_isinstance (by decide +kernel) (pa_cons (pv 0) (pa_cons (pe_bltn (v := .ty "tuple") (u := .type "tuple") (by rfl) T.z_tuple (by decide +kernel) rfl) pa_nil))) (nomark _)) (pw_or1 (pt_cmpR op_ne (pe_callB call_isi (by rfl) T.z_isinstance (by decide +kernel) (pa_cons (pv 1) (pa_cons (pe_bltn (v := .ty "list") (u := .type "list") (by rfl) T.z_list (by decide +kernel) rfl) pa_nil))) (pe_callB call_isi (by rfl) T.z_isinstance (by decide +kernel) (pa_cons (pv 0) (pa_cons (pe_bltn (v := .ty "list") (u := .type "list") (by rfl) T.z_list (by decide +kernel) rfl) pa_nil))) (nomark _)))))
 (pss_one (ps_ret pe_bl))
 pss_nil)
 (pss_cons (ps_if (pt_cmpR op_ne (pe_callB call_len (by rfl) T.z_len PySem.boot_len (pa_cons (pv 0) pa_nil)) (pe_callB call_len (by rfl) T.z_len PySem.boot_len (pa_cons (pv 1) pa_nil)) (nomark _))
 (pss_one (ps_ret pe_bl))
 pss_nil)
 (pss_one (ps_ret (pe_callB (cr_all rfl) (by rfl) T.z_all (by decide +kernel) (pa_cons (pe_lc (own := [("_law_k", 2)]) (g := gName 2) (by rfl) sc_l_alike.nd (pi_range1 (by rfl) T.z_range (pa_cons (pe_callB call_len (by rfl) T.z_len PySem.boot_len (pa_cons (pv 1) pa_nil)) pa_nil)) (blkOk_by (own := [("_law_k", 2)]) (N := ["_law_found", "_law_due", "_law_k"]) (sc := defScope s_l_alike) (by decide +kernel)) (fun _ _ _ _ _ => pg_name (i := 2) sc_l_alike.nd rfl (Or.inl rfl)) (fun _ _ _ _ _ => pts_nil) (fun _ _ _ _ _ => (pe_call ih hr (by rfl) T.g_l_alike T.F_l_alike.kp T.b_l_alike .nil pass0 (pa_cons (pe_ix (r := rIx K) ix_seq (pv 0) (pv 2) (fun _ _ => rfl)) (pa_cons (pe_ix (r := rIx K) ix_seq (pv 1) (pv 2) (fun _ _ => rfl)) pa_nil))))) pa_nil)))))))))), ?_⟩
      rcases hx.both hy with ⟨lx, ly⟩ | ⟨n, a, xs, b, ys, ds, rfl, rfl, rfl, rfl, ha, hb, lb, pa, pb⟩ | ⟨n, a, xs, b, ys, ds, rfl, rfl, rfl, rfl, ha, hb, lb, pa, pb⟩
      · rcases ly with ⟨rfl, rfl⟩ | ⟨i, rfl, rfl⟩ | ⟨z, rfl, rfl⟩
        · obtain rfl : x = .non := by
            rcases lx with ⟨h, _⟩ | ⟨_, _, h⟩ | ⟨_, _, h⟩
            · exact h
            · cases h
            · cases h
          exact ⟨_, rfl, rfl, _, rfl, ifP rfl ⟨_, rfl, rfl, q _ (Ex.refl _)⟩⟩
        · obtain rfl : x = .int i := by
            rcases lx with ⟨_, h⟩ | ⟨_, e, h⟩ | ⟨_, _, h⟩
            · cases h
            · cases h; exact e
            · cases h
          refine ⟨_, rfl, rfl, _, rfl, ifN (by simp) ⟨_, rfl, _, _, _, _, _, rfl, .ty _, (.base (.int i)), kit_ty kb_ib, ⟨_, rfl, ifN (by simp) ⟨_, rfl, _, _, _, _, _, rfl, .ty _, (.base (.int i)), kit_ty kb_ii, ⟨_, rfl, ifP rfl ?_⟩⟩⟩⟩⟩
          refine ⟨_, rfl, _, _, _, _, _, rfl, .ty _, (.base (.int i)), kit_ty kb_ii, ⟨_, rfl, ifP rfl ⟨_, rfl, _, _, _, _, _, rfl, .ty _, (.base (.int i)), kit_ty kb_ib, ⟨_, rfl, _, rfl, ifP rfl ⟨_, rfl, _, rfl, rfl, ?_⟩⟩⟩⟩⟩
          rw [decide_eq_true rfl]
          exact q _ (Ex.refl _)
        · obtain rfl : x = .str z := by
            rcases lx with ⟨_, h⟩ | ⟨_, _, h⟩ | ⟨_, e, h⟩
            · cases h
            · cases h
            · cases h; exact e
          refine ⟨_, rfl, rfl, _, rfl, ifN (by simp) ⟨_, rfl, _, _, _, _, _, rfl, .ty _, (.base (.str z)), kit_ty kb_sb, ⟨_, rfl, ifN (by simp) ⟨_, rfl, _, _, _, _, _, rfl, .ty _, (.base (.str z)), kit_ty kb_si, ⟨_, rfl, ifN (by simp) ⟨_, rfl, _, _, _, _, _, rfl, .ty _, (.base (.str z)), kit_ty kb_ss, ⟨_, rfl, ifP rfl ?_⟩⟩⟩⟩⟩⟩⟩
          refine ⟨_, rfl, _, _, _, _, _, rfl, .ty _, (.base (.str z)), kit_ty kb_ss, ⟨_, rfl, ifP rfl ⟨_, rfl, _, rfl, rfl, ?_⟩⟩⟩
          rw [decide_eq_true rfl]
          exact q _ (Ex.refl _)
      · have tx : TyX K H (.ref a) (.type "list") := .base (.lst ha)
        have ty : TyX K H (.ref b) (.type "list") := .base (.lst hb)
        refine ⟨_, rfl, rfl, _, rfl, ifN (by simp) ⟨_, rfl, _, _, _, _, _, rfl, .ty _, ty, kit_ty kb_lb, ⟨_, rfl, ifN (by simp) ⟨_, rfl, _, _, _, _, _, rfl, .ty _, ty, kit_ty kb_li, ⟨_, rfl, ifN (by simp) ⟨_, rfl, _, _, _, _, _, rfl, .ty _, ty, kit_ty kb_ls, ⟨_, rfl, ifN (by simp) ?_⟩⟩⟩⟩⟩⟩⟩
        refine ⟨_, rfl, _, _, _, _, _, rfl, .ty _, ty, kit_ty kb_lt, ⟨_, rfl, _, _, _, _, _, rfl, .ty _, tx, kit_ty kb_lt, ⟨rfl, _, rfl, ifN (by simp) ⟨_, rfl, _, _, _, _, _, rfl, .ty _, ty, kit_ty kb_ll, ⟨_, rfl, _, _, _, _, _, rfl, .ty _, tx, kit_ty kb_ll, ⟨rfl, _, rfl, ifN (by simp) ?_⟩⟩⟩⟩⟩⟩
        refine ⟨_, rfl, _, _, rfl, .inl ⟨_, SqL.of ha, rfl⟩, _, rfl, _, _, rfl, .inl ⟨_, SqL.of hb, rfl⟩, rfl, _, rfl, ifN ?_ ?_⟩
        · rw [decide_eq_true (by rw [paired_len pa, paired_len pb])]
          decide
        refine ⟨_, rfl, _, _, rfl, .inl ⟨_, SqL.of hb, rfl⟩, _, rfl, lo62 _, hi62 lb, fun D nD => lcR ys.length (fun _ => .bl true) rfl lb nD (fun _ => rfl) (fun i hi H3 e3 Y hY => ?_) (fun H3 e3 h3 => ?_)⟩
        · obtain ⟨y, z, hy, hz, ry⟩ := paired_at pb (i := i) (by rw [← paired_len pb]; exact hi)
          obtain ⟨x, z', hx, hz', rx⟩ := paired_at pa (i := i) (by rw [← paired_len pb]; exact hi)
          obtain rfl : z = z' := Option.some.inj (hz.symm.trans hz')
          exact ⟨_, rfl, _, rfl, .inl ⟨a, xs, _, x, rfl, rfl, SqL.of (e3 _ _ ha), atI_nat hx, _, rfl, _, rfl, .inl ⟨b, ys, _, y, rfl, rfl, SqL.of (e3 _ _ hb), atI_nat hy, x, y, z, rfl, rx.mono e3, ry.mono e3, hY⟩⟩⟩
        · refine ⟨D, (List.range ys.length).map (fun _ => true), rfl, SqL.of (by rw [h3, List.map_map]; rfl), ?_⟩
          rw [show ((List.range ys.length).map (fun _ => true)).all id = true by simp]
          exact q _ e3
      · have tx : TyX K H (.ref a) (.type "tuple") := .base (.tup ha)
        have ty : TyX K H (.ref b) (.type "tuple") := .base (.tup hb)
        refine ⟨_, rfl, rfl, _, rfl, ifN (by simp) ⟨_, rfl, _, _, _, _, _, rfl, .ty _, ty, kit_ty kb_tb, ⟨_, rfl, ifN (by simp) ⟨_, rfl, _, _, _, _, _, rfl, .ty _, ty, kit_ty kb_ti, ⟨_, rfl, ifN (by simp) ⟨_, rfl, _, _, _, _, _, rfl, .ty _, ty, kit_ty kb_ts, ⟨_, rfl, ifN (by simp) ?_⟩⟩⟩⟩⟩⟩⟩
        refine ⟨_, rfl, _, _, _, _, _, rfl, .ty _, ty, kit_ty kb_tt, ⟨_, rfl, _, _, _, _, _, rfl, .ty _, tx, kit_ty kb_tt, ⟨rfl, _, rfl, ifN (by simp) ⟨_, rfl, _, _, _, _, _, rfl, .ty _, ty, kit_ty kb_tl, ⟨_, rfl, _, _, _, _, _, rfl, .ty _, tx, kit_ty kb_tl, ⟨rfl, _, rfl, ifN (by simp) ?_⟩⟩⟩⟩⟩⟩
        refine ⟨_, rfl, _, _, rfl, .inr ⟨_, SqT.of ha, rfl⟩, _, rfl, _, _, rfl, .inr ⟨_, SqT.of hb, rfl⟩, rfl, _, rfl, ifN ?_ ?_⟩
        · rw [decide_eq_true (by rw [paired_len pa, paired_len pb])]
          decide
        refine ⟨_, rfl, _, _, rfl, .inr ⟨_, SqT.of hb, rfl⟩, _, rfl, lo62 _, hi62 lb, fun D nD => lcR ys.length (fun _ => .bl true) rfl lb nD (fun _ => rfl) (fun i hi H3 e3 Y hY => ?_) (fun H3 e3 h3 => ?_)⟩
        · obtain ⟨y, z, hy, hz, ry⟩ := paired_at pb (i := i) (by rw [← paired_len pb]; exact hi)
          obtain ⟨x, z', hx, hz', rx⟩ := paired_at pa (i := i) (by rw [← paired_len pb]; exact hi)
          obtain rfl : z = z' := Option.some.inj (hz.symm.trans hz')
          exact ⟨_, rfl, _, rfl, .inr (.inl ⟨a, xs, _, x, rfl, rfl, SqT.of (e3 _ _ ha), atI_nat hx, _, rfl, _, rfl, .inr (.inl ⟨b, ys, _, y, rfl, rfl, SqT.of (e3 _ _ hb), atI_nat hy, x, y, z, rfl, rx.mono e3, ry.mono e3, hY⟩)⟩)⟩
        · refine ⟨D, (List.range ys.length).map (fun _ => true), rfl, SqL.of (by rw [h3, List.map_map]; rfl), ?_⟩
          rw [show ((List.range ys.length).map (fun _ => true)).all id = true by simp]
          exact q _ e3
theorem ok_l_alike (T : TX K mg) : FnOk P w K mg base CX0 6 T.f_l_alike T.fd_l_alike ["_law_found", "_law_due"] (sp_l_alike 6) := ok_alikeN T 6
theorem ok_l_dice (T : TX K mg) : FnOk P w K mg base CX0 1 T.f_l_dice T.fd_l_dice ["_law_script", "_law_k"] (sp_l_dice K) := by
  refine T.F_l_dice.ok sc_l_dice (fun vs H Q E h => ?_) (fun cdv A outer s H vs Q E hr h => ?_)
  · obtain ⟨a, ns, rfl, _⟩ := h
    rfl
  · obtain ⟨a, ns, rfl, hS, hl, q⟩ := h
    refine ⟨_, (pss_cons (ps_set (i := 2) sc_l_dice.nd rfl (by first | exact Or.inl rfl | exact Or.inr rfl) (pv 1))
 (pss_cons (ps_for PassesOwn.never rfl (pi_list (pv 0)) (pg_name (i := 3) sc_l_dice.nd rfl (by first | exact Or.inl rfl | exact Or.inr rfl))
 (pss_one (ps_set (i := 2) sc_l_dice.nd rfl (by first | exact Or.inl rfl | exact Or.inr rfl) (pe_op op_mod (pe_op op_add (pe_op op_mul (pv 2) pe_int) (pe_callB call_abs (by rfl) T.z_abs (by decide +kernel) (pa_cons (pv 3) pa_nil))) pe_int))))
 (pss_one (ps_ret (pe_op op_cat (pe_lst (pa_cons (pv 2) (pa_cons pe_int pa_nil))) (pe_lc (own := [("_law_cell", 3)]) (g := gName 3) (by rfl) sc_l_dice.nd (pi_list (pv 0)) (blkOk_by (own := [("_law_cell", 3)]) (N := ["_law_script", "_law_k", "_law_found", "_law_cell"]) (sc := defScope s_l_dice) (by decide +kernel)) (fun _ _ _ _ _ => pg_name (i := 3) sc_l_dice.nd rfl (Or.inl rfl)) (fun _ _ _ _ _ => (pts_one (pt_cmpR op_ge (pv 3) (pe_op op_pow pe_int pe_int) (nomark _)))) (fun _ _ _ _ _ => (pv 3)))))))), ?_⟩
    refine ⟨_, rfl, .ref a, rfl, a, rfl, ⟨_, hS⟩, for_list (xs := ns.map V.int) (fun i σ H' => H' = H ∧ ∃ f y, σ = [some (.ref a), some (.int 0), some (.int f), y] ∧ 0 ≤ f ∧ f < 2147483647) ⟨rfl, 0, none, rfl, by decide, by decide⟩ (fun i σ H' _ h => by rw [h.1]; exact hS) ?_ ?_⟩
    · rintro i x σ H' hi ⟨rfl, f, y, rfl, f0, f1⟩
      obtain ⟨z, hz, rfl⟩ : ∃ z, ns[i]? = some z ∧ V.int z = x := by
        rw [List.getElem?_map] at hi
        cases e : ns[i]? with
        | none => rw [e] at hi; cases hi
        | some y => rw [e] at hi; exact ⟨y, rfl, Option.some.inj hi⟩
      refine ⟨_, rfl, _, _, rfl, rfl, .inl ⟨by omega, by omega⟩, _, rfl, z, rfl, _, _, rfl, rfl, _, _, rfl, rfl, (by decide : (0 : Int) < 2147483647), rfl, _, _, rfl, Int.emod_nonneg _ (by decide), Int.emod_lt_of_pos _ (by decide)⟩
    · rintro σ H' ⟨rfl, f, y, rfl, f0, f1⟩
      refine ⟨_, rfl, small9 (by simp), fun p np => ?_⟩
      have e1 : Ex H' (upd H' p (.lst [.int f, .int 0])) := Ex.new np
      refine ⟨.ref a, rfl, a, rfl, ⟨_, ex_l e1 hS⟩, fun D hD => lcFM ns V.int (fun z => decide ((1000000000000000000 : Int) ≤ z)) V.int (ex_l e1 hS) (by omega) hD (fun _ => rfl) (fun z hz H2 e2 Y N hq => ?_) (fun H2 e2 h2 => ?_)⟩
      · refine ⟨_, rfl, _, _, rfl, rfl, ⟨by decide, by decide, by decide⟩, _, _, rfl, rfl, _, rfl, ?_⟩
        have hq := hq H2 (Ex.refl _)
        by_cases hc : (1000000000000000000 : Int) ≤ z
        · rw [if_pos (decide_eq_true hc)] at hq
          exact ifP (decide_eq_true (show (10 : Int) ^ (18 : Int).toNat ≤ z by simpa using hc)) ⟨_, rfl, hq⟩
        · rw [if_neg (by simpa using hc)] at hq
          exact ifN (show ¬ decide ((10 : Int) ^ (18 : Int).toNat ≤ z) = true by simpa using hc) hq
      · refine ⟨p, D, _, _, rfl, rfl, e2 _ _ upd_same, h2, ?_, fun o no => ?_⟩
        · have := List.length_filter_le (fun z => decide ((1000000000000000000 : Int) ≤ z)) ns
          simp only [List.length_map, List.length_cons, List.length_nil]
          exact small9 (by omega)
        · have e3 : Ex H' (upd H2 o (.lst ([.int f, .int 0] ++ (ns.filter (fun z => decide ((1000000000000000000 : Int) ≤ z))).map V.int))) := (e1.trans e2).trans (Ex.new no)
          refine q o _ (fresh_back (e1.trans e2) no) e3 ⟨f, 0, ns.filter (fun z => decide ((1000000000000000000 : Int) ≤ z)), ?_, f0, f1, by decide, fun x hx => ?_⟩
          · rw [upd_same]
            rfl
          · have := (List.mem_filter.mp hx).2
            simp at this
            omega
theorem ok_l_off (T : TX K mg) : FnOk P w K mg base CX0 1 T.f_l_off T.fd_l_off ["_law_d", "_law_most"] sp_l_off := by
  refine T.F_l_off.ok sc_l_off (fun vs H Q E h => ?_) (fun cdv A outer s H vs Q E hr h => ?_)
  · obtain ⟨d, n, rfl, _⟩ := h
    rfl
  · obtain ⟨d, n, rfl, ⟨s0, c, r, hd, s1, s2, c0, r0⟩, n0, n1, q⟩ := h
    refine ⟨_, (pss_cut (ps_if (PW.pt (pw_and (pt_cmpR op_eq (pe_ix ix_list (pv 0) pe_int (fun _ _ => rfl)) pe_int (nomark _)) (pw_and1 (pt_cmpR op_gt (pe_callB call_len_seq (by rfl) T.z_len PySem.boot_len (pa_cons (pv 0) pa_nil)) pe_int (nomark _)))))
 (pss_one (ps_asg (pe_bm PySem.F.plainAttrs_list PySem.F.slot_list_pop PySem.F.type_list_pop mt_popAt (pv 0) (pa_cons pe_int pa_nil)) (pg_sub (pv 0) pe_int set_list)))
 pss_nil)
 (pss_cons (ps_if (pt_cmpR op_gt (pe_ix ix_list (pv 0) pe_int (fun _ _ => rfl)) pe_int (nomark _))
 (pss_cons (ps_set (i := 2) sc_l_off.nd rfl (by first | exact Or.inl rfl | exact Or.inr rfl) (pe_op op_mod (pe_ix ix_list (pv 0) pe_int (fun _ _ => rfl)) (pv 1)))
 (pss_cons (ps_asg (pe_op op_fdiv (pe_ix ix_list (pv 0) pe_int (fun _ _ => rfl)) (pv 1)) (pg_sub (pv 0) pe_int set_list))
 (pss_one (ps_ret (pv 2)))))
 pss_nil)
 (pss_cons (ps_asg (pe_op op_mod (pe_op op_add (pe_op op_mul (pe_ix ix_list (pv 0) pe_int (fun _ _ => rfl)) pe_int) pe_int) pe_int) (pg_sub (pv 0) pe_int set_list))
 (pss_one (ps_ret (pe_op op_mod (pe_op op_fdiv (pe_ix ix_list (pv 0) pe_int (fun _ _ => rfl)) pe_int) (pv 1))))))), ?_⟩
    refine ⟨fun σ H1 => σ = [some (.ref d), some (.int n), none] ∧ Exd d H H1 ∧ ∃ c r, H1 d = some (.lst ((s0 :: c :: r).map V.int)) ∧ 0 ≤ c ∧ ∀ x ∈ r, 0 ≤ x, ?_, ?_⟩
    · refine ⟨_, rfl, d, _, 1, .int c, rfl, rfl, SqL.of hd, atI_nat (j := 1) rfl, rfl, _, rfl, ite2 (fun e => ?_) (fun e => ?_)⟩
      · refine ⟨_, rfl, d, _, rfl, .inl (SqL.of hd), _, _, rfl, rfl, _, rfl, ite2 (fun e2 => ?_) (fun e2 => ⟨rfl, Exd.refl _ _, c, r, hd, c0, r0⟩)⟩
        cases r with
        | nil => exact absurd e2 (by simp)
        | cons z r =>
          refine ⟨_, rfl, .inl ⟨rfl, _, SqL.of hd⟩, d, _, 2, 2, .int z, rfl, rfl, hd, by decide, by decide, ?_, rfl, _, rfl, d, _, 1, 1, rfl, rfl, upd_same, ?_, rfl, ?_, z, r, ?_, r0 _ (List.mem_cons_self), fun x hx => r0 x (List.mem_cons_of_mem _ hx)⟩
          · simp [seqIndex?]; omega
          · simp [ixN]; omega
          · exact ((Exd.refl _ _).upd).upd
          · rw [upd_same]; rfl
      · exact ⟨rfl, Exd.refl _ _, c, r, hd, c0, r0⟩
    · rintro σ H1 ⟨rfl, e1, c, r, hd, c0, r0⟩
      refine ⟨_, rfl, d, _, 1, .int c, rfl, rfl, SqL.of hd, atI_nat (j := 1) rfl, _, _, rfl, rfl, _, rfl, ite2 (fun e => ?_) (fun e => ?_)⟩
      · refine ⟨_, rfl, d, _, 1, .int c, rfl, rfl, SqL.of hd, atI_nat (j := 1) rfl, _, rfl, _, _, rfl, rfl, n0, ?_⟩
        refine ⟨_, rfl, d, _, 1, .int c, rfl, rfl, SqL.of hd, atI_nat (j := 1) rfl, _, rfl, _, _, rfl, rfl, ⟨n0, n1⟩, _, rfl, d, _, 1, 1, rfl, rfl, hd, ?_, ?_⟩
        · simp [ixN]; omega
        · refine ⟨_, rfl, q _ _ (Int.emod_nonneg _ (by omega)) (Int.emod_lt_of_pos _ n0) e1.upd ⟨s0, c / n, r, ?_, s1, s2, Int.ediv_nonneg c0 (by omega), r0⟩⟩
          rw [upd_same]; rfl
      · refine ⟨_, rfl, d, _, 0, .int s0, rfl, rfl, SqL.of hd, atI_nat (j := 0) rfl, _, _, rfl, rfl, .inl ⟨by omega, by omega⟩, _, _, rfl, rfl, _, _, rfl, rfl, (by decide : (0 : Int) < 2147483647), _, rfl, d, _, 0, 0, rfl, rfl, hd, ?_, ?_⟩
        · simp [ixN]; omega
        · refine ⟨_, rfl, d, _, 0, .int ((s0 * 48271 + 11) % 2147483647), rfl, rfl, SqL.of upd_same, atI_nat (j := 0) rfl, _, _, rfl, rfl, ⟨by decide, by decide⟩, _, rfl, _, _, rfl, rfl, n0, ?_⟩
          refine q _ _ (Int.emod_nonneg _ (by omega)) (Int.emod_lt_of_pos _ n0) e1.upd ⟨(s0 * 48271 + 11) % 2147483647, c, r, ?_, Int.emod_nonneg _ (by decide), Int.emod_lt_of_pos _ (by decide), c0, r0⟩
          rw [upd_same]; rfl
def FT (H : Hp) (j q : Nat) (v : V) : Prop := ∃ τ, v = .ref τ ∧ H τ = some (.tup [nv j, nv q])
theorem ok_gone_through (T : TX K mg) : FnOk P w K mg base CX0 1 T.f_gone_through T.fd_gone_through ["room", "one", "other"] sp_gone_through := by
  refine T.F_gone_through.ok sc_gone_through (fun vs H Q E h => ?_) (fun cdv A outer s H vs Q E hr h => ?_)
  · obtain ⟨_, _, _, _, _, _, rfl, _⟩ := h
    rfl
  · obtain ⟨r, a, b, s0, p0, q0, rfl, hr1, ha, hb, hres, q⟩ := h
    obtain ⟨m, hm⟩ : ∃ m, m = max a b + 1 := ⟨_, rfl⟩
    have hm0 : 0 < m := by omega
    have hm1 : m ≤ 101 := by omega
    refine ⟨_, (pss_cons (ps_set (i := 3) sc_gone_through.nd rfl (by first | exact Or.inl rfl | exact Or.inr rfl) (pe_op op_add (pe_callB (call_max2 rfl) (by rfl) T.z_max (by decide +kernel) (pa_cons (pv 1) (pa_cons (pv 2) pa_nil))) pe_int))
 (pss_cons (ps_set (i := 4) sc_gone_through.nd rfl (by first | exact Or.inl rfl | exact Or.inr rfl) (pe_op op_rep (pe_lst (pa_cons pe_int pa_nil)) (pv 3)))
 (pss_cons (ps_set (i := 5) sc_gone_through.nd rfl (by first | exact Or.inl rfl | exact Or.inr rfl) (pe_op op_rep (pe_lst (pa_cons pe_int pa_nil)) (pv 3)))
 (pss_cons (ps_set (i := 6) sc_gone_through.nd rfl (by first | exact Or.inl rfl | exact Or.inr rfl) pe_dnewT)
 (pss_cons (ps_set (i := 7) sc_gone_through.nd rfl (by first | exact Or.inl rfl | exact Or.inr rfl) pe_int)
 (pss_one (ps_while PassesOwn.never (pt_val pe_bl)
 (pss_cons (ps_set (i := 8) sc_gone_through.nd rfl (by first | exact Or.inl rfl | exact Or.inr rfl) (pe_ix ix_list (pv 5) pe_int (fun _ _ => rfl)))
 (pss_cons (ps_set (i := 9) sc_gone_through.nd rfl (by first | exact Or.inl rfl | exact Or.inr rfl) (pe_callTy call_tuple_of (by rfl) T.z_tuple (by decide +kernel) (pa_cons (pe_lc (own := [("number", 10)]) (g := gName 10) (by rfl) sc_gone_through.nd (pi_list (pe_op op_cat (pv 4) (pv 5))) (blkOk_by (own := [("number", 10)]) (N := ["room", "one", "other", "many", "puts", "gets", "met", "moment", "base", "key", "number", "begin", "put", "goes_in", "goes_out"]) (sc := defScope s_gone_through) (by decide +kernel)) (fun _ _ _ _ _ => pg_name (i := 10) sc_gone_through.nd rfl (Or.inl rfl)) (fun _ _ _ _ _ => pts_nil) (fun _ _ _ _ _ => (pe_op op_sub (pv 10) (pv 8)))) pa_nil)))
 (pss_cons (ps_if (pt_cmp (pc_din (hu_of hr) (pv 9) (pv 6)))
 (pss_cons (ps_asg (pe_dget (hu_of hr) (pv 6) (pv 9) (fun _ _ => rfl)) (pg_tup (by rfl) (pgs_cons (pg_name (i := 11) sc_gone_through.nd rfl (by first | exact Or.inl rfl | exact Or.inr rfl)) (pgs_cons (pg_name (i := 12) sc_gone_through.nd rfl (by first | exact Or.inl rfl | exact Or.inr rfl)) pgs_nil))))
 (pss_one (ps_ret (pe_tup (pa_cons (pv 11) (pa_cons (pe_op op_sub (pv 7) (pv 11)) (pa_cons (pe_op op_sub (pe_ix ix_list (pv 4) (pe_un un_neg pe_int) (fun _ _ => rfl)) (pv 12)) pa_nil)))))))
 pss_nil)
 (pss_cons (ps_dput (hu_of hr) (pv 6) (pv 9) (pe_tup (pa_cons (pv 7) (pa_cons (pe_ix ix_list (pv 4) (pe_un un_neg pe_int) (fun _ _ => rfl)) pa_nil))) rfl)
 (pss_cons (ps_set (i := 13) sc_gone_through.nd rfl (by first | exact Or.inl rfl | exact Or.inr rfl) (pe_cmpR op_lt (pe_op op_sub (pe_ix ix_list (pv 4) (pe_un un_neg pe_int) (fun _ _ => rfl)) (pe_ix ix_list (pv 5) (pe_op op_sub (pe_op op_sub (pv 3) pe_int) (pv 1)) (fun _ _ => rfl))) (pv 0) (nomark _)))
 (pss_cons (ps_set (i := 14) sc_gone_through.nd rfl (by first | exact Or.inl rfl | exact Or.inr rfl) (pe_cmpR op_gt (pe_ix ix_list (pv 4) (pe_op op_sub (pe_op op_sub (pv 3) pe_int) (pv 2)) (fun _ _ => rfl)) (pe_ix ix_list (pv 5) (pe_un un_neg pe_int) (fun _ _ => rfl)) (nomark _)))
 (pss_cons (ps_set (i := 4) sc_gone_through.nd rfl (by first | exact Or.inl rfl | exact Or.inr rfl) (pe_op op_cat (pe_slice sl_list (pv 4) (po_some pe_int) po_none) (pe_lst (pa_cons (pe_op op_add (pe_ix ix_list (pv 4) (pe_un un_neg pe_int) (fun _ _ => rfl)) (pe_callTy call_int1 (by rfl) T.z_int (by decide +kernel) (pa_cons (pv 13) pa_nil))) pa_nil))))
 (pss_cons (ps_set (i := 5) sc_gone_through.nd rfl (by first | exact Or.inl rfl | exact Or.inr rfl) (pe_op op_cat (pe_slice sl_list (pv 5) (po_some pe_int) po_none) (pe_lst (pa_cons (pe_op op_add (pe_ix ix_list (pv 5) (pe_un un_neg pe_int) (fun _ _ => rfl)) (pe_callTy call_int1 (by rfl) T.z_int (by decide +kernel) (pa_cons (pv 14) pa_nil))) pa_nil))))
 (pss_one (ps_set (i := 7) sc_gone_through.nd rfl (by first | exact Or.inl rfl | exact Or.inr rfl) (pe_op op_add (pv 7) pe_int)))))))))))))))))), ?_⟩
    refine ⟨_, rfl, _, rfl, _, _, rfl, _, _, rfl, rfl, ?_⟩
    have em : ((if (b : Int) > (a : Int) then (b : Int) else (a : Int)) + 1) = (m : Int) := by rw [int_max]; omega
    refine ⟨small9 (by simp), fun l1 n1 => ⟨_, rfl, l1, (m : Int), _, rfl, by rw [← em], upd_same, by omega, by omega, small9 (by simp; omega), fun pp np => ?_⟩⟩
    refine ⟨small9 (by simp), fun l2 n2 => ⟨_, rfl, l2, (m : Int), _, rfl, by rw [← em], upd_same, by omega, by omega, small9 (by simp; omega), fun pg ng => ?_⟩⟩
    intro d nd
    have e1 := Ex.new (o := HO.lst [.int 0]) n1
    have e2 := Ex.new (o := HO.lst (List.replicate (m : Int).toNat [V.int 0]).flatten) np
    have e3 := Ex.new (o := HO.lst [.int 0]) n2
    have e4 := Ex.new (o := HO.lst (List.replicate (m : Int).toNat [V.int 0]).flatten) ng
    have e5 := Ex.new (o := HO.dT []) nd
    have eall := (((e1.trans e2).trans e3).trans e4).trans e5
    have z0 : (List.replicate (m : Int).toNat [V.int 0]).flatten = (nwin m [0]).map nv := by
      rw [rep_flat, nwin_zero, List.map_replicate]
      rfl
    refine ⟨fun f σ H' => ∃ (t : Nat) (ps gs : List Nat) (ks : List (List Nat)) (kvs : List (List Key × V)) (pp pg d : Addr) (y8 y9 y10 y11 y12 y13 y14 : Option V),
      σ = [some (nv r), some (nv a), some (nv b), some (nv m), some (.ref pp), some (.ref pg), some (.ref d), some (nv t), y8, y9, y10, y11, y12, y13, y14] ∧ Ex H H' ∧ H d = none ∧
      H' pp = some (.lst ((nwin m ps).map nv)) ∧ H' pg = some (.lst ((nwin m gs).map nv)) ∧ H' d = some (.dT kvs) ∧ Met FT H' ks ps.tail kvs ∧ t = ks.length ∧ t + f = 40 ∧ sgo r a b m f t ps gs ks = some (s0, p0, q0) ∧ SInv ps gs,
      ⟨40, 0, [0], [0], [], [], pp, pg, d, none, none, none, none, none, none, none, ?_, eall, fresh_back (((e1.trans e2).trans e3).trans e4) nd, ?_, ?_, upd_same, rfl, rfl, rfl, by rw [hm]; exact hres, SInv.start⟩, ?_⟩
    · exact congrArg (fun z => [some (nv r), some (nv a), some (nv b), some (V.int z), some (.ref pp), some (.ref pg), some (.ref d), some (nv 0), none, none, none, none, none, none, none]) em
    · rw [((e3.trans e4).trans e5) _ _ upd_same, z0]
    · rw [e5 _ _ upd_same, z0]
    rintro f σ H' ⟨t, ps, gs, ks, kvs, pp, pg, d, y8, y9, y10, y11, y12, y13, y14, rfl, e0, nd, hpp, hpg, hd, hM, ht, htf, hgo, hI⟩
    obtain ⟨f, rfl⟩ := sgo_pos hgo
    refine ⟨true, rfl, iteT ⟨fun σ' H' => ∃ (t : Nat) (ps gs : List Nat) (ks : List (List Nat)) (kvs : List (List Key × V)) (pp pg d : Addr) (y8 y9 y10 y11 y12 y13 y14 : Option V),
      σ' = [some (nv r), some (nv a), some (nv b), some (nv m), some (.ref pp), some (.ref pg), some (.ref d), some (nv t), y8, y9, y10, y11, y12, y13, y14] ∧ Ex H H' ∧ H d = none ∧
      H' pp = some (.lst ((nwin m ps).map nv)) ∧ H' pg = some (.lst ((nwin m gs).map nv)) ∧ H' d = some (.dT kvs) ∧ Met FT H' ks ps.tail kvs ∧ t = ks.length ∧ t + f = 40 ∧ sgo r a b m f t ps gs ks = some (s0, p0, q0) ∧ SInv ps gs, fun σ' H' h => ⟨f, Nat.lt_succ_self f, h⟩, ?_⟩⟩
    have lp : ((nwin m ps).map nv).length = m := by rw [List.length_map, nwin_len]
    have lg : ((nwin m gs).map nv).length = m := by rw [List.length_map, nwin_len]
    -- base = gets[0]
    refine ⟨_, rfl, pg, _, 0, _, rfl, rfl, SqL.of hpg, atI_nat (j := 0) (nwin_at gs hm0), ?_⟩
    -- key
    refine ⟨_, rfl, _, rfl, pp, pg, _, _, rfl, rfl, hpp, hpg, small9 (by rw [lp, lg]; omega), fun o no => ?_⟩
    have eo := Ex.new (o := HO.lst ((nwin m ps).map nv ++ (nwin m gs).map nv)) no
    have so : SqL K (upd H' o (.lst ((nwin m ps).map nv ++ (nwin m gs).map nv))) o ((nwin m ps ++ nwin m gs).map nv) := SqL.of (by rw [upd_same, List.map_append])
    refine ⟨o, rfl, ⟨_, so⟩, fun D nD => lcM (nwin m ps ++ nwin m gs) nv (fun x => nv (x - gs.getD (m - 1) 0)) so (by rw [List.length_append, nwin_len, nwin_len]; omega) nD (fun _ => rfl) (fun x hx H2 e2 Y hY => ?_) (fun H2 e2 h2 => ?_)⟩
    · refine ⟨_, rfl, _, rfl, _, _, rfl, rfl, ?_⟩
      have := hI.base m x hx
      have e : (x : Int) - (gs.getD (m - 1) 0 : Int) = ((x - gs.getD (m - 1) 0 : Nat) : Int) := by omega
      show Y (V.int ((x : Int) - (gs.getD (m - 1 - 0) 0 : Int))) H2
      rw [Nat.sub_zero, e]
      exact hY _ (Ex.refl _)
    refine ⟨D, _, rfl, .inl ⟨SqL.of h2, fun kk nk => ?_⟩⟩
    have h2k : (upd H2 kk (.tup ((nwin m ps ++ nwin m gs).map fun x => nv (x - gs.getD (m - 1) 0)))) kk = some (.tup ((skk (skey m ps gs)).map kV)) := by
      rw [upd_same, skk_kV, skey, List.map_map]
      rfl
    have e3 := (eo.trans e2).trans (Ex.new (o := HO.tup ((nwin m ps ++ nwin m gs).map fun x => nv (x - gs.getD (m - 1) 0))) nk)
    have e03 := e0.trans e3
    have hpp := e3 _ _ hpp
    have hpg := e3 _ _ hpg
    have hd := e3 _ _ hd
    have hM := hM.imp (H' := upd H2 kk (.tup ((nwin m ps ++ nwin m gs).map fun x => nv (x - gs.getD (m - 1) 0)))) (fun j q v ⟨τ, h1, h2⟩ => ⟨τ, h1, e3 _ _ h2⟩)
    generalize upd H2 kk (.tup ((nwin m ps ++ nwin m gs).map fun x => nv (x - gs.getD (m - 1) 0))) = H3 at *
    -- key in met
    refine ⟨_, rfl, _, rfl, d, _, rfl, DGet.t hd h2k, _, rfl, ?_⟩
    cases hi : ixOf (skey m ps gs) ks with
    | some i =>
      obtain ⟨v, hv, τ, rfl, hτ⟩ := hM.some hi
      have hx := sgo_hit hgo hi
      have hlt := (ixOf_some hi).1
      rw [hv]
      refine iteT ?_
      refine ⟨_, rfl, _, rfl, d, .ref τ, rfl, ?_, τ, _, rfl, SqT.of hτ, rfl, _, _, rfl, _, _, rfl, rfl, ?_⟩
      · rw [← hv]
        exact DGet.t hd h2k
      refine ⟨_, rfl, _, rfl, _, rfl, _, _, rfl, rfl, _, rfl, 1, rfl, pp, _, -1, _, rfl, rfl, SqL.of hpp, nwin_last ps hm0, _, rfl, _, _, rfl, rfl, small9 (by simp), fun o' no' => ?_⟩
      refine q o' _ (fresh_back e03 no') (e03.trans (Ex.new no')) ?_
      rw [upd_same]
      have hx1 : s0 = t - 1 - i := congrArg (·.1) hx
      have hx2 : p0 = i + 1 := congrArg (·.2.1) hx
      have hx3 : q0 = ps.getD 0 0 - ps.getD (i + 1) 0 := congrArg (·.2.2) hx
      have hle := mono_getD hI.p 0 (i + 1)
      rw [Nat.zero_add] at hle
      have eq1 : ps.tail.getD i 0 = ps.getD (i + 1) 0 := by cases ps <;> simp
      show some (HO.tup [V.int ((ks.length - 1 - i : Nat) : Int), V.int ((t : Int) - ((ks.length - 1 - i : Nat) : Int)), V.int ((ps.getD 0 0 : Int) - (ps.tail.getD i 0 : Int))]) = some (HO.tup [V.int (s0 : Int), V.int (p0 : Int), V.int (q0 : Int)])
      rw [eq1, hx1, hx2, hx3, show ks.length - 1 - i = t - 1 - i by omega, show (t : Int) - ((t - 1 - i : Nat) : Int) = ((i + 1 : Nat) : Int) by omega, show (ps.getD 0 0 : Int) - (ps.getD (i + 1) 0 : Int) = ((ps.getD 0 0 - ps.getD (i + 1) 0 : Nat) : Int) by omega]
    | none =>
      have hn := ixOf_none hi
      have hgo := sgo_miss hgo hi
      rw [hM.none hn]
      refine iteF ?_
      -- met[key] = (moment, puts[-1])
      refine ⟨_, rfl, _, rfl, 1, rfl, pp, _, -1, _, rfl, rfl, SqL.of hpp, nwin_last ps hm0, small9 (by simp), fun τ nτ => ?_⟩
      have eτ := Ex.new (o := HO.tup [nv t, nv (ps.getD 0 0)]) nτ
      refine ⟨_, rfl, _, rfl, d, _, rfl, DPut.t (eτ _ _ hd) (eτ _ _ h2k) (small1000 (by rw [hM.len]; omega)), ?_⟩
      have ndp : pp ≠ d := ne_of hpp hd (by intro z; cases z)
      have ndg : pg ≠ d := ne_of hpg hd (by intro z; cases z)
      have ndτ : τ ≠ d := (ne_of_none hd nτ).symm
      have hpp5 : (upd (upd H3 τ (.tup [nv t, nv (ps.getD 0 0)])) d (.dT (putK kvs (skk (skey m ps gs)) (.ref τ)))) pp = some (.lst ((nwin m ps).map nv)) := by
        rw [upd_ne ndp]
        exact eτ _ _ hpp
      have hpg5 : (upd (upd H3 τ (.tup [nv t, nv (ps.getD 0 0)])) d (.dT (putK kvs (skk (skey m ps gs)) (.ref τ)))) pg = some (.lst ((nwin m gs).map nv)) := by
        rw [upd_ne ndg]
        exact eτ _ _ hpg
      have hM5 : Met FT (upd (upd H3 τ (.tup [nv t, nv (ps.getD 0 0)])) d (.dT (putK kvs (skk (skey m ps gs)) (.ref τ)))) (skey m ps gs :: ks) ps (putK kvs (skk (skey m ps gs)) (.ref τ)) := by
        have hMi : Met FT (upd (upd H3 τ (.tup [nv t, nv (ps.getD 0 0)])) d (.dT (putK kvs (skk (skey m ps gs)) (.ref τ)))) ks ps.tail kvs := hM.imp fun j q v hv => by
          obtain ⟨τ', h1, h9⟩ := hv
          exact ⟨τ', h1, by rw [upd_ne (ne_of h9 hd (by intro z; cases z))]; exact eτ _ _ h9⟩
        exact hMi.add hn ⟨τ, rfl, by rw [upd_ne ndτ, upd_same, ht]⟩
      have hd5 : (upd (upd H3 τ (.tup [nv t, nv (ps.getD 0 0)])) d (.dT (putK kvs (skk (skey m ps gs)) (.ref τ)))) d = some (.dT (putK kvs (skk (skey m ps gs)) (.ref τ))) := upd_same
      have e05 : Ex H (upd (upd H3 τ (.tup [nv t, nv (ps.getD 0 0)])) d (.dT (putK kvs (skk (skey m ps gs)) (.ref τ)))) := (e03.trans eτ).mut nd
      generalize upd (upd H3 τ (.tup [nv t, nv (ps.getD 0 0)])) d (.dT (putK kvs (skk (skey m ps gs)) (.ref τ))) = H5 at *
      have ea : (m : Int) - 1 - (a : Int) = ((m - 1 - a : Nat) : Int) := by omega
      have eb : (m : Int) - 1 - (b : Int) = ((m - 1 - b : Nat) : Int) := by omega
      have ia : m - 1 - (m - 1 - a) = a := by omega
      have ib : m - 1 - (m - 1 - b) = b := by omega
      -- goes_in, goes_out
      refine ⟨_, rfl, 1, rfl, pp, _, -1, _, rfl, rfl, SqL.of hpp5, nwin_last ps hm0, _, rfl, _, rfl, _, _, rfl, rfl, _, rfl, _, _, rfl, rfl, pg, _, _, _, rfl, rfl, SqL.of hpg5, ats ea (nwin_at gs (by omega)), _, _, rfl, rfl, _, rfl, _, _, rfl, rfl, ?_⟩
      refine ⟨_, rfl, _, rfl, _, _, rfl, rfl, _, rfl, _, _, rfl, rfl, pp, _, _, _, rfl, rfl, SqL.of hpp5, ats eb (nwin_at ps (by omega)), _, rfl, 1, rfl, pg, _, -1, _, rfl, rfl, SqL.of hpg5, nwin_last gs hm0, _, _, rfl, rfl, ?_⟩
      rw [ia, ib]
      -- puts
      refine ⟨_, rfl, 1, rfl, pp, _, rfl, SqL.of hpp5, fun s1 ns1 => ?_⟩
      have es1 := Ex.new (o := HO.lst (cutV ((nwin m ps).map nv) (some 1) none)) ns1
      have en1 : V.int ((ps.getD 0 0 : Int) + (if decide ((ps.getD 0 0 : Int) - (gs.getD a 0 : Int) < (r : Int)) = true then (1 : Int) else 0)) = nv (newP r a ps gs) := by
        rw [b2n]
        unfold newP
        congr 3
        exact propext ⟨fun h => by have := of_decide_eq_true h; omega, fun h => decide_eq_true (by omega)⟩
      refine ⟨_, rfl, 1, rfl, pp, _, -1, _, rfl, rfl, SqL.of (es1 _ _ hpp5), nwin_last ps hm0, _, rfl, .inr ⟨_, rfl, _, _, rfl, rfl, ?_⟩⟩
      dsimp only
      rw [en1]
      refine ⟨small9 (by simp), fun s2 ns2 => ?_⟩
      have es2 := es1.trans (Ex.new (o := HO.lst [nv (newP r a ps gs)]) ns2)
      refine ⟨s1, s2, _, _, rfl, rfl, (Ex.new ns2) _ _ upd_same, upd_same, small9 (by rw [cut1]; simp [nwin_len]; omega), fun pp' npp' => ?_⟩
      have es3 := es2.trans (Ex.new (o := HO.lst (cutV ((nwin m ps).map nv) (some 1) none ++ [nv (newP r a ps gs)])) npp')
      have hpp6 := upd_same (H := (upd (upd H5 s1 (.lst (cutV ((nwin m ps).map nv) (some 1) none))) s2 (.lst [nv (newP r a ps gs)]))) (a := pp') (o := HO.lst (cutV ((nwin m ps).map nv) (some 1) none ++ [nv (newP r a ps gs)]))
      have hpg6 := es3 _ _ hpg5
      have hd6 := es3 _ _ hd5
      have hM6 : Met FT (upd (upd (upd H5 s1 (.lst (cutV ((nwin m ps).map nv) (some 1) none))) s2 (.lst [nv (newP r a ps gs)])) pp' (.lst (cutV ((nwin m ps).map nv) (some 1) none ++ [nv (newP r a ps gs)]))) (skey m ps gs :: ks) ps (putK kvs (skk (skey m ps gs)) (.ref τ)) := hM5.imp fun j q v hv => by
        obtain ⟨τ', h1, h9⟩ := hv
        exact ⟨τ', h1, es3 _ _ h9⟩
      have e06 := e05.trans es3
      generalize upd (upd (upd H5 s1 (.lst (cutV ((nwin m ps).map nv) (some 1) none))) s2 (.lst [nv (newP r a ps gs)])) pp' (.lst (cutV ((nwin m ps).map nv) (some 1) none ++ [nv (newP r a ps gs)])) = H6 at hpp6 hpg6 hd6 hM6 e06 ⊢
      rw [cut1, ← List.map_drop, show [nv (newP r a ps gs)] = [newP r a ps gs].map nv from rfl, ← List.map_append, nwin_new ps _ hm0] at hpp6
      clear es1 es2 es3 hpp5 hpg5 hd5 hM5 e05
      -- gets
      refine ⟨_, rfl, 1, rfl, pg, _, rfl, SqL.of hpg6, fun s3 ns3 => ?_⟩
      have es1 := Ex.new (o := HO.lst (cutV ((nwin m gs).map nv) (some 1) none)) ns3
      have en2 : V.int ((gs.getD 0 0 : Int) + (if decide ((gs.getD 0 0 : Int) < (ps.getD b 0 : Int)) = true then (1 : Int) else 0)) = nv (newG b ps gs) := by
        rw [b2n]
        unfold newG
        congr 3
        exact propext ⟨fun h => by have := of_decide_eq_true h; omega, fun h => decide_eq_true (by omega)⟩
      refine ⟨_, rfl, 1, rfl, pg, _, -1, _, rfl, rfl, SqL.of (es1 _ _ hpg6), nwin_last gs hm0, _, rfl, .inr ⟨_, rfl, _, _, rfl, rfl, ?_⟩⟩
      dsimp only
      rw [en2]
      refine ⟨small9 (by simp), fun s4 ns4 => ?_⟩
      have es2 := es1.trans (Ex.new (o := HO.lst [nv (newG b ps gs)]) ns4)
      refine ⟨s3, s4, _, _, rfl, rfl, (Ex.new ns4) _ _ upd_same, upd_same, small9 (by rw [cut1]; simp [nwin_len]; omega), fun pg' npg' => ?_⟩
      have es3 := es2.trans (Ex.new (o := HO.lst (cutV ((nwin m gs).map nv) (some 1) none ++ [nv (newG b ps gs)])) npg')
      refine ⟨_, rfl, _, _, rfl, rfl, ?_⟩
      refine ⟨t + 1, newP r a ps gs :: ps, newG b ps gs :: gs, skey m ps gs :: ks, _, pp', pg', d, _, _, _, _, _, _, _, rfl, e06.trans es3, nd, es3 _ _ hpp6, ?_, es3 _ _ hd6, ?_, by rw [ht]; rfl, by omega, hgo, hI.step r a b⟩
      · rw [upd_same, cut1, ← List.map_drop, show [nv (newG b ps gs)] = [newG b ps gs].map nv from rfl, ← List.map_append, nwin_new gs _ hm0]
      · exact hM6.imp fun j q v hv => by
          obtain ⟨τ', h1, h9⟩ := hv
          exact ⟨τ', h1, es3 _ _ h9⟩
def sp_need_late : Sp := fun vs H Q _ => ∃ a b : Nat, vs = [nv a, nv b] ∧ a ≤ 6 ∧ b ≤ 6 ∧ Q .non H
theorem ok_need_late (T : TX K mg) : FnOk P w K mg base CX0 1 T.f_need_late T.fd_need_late ["one", "other"] sp_need_late := by
  refine T.F_need_late.ok sc_need_late (fun vs H Q E h => ?_) (fun cdv A outer s H vs Q E hr h => ?_)
  · obtain ⟨_, _, rfl, _⟩ := h
    rfl
  · obtain ⟨a, b, rfl, ha, hb, q⟩ := h
    refine ⟨_, (pss_one (ps_if (PW.pt (pw_or (pt_not (pt_chain op_le op_le pe_int (pv 0) (pe_glob (v := .int 6) (by rfl) T.c_MOST_LATE ⟨_, rfl⟩))) (pw_or1 (pt_not (pt_chain op_le op_le pe_int (pv 1) (pe_glob (v := .int 6) (by rfl) T.c_MOST_LATE ⟨_, rfl⟩))))))
 (pss_one ps_never)
 pss_nil)), ?_⟩
    refine ⟨_, rfl, _, _, rfl, rfl, _, rfl, ifP (decide_eq_true (by omega)) ⟨_, _, rfl, rfl, _, rfl, ifN (by simp; omega) ?_⟩⟩
    refine ⟨_, rfl, _, _, rfl, rfl, _, rfl, ifP (decide_eq_true (by omega)) ⟨_, _, rfl, rfl, _, rfl, ifN (by simp; omega) q⟩⟩
def sp_least_room : Sp := fun vs H Q _ => ∃ a b : Nat, vs = [nv a, nv b] ∧ a ≤ 6 ∧ b ≤ 6 ∧ RetV (nv (a + b + 2)) H Q
theorem ok_least_room (T : TX K mg) : FnOk P w K mg base CX0 2 T.f_least_room T.fd_least_room ["one", "other"] sp_least_room := by
  refine T.F_least_room.ok sc_least_room (fun vs H Q E h => ?_) (fun cdv A outer s H vs Q E hr h => ?_)
  · obtain ⟨_, _, rfl, _⟩ := h
    rfl
  · obtain ⟨a, b, rfl, ha, hb, q⟩ := h
    refine ⟨_, (pss_cons (ps_expr (pe_call (ok_need_late T) (hr.mono (by decide)) (by rfl) T.g_need_late T.F_need_late.kp T.b_need_late .nil pass0 (pa_cons (pv 0) (pa_cons (pv 1) pa_nil))))
 (pss_cons (ps_set (i := 2) sc_least_room.nd rfl (by first | exact Or.inl rfl | exact Or.inr rfl) pe_int)
 (pss_one (ps_while PassesOwn.never (pt_val pe_bl)
 (pss_cons (ps_asg (pe_call (ok_gone_through T) (hr.mono (by decide)) (by rfl) T.g_gone_through T.F_gone_through.kp T.b_gone_through .nil pass0 (pa_cons (pv 2) (pa_cons (pv 0) (pa_cons (pv 1) pa_nil)))) (pg_tup (by rfl) (pgs_cons (pg_name (i := 3) sc_least_room.nd rfl (by first | exact Or.inl rfl | exact Or.inr rfl)) (pgs_cons (pg_name (i := 4) sc_least_room.nd rfl (by first | exact Or.inl rfl | exact Or.inr rfl)) (pgs_cons (pg_name (i := 5) sc_least_room.nd rfl (by first | exact Or.inl rfl | exact Or.inr rfl)) pgs_nil)))))
 (pss_cons (ps_if (pt_cmpR op_eq (pv 4) (pv 5) (nomark _))
 (pss_one (ps_ret (pv 2)))
 pss_nil)
 (pss_one (ps_set (i := 2) sc_least_room.nd rfl (by first | exact Or.inl rfl | exact Or.inr rfl) (pe_op op_add (pv 2) pe_int))))))))), ?_⟩
    refine ⟨_, rfl, _, rfl, a, b, rfl, ha, hb, ?_⟩
    refine ⟨fun f σ H' => ∃ (r : Nat) (y3 y4 y5 : Option V), σ = [some (nv a), some (nv b), some (nv r), y3, y4, y5] ∧ Ex H H' ∧ 1 ≤ r ∧ r + f = a + b + 2, ⟨a + b + 1, 1, none, none, none, rfl, Ex.refl _, by omega, by omega⟩, ?_⟩
    rintro f σ H' ⟨r, y3, y4, y5, rfl, e0, hr1, hrf⟩
    obtain ⟨s0, p0, q0, hres, hq, hp⟩ := sRes_ok hr1 (show r ≤ 20 by omega) ha hb
    refine ⟨true, rfl, iteT ⟨fun σ' H' => ∃ (r : Nat) (y3 y4 y5 : Option V), σ' = [some (nv a), some (nv b), some (nv r), y3, y4, y5] ∧ Ex H H' ∧ 1 ≤ r ∧ r + f = a + b + 3 ∧ 0 < f, fun σ' H' h => ?_, ?_⟩⟩
    · obtain ⟨r, y3, y4, y5, h1, h2, h3, h4, h5⟩ := h
      exact ⟨f - 1, by omega, r, y3, y4, y5, h1, h2, h3, by omega⟩
    refine ⟨_, rfl, _, rfl, _, rfl, r, a, b, s0, p0, q0, rfl, by omega, by omega, by omega, hres, fun x H2 nx e2 hx => ?_⟩
    refine ⟨x, _, rfl, SqT.of hx, rfl, _, _, rfl, _, _, rfl, _, _, rfl, rfl, ?_⟩
    refine ⟨_, rfl, _, rfl, rfl, _, rfl, ite2 (fun e => ?_) (fun e => ?_)⟩
    · have e : (p0 : Int) = (q0 : Int) := V.int.inj (of_decide_eq_true e)
      have e : p0 = q0 := by omega
      rw [← e] at hq
      have hmin : a + b + 2 = min r (a + b + 2) := Nat.eq_of_mul_eq_mul_left (by omega) hq
      have hr2 : r = a + b + 2 := by omega
      refine ⟨_, rfl, ?_⟩
      rw [hr2]
      exact q _ (e0.trans e2)
    · have hne : f ≠ 0 := fun hf => by
        have hr2 : r = a + b + 2 := by omega
        rw [hr2, Nat.min_self] at hq
        have := Nat.eq_of_mul_eq_mul_right (show 0 < a + b + 2 by omega) hq
        exact e (decide_eq_true (by rw [this]))
      refine ⟨_, rfl, _, _, rfl, rfl, ?_⟩
      exact ⟨r + 1, _, _, _, rfl, e0.trans e2, by omega, by omega, by omega⟩
def sp_steady : Sp := fun vs H Q _ => ∃ r a b s p q : Nat, vs = [nv r, nv a, nv b] ∧ 1 ≤ r ∧ r ≤ 20 ∧ a ≤ 6 ∧ b ≤ 6 ∧ sRes r a b = some (s, p, q) ∧ RetU [nv s, nv p, nv q] H Q
theorem ok_steady (T : TX K mg) : FnOk P w K mg base CX0 2 T.f_steady T.fd_steady ["room", "one", "other"] sp_steady := by
  refine T.F_steady.ok sc_steady (fun vs H Q E h => ?_) (fun cdv A outer s H vs Q E hr h => ?_)
  · obtain ⟨_, _, _, _, _, _, rfl, _⟩ := h
    rfl
  · obtain ⟨r, a, b, s0, p0, q0, rfl, hr1, hr2, ha, hb, hres, q⟩ := h
    refine ⟨_, (pss_cons (ps_if (pt_not (pt_chain op_le op_le pe_int (pv 0) (pe_glob (v := .int 20) (by rfl) T.c_MOST_STEADY ⟨_, rfl⟩)))
 (pss_one ps_never)
 pss_nil)
 (pss_cons (ps_expr (pe_call (ok_need_late T) (hr.mono (by decide)) (by rfl) T.g_need_late T.F_need_late.kp T.b_need_late .nil pass0 (pa_cons (pv 1) (pa_cons (pv 2) pa_nil))))
 (pss_one (ps_ret (pe_call (ok_gone_through T) (hr.mono (by decide)) (by rfl) T.g_gone_through T.F_gone_through.kp T.b_gone_through .nil pass0 (pa_cons (pv 0) (pa_cons (pv 1) (pa_cons (pv 2) pa_nil)))))))), ?_⟩
    refine ⟨_, rfl, _, _, rfl, rfl, _, rfl, ifP (decide_eq_true (by omega)) ⟨_, _, rfl, rfl, _, rfl, ifN (by simp; omega) ?_⟩⟩
    exact ⟨_, rfl, _, rfl, a, b, rfl, ha, hb, _, rfl, _, rfl, _, rfl, r, a, b, s0, p0, q0, rfl, by omega, by omega, by omega, hres, q⟩
theorem ok_law (T : TX K mg) : FnOk P w K mg base CX0 7 T.f_law T.fd_law ["_law_script"] (sp_law K) := by
  refine T.F_law.ok sc_law (fun vs H Q E h => ?_) (fun cdv A outer s H vs Q E hr h => ?_)
  · obtain ⟨a, ns, rfl, _⟩ := h
    rfl
  · obtain ⟨a, ns, rfl, hS, hlen, q⟩ := h
    refine ⟨_, (pss_cons (ps_set (i := 1) sc_law.nd rfl (by first | exact Or.inl rfl | exact Or.inr rfl) (pe_call (ok_l_dice T) (hr.mono (by decide)) (by rfl) T.g_l_dice T.F_l_dice.kp T.b_l_dice .nil pass0 (pa_cons (pv 0) (pa_cons pe_int pa_nil))))
 (pss_cons (ps_par (i := 2) (j := 3) (by rfl) sc_law.nd rfl rfl (by decide) rfl rfl (pa_cons (pe_call (ok_l_off T) (hr.mono (by decide)) (by rfl) T.g_l_off T.F_l_off.kp T.b_l_off .nil pass0 (pa_cons (pv 1) (pa_cons pe_int pa_nil))) (pa_cons (pe_call (ok_l_off T) (hr.mono (by decide)) (by rfl) T.g_l_off T.F_l_off.kp T.b_l_off .nil pass0 (pa_cons (pv 1) (pa_cons pe_int pa_nil))) pa_nil)) (by rfl))
 (pss_cons (ps_set (i := 4) sc_law.nd rfl (by first | exact Or.inl rfl | exact Or.inr rfl) (pe_call (ok_least_room T) (hr.mono (by decide)) (by rfl) T.g_least_room T.F_least_room.kp T.b_least_room .nil pass0 (pa_cons (pv 2) (pa_cons (pv 3) pa_nil))))
 (pss_cons (ps_if (PW.pt (pw_or (pt_not (pt_val (pe_call (ok_l_alike T) (hr.mono (by decide)) (by rfl) T.g_l_alike T.F_l_alike.kp T.b_l_alike .nil pass0 (pa_cons (pv 4) (pa_cons (pe_op op_add (pe_op op_add (pv 2) (pv 3)) pe_int) pa_nil))))) (pw_or1 (pt_cmpR op_ne (pe_call (ok_least_room T) (hr.mono (by decide)) (by rfl) T.g_least_room T.F_least_room.kp T.b_least_room .nil pass0 (pa_cons (pv 3) (pa_cons (pv 2) pa_nil))) (pv 4) (nomark _)))))
 (pss_one (ps_ret pe_bl))
 pss_nil)
 (pss_cons (ps_for PassesOwn.never rfl (pi_range2 (by rfl) T.z_range (pa_cons pe_int (pa_cons pe_int pa_nil))) (pg_name (i := 5) sc_law.nd rfl (by first | exact Or.inl rfl | exact Or.inr rfl))
 (pss_cons (ps_asg (pe_call (ok_steady T) (hr.mono (by decide)) (by rfl) T.g_steady T.F_steady.kp T.b_steady .nil pass0 (pa_cons (pv 5) (pa_cons (pv 2) (pa_cons (pv 3) pa_nil)))) (pg_tup (by rfl) (pgs_cons (pg_name (i := 6) sc_law.nd rfl (by first | exact Or.inl rfl | exact Or.inr rfl)) (pgs_cons (pg_name (i := 7) sc_law.nd rfl (by first | exact Or.inl rfl | exact Or.inr rfl)) (pgs_cons (pg_name (i := 8) sc_law.nd rfl (by first | exact Or.inl rfl | exact Or.inr rfl)) pgs_nil)))))
 (pss_cons (ps_if (PW.pt (pw_or (pt_cmpR op_ne (pe_op op_mul (pv 8) (pv 4)) (pe_op op_mul (pv 7) (pe_callB (call_min2 rfl) (by rfl) T.z_min (by decide +kernel) (pa_cons (pv 5) (pa_cons (pv 4) pa_nil)))) (nomark _)) (pw_or (pt_not (pt_cmpR op_le pe_int (pv 6) (nomark _))) (pw_or1 (pt_cmpR op_lt (pv 7) pe_int (nomark _))))))
 (pss_one (ps_ret pe_bl))
 pss_nil)
 (pss_one (ps_if (pt_cmpR op_ne (pe_op op_mul (pe_ix ix_tup (pe_call (ok_steady T) (hr.mono (by decide)) (by rfl) T.g_steady T.F_steady.kp T.b_steady .nil pass0 (pa_cons (pv 5) (pa_cons (pv 3) (pa_cons (pv 2) pa_nil)))) pe_int (fun _ _ => rfl)) (pv 7)) (pe_op op_mul (pv 8) (pe_ix ix_tup (pe_call (ok_steady T) (hr.mono (by decide)) (by rfl) T.g_steady T.F_steady.kp T.b_steady .nil pass0 (pa_cons (pv 5) (pa_cons (pv 3) (pa_cons (pv 2) pa_nil)))) pe_int (fun _ _ => rfl))) (nomark _))
 (pss_one (ps_ret pe_bl))
 pss_nil)))))
 (pss_one (ps_ret pe_bl))))))), ?_⟩
    refine ⟨.ref a, rfl, a, ns, rfl, hS, hlen, fun d H1 _ _ hd => ?_⟩
    refine ⟨_, rfl, d, 7, rfl, hd, by decide, by decide, fun r4 H6 r40 r41 _ hd => ⟨_, rfl, d, 7, rfl, hd, by decide, by decide, fun r5 H7 r50 r51 _ hd => ⟨.int r4, .int r5, rfl, ?_⟩⟩⟩
    obtain ⟨x, rfl⟩ : ∃ p : Nat, r4 = (p : Int) := ⟨r4.toNat, by omega⟩
    obtain ⟨y, rfl⟩ : ∃ o : Nat, r5 = (o : Int) := ⟨r5.toNat, by omega⟩
    have hx : x ≤ 6 := by omega
    have hy : y ≤ 6 := by omega
    refine ⟨_, rfl, _, rfl, x, y, rfl, hx, hy, fun H8 e8 => ?_⟩
    refine ⟨_, rfl, _, rfl, _, rfl, _, _, rfl, rfl, _, _, rfl, rfl, _, _, .int ((x + y + 2 : Nat) : Int), rfl, Da.int _, ?_, fun H9 e9 => ⟨true, rfl, ifN (by simp) ?_⟩⟩
    · show Da H8 5 (V.int ((x : Int) + (y : Int) + 2)) _
      rw [show ((x : Int) + (y : Int) + 2) = ((x + y + 2 : Nat) : Int) by omega]
      exact Da.int _
    refine ⟨_, rfl, _, rfl, y, x, rfl, hy, hx, fun H10 e10 => ⟨_, rfl, rfl, _, rfl, ifN ?_ ?_⟩⟩
    · rw [decide_eq_true (show nv (y + x + 2) = nv (x + y + 2) by rw [Nat.add_comm y x])]
      simp
    refine ⟨1, 21, rfl, ⟨by decide, by decide, by decide, by decide⟩, for_range (lo := 1) (n := 20) (fun i σ H' => ∃ u5 u6 u7 u8, σ = [some (.ref a), some (.ref d), some (nv x), some (nv y), some (nv (x + y + 2)), u5, u6, u7, u8]) ⟨_, _, _, _, rfl⟩ ?_ ?_⟩
    · rintro i σ H2 hi ⟨u5, u6, u7, u8, rfl⟩
      obtain ⟨r, er⟩ : ∃ r : Nat, r = 1 + i := ⟨_, rfl⟩
      have er' : (1 : Int) + (i : Int) = (r : Int) := by omega
      rw [er']
      have hr1 : 1 ≤ r := by omega
      have hr2 : r ≤ 20 := by omega
      obtain ⟨s0, p0, q0, hres, hq, hp⟩ := sRes_ok hr1 hr2 hx hy
      obtain ⟨s1, p1, q1, hres1, hq1, hp1⟩ := sRes_ok hr1 hr2 hy hx
      refine ⟨_, rfl, _, rfl, _, rfl, r, x, y, s0, p0, q0, rfl, hr1, hr2, hx, hy, hres, fun z H3 nz e3 hz => ?_⟩
      refine ⟨z, _, rfl, SqT.of hz, rfl, _, _, rfl, _, _, rfl, _, _, rfl, rfl, ?_⟩
      have emin : (if ((x + y + 2 : Nat) : Int) < (r : Int) then ((x + y + 2 : Nat) : Int) else (r : Int)) = ((min r (x + y + 2) : Nat) : Int) := by
        by_cases h : ((x + y + 2 : Nat) : Int) < (r : Int)
        · rw [if_pos h]; omega
        · rw [if_neg h]; omega
      refine ⟨_, rfl, _, rfl, _, _, rfl, rfl, .inr ⟨by omega, by omega⟩, _, rfl, _, rfl, _, rfl, _, _, rfl, _, _, rfl, rfl, .inr ⟨by omega, by omega⟩, rfl, _, rfl, ifN ?_ ?_⟩
      · rw [decide_eq_true (show V.int ((q0 : Int) * ((x + y + 2 : Nat) : Int)) = V.int ((p0 : Int) * (if ((x + y + 2 : Nat) : Int) < (r : Int) then ((x + y + 2 : Nat) : Int) else (r : Int))) by
          rw [emin]
          exact congrArg V.int (by exact_mod_cast hq))]
        simp
      refine ⟨_, rfl, _, _, rfl, rfl, _, rfl, ifN (by simp) ⟨_, rfl, _, _, rfl, rfl, _, rfl, ifN (by simp; omega) ?_⟩⟩
      refine ⟨_, rfl, _, rfl, _, rfl, r, y, x, s1, p1, q1, rfl, hr1, hr2, hy, hx, hres1, fun z2 H4 nz2 e4 hz2 => ⟨z2, _, 2, nv q1, rfl, rfl, SqT.of hz2, atI_nat (j := 2) rfl, _, rfl, _, _, rfl, rfl, .inr ⟨by omega, by omega⟩, ?_⟩⟩
      refine ⟨_, rfl, _, rfl, _, rfl, _, rfl, r, y, x, s1, p1, q1, rfl, hr1, hr2, hy, hx, hres1, fun z3 H5 nz3 e5 hz3 => ⟨z3, _, 1, nv p1, rfl, rfl, SqT.of hz3, atI_nat (j := 1) rfl, _, _, rfl, rfl, .inr ⟨by omega, by omega⟩, rfl, _, rfl, ifN ?_ ⟨_, _, _, _, rfl⟩⟩⟩
      have key : q1 * p0 = q0 * p1 := by
        refine Nat.eq_of_mul_eq_mul_right (show 0 < x + y + 2 by omega) ?_
        rw [show y + x + 2 = x + y + 2 by omega] at hq1
        calc q1 * p0 * (x + y + 2) = (q1 * (x + y + 2)) * p0 := by rw [Nat.mul_right_comm]
          _ = (p1 * min r (x + y + 2)) * p0 := by rw [hq1]
          _ = (p0 * min r (x + y + 2)) * p1 := by rw [Nat.mul_comm, ← Nat.mul_assoc, Nat.mul_comm p0 p1, Nat.mul_assoc, Nat.mul_comm p1 (p0 * _)]
          _ = (q0 * (x + y + 2)) * p1 := by rw [hq]
          _ = q0 * p1 * (x + y + 2) := by rw [Nat.mul_right_comm]
      rw [decide_eq_true (show V.int ((q1 : Int) * (p0 : Int)) = V.int ((q0 : Int) * (p1 : Int)) from congrArg V.int (by exact_mod_cast key))]
      simp
    · rintro σ H2 ⟨u5, u6, u7, u8, rfl⟩
      exact q _
end
theorem all_mk {l : PySem.W.OpenLaw} {w : World} {K : PySem.W.Frag} {h : Heap} {mg : Str → Option Value} {fa : Addr} (X : K.In h) (G : h.Ns mainGlobals mg) (hfa : mg "law" = some (.ref fa))
    {f_l_alike : Addr} {od_l_alike an_l_alike : Option Addr} {sl_l_alike : Array (Option Value)} {oc_l_alike kV_l_alike dc_l_alike pm_l_alike cd_l_alike ct_l_alike : Value}
    {f_l_dice : Addr} {od_l_dice an_l_dice : Option Addr} {sl_l_dice : Array (Option Value)} {oc_l_dice kV_l_dice dc_l_dice pm_l_dice cd_l_dice ct_l_dice : Value}
    {f_l_off : Addr} {od_l_off an_l_off : Option Addr} {sl_l_off : Array (Option Value)} {oc_l_off kV_l_off dc_l_off pm_l_off cd_l_off ct_l_off : Value}
    {f_gone_through : Addr} {od_gone_through an_gone_through : Option Addr} {sl_gone_through : Array (Option Value)} {oc_gone_through kV_gone_through dc_gone_through pm_gone_through cd_gone_through ct_gone_through : Value}
    {f_need_late : Addr} {od_need_late an_need_late : Option Addr} {sl_need_late : Array (Option Value)} {oc_need_late kV_need_late dc_need_late pm_need_late cd_need_late ct_need_late : Value}
    {f_least_room : Addr} {od_least_room an_least_room : Option Addr} {sl_least_room : Array (Option Value)} {oc_least_room kV_least_room dc_least_room pm_least_room cd_least_room ct_least_room : Value}
    {f_steady : Addr} {od_steady an_steady : Option Addr} {sl_steady : Array (Option Value)} {oc_steady kV_steady dc_steady pm_steady cd_steady ct_steady : Value}
    {f_law : Addr} {od_law an_law : Option Addr} {sl_law : Array (Option Value)} {oc_law kV_law dc_law pm_law cd_law ct_law : Value}
    {t_MOST_LATE : Tok}
    {t_MOST_STEADY : Tok}
    (a_l_alike : PySem.W.nsIn K mainGlobals "_law_alike" = some (some (.ref f_l_alike)))
    (l_l_alike : K.lookup f_l_alike = some ⟨oc_l_alike, od_l_alike, .func (PySem.W.fnOf "_law_alike" "_law_alike" (defArgs s_l_alike) (defBody s_l_alike) (defScope s_l_alike) .none kV_l_alike dc_l_alike pm_l_alike an_l_alike cd_l_alike ct_l_alike), sl_l_alike⟩) (c_l_alike : PySem.W.codeIn K cd_l_alike "_law_alike" = true) (k_l_alike : PySem.W.keepIn K (.ref f_l_alike) = true)
    (a_l_dice : PySem.W.nsIn K mainGlobals "_law_dice" = some (some (.ref f_l_dice)))
    (l_l_dice : K.lookup f_l_dice = some ⟨oc_l_dice, od_l_dice, .func (PySem.W.fnOf "_law_dice" "_law_dice" (defArgs s_l_dice) (defBody s_l_dice) (defScope s_l_dice) .none kV_l_dice dc_l_dice pm_l_dice an_l_dice cd_l_dice ct_l_dice), sl_l_dice⟩) (c_l_dice : PySem.W.codeIn K cd_l_dice "_law_dice" = true) (k_l_dice : PySem.W.keepIn K (.ref f_l_dice) = true)
    (a_l_off : PySem.W.nsIn K mainGlobals "_law_off" = some (some (.ref f_l_off)))
    (l_l_off : K.lookup f_l_off = some ⟨oc_l_off, od_l_off, .func (PySem.W.fnOf "_law_off" "_law_off" (defArgs s_l_off) (defBody s_l_off) (defScope s_l_off) .none kV_l_off dc_l_off pm_l_off an_l_off cd_l_off ct_l_off), sl_l_off⟩) (c_l_off : PySem.W.codeIn K cd_l_off "_law_off" = true) (k_l_off : PySem.W.keepIn K (.ref f_l_off) = true)
    (a_gone_through : PySem.W.nsIn K mainGlobals "gone_through" = some (some (.ref f_gone_through)))
    (l_gone_through : K.lookup f_gone_through = some ⟨oc_gone_through, od_gone_through, .func (PySem.W.fnOf "gone_through" "gone_through" (defArgs s_gone_through) (defBody s_gone_through) (defScope s_gone_through) .none kV_gone_through dc_gone_through pm_gone_through an_gone_through cd_gone_through ct_gone_through), sl_gone_through⟩) (c_gone_through : PySem.W.codeIn K cd_gone_through "gone_through" = true) (k_gone_through : PySem.W.keepIn K (.ref f_gone_through) = true)
    (a_need_late : PySem.W.nsIn K mainGlobals "need_late" = some (some (.ref f_need_late)))
    (l_need_late : K.lookup f_need_late = some ⟨oc_need_late, od_need_late, .func (PySem.W.fnOf "need_late" "need_late" (defArgs s_need_late) (defBody s_need_late) (defScope s_need_late) .none kV_need_late dc_need_late pm_need_late an_need_late cd_need_late ct_need_late), sl_need_late⟩) (c_need_late : PySem.W.codeIn K cd_need_late "need_late" = true) (k_need_late : PySem.W.keepIn K (.ref f_need_late) = true)
    (a_least_room : PySem.W.nsIn K mainGlobals "least_room" = some (some (.ref f_least_room)))
    (l_least_room : K.lookup f_least_room = some ⟨oc_least_room, od_least_room, .func (PySem.W.fnOf "least_room" "least_room" (defArgs s_least_room) (defBody s_least_room) (defScope s_least_room) .none kV_least_room dc_least_room pm_least_room an_least_room cd_least_room ct_least_room), sl_least_room⟩) (c_least_room : PySem.W.codeIn K cd_least_room "least_room" = true) (k_least_room : PySem.W.keepIn K (.ref f_least_room) = true)
    (a_steady : PySem.W.nsIn K mainGlobals "steady" = some (some (.ref f_steady)))
    (l_steady : K.lookup f_steady = some ⟨oc_steady, od_steady, .func (PySem.W.fnOf "steady" "steady" (defArgs s_steady) (defBody s_steady) (defScope s_steady) .none kV_steady dc_steady pm_steady an_steady cd_steady ct_steady), sl_steady⟩) (c_steady : PySem.W.codeIn K cd_steady "steady" = true) (k_steady : PySem.W.keepIn K (.ref f_steady) = true)
    (a_law : PySem.W.nsIn K mainGlobals "law" = some (some (.ref f_law)))
    (l_law : K.lookup f_law = some ⟨oc_law, od_law, .func (PySem.W.fnOf "law" "law" (defArgs s_law) (defBody s_law) (defScope s_law) .none kV_law dc_law pm_law an_law cd_law ct_law), sl_law⟩) (c_law : PySem.W.codeIn K cd_law "law" = true) (k_law : PySem.W.keepIn K (.ref f_law) = true)
    (z_abs : PySem.W.nsIn K mainGlobals "abs" = some none)
    (z_all : PySem.W.nsIn K mainGlobals "all" = some none)
    (z_bool : PySem.W.nsIn K mainGlobals "bool" = some none)
    (z_int : PySem.W.nsIn K mainGlobals "int" = some none)
    (z_isinstance : PySem.W.nsIn K mainGlobals "isinstance" = some none)
    (z_len : PySem.W.nsIn K mainGlobals "len" = some none)
    (z_list : PySem.W.nsIn K mainGlobals "list" = some none)
    (z_max : PySem.W.nsIn K mainGlobals "max" = some none)
    (z_min : PySem.W.nsIn K mainGlobals "min" = some none)
    (z_range : PySem.W.nsIn K mainGlobals "range" = some none)
    (z_str : PySem.W.nsIn K mainGlobals "str" = some none)
    (z_tuple : PySem.W.nsIn K mainGlobals "tuple" = some none)
    (n_MOST_LATE : PySem.W.nsIn K mainGlobals "MOST_LATE" = some (some (.int 6 t_MOST_LATE)))
    (n_MOST_STEADY : PySem.W.nsIn K mainGlobals "MOST_STEADY" = some (some (.int 20 t_MOST_STEADY)))
    : ∃ fd : FuncData, (∀ (s : Shared) (v : Value), BindsTo s fd ⟨[v], []⟩ [("_law_script", v)]) ∧ ∀ base : Heap, K.In base → base.Ns mainGlobals mg → FnOk l.prog w K mg base CX0 7 fa fd ["_law_script"] (sp_law K) := by
  have e := hfa.symm.trans (PySem.W.mg_of X G a_law)
  cases e
  have F_l_alike := fun_mk (st := s_l_alike) l_l_alike c_l_alike k_l_alike
  have b_l_alike := F_l_alike.binds (ps := ["_law_found", "_law_due"]) fun _ _ _ _ _ _ us hl => match us, hl with | [_, _], _ => rfl
  have F_l_dice := fun_mk (st := s_l_dice) l_l_dice c_l_dice k_l_dice
  have b_l_dice := F_l_dice.binds (ps := ["_law_script", "_law_k"]) fun _ _ _ _ _ _ us hl => match us, hl with | [_, _], _ => rfl
  have F_l_off := fun_mk (st := s_l_off) l_l_off c_l_off k_l_off
  have b_l_off := F_l_off.binds (ps := ["_law_d", "_law_most"]) fun _ _ _ _ _ _ us hl => match us, hl with | [_, _], _ => rfl
  have F_gone_through := fun_mk (st := s_gone_through) l_gone_through c_gone_through k_gone_through
  have b_gone_through := F_gone_through.binds (ps := ["room", "one", "other"]) fun _ _ _ _ _ _ us hl => match us, hl with | [_, _, _], _ => rfl
  have F_need_late := fun_mk (st := s_need_late) l_need_late c_need_late k_need_late
  have b_need_late := F_need_late.binds (ps := ["one", "other"]) fun _ _ _ _ _ _ us hl => match us, hl with | [_, _], _ => rfl
  have F_least_room := fun_mk (st := s_least_room) l_least_room c_least_room k_least_room
  have b_least_room := F_least_room.binds (ps := ["one", "other"]) fun _ _ _ _ _ _ us hl => match us, hl with | [_, _], _ => rfl
  have F_steady := fun_mk (st := s_steady) l_steady c_steady k_steady
  have b_steady := F_steady.binds (ps := ["room", "one", "other"]) fun _ _ _ _ _ _ us hl => match us, hl with | [_, _, _], _ => rfl
  have F_law := fun_mk (st := s_law) l_law c_law k_law
  have b_law := F_law.binds (ps := ["_law_script"]) fun _ _ _ _ _ _ us hl => match us, hl with | [_], _ => rfl
  exact ⟨PySem.W.fnOf "law" "law" (defArgs s_law) (defBody s_law) (defScope s_law) .none kV_law dc_law pm_law an_law cd_law ct_law, fun s v => .of_eq rfl, fun base _ _ => ok_law { f_l_alike := _, fd_l_alike := _, F_l_alike := F_l_alike, b_l_alike := b_l_alike, g_l_alike := PySem.W.mg_of X G a_l_alike, f_l_dice := _, fd_l_dice := _, F_l_dice := F_l_dice, b_l_dice := b_l_dice, g_l_dice := PySem.W.mg_of X G a_l_dice, f_l_off := _, fd_l_off := _, F_l_off := F_l_off, b_l_off := b_l_off, g_l_off := PySem.W.mg_of X G a_l_off, f_gone_through := _, fd_gone_through := _, F_gone_through := F_gone_through, b_gone_through := b_gone_through, g_gone_through := PySem.W.mg_of X G a_gone_through, f_need_late := _, fd_need_late := _, F_need_late := F_need_late, b_need_late := b_need_late, g_need_late := PySem.W.mg_of X G a_need_late, f_least_room := _, fd_least_room := _, F_least_room := F_least_room, b_least_room := b_least_room, g_least_room := PySem.W.mg_of X G a_least_room, f_steady := _, fd_steady := _, F_steady := F_steady, b_steady := b_steady, g_steady := PySem.W.mg_of X G a_steady, f_law := _, fd_law := _, F_law := F_law, b_law := b_law, g_law := PySem.W.mg_of X G a_law, z_abs := PySem.W.mg_none_of X G z_abs, z_all := PySem.W.mg_none_of X G z_all, z_bool := PySem.W.mg_none_of X G z_bool, z_int := PySem.W.mg_none_of X G z_int, z_isinstance := PySem.W.mg_none_of X G z_isinstance, z_len := PySem.W.mg_none_of X G z_len, z_list := PySem.W.mg_none_of X G z_list, z_max := PySem.W.mg_none_of X G z_max, z_min := PySem.W.mg_none_of X G z_min, z_range := PySem.W.mg_none_of X G z_range, z_str := PySem.W.mg_none_of X G z_str, z_tuple := PySem.W.mg_none_of X G z_tuple, t_MOST_LATE := t_MOST_LATE, c_MOST_LATE := PySem.W.mg_of X G n_MOST_LATE, t_MOST_STEADY := t_MOST_STEADY, c_MOST_STEADY := PySem.W.mg_of X G n_MOST_STEADY }⟩
end G
open PySem PySem.W PyProof.Rows
set_option maxRecDepth 100000 in
set_option maxHeartbeats 0 in
theorem PySem.Challenge.cw_crossbeat_k10_whole_the_least_room_holds : PySem.Challenge.rw_crossbeat_k10_whole_the_least_room.Holds := by
  w_on; o_law; k_head; (case hw => w_witness2)
  k_fill
  refine L2.walk_of (l := PySem.Challenge.rw_crossbeat_k10_whole_the_least_room) (n := 63) (k := 7) (x := "_law_script") (CX := fun _ => L2.CX0) (sp := fun w => G.sp_law _) rfl (by decide) rfl ⟨rfl, by decide, by decide⟩ (fun w h Y => PySem.W.kIn_of Y) ?F (fun _ _ a ns hl _ hS => ⟨a, ns, rfl, hS, hl, fun _ => rfl⟩) (fun _ _ _ _ _ h => h)
  case F =>
    intro w mg fa h KX GG hmg
    refine' G.all_mk KX GG hmg ?a_l_alike ?l_l_alike ?c_l_alike ?k_l_alike ?a_l_dice ?l_l_dice ?c_l_dice ?k_l_dice ?a_l_off ?l_l_off ?c_l_off ?k_l_off ?a_gone_through ?l_gone_through ?c_gone_through ?k_gone_through ?a_need_late ?l_need_late ?c_need_late ?k_need_late ?a_least_room ?l_least_room ?c_least_room ?k_least_room ?a_steady ?l_steady ?c_steady ?k_steady ?a_law ?l_law ?c_law ?k_law ?z_abs ?z_all ?z_bool ?z_int ?z_isinstance ?z_len ?z_list ?z_max ?z_min ?z_range ?z_str ?z_tuple ?n_MOST_LATE ?n_MOST_STEADY
    (case a_l_alike => k_is)
    (case l_l_alike => k_is)
    (case c_l_alike => k_is)
    (case k_l_alike => k_is)
    (case a_l_dice => k_is)
    (case l_l_dice => k_is)
    (case c_l_dice => k_is)
    (case k_l_dice => k_is)
    (case a_l_off => k_is)
    (case l_l_off => k_is)
    (case c_l_off => k_is)
    (case k_l_off => k_is)
    (case a_gone_through => k_is)
    (case l_gone_through => k_is)
    (case c_gone_through => k_is)
    (case k_gone_through => k_is)
    (case a_need_late => k_is)
    (case l_need_late => k_is)
    (case c_need_late => k_is)
    (case k_need_late => k_is)
    (case a_least_room => k_is)
    (case l_least_room => k_is)
    (case c_least_room => k_is)
    (case k_least_room => k_is)
    (case a_steady => k_is)
    (case l_steady => k_is)
    (case c_steady => k_is)
    (case k_steady => k_is)
    (case a_law => k_is)
    (case l_law => k_is)
    (case c_law => k_is)
    (case k_law => k_is)
    (case z_abs => k_is)
    (case z_all => k_is)
    (case z_bool => k_is)
    (case z_int => k_is)
    (case z_isinstance => k_is)
    (case z_len => k_is)
    (case z_list => k_is)
    (case z_max => k_is)
    (case z_min => k_is)
    (case z_range => k_is)
    (case z_str => k_is)
    (case z_tuple => k_is)
    (case n_MOST_LATE => k_is)
    (case n_MOST_STEADY => k_is)
#print axioms PySem.Challenge.cw_crossbeat_k10_whole_the_least_room_holds
