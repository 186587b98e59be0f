import Derived.Test.YtfcifigemiafgaaDoorPAllx0
import Derived.Test.YtfcifigemiafgaaDoorPAllx2
import Derived.Test.YtfcifigemiafgaaDoorPAllx4
namespace Go.Proofs.YtfcifigemiafgaaDoor.PAll
open Go.RowKit Go.Proofs.YtfcifigemiafgaaDoorW.PrintWords Go.Proofs.YtfcifigemiafgaaDoorW.PrintLast Go.Proofs.YtfcifigemiafgaaDoorW.PrintMore
attribute [local go_sem] max2_int min2_int max_two min_two max_three min_three max_four min_four   -- for this text's walks alone
set_option linter.unusedVariables false
set_option linter.unusedSimpArgs false

/-! ### sign_Token: function 63 -/
def sign_Token.l0 : Nat → ByteArray → Int → Int → Option (Bool)
 | 0, _, _, _ => none
 | k + 1, x0, x5, x6 => if x6 < x5 then (if 0 ≤ x6 then (if x6 < (x0.size : Int) then ((sign_letter.f (bt x0 x6)).bind fun t125 => (if t125 = true then (sign_Token.l0 k x0 x5 (wrap64 (x6 + 1))) else ((strings_IndexByte.f (⟨#[33, 35, 36, 37, 38, 39, 42, 43, 45, 46, 94, 95, 124, 126, 96]⟩ : ByteArray) (bt x0 x6)).bind fun t126 => (if t126 < 0 then (some false) else (sign_Token.l0 k x0 x5 (wrap64 (x6 + 1))))))) else (none)) else (none)) else (some (x0.toList != ([] : List UInt8)))
def sign_Token.f (k : Nat) (a0 : ByteArray) : Option (Bool) := sign_Token.l0 k a0 (a0.size : Int) 0
theorem sign_Token.mono_l : ∀ k, (∀ y0 y1 y2, LeO (sign_Token.l0 k y0 y1 y2) (sign_Token.l0 (k + 1) y0 y1 y2))
 | 0 => fun _ _ _ r h => by simp [sign_Token.l0] at h
 | k + 1 => by
  have ih0 := sign_Token.mono_l k
  ·
   intro y0 y1 y2
   unfold sign_Token.l0
   repeat' (with_reducible first | exact ih0 _ _ _ | exact lR_ | refine LeO.ite ?_ ?_ | refine LeO.bind ?_ (fun _ => ?_))
theorem sign_Token.mono : ∀ a0 k, LeO (sign_Token.f k a0) (sign_Token.f (k + 1) a0) := by
 intro a0 k
 have ih0 := sign_Token.mono_l k
 unfold sign_Token.f
 repeat' (with_reducible first | exact ih0 _ _ _ | exact lR_ | refine LeO.ite ?_ ?_ | refine LeO.bind ?_ (fun _ => ?_))
set_option maxHeartbeats 8000000 in
set_option maxRecDepth 100000 in
theorem sign_Token.calls (k : Nat) (a0 : ByteArray) (r : Bool) (w : World) (h : sign_Token.f k a0 = some r) :
  Calls Tryd.prog 63 #[.string a0] w fun e w' => e = .returned (.bool r) ∧ Drawn0 w w' := by
 have H : (sign_Token.l0 k a0 (a0.size : Int) 0) = some r := h
 clear h
 have H' := Aside0.mk H
 clear H
 go_enter Tryd.func63, Tryd.ntmps63
 go_wp2
 go_loopg [6] k (fun kq v6 w' => ∃ (x6_1 : Int), v6 = .int .i64 x6_1 ∧ Aside0 (sign_Token.l0 kq a0 (a0.size : Int) x6_1 = some r) ∧ Aside0 (kq ≤ k) ∧ Drawn0 w w')
 case atStart => exact ⟨(0), E3_, H', ⟨Nat.le_refl _⟩, D1_⟩
 case round =>
  clear H'
  obtain ⟨x6_1, rfl, HA, HK1, ⟨m1, rfl⟩⟩ := hrel
  cases gk with
  | zero => exact absurd HA.out (by simp [sign_Token.l0])
  | succ k1 =>
   have H := HA.out
   clear HA
   simp only [sign_Token.l0] at H
   by_cases c2 : x6_1 < (a0.size : Int)
   ·
    rw [if_pos c2] at H
    have c2b0 : decide (x6_1 < (a0.size : Int)) = true := decide_eq_true c2
    clear c2
    by_cases c3 : 0 ≤ x6_1
    ·
     rw [if_pos c3] at H
     have c3b0 : decide (0 ≤ x6_1) = true := decide_eq_true c3
     clear c3
     by_cases c4 : x6_1 < (a0.size : Int)
     ·
      rw [if_pos c4] at H
      have c4b0 : decide (x6_1 < (a0.size : Int)) = true := decide_eq_true c4
      clear c4
      obtain ⟨t125, A6, H⟩ := bS_ H
      try dsimp only at H
      by_cases c7 : t125 = true
      ·
       subst c7
       rw [if_pos rfl] at H
       have H' := Aside0.mk H
       clear H
       have p5 : 0 ≤ (x6_1 : Int) := oA_
       have q5 : x6_1 < (a0.size : Int) := oA_
       have hx5 := bt_at a0 x6_1
       replace p5 := eq_true p5
       replace q5 := eq_true q5
       go_wp2_with (first | ((with_reducible refine gate_callee (f := 76) rfl ?_); refine goesL_ (some 12) rfl rfl Tryd.func76 (by kernel_rfl) rfl #[.int .u8 (bt a0 x6_1)] rfl T1_ ?_; (with_reducible refine (sign_letter.calls (bt a0 x6_1) true _ A6.out).mono ?_); rintro e w' ⟨rfl, ⟨nd, rfl⟩⟩; refine ⟨_, rfl, ?_⟩))
       go_roundg k1
       case measure => have := HK1.out; omega
       case rel => exact ⟨(wrap64 (x6_1 + 1)), E3_, H', ⟨by have := HK1.out; omega⟩, D1_⟩
      ·
       replace c7 := Bool.eq_false_iff.mpr c7
       subst c7
       rw [if_neg (show ¬ (false = true) by decide)] at H
       obtain ⟨t126, A9, H⟩ := bS_ H
       try dsimp only at H
       by_cases c10 : t126 < 0
       ·
        rw [if_pos c10] at H
        have c10b0 : decide (t126 < 0) = true := decide_eq_true c10
        clear c10
        obtain rfl := Option.some.inj H
        have p5 : 0 ≤ (x6_1 : Int) := oA_
        have q5 : x6_1 < (a0.size : Int) := oA_
        have hx5 := bt_at a0 x6_1
        replace p5 := eq_true p5
        replace q5 := eq_true q5
        go_wp2_with (first | ((with_reducible refine gate_callee (f := 76) rfl ?_); refine goesL_ (some 12) rfl rfl Tryd.func76 (by kernel_rfl) rfl #[.int .u8 (bt a0 x6_1)] rfl T1_ ?_; (with_reducible refine (sign_letter.calls (bt a0 x6_1) false _ A6.out).mono ?_); rintro e w' ⟨rfl, ⟨nd, rfl⟩⟩; refine ⟨_, rfl, ?_⟩; have p8 : 0 ≤ (x6_1 : Int) := oA_; have q8 : x6_1 < (a0.size : Int) := oA_; have hx8 := bt_at a0 x6_1; replace p8 := eq_true p8; replace q8 := eq_true q8) | (go_at_call 56; (with_reducible refine (strings_IndexByte.calls (⟨#[33, 35, 36, 37, 38, 39, 42, 43, 45, 46, 94, 95, 124, 126, 96]⟩ : ByteArray) (bt a0 x6_1) t126 _ A9.out).mono ?_); rintro e w' ⟨rfl, ⟨nd, rfl⟩⟩))
        go_ret
        exact ⟨E2_, D1_⟩
       ·
        rw [if_neg c10] at H
        have c10b0 : decide (t126 < 0) = false := decide_eq_false c10
        clear c10
        have H' := Aside0.mk H
        clear H
        have p5 : 0 ≤ (x6_1 : Int) := oA_
        have q5 : x6_1 < (a0.size : Int) := oA_
        have hx5 := bt_at a0 x6_1
        replace p5 := eq_true p5
        replace q5 := eq_true q5
        go_wp2_with (first | ((with_reducible refine gate_callee (f := 76) rfl ?_); refine goesL_ (some 12) rfl rfl Tryd.func76 (by kernel_rfl) rfl #[.int .u8 (bt a0 x6_1)] rfl T1_ ?_; (with_reducible refine (sign_letter.calls (bt a0 x6_1) false _ A6.out).mono ?_); rintro e w' ⟨rfl, ⟨nd, rfl⟩⟩; refine ⟨_, rfl, ?_⟩; have p8 : 0 ≤ (x6_1 : Int) := oA_; have q8 : x6_1 < (a0.size : Int) := oA_; have hx8 := bt_at a0 x6_1; replace p8 := eq_true p8; replace q8 := eq_true q8) | (go_at_call 56; (with_reducible refine (strings_IndexByte.calls (⟨#[33, 35, 36, 37, 38, 39, 42, 43, 45, 46, 94, 95, 124, 126, 96]⟩ : ByteArray) (bt a0 x6_1) t126 _ A9.out).mono ?_); rintro e w' ⟨rfl, ⟨nd, rfl⟩⟩))
        go_roundg k1
        case measure => have := HK1.out; omega
        case rel => exact ⟨(wrap64 (x6_1 + 1)), E3_, H', ⟨by have := HK1.out; omega⟩, D1_⟩
     ·
      rw [if_neg c4] at H
      exact absurd H (by simp)
    ·
     rw [if_neg c3] at H
     exact absurd H (by simp)
   ·
    rw [if_neg c2] at H
    have c2b0 : decide (x6_1 < (a0.size : Int)) = false := decide_eq_false c2
    clear c2
    obtain rfl := Option.some.inj H
    go_wp2
    go_ret
    exact ⟨E2_, D1_⟩

/-! ### conf_head: function 50 -/
def conf_head.f (k : Nat) (a0 : ByteArray) : Option (Bool) := (sign_Token.f k a0).bind fun t127 => (if t127 = true then ((sign_Lower.f a0).bind fun t128 => (if t128.toList = a0.toList then (some (decide ((a0.size : Int) ≤ 64))) else (some false))) else (some false))
theorem conf_head.mono : ∀ a0 k, LeO (conf_head.f k a0) (conf_head.f (k + 1) a0) := by
 intro a0 k
 unfold conf_head.f
 repeat' (with_reducible first | exact sign_Token.mono _ _ | exact lR_ | refine LeO.ite ?_ ?_ | refine LeO.bind ?_ (fun _ => ?_))
set_option maxHeartbeats 8000000 in
set_option maxRecDepth 100000 in
theorem conf_head.calls (k : Nat) (a0 : ByteArray) (r : Bool) (w : World) (h : conf_head.f k a0 = some r) :
  Calls Tryd.prog 50 #[.string a0] w fun e w' => e = .returned (.bool r) ∧ Below w.heap.size w w' := by
 have HB := Aside0.mk (Below.refl w.heap.size w)
 have H : ((sign_Token.f k a0).bind fun t127 => (if t127 = true then ((sign_Lower.f a0).bind fun t128 => (if t128.toList = a0.toList then (some (decide ((a0.size : Int) ≤ 64))) else (some false))) else (some false))) = some r := h
 clear h
 obtain ⟨t127, A2, H⟩ := bS_ H
 try dsimp only at H
 by_cases c3 : t127 = true
 ·
  subst c3
  rw [if_pos rfl] at H
  obtain ⟨t128, A4, H⟩ := bS_ H
  try dsimp only at H
  by_cases c5 : t128.toList = a0.toList
  ·
   rw [if_pos c5] at H
   have c5b0 : (t128.toList == a0.toList) = true := beq_iff_eq.mpr c5
   have c5b1 : (t128.toList != a0.toList) = false := bne_eq_false_iff_eq.mpr c5
   clear c5
   obtain rfl := Option.some.inj H
   go_enter Tryd.func50, Tryd.ntmps50
   go_wp2_with (first | ((with_reducible refine gate_callee (f := 63) rfl ?_); refine goesL_ (some 4) rfl rfl Tryd.func63 (by kernel_rfl) rfl #[.string a0] rfl T1_ ?_; (with_reducible refine (sign_Token.calls k a0 true _ A2.out).mono ?_); rintro e w' ⟨rfl, ⟨nd, rfl⟩⟩; refine ⟨_, rfl, ?_⟩) | (go_at_call 43; (with_reducible refine (sign_Lower.calls a0 t128 _ A4.out).mono ?_); rintro e w6 ⟨rfl, hb⟩; replace HB := y1_ hb; (try clear hb)))
   go_ret
   exact ⟨E1_, W1_⟩
  ·
   rw [if_neg c5] at H
   have c5b0 : (t128.toList == a0.toList) = false := beq_eq_false_iff_ne.mpr c5
   have c5b1 : (t128.toList != a0.toList) = true := bne_iff_ne.mpr c5
   obtain rfl := Option.some.inj H
   go_enter Tryd.func50, Tryd.ntmps50
   go_wp2_with (first | ((with_reducible refine gate_callee (f := 63) rfl ?_); refine goesL_ (some 4) rfl rfl Tryd.func63 (by kernel_rfl) rfl #[.string a0] rfl T1_ ?_; (with_reducible refine (sign_Token.calls k a0 true _ A2.out).mono ?_); rintro e w' ⟨rfl, ⟨nd, rfl⟩⟩; refine ⟨_, rfl, ?_⟩) | (go_at_call 43; (with_reducible refine (sign_Lower.calls a0 t128 _ A4.out).mono ?_); rintro e w7 ⟨rfl, hb⟩; replace HB := y1_ hb; (try clear hb)))
   go_ret
   exact ⟨E1_, W1_⟩
 ·
  replace c3 := Bool.eq_false_iff.mpr c3
  subst c3
  rw [if_neg (show ¬ (false = true) by decide)] at H
  obtain rfl := Option.some.inj H
  go_enter Tryd.func50, Tryd.ntmps50
  go_wp2_with (first | ((with_reducible refine gate_callee (f := 63) rfl ?_); refine goesL_ (some 4) rfl rfl Tryd.func63 (by kernel_rfl) rfl #[.string a0] rfl T1_ ?_; (with_reducible refine (sign_Token.calls k a0 false _ A2.out).mono ?_); rintro e w' ⟨rfl, ⟨nd, rfl⟩⟩; refine ⟨_, rfl, ?_⟩))
  go_ret
  exact ⟨E1_, W1_⟩

/-! ### conf_reader_key: function 46, by hand -/
-- over 34 32 45 50 47
theorem RdS.kept {w0 w w' : World} {g : Nat} {s : RS} {S : Nat → Prop} (h : RdS w0 w g s) (hk : Kept w w' S) (hg : ¬ S g) (hB : Below w0.heap.size w0 w') : RdS w0 w' g s :=
 ⟨h.1.kept hk hg, h.2.1, hB, h.2.2.2⟩
theorem RdS.lt {w0 w : World} {g : Nat} {s : RS} (h : RdS w0 w g s) : g < w.heap.size := by
 obtain ⟨wb, off, n, cap, _, hh, _⟩ := h.1
 exact blk_lt hh
theorem RdS.code_cell {w0 w : World} {g : Nat} {s : RS} (h : RdS w0 w g s) : w.cell? ⟨g, 1, none⟩ = some (.int .i64 s.code) := by
 obtain ⟨wb, off, n, cap, _, hh, _⟩ := h.1
 exact (blk_cell hh 1).trans rfl
def pathB : ByteArray := ⟨#[112, 97, 116, 104]⟩
def queryB : ByteArray := ⟨#[113, 117, 101, 114, 121]⟩
def headerB : ByteArray := ⟨#[104, 101, 97, 100, 101, 114]⟩
theorem queryB_list : queryB.toList = [113, 117, 101, 114, 121] := by rw [ByteArray.toList_eq]; rfl
/-- A site in memory: block sb. -/
def SiteAt (w : World) (sb : Nat) (host : ByteArray) (o mi ma : Int) (q kp : Bool) (v : Value) : Prop :=
 w.heap[sb]? = some (.cells #[.string host, .int .i64 o, .int .i64 mi, .int .i64 ma, .bool q, .bool kp, v] 29 (0, 0))
def keyL : Nat → RS → Bool → List ByteArray → Option (RS × Bool × List ByteArray)
 | 0, _, _, _ => none
 | k + 1, s, q, hs => if s.code = 0 then (if s.next.toList = ([59] : List UInt8) then some (s, q, hs) else
   if s.next.toList = queryB.toList ∧ q = false then keyL k s.take true hs else
   if (s.must headerB).code = 0 then ((conf_head.f k (s.must headerB).next).bind fun b => if b = true then ((conf_rising.f k (hs ++ [(s.must headerB).next])).bind fun c => if c = true then (if hs.length = 4 then keyL k ((s.must headerB).fail 32).take q hs else keyL k (s.must headerB).take q (hs ++ [(s.must headerB).next])) else keyL k ((s.must headerB).fail 30).take q hs) else keyL k ((s.must headerB).fail 30).take q hs)
   else keyL k (s.must headerB).take q hs) else some (s, q, hs)
def keyF (k : Nat) (s : RS) : Option (RS × Bool × List ByteArray) := keyL k (s.must pathB) false []
theorem keyL_mono : ∀ k s q hs, LeO (keyL k s q hs) (keyL (k + 1) s q hs)
 | 0, _, _, _ => fun r h => by simp [keyL] at h
 | k + 1, s, q, hs => by
  have ih := keyL_mono k
  unfold keyL
  repeat' (with_reducible first | exact ih _ _ _ | exact conf_head.mono _ _ | exact conf_rising.mono _ _ | exact lR_ | refine LeO.ite ?_ ?_ | refine LeO.bind ?_ (fun _ => ?_))
theorem clone_own (w : World) (base : Nat) (ok : Nat → Prop) (v : Value) (hs : List ByteArray) (hR : Kd.R Kd.string 9 w base ok v hs) (hl : hs.length ≤ 1000) :
  Calls Tryd.prog 19 #[v] w fun e w' => ∃ v', e = .returned v' ∧ Kd.R Kd.string 9 w' w.heap.size (fun _ => True) v' hs ∧ Below w.heap.size w w' := by
 obtain ⟨A, c, rfl, hle, hC⟩ := Kd.R_reads hR
 have fin : ∀ v' w', w'.ownsRow w.heap.size 9 1 v' hs.length (hs.map Value.string) → Kd.R Kd.string 9 w' w.heap.size (fun _ => True) v' hs := fun v' w' ho => Kd.R_of_own (enc := Value.string) (h1 := fun _ => rfl) ho (fun _ _ => trivial)
 by_cases h0 : hs.length = 0
 ·
  obtain rfl : hs = [] := List.eq_nil_of_length_eq_zero h0
  cases A with
  | none =>
   refine (Tryd.slices_Clone_string_nil 0 c w).mono ?_
   rintro e w' ⟨rfl, rfl⟩
   exact ⟨_, rfl, Kd.R_nil _ _ _ _ _, Below.refl _ _⟩
  | some a =>
   refine (Tryd.slices_Clone_string_zero a c w).mono ?_
   rintro e w' ⟨v', rfl, ho, _, hb⟩
   exact ⟨v', rfl, fin v' w' ho, hb⟩
 ·
  obtain ⟨ad, cs, rfl, _⟩ := Kd.C_get hC ByteArray.empty 0 (by omega) (by omega)
  obtain ⟨g, cap, cur, hv⟩ : ∃ g cap, ∃ cur : Array Value, (Value.slice (some ad) hs.length c) = .slice (some ⟨g, 0, none⟩) hs.length cap := by
   rcases (Kd.own_of_R hR).2 with ⟨hnil, _⟩ | ⟨g, cap, cur, hv, _⟩
   ·
    cases hnil
   ·
    exact ⟨g, cap, cur, hv⟩
  obtain ⟨rfl, rfl⟩ : ad = ⟨g, 0, none⟩ ∧ c = cap := by simpa using hv
  refine (Tryd.slices_Clone_string g 0 hs.length c hs w (Nat.le_refl _) (by omega) (fun j hj => ?_)).mono ?_
  ·
   have := Kd.foot_string hC (j : Int) (by omega) (by omega)
   rw [add_plain] at this
   simpa [rdOf] using this
  ·
   rintro e w' ⟨v', rfl, ho, _, hb⟩
   rw [List.take_length] at ho
   exact ⟨v', rfl, fin v' w' ho, hb⟩
theorem R_kept {α : Type} {d : Kd α} {e base : Nat} {w w' : World} {ok S : Nat → Prop} {v : Value} {xs : List α} (h : Kd.R d e w base ok v xs) (hk : Kept w w' S) (hS : ∀ k, ok k → ¬ S k) : Kd.R d e w' base ok v xs := Kd.R_step h (fun k ho hlt => hk.2 k hlt (hS k ho))
theorem SiteAt.kept {w w' : World} {sb : Nat} {host : ByteArray} {o mi ma : Int} {q kp : Bool} {v : Value} {S : Nat → Prop} (h : SiteAt w sb host o mi ma q kp v) (hk : Kept w w' S) (hS : ¬ S sb) : SiteAt w' sb host o mi ma q kp v := blk_kept h hk hS
/-- What a round of key stands on. -/
structure KeyI (w0 w : World) (g sb : Nat) (host : ByteArray) (o mi ma : Int) (kp : Bool) (w' : World) (s : RS) (q : Bool) (hs : List ByteArray) (v : Value) : Prop where
 rd : RdS w0 w' g s
 site : SiteAt w' sb host o mi ma q kp v
 row : Kd.R Kd.string 9 w' w.heap.size (fun k => k ≠ g ∧ k ≠ sb) v hs
 kept : Kept w w' (fun i => i = g ∨ i = sb)
 len : hs.length ≤ 4
theorem KeyI.gstep {w0 w : World} {g sb : Nat} {host : ByteArray} {o mi ma : Int} {kp : Bool} {w' w2 : World} {s s2 : RS} {q : Bool} {hs : List ByteArray} {v : Value} (h : KeyI w0 w g sb host o mi ma kp w' s q hs v) (hgs : g ≠ sb) (h2 : RdS w0 w2 g s2) (hk : Kept w' w2 (fun k => k = g)) : KeyI w0 w g sb host o mi ma kp w2 s2 q hs v :=
 ⟨h2, h.site.kept hk (fun e => hgs e.symm), R_kept h.row hk (fun k ho => ho.1), Kept.trans_ h.kept (Kept.mono_ hk (fun k e => .inl e)), h.len⟩
theorem KeyI.bstep {w0 w : World} {g sb : Nat} {host : ByteArray} {o mi ma : Int} {kp : Bool} {w' w2 : World} {s : RS} {q : Bool} {hs : List ByteArray} {v : Value} (h : KeyI w0 w g sb host o mi ma kp w' s q hs v) (hgs : g ≠ sb) (hb : Below w'.heap.size w' w2) : KeyI w0 w g sb host o mi ma kp w2 s q hs v :=
 h.gstep hgs (h.rd.below hb) (Kept.below_ _ hb)

set_option maxHeartbeats 8000000 in
set_option maxRecDepth 100000 in
theorem rs_key (k : Nat) (w0 w : World) (g sb : Nat) (s : RS) (host : ByteArray) (o mi ma : Int) (q0 kp : Bool) (v0 : Value) (r : RS × Bool × List ByteArray) (h : RdS w0 w g s) (hs : SiteAt w sb host o mi ma q0 kp v0) (hgs : g ≠ sb) (hsb : w0.heap.size ≤ sb) (hf : keyF k s = some r) :
  Calls Tryd.prog 46 #[.pointer (some ⟨g, 0, none⟩), .pointer (some ⟨sb, 0, none⟩)] w fun e w' => e = .returned (.tuple #[]) ∧ ∃ v, KeyI w0 w g sb host o mi ma kp w' r.1 r.2.1 r.2.2 v := by
 have HF := Aside0.mk hf
 have HG := Aside0.mk hgs
 have HSL := Aside0.mk hsb
 have HS0 := Aside0.mk hs
 have f4 := blk_frozen hs 4
 have f6 := blk_frozen hs 6
 have i4 := (blk_cell hs 4).trans rfl
 have i6 := (blk_cell hs 6).trans rfl
 have H0 := Aside0.mk h
 have HWL := Aside0.mk h.2.2.1.size
 have HGL := Aside0.mk h.lt
 have HSBL := Aside0.mk (blk_lt hs)
 clear hf hs hgs hsb h
 go_enter Tryd.func46, Tryd.ntmps46
 go_wp2_with fail
 have hsite1 : SiteAt ((w.setCell ⟨sb, 4, none⟩ (.bool false)).setCell ⟨sb, 6, none⟩ (.slice none 0 0)) sb host o mi ma false kp (.slice none 0 0) := blk_put (blk_put HS0.out 4 _ rfl) 6 _ rfl
 have hk1 : Kept w ((w.setCell ⟨sb, 4, none⟩ (.bool false)).setCell ⟨sb, 6, none⟩ (.slice none 0 0)) (fun i => i = sb) := Kept.trans_ (Kept.set_ w sb 4 _) (Kept.set_ _ sb 6 _)
 have hb1 : Below w0.heap.size w0 ((w.setCell ⟨sb, 4, none⟩ (.bool false)).setCell ⟨sb, 6, none⟩ (.slice none 0 0)) := (H0.out.2.2.1.setCell HSL.out _).setCell HSL.out _
 generalize (w.setCell ⟨sb, 4, none⟩ (.bool false)).setCell ⟨sb, 6, none⟩ (.slice none 0 0) = w1 at *
 have K1 : KeyI w0 w g sb host o mi ma kp w1 s false [] (.slice none 0 0) := ⟨H0.out.kept hk1 HG.out hb1, hsite1, Kd.R_nil _ _ _ _ _, Kept.mono_ hk1 (fun _ e => .inr e), by simp⟩
 clear i4 i6 f4 f6 HS0 H0 hsite1 hk1 hb1
 refine (rs_must w0 w1 g s pathB K1.rd).mono ?_
 rintro e w2 ⟨rfl, h2, k2⟩
 have K2 := Aside0.mk (K1.gstep HG.out h2 k2)
 clear K1 h2 k2
 have HL0 := Aside0.mk (show keyL k (s.must pathB) false [] = some r from HF.out)
 clear HF
 go_wp2_with fail
 go_loopg [4] k (fun kq v4 w' => ∃ (s' : RS) (q : Bool) (hs : List ByteArray) (v : Value), Aside0 (keyL kq s' q hs = some r) ∧ Aside0 (kq ≤ k) ∧ Aside0 (KeyI w0 w g sb host o mi ma kp w' s' q hs v))
 case atStart => exact ⟨_, _, _, _, HL0, ⟨Nat.le_refl _⟩, K2⟩
 case round =>
  clear HL0 K2
  obtain ⟨s', q, hs, v, HL, HQ, HK⟩ := hrel
  cases gk with
  | zero => exact absurd HL.out (by simp [keyL])
  | succ k1 =>
   have H := HL.out
   clear HL
   simp only [keyL] at H
   have g1 := HK.out.rd.code_cell
   by_cases c1 : s'.code = 0
   ·
    rw [if_pos c1] at H
    have q1 : (s'.code == 0) = true := beq_iff_eq.mpr c1
    clear c1
    by_cases c2 : s'.next.toList = ([59] : List UInt8)
    ·
     rw [if_pos c2] at H
     obtain rfl := Option.some.inj H
     have q2 : (s'.next.toList == ([59] : List UInt8)) = true := beq_iff_eq.mpr c2
     have q3 : (s'.next.toList != ([59] : List UInt8)) = false := bne_eq_false_iff_eq.mpr c2
     clear H c2
     go_wp2_with (go_at_call 30; refine (rs_next w0 wr g s' HK.out.rd).mono ?_; rintro e _ ⟨rfl, rfl⟩)
     go_end0
     exact ⟨rfl, _, HK.out⟩
    ·
     rw [if_neg c2] at H
     have q2 : (s'.next.toList == ([59] : List UInt8)) = false := beq_eq_false_iff_ne.mpr c2
     have q3 : (s'.next.toList != ([59] : List UInt8)) = true := bne_iff_ne.mpr c2
     clear c2
     have i4 := (blk_cell HK.out.site 4).trans rfl
     have f4 := blk_frozen HK.out.site 4
     by_cases c3 : s'.next.toList = queryB.toList ∧ q = false
     ·
      rw [if_pos c3] at H
      obtain ⟨c3, rfl⟩ := c3
      rw [queryB_list] at c3
      have q4 : (s'.next.toList == ([113, 117, 101, 114, 121] : List UInt8)) = true := beq_iff_eq.mpr c3
      have HH := Aside0.mk H
      clear H c3
      go_wp2_with (go_at_call 30; refine (rs_next w0 wr g s' HK.out.rd).mono ?_; rintro e _ ⟨rfl, rfl⟩)
      have hb2 : Below w0.heap.size w0 (wr.setCell ⟨sb, 4, none⟩ (.bool true)) := HK.out.rd.2.2.1.setCell HSL.out _
      have hk2 := Kept.set_ wr sb 4 (.bool true)
      have hs2 : SiteAt (wr.setCell ⟨sb, 4, none⟩ (.bool true)) sb host o mi ma true kp v := blk_put HK.out.site 4 _ rfl
      generalize wr.setCell ⟨sb, 4, none⟩ (.bool true) = w3 at *
      have K3 : KeyI w0 w g sb host o mi ma kp w3 s' true hs v := ⟨HK.out.rd.kept hk2 HG.out hb2, hs2, R_kept HK.out.row hk2 (fun k ho => ho.2), Kept.trans_ HK.out.kept (Kept.mono_ hk2 (fun _ e => .inr e)), HK.out.len⟩
      clear hb2 hk2 hs2
      refine (rs_take w0 w3 g s' K3.rd).mono ?_
      rintro e w4 ⟨rfl, h4, k4⟩
      have K4 := Aside0.mk (K3.gstep HG.out h4 k4)
      clear K3 h4 k4
      go_wp2
      go_roundg k1
      case measure => have h_ := HQ.out; omega
      case rel => exact ⟨_, _, _, _, HH, ⟨by have h_ := HQ.out; omega⟩, K4⟩
     ·
      rw [if_neg c3] at H
      have HH := Aside0.mk H
      clear H
      by_cases c4 : s'.next.toList = queryB.toList
      ·
       obtain rfl : q = true := by cases q with | true => rfl | false => exact absurd ⟨c4, rfl⟩ c3
       rw [queryB_list] at c4
       have q4 : (s'.next.toList == ([113, 117, 101, 114, 121] : List UInt8)) = true := beq_iff_eq.mpr c4
       clear c3 c4
       go_wp2_with (go_at_call 30; refine (rs_next w0 wr g s' HK.out.rd).mono ?_; rintro e _ ⟨rfl, rfl⟩)
       refine (rs_must w0 wr g s' headerB HK.out.rd).mono ?_
       rintro e w1 ⟨rfl, h1, k1_⟩
       have K1 := Aside0.mk (HK.out.gstep HG.out h1 k1_)
       clear h1 k1_ HK i4 f4 g1 q1 q2 q3 q4
       generalize s'.must headerB = s1 at *
       have g1 := K1.out.rd.code_cell
       have H := HH.out
       clear HH
       by_cases c5 : s1.code = 0
       ·
        rw [if_pos c5] at H
        have q1 : (s1.code == 0) = true := beq_iff_eq.mpr c5
        have q2 : (s1.code != 0) = false := bne_eq_false_iff_eq.mpr c5
        clear c5
        obtain ⟨b, A1, H⟩ := Option.bind_eq_some_iff.mp H
        have A1' := Aside0.mk A1
        clear A1
        cases b with
        | false =>
         rw [if_neg (by simp)] at H
         have HH := Aside0.mk H
         clear H
         go_wp2_with (first | (go_at_call 30; refine (rs_next w0 w1 g s1 K1.out.rd).mono ?_; rintro e _ ⟨rfl, rfl⟩) | (go_at_call 50; refine (conf_head.calls k1 _ false _ A1'.out).mono ?_; rintro e w2 ⟨rfl, hb2⟩))
         have K2 := K1.out.bstep HG.out hb2
         clear K1 hb2
         refine (rs_fail w0 w2 g s1 30 K2.rd).mono ?_
         rintro e w3 ⟨rfl, h3, k3⟩
         have K3 := K2.gstep HG.out h3 k3
         clear K2 h3 k3
         go_wp2_with fail
         refine (rs_take w0 w3 g _ K3.rd).mono ?_
         rintro e w9 ⟨rfl, h9, k9⟩
         have K9 := Aside0.mk (K3.gstep HG.out h9 k9)
         clear K3 h9 k9
         go_wp2
         go_roundg k1
         case measure => have h_ := HQ.out; omega
         case rel => exact ⟨_, _, _, _, HH, ⟨by have h_ := HQ.out; omega⟩, K9⟩
        | true =>
         rw [if_pos rfl] at H
         obtain ⟨c, A2, H⟩ := Option.bind_eq_some_iff.mp H
         have A2' := Aside0.mk A2
         clear A2
         go_wp2_with (first | (go_at_call 30; refine (rs_next w0 w1 g s1 K1.out.rd).mono ?_; rintro e _ ⟨rfl, rfl⟩) | (go_at_call 50; refine (conf_head.calls k1 _ true _ A1'.out).mono ?_; rintro e w2 ⟨rfl, hb2⟩; have K2 := K1.out.bstep HG.out hb2; have i6 := (blk_cell K2.site 6).trans rfl))
         have L2 := Aside0.mk K2.len
         refine (clone_own w2 _ _ v hs K2.row (by have h_ := L2.out; omega)).mono ?_
         rintro e w3 ⟨v3, rfl, r3, hb3⟩
         have K2' := Aside0.mk K2
         have HR3 := Aside0.mk r3
         have HB3 := Aside0.mk hb3
         clear K1 K2 hb2 i6 r3 hb3
         generalize s1.next = x at *
         obtain ⟨ys, hys⟩ : ∃ ys : List ByteArray, ys = hs ++ [x] := ⟨_, rfl⟩
         have A3' := Aside0.mk (show conf_rising.f k1 ys = some c by rw [hys]; exact A2'.out)
         have HYS := Aside0.mk hys
         clear A2' hys
         go_wp2_with ((try (refine gate_guard (by rfl) ?_; dsimp only)); at_builtin; refine Kd.R_append Kd.string (w0 := w2) w2.heap.size rfl (.tmp 69) (.tmp 71) 27 9 (.string ⟨#[]⟩) 16 rfl Tryd.underlying27 infoStr_ rfl (by decide) (by omega) v3 hs x [.string x] (fun _ => True) (fun _ => False) rfl rfl ?aP (fun _ hk => hk.elim) (fun _ _ => trivial) HR3.out HB3.out HB3.out.size (by have h_ := L2.out; omega) ?_; (case aP => exact rfl); intro v4 w4 r4 hb4 _ _; rw [← HYS.out] at r4; obtain ⟨Ar, cr, rfl, hle, hC⟩ := Kd.R_reads r4)
         refine (conf_rising.calls k1 Ar cr ys c w4 hC hle A3'.out).mono ?_
         rintro e w5 ⟨rfl, ⟨nd, rfl⟩⟩
         have K5 := K2'.out.bstep HG.out (zN_ hb4 nd)
         clear K2' r4 hC hle hb4 HR3 HB3 A3' HYS
         generalize w4.drewN nd = w5 at *
         cases c with
         | false =>
          rw [if_neg (by simp)] at H
          have HH := Aside0.mk H
          clear H
          go_wp2_with fail
          refine (rs_fail w0 w5 g s1 30 K5.rd).mono ?_
          rintro e w6 ⟨rfl, h6, k6⟩
          have K3 := K5.gstep HG.out h6 k6
          clear K5 h6 k6
          go_wp2_with fail
          refine (rs_take w0 w6 g _ K3.rd).mono ?_
          rintro e w9 ⟨rfl, h9, k9⟩
          have K9 := Aside0.mk (K3.gstep HG.out h9 k9)
          clear K3 h9 k9
          go_wp2
          go_roundg k1
          case measure => have h_ := HQ.out; omega
          case rel => exact ⟨_, _, _, _, HH, ⟨by have h_ := HQ.out; omega⟩, K9⟩
         | true =>
          rw [if_pos rfl] at H
          obtain ⟨Av, cv, rfl⟩ := Kd.R_slice K5.row
          have i6 := (blk_cell K5.site 6).trans rfl
          have f6 := blk_frozen K5.site 6
          by_cases c6 : hs.length = 4
          ·
           rw [if_pos c6] at H
           have q5 : ((hs.length : Int) == 4) = true := beq_iff_eq.mpr (by omega)
           have q6 : (hs.length == 4) = true := beq_iff_eq.mpr c6
           have HH := Aside0.mk H
           clear H c6
           go_wp2_with fail
           refine (rs_fail w0 w5 g s1 32 K5.rd).mono ?_
           rintro e w6 ⟨rfl, h6, k6⟩
           have K3 := K5.gstep HG.out h6 k6
           clear K5 h6 k6 i6 f6
           go_wp2_with fail
           refine (rs_take w0 w6 g _ K3.rd).mono ?_
           rintro e w9 ⟨rfl, h9, k9⟩
           have K9 := Aside0.mk (K3.gstep HG.out h9 k9)
           clear K3 h9 k9
           go_wp2
           go_roundg k1
           case measure => have h_ := HQ.out; omega
           case rel => exact ⟨_, _, _, _, HH, ⟨by have h_ := HQ.out; omega⟩, K9⟩
          ·
           rw [if_neg c6] at H
           have q5 : ((hs.length : Int) == 4) = false := beq_eq_false_iff_ne.mpr (by omega)
           have q6 : (hs.length == 4) = false := beq_eq_false_iff_ne.mpr c6
           have LN := (show (hs ++ [x]).length ≤ 4 from by rw [List.length_append]; have h_ := L2.out; simp only [List.length_cons, List.length_nil]; omega)
           obtain ⟨ys, hys⟩ : ∃ ys : List ByteArray, ys = hs ++ [x] := ⟨_, rfl⟩
           rw [← hys] at H LN
           have HYS := Aside0.mk hys
           have HH := Aside0.mk H
           have K5' := Aside0.mk K5
           clear H c6 K5 hys
           go_wp2_with (at_builtin; refine Kd.R_append Kd.string (w0 := w5) w.heap.size rfl (.tmp 47) (.tmp 49) 27 9 (.string ⟨#[]⟩) 16 rfl Tryd.underlying27 infoStr_ rfl (by decide) (by omega) (.slice Av hs.length cv) hs x [.string x] (fun k => k ≠ g ∧ k ≠ sb) (fun _ => False) rfl rfl ?aP (fun _ hk => hk.elim) ?aF K5'.out.row (Below.refl _ _) K5'.out.kept.1 (by have h_ := L2.out; omega) ?_; (case aP => exact rfl); (case aF => exact fun k hk => ⟨by have h1_ := HGL.out; have h2_ := K5'.out.kept.1; omega, by have h1_ := HSBL.out; have h2_ := K5'.out.kept.1; omega⟩); intro v6 w6 r6 hb6 _ _; rw [← HYS.out] at r6; obtain ⟨A6, c6, rfl⟩ := Kd.R_slice r6; have f7 := blk_frozen ((hb6.block sb HSBL.out).trans K5'.out.site) 6; have i7 := (blk_cell ((hb6.block sb HSBL.out).trans K5'.out.site) 6).trans rfl)
           have hs6 : SiteAt w6 sb host o mi ma _ kp (.slice Av hs.length cv) := (hb6.block sb HSBL.out).trans K5'.out.site
           have kk6 : Kept w w6 (fun i => i = g ∨ i = sb) := ⟨Nat.le_trans K5'.out.kept.1 hb6.size, fun i hi hS => (hb6.block i hi).trans (K5'.out.kept.2 i hi hS)⟩
           have rd6 : RdS w0 w6 g s1 := by
            obtain ⟨⟨wb, off, n_, cap, hn_, hh, hc, hr⟩, h2, h3, h4⟩ := K5'.out.rd
            exact ⟨⟨wb, off, n_, cap, hn_, (hb6.block g HGL.out).trans hh, hc, hr⟩, h2, h3.trans (hb6.mono HWL.out), h4⟩
           have hk7 := Kept.set_ w6 sb 6 (.slice A6 ys.length c6)
           have hb7 : Below w0.heap.size w0 (w6.setCell ⟨sb, 6, none⟩ (.slice A6 ys.length c6)) := rd6.2.2.1.setCell HSL.out _
           have hs7 : SiteAt (w6.setCell ⟨sb, 6, none⟩ (.slice A6 ys.length c6)) sb host o mi ma _ kp (.slice A6 ys.length c6) := blk_put hs6 6 _ rfl
           generalize w6.setCell ⟨sb, 6, none⟩ (.slice A6 ys.length c6) = w7 at *
           have K3 : KeyI w0 w g sb host o mi ma kp w7 s1 _ ys (.slice A6 ys.length c6) := ⟨rd6.kept hk7 HG.out hb7, hs7, R_kept r6 hk7 (fun k ho => ho.2), Kept.trans_ kk6 (Kept.mono_ hk7 (fun _ e => .inr e)), LN⟩
           clear K5' i6 f6 f7 i7 r6 LN HYS hb6 hs6 kk6 rd6 hk7 hb7 hs7
           refine (rs_take w0 w7 g _ K3.rd).mono ?_
           rintro e w9 ⟨rfl, h9, k9⟩
           have K9 := Aside0.mk (K3.gstep HG.out h9 k9)
           clear K3 h9 k9
           go_wp2
           go_roundg k1
           case measure => have h_ := HQ.out; omega
           case rel => exact ⟨_, _, _, _, HH, ⟨by have h_ := HQ.out; omega⟩, K9⟩
       ·
        rw [if_neg c5] at H
        have q1 : (s1.code == 0) = false := beq_eq_false_iff_ne.mpr c5
        have q2 : (s1.code != 0) = true := bne_iff_ne.mpr c5
        have HH := Aside0.mk H
        clear H c5
        go_wp2_with (go_at_call 30; refine (rs_next w0 w1 g s1 K1.out.rd).mono ?_; rintro e _ ⟨rfl, rfl⟩)
        have K3 := K1.out
        refine (rs_take w0 w1 g _ K3.rd).mono ?_
        rintro e w9 ⟨rfl, h9, k9⟩
        have K9 := Aside0.mk (K3.gstep HG.out h9 k9)
        clear K3 h9 k9
        go_wp2
        go_roundg k1
        case measure => have h_ := HQ.out; omega
        case rel => exact ⟨_, _, _, _, HH, ⟨by have h_ := HQ.out; omega⟩, K9⟩
      ·
       rw [queryB_list] at c4
       have q4 : (s'.next.toList == ([113, 117, 101, 114, 121] : List UInt8)) = false := beq_eq_false_iff_ne.mpr c4
       clear c3 c4
       go_wp2_with (go_at_call 30; refine (rs_next w0 wr g s' HK.out.rd).mono ?_; rintro e _ ⟨rfl, rfl⟩)
       refine (rs_must w0 wr g s' headerB HK.out.rd).mono ?_
       rintro e w1 ⟨rfl, h1, k1_⟩
       have K1 := Aside0.mk (HK.out.gstep HG.out h1 k1_)
       clear h1 k1_ HK i4 f4 g1 q1 q2 q3 q4
       generalize s'.must headerB = s1 at *
       have g1 := K1.out.rd.code_cell
       have H := HH.out
       clear HH
       by_cases c5 : s1.code = 0
       ·
        rw [if_pos c5] at H
        have q1 : (s1.code == 0) = true := beq_iff_eq.mpr c5
        have q2 : (s1.code != 0) = false := bne_eq_false_iff_eq.mpr c5
        clear c5
        obtain ⟨b, A1, H⟩ := Option.bind_eq_some_iff.mp H
        have A1' := Aside0.mk A1
        clear A1
        cases b with
        | false =>
         rw [if_neg (by simp)] at H
         have HH := Aside0.mk H
         clear H
         go_wp2_with (first | (go_at_call 30; refine (rs_next w0 w1 g s1 K1.out.rd).mono ?_; rintro e _ ⟨rfl, rfl⟩) | (go_at_call 50; refine (conf_head.calls k1 _ false _ A1'.out).mono ?_; rintro e w2 ⟨rfl, hb2⟩))
         have K2 := K1.out.bstep HG.out hb2
         clear K1 hb2
         refine (rs_fail w0 w2 g s1 30 K2.rd).mono ?_
         rintro e w3 ⟨rfl, h3, k3⟩
         have K3 := K2.gstep HG.out h3 k3
         clear K2 h3 k3
         go_wp2_with fail
         refine (rs_take w0 w3 g _ K3.rd).mono ?_
         rintro e w9 ⟨rfl, h9, k9⟩
         have K9 := Aside0.mk (K3.gstep HG.out h9 k9)
         clear K3 h9 k9
         go_wp2
         go_roundg k1
         case measure => have h_ := HQ.out; omega
         case rel => exact ⟨_, _, _, _, HH, ⟨by have h_ := HQ.out; omega⟩, K9⟩
        | true =>
         rw [if_pos rfl] at H
         obtain ⟨c, A2, H⟩ := Option.bind_eq_some_iff.mp H
         have A2' := Aside0.mk A2
         clear A2
         go_wp2_with (first | (go_at_call 30; refine (rs_next w0 w1 g s1 K1.out.rd).mono ?_; rintro e _ ⟨rfl, rfl⟩) | (go_at_call 50; refine (conf_head.calls k1 _ true _ A1'.out).mono ?_; rintro e w2 ⟨rfl, hb2⟩; have K2 := K1.out.bstep HG.out hb2; have i6 := (blk_cell K2.site 6).trans rfl))
         have L2 := Aside0.mk K2.len
         refine (clone_own w2 _ _ v hs K2.row (by have h_ := L2.out; omega)).mono ?_
         rintro e w3 ⟨v3, rfl, r3, hb3⟩
         have K2' := Aside0.mk K2
         have HR3 := Aside0.mk r3
         have HB3 := Aside0.mk hb3
         clear K1 K2 hb2 i6 r3 hb3
         generalize s1.next = x at *
         obtain ⟨ys, hys⟩ : ∃ ys : List ByteArray, ys = hs ++ [x] := ⟨_, rfl⟩
         have A3' := Aside0.mk (show conf_rising.f k1 ys = some c by rw [hys]; exact A2'.out)
         have HYS := Aside0.mk hys
         clear A2' hys
         go_wp2_with ((try (refine gate_guard (by rfl) ?_; dsimp only)); at_builtin; refine Kd.R_append Kd.string (w0 := w2) w2.heap.size rfl (.tmp 69) (.tmp 71) 27 9 (.string ⟨#[]⟩) 16 rfl Tryd.underlying27 infoStr_ rfl (by decide) (by omega) v3 hs x [.string x] (fun _ => True) (fun _ => False) rfl rfl ?aP (fun _ hk => hk.elim) (fun _ _ => trivial) HR3.out HB3.out HB3.out.size (by have h_ := L2.out; omega) ?_; (case aP => exact rfl); intro v4 w4 r4 hb4 _ _; rw [← HYS.out] at r4; obtain ⟨Ar, cr, rfl, hle, hC⟩ := Kd.R_reads r4)
         refine (conf_rising.calls k1 Ar cr ys c w4 hC hle A3'.out).mono ?_
         rintro e w5 ⟨rfl, ⟨nd, rfl⟩⟩
         have K5 := K2'.out.bstep HG.out (zN_ hb4 nd)
         clear K2' r4 hC hle hb4 HR3 HB3 A3' HYS
         generalize w4.drewN nd = w5 at *
         cases c with
         | false =>
          rw [if_neg (by simp)] at H
          have HH := Aside0.mk H
          clear H
          go_wp2_with fail
          refine (rs_fail w0 w5 g s1 30 K5.rd).mono ?_
          rintro e w6 ⟨rfl, h6, k6⟩
          have K3 := K5.gstep HG.out h6 k6
          clear K5 h6 k6
          go_wp2_with fail
          refine (rs_take w0 w6 g _ K3.rd).mono ?_
          rintro e w9 ⟨rfl, h9, k9⟩
          have K9 := Aside0.mk (K3.gstep HG.out h9 k9)
          clear K3 h9 k9
          go_wp2
          go_roundg k1
          case measure => have h_ := HQ.out; omega
          case rel => exact ⟨_, _, _, _, HH, ⟨by have h_ := HQ.out; omega⟩, K9⟩
         | true =>
          rw [if_pos rfl] at H
          obtain ⟨Av, cv, rfl⟩ := Kd.R_slice K5.row
          have i6 := (blk_cell K5.site 6).trans rfl
          have f6 := blk_frozen K5.site 6
          by_cases c6 : hs.length = 4
          ·
           rw [if_pos c6] at H
           have q5 : ((hs.length : Int) == 4) = true := beq_iff_eq.mpr (by omega)
           have q6 : (hs.length == 4) = true := beq_iff_eq.mpr c6
           have HH := Aside0.mk H
           clear H c6
           go_wp2_with fail
           refine (rs_fail w0 w5 g s1 32 K5.rd).mono ?_
           rintro e w6 ⟨rfl, h6, k6⟩
           have K3 := K5.gstep HG.out h6 k6
           clear K5 h6 k6 i6 f6
           go_wp2_with fail
           refine (rs_take w0 w6 g _ K3.rd).mono ?_
           rintro e w9 ⟨rfl, h9, k9⟩
           have K9 := Aside0.mk (K3.gstep HG.out h9 k9)
           clear K3 h9 k9
           go_wp2
           go_roundg k1
           case measure => have h_ := HQ.out; omega
           case rel => exact ⟨_, _, _, _, HH, ⟨by have h_ := HQ.out; omega⟩, K9⟩
          ·
           rw [if_neg c6] at H
           have q5 : ((hs.length : Int) == 4) = false := beq_eq_false_iff_ne.mpr (by omega)
           have q6 : (hs.length == 4) = false := beq_eq_false_iff_ne.mpr c6
           have LN := (show (hs ++ [x]).length ≤ 4 from by rw [List.length_append]; have h_ := L2.out; simp only [List.length_cons, List.length_nil]; omega)
           obtain ⟨ys, hys⟩ : ∃ ys : List ByteArray, ys = hs ++ [x] := ⟨_, rfl⟩
           rw [← hys] at H LN
           have HYS := Aside0.mk hys
           have HH := Aside0.mk H
           have K5' := Aside0.mk K5
           clear H c6 K5 hys
           go_wp2_with (at_builtin; refine Kd.R_append Kd.string (w0 := w5) w.heap.size rfl (.tmp 47) (.tmp 49) 27 9 (.string ⟨#[]⟩) 16 rfl Tryd.underlying27 infoStr_ rfl (by decide) (by omega) (.slice Av hs.length cv) hs x [.string x] (fun k => k ≠ g ∧ k ≠ sb) (fun _ => False) rfl rfl ?aP (fun _ hk => hk.elim) ?aF K5'.out.row (Below.refl _ _) K5'.out.kept.1 (by have h_ := L2.out; omega) ?_; (case aP => exact rfl); (case aF => exact fun k hk => ⟨by have h1_ := HGL.out; have h2_ := K5'.out.kept.1; omega, by have h1_ := HSBL.out; have h2_ := K5'.out.kept.1; omega⟩); intro v6 w6 r6 hb6 _ _; rw [← HYS.out] at r6; obtain ⟨A6, c6, rfl⟩ := Kd.R_slice r6; have f7 := blk_frozen ((hb6.block sb HSBL.out).trans K5'.out.site) 6; have i7 := (blk_cell ((hb6.block sb HSBL.out).trans K5'.out.site) 6).trans rfl)
           have hs6 : SiteAt w6 sb host o mi ma _ kp (.slice Av hs.length cv) := (hb6.block sb HSBL.out).trans K5'.out.site
           have kk6 : Kept w w6 (fun i => i = g ∨ i = sb) := ⟨Nat.le_trans K5'.out.kept.1 hb6.size, fun i hi hS => (hb6.block i hi).trans (K5'.out.kept.2 i hi hS)⟩
           have rd6 : RdS w0 w6 g s1 := by
            obtain ⟨⟨wb, off, n_, cap, hn_, hh, hc, hr⟩, h2, h3, h4⟩ := K5'.out.rd
            exact ⟨⟨wb, off, n_, cap, hn_, (hb6.block g HGL.out).trans hh, hc, hr⟩, h2, h3.trans (hb6.mono HWL.out), h4⟩
           have hk7 := Kept.set_ w6 sb 6 (.slice A6 ys.length c6)
           have hb7 : Below w0.heap.size w0 (w6.setCell ⟨sb, 6, none⟩ (.slice A6 ys.length c6)) := rd6.2.2.1.setCell HSL.out _
           have hs7 : SiteAt (w6.setCell ⟨sb, 6, none⟩ (.slice A6 ys.length c6)) sb host o mi ma _ kp (.slice A6 ys.length c6) := blk_put hs6 6 _ rfl
           generalize w6.setCell ⟨sb, 6, none⟩ (.slice A6 ys.length c6) = w7 at *
           have K3 : KeyI w0 w g sb host o mi ma kp w7 s1 _ ys (.slice A6 ys.length c6) := ⟨rd6.kept hk7 HG.out hb7, hs7, R_kept r6 hk7 (fun k ho => ho.2), Kept.trans_ kk6 (Kept.mono_ hk7 (fun _ e => .inr e)), LN⟩
           clear K5' i6 f6 f7 i7 r6 LN HYS hb6 hs6 kk6 rd6 hk7 hb7 hs7
           refine (rs_take w0 w7 g _ K3.rd).mono ?_
           rintro e w9 ⟨rfl, h9, k9⟩
           have K9 := Aside0.mk (K3.gstep HG.out h9 k9)
           clear K3 h9 k9
           go_wp2
           go_roundg k1
           case measure => have h_ := HQ.out; omega
           case rel => exact ⟨_, _, _, _, HH, ⟨by have h_ := HQ.out; omega⟩, K9⟩
       ·
        rw [if_neg c5] at H
        have q1 : (s1.code == 0) = false := beq_eq_false_iff_ne.mpr c5
        have q2 : (s1.code != 0) = true := bne_iff_ne.mpr c5
        have HH := Aside0.mk H
        clear H c5
        go_wp2_with (go_at_call 30; refine (rs_next w0 w1 g s1 K1.out.rd).mono ?_; rintro e _ ⟨rfl, rfl⟩)
        have K3 := K1.out
        refine (rs_take w0 w1 g _ K3.rd).mono ?_
        rintro e w9 ⟨rfl, h9, k9⟩
        have K9 := Aside0.mk (K3.gstep HG.out h9 k9)
        clear K3 h9 k9
        go_wp2
        go_roundg k1
        case measure => have h_ := HQ.out; omega
        case rel => exact ⟨_, _, _, _, HH, ⟨by have h_ := HQ.out; omega⟩, K9⟩
   ·
    rw [if_neg c1] at H
    obtain rfl := Option.some.inj H
    have q1 : (s'.code == 0) = false := beq_eq_false_iff_ne.mpr c1
    clear H c1
    go_wp2
    go_end0
    exact ⟨rfl, _, HK.out⟩

end Go.Proofs.YtfcifigemiafgaaDoor.PAll
