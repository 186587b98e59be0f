-- Text by a program of this session, over what print.py prints.
import Derived.Test.YtcechlbeghcliaaDoorPAllx0
import Derived.Test.YtcechlbeghcliaaDoorPAllx6
import Derived.Test.YtcechlbeghcliaaDoorPAllx8
import Derived.Test.YtcechlbeghcliaaDoorPAllx9
import Derived.Test.YtcechlbeghcliaaDoorPAllx10
namespace Go.Proofs.YtcechlbeghcliaaDoor.PAll
open Go.RowKit Go.Proofs.YtcechlbeghcliaaDoorW.PrintWords Go.Proofs.YtcechlbeghcliaaDoorW.PrintLast Go.Proofs.YtcechlbeghcliaaDoorW.PrintMore
attribute [local go_sem] max2_int min2_int max_two min_two max_three min_three max_four min_four   -- for this text's walks alone
set_option linter.unusedVariables false
set_option linter.unusedSimpArgs false

/-! ### pantryref02_Show: function 83, by hand -/
def rtwo (n : Int) : ByteArray := (pantryref02_two.f n).getD ⟨#[]⟩
theorem two_any (n : Int) (w : World) : Calls Tryd.prog 100 #[.int .i64 n] w fun e w' => e = .returned (.string (rtwo n)) ∧ Below w.heap.size w w' :=
  pantryref02_two.calls n (rtwo n) w rfl
theorem rtwo_size (n : Int) : (rtwo n).size = 2 := by
  unfold rtwo pantryref02_two.f strOfNums
  rfl
theorem szA : (⟨#[44, 32]⟩ : ByteArray).size = 2 := rfl
theorem szB : (⟨#[32]⟩ : ByteArray).size = 1 := rfl
theorem szC : (⟨#[58]⟩ : ByteArray).size = 1 := rfl
theorem szD : (⟨#[32, 71, 77, 84]⟩ : ByteArray).size = 4 := rfl
def refWeek : Array Value := #[.string ⟨#[84, 104, 117]⟩, .string ⟨#[70, 114, 105]⟩, .string ⟨#[83, 97, 116]⟩, .string ⟨#[83, 117, 110]⟩, .string ⟨#[77, 111, 110]⟩, .string ⟨#[84, 117, 101]⟩, .string ⟨#[87, 101, 100]⟩]
def refMonth : Array Value := #[.string ⟨#[]⟩, .string ⟨#[74, 97, 110]⟩, .string ⟨#[70, 101, 98]⟩, .string ⟨#[77, 97, 114]⟩, .string ⟨#[65, 112, 114]⟩, .string ⟨#[77, 97, 121]⟩, .string ⟨#[74, 117, 110]⟩, .string ⟨#[74, 117, 108]⟩, .string ⟨#[65, 117, 103]⟩, .string ⟨#[83, 101, 112]⟩, .string ⟨#[79, 99, 116]⟩, .string ⟨#[78, 111, 118]⟩, .string ⟨#[68, 101, 99]⟩]
def weekAt (q : Nat) : ByteArray := weekB.extract (q * 3) (q * 3 + 3)
def monthAt (m : Nat) : ByteArray := monthB.extract (3 * m - 3) (3 * m - 3 + 3)
theorem refWeek_at (q : Nat) (h : q ≤ 6) : refWeek[q]? = some (.string (weekAt q)) := by
  rcases q with _ | _ | _ | _ | _ | _ | _ | q
  any_goals rfl
  omega
theorem refMonth_at (m : Nat) (h0 : 1 ≤ m) (h : m ≤ 12) : refMonth[m]? = some (.string (monthAt m)) := by
  rcases m with _ | _ | _ | _ | _ | _ | _ | _ | _ | _ | _ | _ | _ | m
  · omega
  any_goals rfl
  omega
def refShowB (t y m d r : Int) : ByteArray := weekAt (t / 86400 % 7).toNat ++ ⟨#[44, 32]⟩ ++ (rtwo d) ++ ⟨#[32]⟩ ++ monthAt m.toNat ++ ⟨#[32]⟩ ++ (rtwo (y / 100)) ++ (rtwo (y % 100)) ++ ⟨#[32]⟩ ++ (rtwo (r / 3600)) ++ ⟨#[58]⟩ ++ (rtwo (r / 60 % 60)) ++ ⟨#[58]⟩ ++ (rtwo (r % 60)) ++ ⟨#[32, 71, 77, 84]⟩
def pantryref02_Show.f (k : Nat) (a0 : Int) : Option ByteArray :=
  (pantryref02_Split.f k a0).bind fun b => if ShowOk a0 b.1 b.2.1 b.2.2.1 b.2.2.2 then some (refShowB a0 b.1 b.2.1 b.2.2.1 b.2.2.2) else none
theorem pantryref02_Show.mono : ∀ a0 k, LeO (pantryref02_Show.f k a0) (pantryref02_Show.f (k + 1) a0) := by
  intro a0 k
  unfold pantryref02_Show.f
  exact LeO.bind (pantryref02_Split.mono _ _) (fun _ => LeO.refl _)
theorem run_adds {P : Program} (a b : ByteArray) (n : Nat) (ha : a.size ≤ n) (hb : b.size ≤ 4) (hn : n ≤ 100) (W : World) : (Op.stringOp .add a b).run P W = .ok (.string (a ++ b)) W := run_string_add_sum W a b (by omega)
set_option maxHeartbeats 4000000 in
set_option maxRecDepth 100000 in
theorem pantryref02_Show.calls (k : Nat) (a0 : Int) (r1 : ByteArray) (w : World) (h : pantryref02_Show.f k a0 = some r1) :
    Calls Tryd.prog 83 #[.int .i64 a0] w fun e w' => e = .returned (.string r1) ∧ Below w.heap.size w w' := by
  unfold pantryref02_Show.f at h
  cases hs : pantryref02_Split.f k a0 with
  | none => rw [hs] at h; simp at h
  | some b =>
    obtain ⟨y, m, d, r⟩ := b
    rw [hs] at h
    simp only [Option.bind_some] at h
    have HS := Aside0.mk hs
    clear hs
    by_cases hok : ShowOk a0 y m d r
    · rw [if_pos hok] at h
      have h' := Option.some.inj h
      clear h
      obtain ⟨⟨ht0, ht1⟩, ⟨hy0, hy1⟩, ⟨hm0, hm1⟩, ⟨hd0, hd1⟩, hr0, hr1⟩ := hok
      obtain ⟨m, rfl⟩ := Int.eq_ofNat_of_zero_le (show 0 ≤ m by omega)
      obtain ⟨q, hq⟩ := Int.eq_ofNat_of_zero_le (show 0 ≤ a0 / 86400 % 7 by omega)
      have hq6 : q ≤ 6 := by omega
      have hm1' : m ≤ 12 := by omega
      have hm0' : 1 ≤ m := by omega
      unfold refShowB at h'
      rw [hq, Int.toNat_natCast, Int.toNat_natCast] at h'
      have hwk : (weekAt q).size ≤ 3 := by unfold weekAt; rw [ByteArray.size_extract]; omega
      have hmo : (monthAt m).size ≤ 4 := by unfold monthAt; rw [ByteArray.size_extract]; omega
      have cW := refWeek_at q hq6
      have cM := refMonth_at m hm0' hm1'
      generalize weekAt q = wk at *
      generalize monthAt m = mo at *
      subst h'
      have HQ := Aside0.mk hq
      clear hq
      have hszw := hwk
      have hszm := hmo
      have k1 : ∀ W, (Op.stringOp .add wk ⟨#[44, 32]⟩).run Tryd.prog W = .ok (.string (wk ++ ⟨#[44, 32]⟩)) W := fun W => run_adds _ _ 60 (by first | omega | (simp only [ByteArray.size_append, rtwo_size, szA, szB, szC]; omega)) (by first | (rw [rtwo_size]; omega) | (simp only [szA, szB, szC, szD]; omega) | omega) (by omega) W
      have k2 : ∀ W, (Op.stringOp .add (wk ++ ⟨#[44, 32]⟩) (rtwo d)).run Tryd.prog W = .ok (.string (wk ++ ⟨#[44, 32]⟩ ++ (rtwo d))) W := fun W => run_adds _ _ 60 (by first | omega | (simp only [ByteArray.size_append, rtwo_size, szA, szB, szC]; omega)) (by first | (rw [rtwo_size]; omega) | (simp only [szA, szB, szC, szD]; omega) | omega) (by omega) W
      have k3 : ∀ W, (Op.stringOp .add (wk ++ ⟨#[44, 32]⟩ ++ (rtwo d)) ⟨#[32]⟩).run Tryd.prog W = .ok (.string (wk ++ ⟨#[44, 32]⟩ ++ (rtwo d) ++ ⟨#[32]⟩)) W := fun W => run_adds _ _ 60 (by first | omega | (simp only [ByteArray.size_append, rtwo_size, szA, szB, szC]; omega)) (by first | (rw [rtwo_size]; omega) | (simp only [szA, szB, szC, szD]; omega) | omega) (by omega) W
      have k4 : ∀ W, (Op.stringOp .add (wk ++ ⟨#[44, 32]⟩ ++ (rtwo d) ++ ⟨#[32]⟩) mo).run Tryd.prog W = .ok (.string (wk ++ ⟨#[44, 32]⟩ ++ (rtwo d) ++ ⟨#[32]⟩ ++ mo)) W := fun W => run_adds _ _ 60 (by first | omega | (simp only [ByteArray.size_append, rtwo_size, szA, szB, szC]; omega)) (by first | (rw [rtwo_size]; omega) | (simp only [szA, szB, szC, szD]; omega) | omega) (by omega) W
      have k5 : ∀ W, (Op.stringOp .add (wk ++ ⟨#[44, 32]⟩ ++ (rtwo d) ++ ⟨#[32]⟩ ++ mo) ⟨#[32]⟩).run Tryd.prog W = .ok (.string (wk ++ ⟨#[44, 32]⟩ ++ (rtwo d) ++ ⟨#[32]⟩ ++ mo ++ ⟨#[32]⟩)) W := fun W => run_adds _ _ 60 (by first | omega | (simp only [ByteArray.size_append, rtwo_size, szA, szB, szC]; omega)) (by first | (rw [rtwo_size]; omega) | (simp only [szA, szB, szC, szD]; omega) | omega) (by omega) W
      have k6 : ∀ W, (Op.stringOp .add (wk ++ ⟨#[44, 32]⟩ ++ (rtwo d) ++ ⟨#[32]⟩ ++ mo ++ ⟨#[32]⟩) (rtwo (y / 100))).run Tryd.prog W = .ok (.string (wk ++ ⟨#[44, 32]⟩ ++ (rtwo d) ++ ⟨#[32]⟩ ++ mo ++ ⟨#[32]⟩ ++ (rtwo (y / 100)))) W := fun W => run_adds _ _ 60 (by first | omega | (simp only [ByteArray.size_append, rtwo_size, szA, szB, szC]; omega)) (by first | (rw [rtwo_size]; omega) | (simp only [szA, szB, szC, szD]; omega) | omega) (by omega) W
      have k7 : ∀ W, (Op.stringOp .add (wk ++ ⟨#[44, 32]⟩ ++ (rtwo d) ++ ⟨#[32]⟩ ++ mo ++ ⟨#[32]⟩ ++ (rtwo (y / 100))) (rtwo (y % 100))).run Tryd.prog W = .ok (.string (wk ++ ⟨#[44, 32]⟩ ++ (rtwo d) ++ ⟨#[32]⟩ ++ mo ++ ⟨#[32]⟩ ++ (rtwo (y / 100)) ++ (rtwo (y % 100)))) W := fun W => run_adds _ _ 60 (by first | omega | (simp only [ByteArray.size_append, rtwo_size, szA, szB, szC]; omega)) (by first | (rw [rtwo_size]; omega) | (simp only [szA, szB, szC, szD]; omega) | omega) (by omega) W
      have k8 : ∀ W, (Op.stringOp .add (wk ++ ⟨#[44, 32]⟩ ++ (rtwo d) ++ ⟨#[32]⟩ ++ mo ++ ⟨#[32]⟩ ++ (rtwo (y / 100)) ++ (rtwo (y % 100))) ⟨#[32]⟩).run Tryd.prog W = .ok (.string (wk ++ ⟨#[44, 32]⟩ ++ (rtwo d) ++ ⟨#[32]⟩ ++ mo ++ ⟨#[32]⟩ ++ (rtwo (y / 100)) ++ (rtwo (y % 100)) ++ ⟨#[32]⟩)) W := fun W => run_adds _ _ 60 (by first | omega | (simp only [ByteArray.size_append, rtwo_size, szA, szB, szC]; omega)) (by first | (rw [rtwo_size]; omega) | (simp only [szA, szB, szC, szD]; omega) | omega) (by omega) W
      have k9 : ∀ W, (Op.stringOp .add (wk ++ ⟨#[44, 32]⟩ ++ (rtwo d) ++ ⟨#[32]⟩ ++ mo ++ ⟨#[32]⟩ ++ (rtwo (y / 100)) ++ (rtwo (y % 100)) ++ ⟨#[32]⟩) (rtwo (r / 3600))).run Tryd.prog W = .ok (.string (wk ++ ⟨#[44, 32]⟩ ++ (rtwo d) ++ ⟨#[32]⟩ ++ mo ++ ⟨#[32]⟩ ++ (rtwo (y / 100)) ++ (rtwo (y % 100)) ++ ⟨#[32]⟩ ++ (rtwo (r / 3600)))) W := fun W => run_adds _ _ 60 (by first | omega | (simp only [ByteArray.size_append, rtwo_size, szA, szB, szC]; omega)) (by first | (rw [rtwo_size]; omega) | (simp only [szA, szB, szC, szD]; omega) | omega) (by omega) W
      have k10 : ∀ W, (Op.stringOp .add (wk ++ ⟨#[44, 32]⟩ ++ (rtwo d) ++ ⟨#[32]⟩ ++ mo ++ ⟨#[32]⟩ ++ (rtwo (y / 100)) ++ (rtwo (y % 100)) ++ ⟨#[32]⟩ ++ (rtwo (r / 3600))) ⟨#[58]⟩).run Tryd.prog W = .ok (.string (wk ++ ⟨#[44, 32]⟩ ++ (rtwo d) ++ ⟨#[32]⟩ ++ mo ++ ⟨#[32]⟩ ++ (rtwo (y / 100)) ++ (rtwo (y % 100)) ++ ⟨#[32]⟩ ++ (rtwo (r / 3600)) ++ ⟨#[58]⟩)) W := fun W => run_adds _ _ 60 (by first | omega | (simp only [ByteArray.size_append, rtwo_size, szA, szB, szC]; omega)) (by first | (rw [rtwo_size]; omega) | (simp only [szA, szB, szC, szD]; omega) | omega) (by omega) W
      have k11 : ∀ W, (Op.stringOp .add (wk ++ ⟨#[44, 32]⟩ ++ (rtwo d) ++ ⟨#[32]⟩ ++ mo ++ ⟨#[32]⟩ ++ (rtwo (y / 100)) ++ (rtwo (y % 100)) ++ ⟨#[32]⟩ ++ (rtwo (r / 3600)) ++ ⟨#[58]⟩) (rtwo (r / 60 % 60))).run Tryd.prog W = .ok (.string (wk ++ ⟨#[44, 32]⟩ ++ (rtwo d) ++ ⟨#[32]⟩ ++ mo ++ ⟨#[32]⟩ ++ (rtwo (y / 100)) ++ (rtwo (y % 100)) ++ ⟨#[32]⟩ ++ (rtwo (r / 3600)) ++ ⟨#[58]⟩ ++ (rtwo (r / 60 % 60)))) W := fun W => run_adds _ _ 60 (by first | omega | (simp only [ByteArray.size_append, rtwo_size, szA, szB, szC]; omega)) (by first | (rw [rtwo_size]; omega) | (simp only [szA, szB, szC, szD]; omega) | omega) (by omega) W
      have k12 : ∀ W, (Op.stringOp .add (wk ++ ⟨#[44, 32]⟩ ++ (rtwo d) ++ ⟨#[32]⟩ ++ mo ++ ⟨#[32]⟩ ++ (rtwo (y / 100)) ++ (rtwo (y % 100)) ++ ⟨#[32]⟩ ++ (rtwo (r / 3600)) ++ ⟨#[58]⟩ ++ (rtwo (r / 60 % 60))) ⟨#[58]⟩).run Tryd.prog W = .ok (.string (wk ++ ⟨#[44, 32]⟩ ++ (rtwo d) ++ ⟨#[32]⟩ ++ mo ++ ⟨#[32]⟩ ++ (rtwo (y / 100)) ++ (rtwo (y % 100)) ++ ⟨#[32]⟩ ++ (rtwo (r / 3600)) ++ ⟨#[58]⟩ ++ (rtwo (r / 60 % 60)) ++ ⟨#[58]⟩)) W := fun W => run_adds _ _ 60 (by first | omega | (simp only [ByteArray.size_append, rtwo_size, szA, szB, szC]; omega)) (by first | (rw [rtwo_size]; omega) | (simp only [szA, szB, szC, szD]; omega) | omega) (by omega) W
      have k13 : ∀ W, (Op.stringOp .add (wk ++ ⟨#[44, 32]⟩ ++ (rtwo d) ++ ⟨#[32]⟩ ++ mo ++ ⟨#[32]⟩ ++ (rtwo (y / 100)) ++ (rtwo (y % 100)) ++ ⟨#[32]⟩ ++ (rtwo (r / 3600)) ++ ⟨#[58]⟩ ++ (rtwo (r / 60 % 60)) ++ ⟨#[58]⟩) (rtwo (r % 60))).run Tryd.prog W = .ok (.string (wk ++ ⟨#[44, 32]⟩ ++ (rtwo d) ++ ⟨#[32]⟩ ++ mo ++ ⟨#[32]⟩ ++ (rtwo (y / 100)) ++ (rtwo (y % 100)) ++ ⟨#[32]⟩ ++ (rtwo (r / 3600)) ++ ⟨#[58]⟩ ++ (rtwo (r / 60 % 60)) ++ ⟨#[58]⟩ ++ (rtwo (r % 60)))) W := fun W => run_adds _ _ 60 (by first | omega | (simp only [ByteArray.size_append, rtwo_size, szA, szB, szC]; omega)) (by first | (rw [rtwo_size]; omega) | (simp only [szA, szB, szC, szD]; omega) | omega) (by omega) W
      have k14 : ∀ W, (Op.stringOp .add (wk ++ ⟨#[44, 32]⟩ ++ (rtwo d) ++ ⟨#[32]⟩ ++ mo ++ ⟨#[32]⟩ ++ (rtwo (y / 100)) ++ (rtwo (y % 100)) ++ ⟨#[32]⟩ ++ (rtwo (r / 3600)) ++ ⟨#[58]⟩ ++ (rtwo (r / 60 % 60)) ++ ⟨#[58]⟩ ++ (rtwo (r % 60))) ⟨#[32, 71, 77, 84]⟩).run Tryd.prog W = .ok (.string (wk ++ ⟨#[44, 32]⟩ ++ (rtwo d) ++ ⟨#[32]⟩ ++ mo ++ ⟨#[32]⟩ ++ (rtwo (y / 100)) ++ (rtwo (y % 100)) ++ ⟨#[32]⟩ ++ (rtwo (r / 3600)) ++ ⟨#[58]⟩ ++ (rtwo (r / 60 % 60)) ++ ⟨#[58]⟩ ++ (rtwo (r % 60)) ++ ⟨#[32, 71, 77, 84]⟩)) W := fun W => run_adds _ _ 60 (by first | omega | (simp only [ByteArray.size_append, rtwo_size, szA, szB, szC]; omega)) (by first | (rw [rtwo_size]; omega) | (simp only [szA, szB, szC, szD]; omega) | omega) (by omega) W
      go_enter Tryd.func83, Tryd.ntmps83
      go_wp2_with (go_at_call 99; refine (pantryref02_Split.calls k a0 y m d r w HS.out).mono ?_; rintro e w' ⟨rfl, hb0⟩)
      have hq := HQ.out
      have hq0 : (0 : Int) ≤ (q : Int) := by omega
      have hq7 : (q : Int) < 7 := by omega
      have hm7 : (m : Int) < 13 := by omega
      have hc7 : ((w'.alloc (.cells #[.string ⟨#[84, 104, 117]⟩, .string ⟨#[70, 114, 105]⟩, .string ⟨#[83, 97, 116]⟩, .string ⟨#[83, 117, 110]⟩, .string ⟨#[77, 111, 110]⟩, .string ⟨#[84, 117, 101]⟩, .string ⟨#[87, 101, 100]⟩] 116)).alloc (.cells #[.string ⟨#[]⟩, .string ⟨#[74, 97, 110]⟩, .string ⟨#[70, 101, 98]⟩, .string ⟨#[77, 97, 114]⟩, .string ⟨#[65, 112, 114]⟩, .string ⟨#[77, 97, 121]⟩, .string ⟨#[74, 117, 110]⟩, .string ⟨#[74, 117, 108]⟩, .string ⟨#[65, 117, 103]⟩, .string ⟨#[83, 101, 112]⟩, .string ⟨#[79, 99, 116]⟩, .string ⟨#[78, 111, 118]⟩, .string ⟨#[68, 101, 99]⟩] 95)).cell? ⟨w'.heap.size, q, none⟩ = some (.string wk) := by
        rw [Lib.cell_of_heap ((Lib.alloc_old _ _ _ (by simp)).trans (heap_alloc_new w' _))]
        exact cW
      have hc13 : ((w'.alloc (.cells #[.string ⟨#[84, 104, 117]⟩, .string ⟨#[70, 114, 105]⟩, .string ⟨#[83, 97, 116]⟩, .string ⟨#[83, 117, 110]⟩, .string ⟨#[77, 111, 110]⟩, .string ⟨#[84, 117, 101]⟩, .string ⟨#[87, 101, 100]⟩] 116)).alloc (.cells #[.string ⟨#[]⟩, .string ⟨#[74, 97, 110]⟩, .string ⟨#[70, 101, 98]⟩, .string ⟨#[77, 97, 114]⟩, .string ⟨#[65, 112, 114]⟩, .string ⟨#[77, 97, 121]⟩, .string ⟨#[74, 117, 110]⟩, .string ⟨#[74, 117, 108]⟩, .string ⟨#[65, 117, 103]⟩, .string ⟨#[83, 101, 112]⟩, .string ⟨#[79, 99, 116]⟩, .string ⟨#[78, 111, 118]⟩, .string ⟨#[68, 101, 99]⟩] 95)).cell? ⟨w'.heap.size + 1, m, none⟩ = some (.string mo) := by
        have := heap_alloc_new (w'.alloc (.cells refWeek 116)) (.cells refMonth 95)
        rw [show (w'.alloc (.cells refWeek 116)).heap.size = w'.heap.size + 1 by simp] at this
        exact (Lib.cell_of_heap this m).trans cM
      have hbz : Below w.heap.size w ((w'.alloc (.cells #[.string ⟨#[84, 104, 117]⟩, .string ⟨#[70, 114, 105]⟩, .string ⟨#[83, 97, 116]⟩, .string ⟨#[83, 117, 110]⟩, .string ⟨#[77, 111, 110]⟩, .string ⟨#[84, 117, 101]⟩, .string ⟨#[87, 101, 100]⟩] 116)).alloc (.cells #[.string ⟨#[]⟩, .string ⟨#[74, 97, 110]⟩, .string ⟨#[70, 101, 98]⟩, .string ⟨#[77, 97, 114]⟩, .string ⟨#[65, 112, 114]⟩, .string ⟨#[77, 97, 121]⟩, .string ⟨#[74, 117, 110]⟩, .string ⟨#[74, 117, 108]⟩, .string ⟨#[65, 117, 103]⟩, .string ⟨#[83, 101, 112]⟩, .string ⟨#[79, 99, 116]⟩, .string ⟨#[78, 111, 118]⟩, .string ⟨#[68, 101, 99]⟩] 95)) := (hb0.alloc hb0.size _).alloc (by have := hb0.size; simp; omega) _
      generalize ((w'.alloc (.cells #[.string ⟨#[84, 104, 117]⟩, .string ⟨#[70, 114, 105]⟩, .string ⟨#[83, 97, 116]⟩, .string ⟨#[83, 117, 110]⟩, .string ⟨#[77, 111, 110]⟩, .string ⟨#[84, 117, 101]⟩, .string ⟨#[87, 101, 100]⟩] 116)).alloc (.cells #[.string ⟨#[]⟩, .string ⟨#[74, 97, 110]⟩, .string ⟨#[70, 101, 98]⟩, .string ⟨#[77, 97, 114]⟩, .string ⟨#[65, 112, 114]⟩, .string ⟨#[77, 97, 121]⟩, .string ⟨#[74, 117, 110]⟩, .string ⟨#[74, 117, 108]⟩, .string ⟨#[65, 117, 103]⟩, .string ⟨#[83, 101, 112]⟩, .string ⟨#[79, 99, 116]⟩, .string ⟨#[78, 111, 118]⟩, .string ⟨#[68, 101, 99]⟩] 95)) = wz at *
      have e20 : a0.tdiv 86400 = a0 / 86400 := Int.tdiv_eq_ediv_of_nonneg ht0
      have e20w : IntKind.i64.wrap (a0 / 86400) = a0 / 86400 := IntWalk.i64_in _ (by omega)
      have e21 : (a0 / 86400).tmod 7 = (q : Int) := by rw [Int.tmod_eq_emod_of_nonneg (by omega)]; exact hq
      have e35 : y.tdiv 100 = y / 100 := Int.tdiv_eq_ediv_of_nonneg hy0
      have e35w : IntKind.i64.wrap (y / 100) = y / 100 := IntWalk.i64_in _ (by omega)
      have e39 : y.tmod 100 = y % 100 := Int.tmod_eq_emod_of_nonneg hy0
      go_region_held3 (fun W => W.cell? ⟨w'.heap.size, q, none⟩ = some (.string wk) ∧ W.cell? ⟨w'.heap.size + 1, m, none⟩ = some (.string mo) ∧ Below w.heap.size w W)
        (first | (go_split_ands; exact ⟨pw_cell_below hbt (by assumption), pw_cell_below hbt (by assumption), below_then (by assumption) (Below.size (by assumption)) hbt⟩) | exact ⟨(by assumption : _), (by assumption : _), below_drew (by assumption)⟩ | go_keep)
        (first | (go_at_call 100; refine (two_any _ _).mono ?_; rintro e w9 ⟨rfl, hbt⟩))
      go_split_ands
      have HBQ : Aside0 (Below w.heap.size w _) := Aside0.mk (by assumption)
      have f45 : 0 ≤ r / 3600 := by omega
      have f50 : 0 ≤ r / 60 := by omega
      clear hc7 hc13
      go_wp2_with fail
      refine (two_any _ _).mono ?_
      rintro e wa ⟨rfl, hba⟩
      have HB1 := Aside0.mk (below_then HBQ.out HBQ.out.size hba)
      go_wp2_with fail
      refine (two_any _ _).mono ?_
      rintro e wb ⟨rfl, hbb⟩
      have HB2 := Aside0.mk (below_then HB1.out HB1.out.size hbb)
      go_wp2_with fail
      refine (two_any _ _).mono ?_
      rintro e wc ⟨rfl, hbc⟩
      go_wp2
      go_ret
      exact ⟨rfl, below_then HB2.out HB2.out.size hbc⟩
    · rw [if_neg hok] at h
      cases h

/-! ### pantryref12_Read: function 67, by hand -/
-- over 80 81 82 83
def monGo (x : ByteArray) : Nat → Nat → Int → Int
  | 0, _, m => m
  | q + 1, i, m => monGo x q (i + 1) (if (monthAt i).toList = x.toList then (i : Int) else m)
def monNo (s : ByteArray) : Int := monGo (s.extract 8 11) 12 1 0
theorem wrap64_small {x : Int} (h0 : -9223372036854775808 ≤ x) (h1 : x ≤ 9223372036854775807) : wrap64 x = x := by unfold wrap64; omega
mutual
def pantryref12_Read.j0 : Nat → ByteArray → Int → Int → Int → Bool → Option (Int × Bool)
  | 0, _, _, _, _, _ => none
  | k + 1, x0, x5, x7, x8, x41 => if x41 = true then (some (0, false)) else (pantryref12_Read.l0 k x0 x5 x7 (wrap64 (x8 - 1)) 1970)
def pantryref12_Read.l0 : Nat → ByteArray → Int → Int → Int → Int → Option (Int × Bool)
  | 0, _, _, _, _, _ => none
  | k + 1, x0, x5, x7, x9, x10 => if x10 < x7 then ((pantryref02_Leap.f x10).bind fun t260 => (if t260 = true then (pantryref12_Read.l0 k x0 x5 x7 (wrap64 ((wrap64 (x9 + 365)) + 1)) (wrap64 (x10 + 1))) else (pantryref12_Read.l0 k x0 x5 x7 (wrap64 (x9 + 365)) (wrap64 (x10 + 1))))) else (pantryref12_Read.l1 k x0 x5 x7 x9 1)
def pantryref12_Read.l1 : Nat → ByteArray → Int → Int → Int → Int → Option (Int × Bool)
  | 0, _, _, _, _, _ => none
  | k + 1, x0, x5, x7, x9, x11 => if x11 < x5 then ((pantryref02_Days.f x7 x11).bind fun t261 => (pantryref12_Read.l1 k x0 x5 x7 (wrap64 (x9 + t261)) (wrap64 (x11 + 1)))) else ((pantryref12_number.f k x0 17 2).bind fun t262 => ((pantryref12_number.f k x0 20 2).bind fun t263 => ((pantryref12_number.f k x0 23 2).bind fun t264 => (if (wrap64 ((wrap64 ((wrap64 ((wrap64 (x9 * 86400)) + (wrap64 (t262 * 3600)))) + (wrap64 (t263 * 60)))) + t264)) < 0 then (some (0, false)) else (if (wrap64 ((wrap64 ((wrap64 ((wrap64 (x9 * 86400)) + (wrap64 (t262 * 3600)))) + (wrap64 (t263 * 60)))) + t264)) > 253402300799 then (some (0, false)) else ((pantryref02_Show.f k (wrap64 ((wrap64 ((wrap64 ((wrap64 (x9 * 86400)) + (wrap64 (t262 * 3600)))) + (wrap64 (t263 * 60)))) + t264))).bind fun t265 => (if t265.toList = x0.toList then (some (wrap64 ((wrap64 ((wrap64 ((wrap64 (x9 * 86400)) + (wrap64 (t262 * 3600)))) + (wrap64 (t263 * 60)))) + t264), true)) else (some (0, false)))))))))
end
def pantryref12_Read.f (k : Nat) (a0 : ByteArray) : Option (Int × Bool) := if (a0.size : Int) = 29 then ((some (monNo a0) : Option Int).bind fun t257 => ((pantryref12_number.f k a0 12 4).bind fun t258 => ((pantryref12_number.f k a0 5 2).bind fun t259 => (if t257 = 0 then (pantryref12_Read.j0 k a0 t257 t258 t259 true) else (if t258 < 1970 then (pantryref12_Read.j0 k a0 t257 t258 t259 true) else (pantryref12_Read.j0 k a0 t257 t258 t259 (decide (t259 < 1)))))))) else (some (0, false))
theorem pantryref12_Read.mono_l : ∀ k, (∀ y0 y1 y2 y3 y4, LeO (pantryref12_Read.j0 k y0 y1 y2 y3 y4) (pantryref12_Read.j0 (k + 1) y0 y1 y2 y3 y4)) ∧ (∀ y0 y1 y2 y3 y4, LeO (pantryref12_Read.l0 k y0 y1 y2 y3 y4) (pantryref12_Read.l0 (k + 1) y0 y1 y2 y3 y4)) ∧ (∀ y0 y1 y2 y3 y4, LeO (pantryref12_Read.l1 k y0 y1 y2 y3 y4) (pantryref12_Read.l1 (k + 1) y0 y1 y2 y3 y4))
  | 0 => ⟨fun _ _ _ _ _ r h => by simp [pantryref12_Read.j0] at h, fun _ _ _ _ _ r h => by simp [pantryref12_Read.l0] at h, fun _ _ _ _ _ r h => by simp [pantryref12_Read.l1] at h⟩
  | k + 1 => by
    obtain ⟨ih0, ih1, ih2⟩ := pantryref12_Read.mono_l k
    refine ⟨?_, ?_, ?_⟩
    · intro y0 y1 y2 y3 y4
      unfold pantryref12_Read.j0
      repeat' first
      | (with_reducible exact ih0 _ _ _ _ _)
      | (with_reducible exact ih1 _ _ _ _ _)
      | (with_reducible exact ih2 _ _ _ _ _)
      | (with_reducible exact pantryref02_Show.mono _ _)
      | (with_reducible exact pantryref12_number.mono _ _ _ _)
      | (with_reducible exact LeO.refl _)
      | (with_reducible exact LeO.none _)
      | (with_reducible refine LeO.ite ?_ ?_)
      | (with_reducible refine LeO.bind ?_ (fun _ => ?_))
      | exact ih0 _ _ _ _ _
      | exact ih1 _ _ _ _ _
      | exact ih2 _ _ _ _ _
      | exact pantryref02_Show.mono _ _
      | exact pantryref12_number.mono _ _ _ _
      | exact LeO.none _
      | refine LeO.ite ?_ ?_
      | refine LeO.bind ?_ (fun _ => ?_)
    · intro y0 y1 y2 y3 y4
      unfold pantryref12_Read.l0
      repeat' first
      | (with_reducible exact ih0 _ _ _ _ _)
      | (with_reducible exact ih1 _ _ _ _ _)
      | (with_reducible exact ih2 _ _ _ _ _)
      | (with_reducible exact pantryref02_Show.mono _ _)
      | (with_reducible exact pantryref12_number.mono _ _ _ _)
      | (with_reducible exact LeO.refl _)
      | (with_reducible exact LeO.none _)
      | (with_reducible refine LeO.ite ?_ ?_)
      | (with_reducible refine LeO.bind ?_ (fun _ => ?_))
      | exact ih0 _ _ _ _ _
      | exact ih1 _ _ _ _ _
      | exact ih2 _ _ _ _ _
      | exact pantryref02_Show.mono _ _
      | exact pantryref12_number.mono _ _ _ _
      | exact LeO.none _
      | refine LeO.ite ?_ ?_
      | refine LeO.bind ?_ (fun _ => ?_)
    · intro y0 y1 y2 y3 y4
      unfold pantryref12_Read.l1
      repeat' first
      | (with_reducible exact ih0 _ _ _ _ _)
      | (with_reducible exact ih1 _ _ _ _ _)
      | (with_reducible exact ih2 _ _ _ _ _)
      | (with_reducible exact pantryref02_Show.mono _ _)
      | (with_reducible exact pantryref12_number.mono _ _ _ _)
      | (with_reducible exact LeO.refl _)
      | (with_reducible exact LeO.none _)
      | (with_reducible refine LeO.ite ?_ ?_)
      | (with_reducible refine LeO.bind ?_ (fun _ => ?_))
      | exact ih0 _ _ _ _ _
      | exact ih1 _ _ _ _ _
      | exact ih2 _ _ _ _ _
      | exact pantryref02_Show.mono _ _
      | exact pantryref12_number.mono _ _ _ _
      | exact LeO.none _
      | refine LeO.ite ?_ ?_
      | refine LeO.bind ?_ (fun _ => ?_)
theorem pantryref12_Read.mono : ∀ a0 k, LeO (pantryref12_Read.f k a0) (pantryref12_Read.f (k + 1) a0) := by
  intro a0 k
  obtain ⟨ih0, ih1, ih2⟩ := pantryref12_Read.mono_l k
  unfold pantryref12_Read.f
  repeat' first
      | (with_reducible exact ih0 _ _ _ _ _)
      | (with_reducible exact ih1 _ _ _ _ _)
      | (with_reducible exact ih2 _ _ _ _ _)
      | (with_reducible exact pantryref02_Show.mono _ _)
      | (with_reducible exact pantryref12_number.mono _ _ _ _)
      | (with_reducible exact LeO.refl _)
      | (with_reducible exact LeO.none _)
      | (with_reducible refine LeO.ite ?_ ?_)
      | (with_reducible refine LeO.bind ?_ (fun _ => ?_))
      | exact ih0 _ _ _ _ _
      | exact ih1 _ _ _ _ _
      | exact ih2 _ _ _ _ _
      | exact pantryref02_Show.mono _ _
      | exact pantryref12_number.mono _ _ _ _
      | exact LeO.none _
      | refine LeO.ite ?_ ?_
      | refine LeO.bind ?_ (fun _ => ?_)
set_option maxHeartbeats 8000000 in
set_option maxRecDepth 100000 in
theorem pantryref12_Read.calls (k : Nat) (a0 : ByteArray) (r1 : Int) (r2 : Bool) (w : World) (h : pantryref12_Read.f k a0 = some (r1, r2)) :
    Calls Tryd.prog 67 #[.string a0] w fun e w' => e = .returned (.tuple #[.int .i64 r1, .bool r2]) ∧ Below w.heap.size w w' := by
  have HB := Aside0.mk (Below.refl w.heap.size w)
  have H : (if (a0.size : Int) = 29 then ((some (monNo a0) : Option Int).bind fun t257 => ((pantryref12_number.f k a0 12 4).bind fun t258 => ((pantryref12_number.f k a0 5 2).bind fun t259 => (if t257 = 0 then (pantryref12_Read.j0 k a0 t257 t258 t259 true) else (if t258 < 1970 then (pantryref12_Read.j0 k a0 t257 t258 t259 true) else (pantryref12_Read.j0 k a0 t257 t258 t259 (decide (t259 < 1)))))))) else (some (0, false))) = some (r1, r2) := h
  clear h
  by_cases c2 : (a0.size : Int) = 29
  · rw [if_pos c2] at H
    have c2b0 : ((a0.size : Int) == 29) = true := beq_iff_eq.mpr c2
    have c2b1 : ((a0.size : Int) != 29) = false := bne_eq_false_iff_eq.mpr c2
    have C29 := Aside0.mk c2
    clear c2
    replace H := Option.bind_eq_some_iff.mp H
    obtain ⟨t257, A30, H⟩ := H
    replace H : ((pantryref12_number.f k a0 12 4).bind fun t258 => ((pantryref12_number.f k a0 5 2).bind fun t259 => (if t257 = 0 then (pantryref12_Read.j0 k a0 t257 t258 t259 true) else (if t258 < 1970 then (pantryref12_Read.j0 k a0 t257 t258 t259 true) else (pantryref12_Read.j0 k a0 t257 t258 t259 (decide (t259 < 1))))))) = some (r1, r2) := H
    have A3 := Aside0.mk A30
    clear A30
    replace H := Option.bind_eq_some_iff.mp H
    obtain ⟨t258, A40, H⟩ := H
    replace H : ((pantryref12_number.f k a0 5 2).bind fun t259 => (if t257 = 0 then (pantryref12_Read.j0 k a0 t257 t258 t259 true) else (if t258 < 1970 then (pantryref12_Read.j0 k a0 t257 t258 t259 true) else (pantryref12_Read.j0 k a0 t257 t258 t259 (decide (t259 < 1)))))) = some (r1, r2) := H
    have A4 := Aside0.mk A40
    clear A40
    replace H := Option.bind_eq_some_iff.mp H
    obtain ⟨t259, A50, H⟩ := H
    replace H : (if t257 = 0 then (pantryref12_Read.j0 k a0 t257 t258 t259 true) else (if t258 < 1970 then (pantryref12_Read.j0 k a0 t257 t258 t259 true) else (pantryref12_Read.j0 k a0 t257 t258 t259 (decide (t259 < 1))))) = some (r1, r2) := H
    have A5 := Aside0.mk A50
    clear A50
    have HC6 := Aside0.mk H
    clear H
    have q11 : ((11 : Int) ≤ (a0.size : Int)) = True := eq_true (by have := C29.out; omega)
    go_enter Tryd.func67, Tryd.ntmps67
    go_wp2
    go_loopg [5, 6] 12 (fun kq v5 v6 w' => ∃ (m i : Int), v5 = .int .i64 m ∧ v6 = .int .i64 i ∧ Aside0 (1 ≤ i ∧ i + kq = 13 ∧ monGo (a0.extract 8 11) kq i.toNat m = t257) ∧ Aside0 (w'.heap[w.heap.size]? = some (.cells refMonth 95 (0, 0))) ∧ Aside0 (Below w.heap.size w w'))
    case atStart => exact ⟨0, 1, rfl, rfl, ⟨by omega, by omega, Option.some.inj A3.out⟩, ⟨heap_alloc_new w _⟩, ⟨(Below.refl _ _).alloc (Nat.le_refl _) _⟩⟩
    case round =>
      clear HB
      obtain ⟨m, i, rfl, rfl, HI, HH, HB⟩ := hrel
      cases gk with
      | succ k2 =>
        obtain ⟨hi1, hi2, hi3⟩ := HI.out
        clear HI HC6 A4 A5 A3
        obtain ⟨n, rfl⟩ := Int.eq_ofNat_of_zero_le (show 0 ≤ i by omega)
        have hcell : wr.cell? ⟨w.heap.size, n, none⟩ = some (.string (monthAt n)) := by
          rw [Lib.cell_of_heap HH.out]
          exact refMonth_at n (by omega) (by omega)
        have h12 : decide ((n : Int) ≤ 12) = true := decide_eq_true (by omega)
        have p13 : ((n : Int) < 13) = True := eq_true (by omega)
        have p0 : (0 ≤ (n : Int)) = True := eq_true (by omega)
        have HN := Aside0.mk (And.intro hi1 (And.intro hi2 hi3))
        by_cases he : (monthAt n).toList = (a0.extract 8 11).toList
        · have heb : ((monthAt n).toList == (a0.extract 8 11).toList) = true := beq_iff_eq.mpr he
          have HE := Aside0.mk he
          clear he hi1 hi2 hi3
          generalize monthAt n = mo at hcell heb
          go_wp2
          repeat (go_quiet (fail); try go_wp2)
          go_roundg k2
          case measure => omega
          case rel =>
            obtain ⟨hi1, hi2, hi3⟩ := HN.out
            refine ⟨(n : Int), (n : Int) + 1, rfl, ?_, ⟨by omega, by omega, ?_⟩, ⟨by first | exact HH.out | simpa using HH.out⟩, ⟨by repeat (first | (with_reducible first | exact HB.out | apply below_alloc | apply pw_below_drewN | apply below_drew1) | exact HB.out)⟩⟩
            · first | rfl | (rw [wrap64_small (by omega) (by omega)])
            · rw [show ((n : Int) + 1).toNat = n + 1 by omega]
              simp only [monGo, Int.toNat_natCast] at hi3
              rwa [if_pos (by exact HE.out)] at hi3
        · have heb : ((monthAt n).toList == (a0.extract 8 11).toList) = false := beq_eq_false_iff_ne.mpr he
          have HE := Aside0.mk he
          clear he hi1 hi2 hi3
          generalize monthAt n = mo at hcell heb
          go_wp2
          repeat (go_quiet (fail); try go_wp2)
          go_roundg k2
          case measure => omega
          case rel =>
            obtain ⟨hi1, hi2, hi3⟩ := HN.out
            refine ⟨m, (n : Int) + 1, rfl, ?_, ⟨by omega, by omega, ?_⟩, ⟨by first | exact HH.out | simpa using HH.out⟩, ⟨by repeat (first | (with_reducible first | exact HB.out | apply below_alloc | apply pw_below_drewN | apply below_drew1) | exact HB.out)⟩⟩
            · first | rfl | (rw [wrap64_small (by omega) (by omega)])
            · rw [show ((n : Int) + 1).toNat = n + 1 by omega]
              simp only [monGo, Int.toNat_natCast] at hi3
              rwa [if_neg (by exact HE.out)] at hi3
      | zero =>
        obtain ⟨hi1, hi2, hi3⟩ := HI.out
        have h12 : decide (i ≤ 12) = false := decide_eq_false (by omega)
        obtain rfl : t257 = m := hi3.symm
        clear HI HH hi1 hi2 q11 A3
        go_upto_region 12 with (first | ((with_reducible refine gate_callee (f := 80) rfl ?_); refine goesL_ (some 29) rfl rfl Tryd.func80 (by kernel_rfl) rfl #[.string a0, .int .i64 12, .int .i64 4] rfl (by (try simp only [List.map_toArray, List.map_cons, List.map_nil]); first | done | rfl | (simp only [List.length_drop, List.length_take]; rfl)) ?_; (with_reducible refine (pantryref12_number.calls k a0 12 4 t258 _ A4.out).mono ?_); rintro e w' ⟨rfl, ⟨nd, rfl⟩⟩; refine ⟨_, rfl, ?_⟩) | ((with_reducible refine gate_callee (f := 80) rfl ?_); refine goesL_ (some 31) rfl rfl Tryd.func80 (by kernel_rfl) rfl #[.string a0, .int .i64 5, .int .i64 2] rfl (by (try simp only [List.map_toArray, List.map_cons, List.map_nil]); first | done | rfl | (simp only [List.length_drop, List.length_take]; rfl)) ?_; (with_reducible refine (pantryref12_number.calls k a0 5 2 t259 _ A5.out).mono ?_); rintro e w' ⟨rfl, ⟨nd, rfl⟩⟩; refine ⟨_, rfl, ?_⟩))
        (try simp only [Act.put, List.setIfInBounds_toArray, List.set_cons_zero, List.set_cons_succ])
        go_cut [41] (fun v41 wc => ∃ (kq : Nat) (x41_5 : Bool), v41 = .bool x41_5 ∧ Aside0 (pantryref12_Read.j0 kq a0 t257 t258 t259 x41_5 = some (r1, r2)) ∧ Aside0 (kq ≤ k) ∧ Aside0 (Below w.heap.size w wc))
        case first =>
          have H := HC6.out
          clear HC6
          by_cases c7 : t257 = 0
          · rw [if_pos c7] at H
            have c7b0 : (t257 == 0) = true := beq_iff_eq.mpr c7
            have c7b1 : (t257 != 0) = false := bne_eq_false_iff_eq.mpr c7
            clear c7
            (first | rw [c7b0] | (simp only [i64_w, i32_w]; rw [c7b0]) | skip)
            have H' := Aside0.mk H
            clear H
            go_wp2
            go_meet
            case rel => exact ⟨_, (true), (by first | rfl | (simp; done) | (simp [*]; done)), H', ⟨by first | omega | exact Nat.le_refl _⟩, ⟨by repeat (first | (with_reducible first | exact HB.out | apply below_alloc | apply pw_below_drewN | apply below_drew1) | exact HB.out)⟩⟩
          · rw [if_neg c7] at H
            have c7b0 : (t257 == 0) = false := beq_eq_false_iff_ne.mpr c7
            have c7b1 : (t257 != 0) = true := bne_iff_ne.mpr c7
            (first | rw [c7b0] | (simp only [i64_w, i32_w]; rw [c7b0]) | skip)
            by_cases c8 : t258 < 1970
            · rw [if_pos c8] at H
              have c8b0 : decide (t258 < 1970) = true := decide_eq_true c8
              clear c8
              have H' := Aside0.mk H
              clear H
              go_wp2
              go_meet
              case rel => exact ⟨_, (true), (by first | rfl | (simp; done) | (simp [*]; done)), H', ⟨by first | omega | exact Nat.le_refl _⟩, ⟨by repeat (first | (with_reducible first | exact HB.out | apply below_alloc | apply pw_below_drewN | apply below_drew1) | exact HB.out)⟩⟩
            · rw [if_neg c8] at H
              have c8b0 : decide (t258 < 1970) = false := decide_eq_false c8
              clear c8
              have H' := Aside0.mk H
              clear H
              go_wp2
              go_meet
              case rel => exact ⟨_, (decide (t259 < 1)), (by first | rfl | (simp; done) | (simp [*]; done)), H', ⟨by first | omega | exact Nat.le_refl _⟩, ⟨by repeat (first | (with_reducible first | exact HB.out | apply below_alloc | apply pw_below_drewN | apply below_drew1) | exact HB.out)⟩⟩
        case rest =>
          clear HC6
          try clear c2
          try clear c2b0
          try clear c2b1
          try clear p2
          try clear c6
          try clear c7
          try clear c7b0
          try clear c7b1
          try clear c8
          try clear c8b0
          obtain ⟨kq, x41_5, rfl, HA, HJ5, HB⟩ := hcut
          cases kq with
          | zero => exact absurd HA.out (by simp [pantryref12_Read.j0])
          | succ kj5 =>
            have H := HA.out
            clear HA
            simp only [pantryref12_Read.j0] at H
            by_cases c9 : x41_5 = true
            · subst c9
              have H1 : (some (0, false)) = some (r1, r2) := by rw [if_pos rfl] at H; exact H
              clear H
              have H := H1
              clear H1
              simp only [Option.some.injEq, Prod.mk.injEq] at H
              obtain ⟨rfl, rfl⟩ := H
              go_wp2
              go_ret2
              exact ⟨by first | rfl | (generalize ByteArray.toList _ = l_; cases l_ <;> rfl) | (simp [errW_none, errW_some] <;> rfl) | (simp [*, errW_none, errW_some] <;> rfl), by repeat (first | (with_reducible first | exact HB.out | apply below_alloc | apply pw_below_drewN | apply below_drew1) | exact HB.out)⟩
            · replace c9 := Bool.eq_false_iff.mpr c9
              subst c9
              have H1 : (pantryref12_Read.l0 kj5 a0 t257 t258 (wrap64 (t259 - 1)) 1970) = some (r1, r2) := by rw [if_neg (show ¬ (false = true) by decide)] at H; exact H
              clear H
              have H := H1
              clear H1
              have H' := Aside0.mk H
              clear H
              go_wp2
              go_loopg [9, 10] kj5 (fun kq v9 v10 w' => ∃ (x9_2 : Int) (x10_2 : Int), v9 = .int .i64 x9_2 ∧ v10 = .int .i64 x10_2 ∧ Aside0 (pantryref12_Read.l0 kq a0 t257 t258 x9_2 x10_2 = some (r1, r2)) ∧ Aside0 (kq ≤ kj5) ∧ Aside0 (Below w.heap.size w w'))
              case atStart => exact ⟨(wrap64 (t259 - 1)), (1970), (by first | rfl | (simp; done) | (simp [*]; done)), (by first | rfl | (simp; done) | (simp [*]; done)), H', ⟨Nat.le_refl _⟩, ⟨by repeat (first | (with_reducible first | exact HB.out | apply below_alloc | apply pw_below_drewN | apply below_drew1) | exact HB.out)⟩⟩
              case round =>
                clear H'
                try clear c2
                try clear c2b0
                try clear c2b1
                try clear p2
                try clear c6
                try clear p6
                try clear c7
                try clear c7b0
                try clear c7b1
                try clear c8
                try clear c8b0
                try clear c9
                try clear p2
                obtain ⟨x9_2, x10_2, rfl, rfl, HA, HK2, HB⟩ := hrel
                cases gk with
                | zero => exact absurd HA.out (by simp [pantryref12_Read.l0])
                | succ k2 =>
                  have H := HA.out
                  clear HA
                  simp only [pantryref12_Read.l0] at H
                  by_cases c10 : x10_2 < t258
                  · rw [if_pos c10] at H
                    have c10b0 : decide (x10_2 < t258) = true := decide_eq_true c10
                    clear c10
                    replace H := Option.bind_eq_some_iff.mp H
                    obtain ⟨t260, A110, H⟩ := H
                    replace H : (if t260 = true then (pantryref12_Read.l0 k2 a0 t257 t258 (wrap64 ((wrap64 (x9_2 + 365)) + 1)) (wrap64 (x10_2 + 1))) else (pantryref12_Read.l0 k2 a0 t257 t258 (wrap64 (x9_2 + 365)) (wrap64 (x10_2 + 1)))) = some (r1, r2) := H
                    have A11 := Aside0.mk A110
                    clear A110
                    by_cases c12 : t260 = true
                    · subst c12
                      have H1 : (pantryref12_Read.l0 k2 a0 t257 t258 (wrap64 ((wrap64 (x9_2 + 365)) + 1)) (wrap64 (x10_2 + 1))) = some (r1, r2) := by rw [if_pos rfl] at H; exact H
                      clear H
                      have H := H1
                      clear H1
                      have H' := Aside0.mk H
                      clear H
                      go_wp2_with (first | ((with_reducible refine gate_callee (f := 81) rfl ?_); refine goesL_ (some 52) rfl rfl Tryd.func81 (by kernel_rfl) rfl #[.int .i64 x10_2] rfl (by (try simp only [List.map_toArray, List.map_cons, List.map_nil]); first | done | rfl | (simp only [List.length_drop, List.length_take]; rfl)) ?_; (with_reducible refine (pantryref02_Leap.calls x10_2 true _ A11.out).mono ?_); rintro e w' ⟨rfl, ⟨nd, rfl⟩⟩; refine ⟨_, rfl, ?_⟩))
                      go_roundg k2
                      case measure => have := HJ5.out; have := HK2.out; omega
                      case rel => exact ⟨(wrap64 ((wrap64 (x9_2 + 365)) + 1)), (wrap64 (x10_2 + 1)), (by first | rfl | (simp; done) | (simp [*]; done)), (by first | rfl | (simp; done) | (simp [*]; done)), H', ⟨by have := HJ5.out; have := HK2.out; omega⟩, ⟨by repeat (first | (with_reducible first | exact HB.out | apply below_alloc | apply pw_below_drewN | apply below_drew1) | exact HB.out)⟩⟩
                    · replace c12 := Bool.eq_false_iff.mpr c12
                      subst c12
                      have H1 : (pantryref12_Read.l0 k2 a0 t257 t258 (wrap64 (x9_2 + 365)) (wrap64 (x10_2 + 1))) = some (r1, r2) := by rw [if_neg (show ¬ (false = true) by decide)] at H; exact H
                      clear H
                      have H := H1
                      clear H1
                      have H' := Aside0.mk H
                      clear H
                      go_wp2_with (first | ((with_reducible refine gate_callee (f := 81) rfl ?_); refine goesL_ (some 52) rfl rfl Tryd.func81 (by kernel_rfl) rfl #[.int .i64 x10_2] rfl (by (try simp only [List.map_toArray, List.map_cons, List.map_nil]); first | done | rfl | (simp only [List.length_drop, List.length_take]; rfl)) ?_; (with_reducible refine (pantryref02_Leap.calls x10_2 false _ A11.out).mono ?_); rintro e w' ⟨rfl, ⟨nd, rfl⟩⟩; refine ⟨_, rfl, ?_⟩))
                      go_roundg k2
                      case measure => have := HJ5.out; have := HK2.out; omega
                      case rel => exact ⟨(wrap64 (x9_2 + 365)), (wrap64 (x10_2 + 1)), (by first | rfl | (simp; done) | (simp [*]; done)), (by first | rfl | (simp; done) | (simp [*]; done)), H', ⟨by have := HJ5.out; have := HK2.out; omega⟩, ⟨by repeat (first | (with_reducible first | exact HB.out | apply below_alloc | apply pw_below_drewN | apply below_drew1) | exact HB.out)⟩⟩
                  · rw [if_neg c10] at H
                    have c10b0 : decide (x10_2 < t258) = false := decide_eq_false c10
                    clear c10
                    have H' := Aside0.mk H
                    clear H
                    go_wp2
                    go_loopg [9, 11] k2 (fun kq v9 v11 w' => ∃ (x9_3 : Int) (x11_3 : Int), v9 = .int .i64 x9_3 ∧ v11 = .int .i64 x11_3 ∧ Aside0 (pantryref12_Read.l1 kq a0 t257 t258 x9_3 x11_3 = some (r1, r2)) ∧ Aside0 (kq ≤ k2) ∧ Aside0 (Below w.heap.size w w'))
                    case atStart => exact ⟨(x9_2), (1), (by first | rfl | (simp; done) | (simp [*]; done)), (by first | rfl | (simp; done) | (simp [*]; done)), H', ⟨Nat.le_refl _⟩, ⟨by repeat (first | (with_reducible first | exact HB.out | apply below_alloc | apply pw_below_drewN | apply below_drew1) | exact HB.out)⟩⟩
                    case round =>
                      clear H'
                      try clear c1
                      try clear c2
                      try clear c2b0
                      try clear c2b1
                      try clear p2
                      try clear c6
                      try clear p6
                      try clear c7
                      try clear c7b0
                      try clear c7b1
                      try clear c8
                      try clear c8b0
                      try clear c9
                      try clear c10
                      try clear c10b0
                      try clear c12
                      try clear p2
                      try clear p6
                      obtain ⟨x9_3, x11_3, rfl, rfl, HA, HK3, HB⟩ := hrel
                      cases gk with
                      | zero => exact absurd HA.out (by simp [pantryref12_Read.l1])
                      | succ k3 =>
                        have H := HA.out
                        clear HA
                        simp only [pantryref12_Read.l1] at H
                        by_cases c13 : x11_3 < t257
                        · rw [if_pos c13] at H
                          have c13b0 : decide (x11_3 < t257) = true := decide_eq_true c13
                          clear c13
                          replace H := Option.bind_eq_some_iff.mp H
                          obtain ⟨t261, A140, H⟩ := H
                          replace H : (pantryref12_Read.l1 k3 a0 t257 t258 (wrap64 (x9_3 + t261)) (wrap64 (x11_3 + 1))) = some (r1, r2) := H
                          have A14 := Aside0.mk A140
                          clear A140
                          have H' := Aside0.mk H
                          clear H
                          go_wp2_with (first | ((with_reducible refine gate_callee (f := 82) rfl ?_); refine goesL_ (some 63) rfl rfl Tryd.func82 (by kernel_rfl) rfl #[.int .i64 t258, .int .i64 x11_3] rfl (by (try simp only [List.map_toArray, List.map_cons, List.map_nil]); first | done | rfl | (simp only [List.length_drop, List.length_take]; rfl)) ?_; (with_reducible refine (pantryref02_Days.calls t258 x11_3 t261 _ A14.out).mono ?_); rintro e w15 ⟨rfl, hb⟩; refine ⟨_, rfl, ?_⟩; have n0_ := Aside0.mk (below_step (by repeat (first | (with_reducible first | exact HB.out | apply below_alloc | apply pw_below_drewN | apply below_drew1) | exact HB.out)) hb); clear HB; have HB := n0_; clear n0_; (try clear hb); (try clear hb2); (try clear hk); (try clear hi)))
                          go_roundg k3
                          case measure => have := HJ5.out; have := HK2.out; have := HK3.out; omega
                          case rel => exact ⟨(wrap64 (x9_3 + t261)), (wrap64 (x11_3 + 1)), (by first | rfl | (simp; done) | (simp [*]; done)), (by first | rfl | (simp; done) | (simp [*]; done)), H', ⟨by have := HJ5.out; have := HK2.out; have := HK3.out; omega⟩, ⟨by repeat (first | (with_reducible first | exact HB.out | apply below_alloc | apply pw_below_drewN | apply below_drew1) | exact HB.out)⟩⟩
                        · rw [if_neg c13] at H
                          have c13b0 : decide (x11_3 < t257) = false := decide_eq_false c13
                          clear c13
                          replace H := Option.bind_eq_some_iff.mp H
                          obtain ⟨t262, A160, H⟩ := H
                          replace H : ((pantryref12_number.f k3 a0 20 2).bind fun t263 => ((pantryref12_number.f k3 a0 23 2).bind fun t264 => (if (wrap64 ((wrap64 ((wrap64 ((wrap64 (x9_3 * 86400)) + (wrap64 (t262 * 3600)))) + (wrap64 (t263 * 60)))) + t264)) < 0 then (some (0, false)) else (if (wrap64 ((wrap64 ((wrap64 ((wrap64 (x9_3 * 86400)) + (wrap64 (t262 * 3600)))) + (wrap64 (t263 * 60)))) + t264)) > 253402300799 then (some (0, false)) else ((pantryref02_Show.f k3 (wrap64 ((wrap64 ((wrap64 ((wrap64 (x9_3 * 86400)) + (wrap64 (t262 * 3600)))) + (wrap64 (t263 * 60)))) + t264))).bind fun t265 => (if t265.toList = a0.toList then (some (wrap64 ((wrap64 ((wrap64 ((wrap64 (x9_3 * 86400)) + (wrap64 (t262 * 3600)))) + (wrap64 (t263 * 60)))) + t264), true)) else (some (0, false)))))))) = some (r1, r2) := H
                          have A16 := Aside0.mk A160
                          clear A160
                          replace H := Option.bind_eq_some_iff.mp H
                          obtain ⟨t263, A170, H⟩ := H
                          replace H : ((pantryref12_number.f k3 a0 23 2).bind fun t264 => (if (wrap64 ((wrap64 ((wrap64 ((wrap64 (x9_3 * 86400)) + (wrap64 (t262 * 3600)))) + (wrap64 (t263 * 60)))) + t264)) < 0 then (some (0, false)) else (if (wrap64 ((wrap64 ((wrap64 ((wrap64 (x9_3 * 86400)) + (wrap64 (t262 * 3600)))) + (wrap64 (t263 * 60)))) + t264)) > 253402300799 then (some (0, false)) else ((pantryref02_Show.f k3 (wrap64 ((wrap64 ((wrap64 ((wrap64 (x9_3 * 86400)) + (wrap64 (t262 * 3600)))) + (wrap64 (t263 * 60)))) + t264))).bind fun t265 => (if t265.toList = a0.toList then (some (wrap64 ((wrap64 ((wrap64 ((wrap64 (x9_3 * 86400)) + (wrap64 (t262 * 3600)))) + (wrap64 (t263 * 60)))) + t264), true)) else (some (0, false))))))) = some (r1, r2) := H
                          have A17 := Aside0.mk A170
                          clear A170
                          replace H := Option.bind_eq_some_iff.mp H
                          obtain ⟨t264, A180, H⟩ := H
                          replace H : (if (wrap64 ((wrap64 ((wrap64 ((wrap64 (x9_3 * 86400)) + (wrap64 (t262 * 3600)))) + (wrap64 (t263 * 60)))) + t264)) < 0 then (some (0, false)) else (if (wrap64 ((wrap64 ((wrap64 ((wrap64 (x9_3 * 86400)) + (wrap64 (t262 * 3600)))) + (wrap64 (t263 * 60)))) + t264)) > 253402300799 then (some (0, false)) else ((pantryref02_Show.f k3 (wrap64 ((wrap64 ((wrap64 ((wrap64 (x9_3 * 86400)) + (wrap64 (t262 * 3600)))) + (wrap64 (t263 * 60)))) + t264))).bind fun t265 => (if t265.toList = a0.toList then (some (wrap64 ((wrap64 ((wrap64 ((wrap64 (x9_3 * 86400)) + (wrap64 (t262 * 3600)))) + (wrap64 (t263 * 60)))) + t264), true)) else (some (0, false)))))) = some (r1, r2) := H
                          have A18 := Aside0.mk A180
                          clear A180
                          by_cases c19 : (wrap64 ((wrap64 ((wrap64 ((wrap64 (x9_3 * 86400)) + (wrap64 (t262 * 3600)))) + (wrap64 (t263 * 60)))) + t264)) < 0
                          · rw [if_pos c19] at H
                            have c19b0 : decide ((wrap64 ((wrap64 ((wrap64 ((wrap64 (x9_3 * 86400)) + (wrap64 (t262 * 3600)))) + (wrap64 (t263 * 60)))) + t264)) < 0) = true := decide_eq_true c19
                            clear c19
                            simp only [Option.some.injEq, Prod.mk.injEq] at H
                            obtain ⟨rfl, rfl⟩ := H
                            go_wp2_with (first | ((with_reducible refine gate_callee (f := 80) rfl ?_); refine goesL_ (some 68) rfl rfl Tryd.func80 (by kernel_rfl) rfl #[.string a0, .int .i64 17, .int .i64 2] rfl (by (try simp only [List.map_toArray, List.map_cons, List.map_nil]); first | done | rfl | (simp only [List.length_drop, List.length_take]; rfl)) ?_; (with_reducible refine (pantryref12_number.calls k3 a0 17 2 t262 _ A16.out).mono ?_); rintro e w' ⟨rfl, ⟨nd, rfl⟩⟩; refine ⟨_, rfl, ?_⟩) | ((with_reducible refine gate_callee (f := 80) rfl ?_); refine goesL_ (some 72) rfl rfl Tryd.func80 (by kernel_rfl) rfl #[.string a0, .int .i64 20, .int .i64 2] rfl (by (try simp only [List.map_toArray, List.map_cons, List.map_nil]); first | done | rfl | (simp only [List.length_drop, List.length_take]; rfl)) ?_; (with_reducible refine (pantryref12_number.calls k3 a0 20 2 t263 _ A17.out).mono ?_); rintro e w' ⟨rfl, ⟨nd, rfl⟩⟩; refine ⟨_, rfl, ?_⟩) | ((with_reducible refine gate_callee (f := 80) rfl ?_); refine goesL_ (some 76) rfl rfl Tryd.func80 (by kernel_rfl) rfl #[.string a0, .int .i64 23, .int .i64 2] rfl (by (try simp only [List.map_toArray, List.map_cons, List.map_nil]); first | done | rfl | (simp only [List.length_drop, List.length_take]; rfl)) ?_; (with_reducible refine (pantryref12_number.calls k3 a0 23 2 t264 _ A18.out).mono ?_); rintro e w' ⟨rfl, ⟨nd, rfl⟩⟩; refine ⟨_, rfl, ?_⟩))
                            go_ret2
                            exact ⟨by first | rfl | (generalize ByteArray.toList _ = l_; cases l_ <;> rfl) | (simp [errW_none, errW_some] <;> rfl) | (simp [*, errW_none, errW_some] <;> rfl), by repeat (first | (with_reducible first | exact HB.out | apply below_alloc | apply pw_below_drewN | apply below_drew1) | exact HB.out)⟩
                          · rw [if_neg c19] at H
                            have c19b0 : decide ((wrap64 ((wrap64 ((wrap64 ((wrap64 (x9_3 * 86400)) + (wrap64 (t262 * 3600)))) + (wrap64 (t263 * 60)))) + t264)) < 0) = false := decide_eq_false c19
                            clear c19
                            by_cases c20 : (wrap64 ((wrap64 ((wrap64 ((wrap64 (x9_3 * 86400)) + (wrap64 (t262 * 3600)))) + (wrap64 (t263 * 60)))) + t264)) > 253402300799
                            · rw [if_pos c20] at H
                              have c20b0 : decide (253402300799 < (wrap64 ((wrap64 ((wrap64 ((wrap64 (x9_3 * 86400)) + (wrap64 (t262 * 3600)))) + (wrap64 (t263 * 60)))) + t264))) = true := decide_eq_true c20
                              clear c20
                              simp only [Option.some.injEq, Prod.mk.injEq] at H
                              obtain ⟨rfl, rfl⟩ := H
                              go_wp2_with (first | ((with_reducible refine gate_callee (f := 80) rfl ?_); refine goesL_ (some 68) rfl rfl Tryd.func80 (by kernel_rfl) rfl #[.string a0, .int .i64 17, .int .i64 2] rfl (by (try simp only [List.map_toArray, List.map_cons, List.map_nil]); first | done | rfl | (simp only [List.length_drop, List.length_take]; rfl)) ?_; (with_reducible refine (pantryref12_number.calls k3 a0 17 2 t262 _ A16.out).mono ?_); rintro e w' ⟨rfl, ⟨nd, rfl⟩⟩; refine ⟨_, rfl, ?_⟩) | ((with_reducible refine gate_callee (f := 80) rfl ?_); refine goesL_ (some 72) rfl rfl Tryd.func80 (by kernel_rfl) rfl #[.string a0, .int .i64 20, .int .i64 2] rfl (by (try simp only [List.map_toArray, List.map_cons, List.map_nil]); first | done | rfl | (simp only [List.length_drop, List.length_take]; rfl)) ?_; (with_reducible refine (pantryref12_number.calls k3 a0 20 2 t263 _ A17.out).mono ?_); rintro e w' ⟨rfl, ⟨nd, rfl⟩⟩; refine ⟨_, rfl, ?_⟩) | ((with_reducible refine gate_callee (f := 80) rfl ?_); refine goesL_ (some 76) rfl rfl Tryd.func80 (by kernel_rfl) rfl #[.string a0, .int .i64 23, .int .i64 2] rfl (by (try simp only [List.map_toArray, List.map_cons, List.map_nil]); first | done | rfl | (simp only [List.length_drop, List.length_take]; rfl)) ?_; (with_reducible refine (pantryref12_number.calls k3 a0 23 2 t264 _ A18.out).mono ?_); rintro e w' ⟨rfl, ⟨nd, rfl⟩⟩; refine ⟨_, rfl, ?_⟩))
                              go_ret2
                              exact ⟨by first | rfl | (generalize ByteArray.toList _ = l_; cases l_ <;> rfl) | (simp [errW_none, errW_some] <;> rfl) | (simp [*, errW_none, errW_some] <;> rfl), by repeat (first | (with_reducible first | exact HB.out | apply below_alloc | apply pw_below_drewN | apply below_drew1) | exact HB.out)⟩
                            · rw [if_neg c20] at H
                              have c20b0 : decide (253402300799 < (wrap64 ((wrap64 ((wrap64 ((wrap64 (x9_3 * 86400)) + (wrap64 (t262 * 3600)))) + (wrap64 (t263 * 60)))) + t264))) = false := decide_eq_false c20
                              clear c20
                              replace H := Option.bind_eq_some_iff.mp H
                              obtain ⟨t265, A210, H⟩ := H
                              replace H : (if t265.toList = a0.toList then (some (wrap64 ((wrap64 ((wrap64 ((wrap64 (x9_3 * 86400)) + (wrap64 (t262 * 3600)))) + (wrap64 (t263 * 60)))) + t264), true)) else (some (0, false))) = some (r1, r2) := H
                              have A21 := Aside0.mk A210
                              clear A210
                              by_cases c22 : t265.toList = a0.toList
                              · rw [if_pos c22] at H
                                have c22b0 : (t265.toList == a0.toList) = true := beq_iff_eq.mpr c22
                                have c22b1 : (t265.toList != a0.toList) = false := bne_eq_false_iff_eq.mpr c22
                                clear c22
                                simp only [Option.some.injEq, Prod.mk.injEq] at H
                                obtain ⟨rfl, rfl⟩ := H
                                go_wp2_with (first | ((with_reducible refine gate_callee (f := 80) rfl ?_); refine goesL_ (some 68) rfl rfl Tryd.func80 (by kernel_rfl) rfl #[.string a0, .int .i64 17, .int .i64 2] rfl (by (try simp only [List.map_toArray, List.map_cons, List.map_nil]); first | done | rfl | (simp only [List.length_drop, List.length_take]; rfl)) ?_; (with_reducible refine (pantryref12_number.calls k3 a0 17 2 t262 _ A16.out).mono ?_); rintro e w' ⟨rfl, ⟨nd, rfl⟩⟩; refine ⟨_, rfl, ?_⟩) | ((with_reducible refine gate_callee (f := 80) rfl ?_); refine goesL_ (some 72) rfl rfl Tryd.func80 (by kernel_rfl) rfl #[.string a0, .int .i64 20, .int .i64 2] rfl (by (try simp only [List.map_toArray, List.map_cons, List.map_nil]); first | done | rfl | (simp only [List.length_drop, List.length_take]; rfl)) ?_; (with_reducible refine (pantryref12_number.calls k3 a0 20 2 t263 _ A17.out).mono ?_); rintro e w' ⟨rfl, ⟨nd, rfl⟩⟩; refine ⟨_, rfl, ?_⟩) | ((with_reducible refine gate_callee (f := 80) rfl ?_); refine goesL_ (some 76) rfl rfl Tryd.func80 (by kernel_rfl) rfl #[.string a0, .int .i64 23, .int .i64 2] rfl (by (try simp only [List.map_toArray, List.map_cons, List.map_nil]); first | done | rfl | (simp only [List.length_drop, List.length_take]; rfl)) ?_; (with_reducible refine (pantryref12_number.calls k3 a0 23 2 t264 _ A18.out).mono ?_); rintro e w' ⟨rfl, ⟨nd, rfl⟩⟩; refine ⟨_, rfl, ?_⟩) | (go_at_call 83; (with_reducible refine (pantryref02_Show.calls k3 (wrap64 ((wrap64 ((wrap64 ((wrap64 (x9_3 * 86400)) + (wrap64 (t262 * 3600)))) + (wrap64 (t263 * 60)))) + t264)) t265 _ A21.out).mono ?_); rintro e w23 ⟨rfl, hb⟩; have n0_ := Aside0.mk (below_step (by repeat (first | (with_reducible first | exact HB.out | apply below_alloc | apply pw_below_drewN | apply below_drew1) | exact HB.out)) hb); clear HB; have HB := n0_; clear n0_; (try clear hb); (try clear hb2); (try clear hk); (try clear hi)))
                                go_ret2
                                exact ⟨by first | rfl | (generalize ByteArray.toList _ = l_; cases l_ <;> rfl) | (simp [errW_none, errW_some] <;> rfl) | (simp [*, errW_none, errW_some] <;> rfl), by repeat (first | (with_reducible first | exact HB.out | apply below_alloc | apply pw_below_drewN | apply below_drew1) | exact HB.out)⟩
                              · rw [if_neg c22] at H
                                have c22b0 : (t265.toList == a0.toList) = false := beq_eq_false_iff_ne.mpr c22
                                have c22b1 : (t265.toList != a0.toList) = true := bne_iff_ne.mpr c22
                                simp only [Option.some.injEq, Prod.mk.injEq] at H
                                obtain ⟨rfl, rfl⟩ := H
                                go_wp2_with (first | ((with_reducible refine gate_callee (f := 80) rfl ?_); refine goesL_ (some 68) rfl rfl Tryd.func80 (by kernel_rfl) rfl #[.string a0, .int .i64 17, .int .i64 2] rfl (by (try simp only [List.map_toArray, List.map_cons, List.map_nil]); first | done | rfl | (simp only [List.length_drop, List.length_take]; rfl)) ?_; (with_reducible refine (pantryref12_number.calls k3 a0 17 2 t262 _ A16.out).mono ?_); rintro e w' ⟨rfl, ⟨nd, rfl⟩⟩; refine ⟨_, rfl, ?_⟩) | ((with_reducible refine gate_callee (f := 80) rfl ?_); refine goesL_ (some 72) rfl rfl Tryd.func80 (by kernel_rfl) rfl #[.string a0, .int .i64 20, .int .i64 2] rfl (by (try simp only [List.map_toArray, List.map_cons, List.map_nil]); first | done | rfl | (simp only [List.length_drop, List.length_take]; rfl)) ?_; (with_reducible refine (pantryref12_number.calls k3 a0 20 2 t263 _ A17.out).mono ?_); rintro e w' ⟨rfl, ⟨nd, rfl⟩⟩; refine ⟨_, rfl, ?_⟩) | ((with_reducible refine gate_callee (f := 80) rfl ?_); refine goesL_ (some 76) rfl rfl Tryd.func80 (by kernel_rfl) rfl #[.string a0, .int .i64 23, .int .i64 2] rfl (by (try simp only [List.map_toArray, List.map_cons, List.map_nil]); first | done | rfl | (simp only [List.length_drop, List.length_take]; rfl)) ?_; (with_reducible refine (pantryref12_number.calls k3 a0 23 2 t264 _ A18.out).mono ?_); rintro e w' ⟨rfl, ⟨nd, rfl⟩⟩; refine ⟨_, rfl, ?_⟩) | (go_at_call 83; (with_reducible refine (pantryref02_Show.calls k3 (wrap64 ((wrap64 ((wrap64 ((wrap64 (x9_3 * 86400)) + (wrap64 (t262 * 3600)))) + (wrap64 (t263 * 60)))) + t264)) t265 _ A21.out).mono ?_); rintro e w24 ⟨rfl, hb⟩; have n0_ := Aside0.mk (below_step (by repeat (first | (with_reducible first | exact HB.out | apply below_alloc | apply pw_below_drewN | apply below_drew1) | exact HB.out)) hb); clear HB; have HB := n0_; clear n0_; (try clear hb); (try clear hb2); (try clear hk); (try clear hi)))
                                go_ret2
                                exact ⟨by first | rfl | (generalize ByteArray.toList _ = l_; cases l_ <;> rfl) | (simp [errW_none, errW_some] <;> rfl) | (simp [*, errW_none, errW_some] <;> rfl), by repeat (first | (with_reducible first | exact HB.out | apply below_alloc | apply pw_below_drewN | apply below_drew1) | exact HB.out)⟩
  · rw [if_neg c2] at H
    have c2b0 : ((a0.size : Int) == 29) = false := beq_eq_false_iff_ne.mpr c2
    have c2b1 : ((a0.size : Int) != 29) = true := bne_iff_ne.mpr c2
    simp only [Option.some.injEq, Prod.mk.injEq] at H
    obtain ⟨rfl, rfl⟩ := H
    go_enter Tryd.func67, Tryd.ntmps67
    go_wp2
    go_ret2
    exact ⟨by first | rfl | (generalize ByteArray.toList _ = l_; cases l_ <;> rfl) | (simp [errW_none, errW_some] <;> rfl) | (simp [*, errW_none, errW_some] <;> rfl), by repeat (first | (with_reducible first | exact HB.out | apply below_alloc | apply pw_below_drewN | apply below_drew1) | exact HB.out)⟩

/-! ### pantryref12_Dated: function 51 -/
def pantryref12_Dated.f (k : Nat) (l0 : List (S53)) (a1 : ByteArray) : Option (Int × Bool) := (pantryref03_Get.f k l0 a1).bind fun bt322 => ((pantryref12_Read.f k bt322.1).bind fun bt324 => (some (bt324.1, bt324.2)))
theorem pantryref12_Dated.mono : ∀ a0 a1 k, LeO (pantryref12_Dated.f k a0 a1) (pantryref12_Dated.f (k + 1) a0 a1) := by
  intro a0 a1 k
  unfold pantryref12_Dated.f
  repeat' first
      | (with_reducible exact pantryref03_Get.mono _ _ _)
      | (with_reducible exact pantryref12_Read.mono _ _)
      | (with_reducible exact LeO.refl _)
      | (with_reducible exact LeO.none _)
      | (with_reducible refine LeO.ite ?_ ?_)
      | (with_reducible refine LeO.bind ?_ (fun _ => ?_))
      | exact pantryref03_Get.mono _ _ _
      | exact pantryref12_Read.mono _ _
      | exact LeO.none _
      | refine LeO.ite ?_ ?_
      | refine LeO.bind ?_ (fun _ => ?_)
set_option maxHeartbeats 8000000 in
set_option maxRecDepth 100000 in
theorem pantryref12_Dated.calls (k : Nat) (A0 : Option Addr) (c0 : Nat) (l0 : List (S53)) (a1 : ByteArray) (r1 : Int) (r2 : Bool) (w : World) (hr0 : Kd.C k53 w A0 l0.length l0) (hc0 : l0.length ≤ c0) (h : pantryref12_Dated.f k l0 a1 = some (r1, r2)) :
    Calls Tryd.prog 51 #[.slice A0 l0.length c0, .string a1] w fun e w' => e = .returned (.tuple #[.int .i64 r1, .bool r2]) ∧ Below w.heap.size w w' := by
  have HR0 := Aside0.mk hr0
  have HC0 := Aside0.mk hc0
  clear hr0 hc0
  have HB := Aside0.mk (Below.refl w.heap.size w)
  have H : ((pantryref03_Get.f k l0 a1).bind fun bt322 => ((pantryref12_Read.f k bt322.1).bind fun bt324 => (some (bt324.1, bt324.2)))) = some (r1, r2) := h
  clear h
  replace H := Option.bind_eq_some_iff.mp H
  obtain ⟨⟨t322, t323⟩, A30, H⟩ := H
  replace H : ((pantryref12_Read.f k t322).bind fun bt324 => (some (bt324.1, bt324.2))) = some (r1, r2) := H
  have A3 := Aside0.mk A30
  clear A30
  replace H := Option.bind_eq_some_iff.mp H
  obtain ⟨⟨t324, t325⟩, A40, H⟩ := H
  replace H : (some (t324, t325)) = some (r1, r2) := H
  have A4 := Aside0.mk A40
  clear A40
  simp only [Option.some.injEq, Prod.mk.injEq] at H
  obtain ⟨rfl, rfl⟩ := H
  go_enter Tryd.func51, Tryd.ntmps51
  go_wp2_with (first | ((with_reducible refine gate_callee (f := 39) rfl ?_); refine goesL_ (some 11) rfl rfl Tryd.func39 (by kernel_rfl) rfl #[.slice A0 l0.length c0, .string a1] rfl (by (try simp only [List.map_toArray, List.map_cons, List.map_nil]); first | done | rfl | (simp only [List.length_drop, List.length_take]; rfl)) ?_; (with_reducible refine (pantryref03_Get.calls k _ _ l0 a1 t322 t323 _ ?side1 ?side2 A3.out).mono ?_); (case side1 => repeat (first | exact HR0.out | (with_reducible refine Kd.C_alloc ?_ _) | (with_reducible refine Kd.C_drewN ?_ _) | (with_reducible refine Kd.C_drew ?_))); (case side2 => exact HC0.out); rintro e w5 ⟨rfl, hb⟩; refine ⟨_, rfl, ?_⟩; have n0_ := Aside0.mk (below_step (by repeat (first | (with_reducible first | exact HB.out | apply below_alloc | apply pw_below_drewN | apply below_drew1) | exact HB.out)) hb); clear HB; have HB := n0_; clear n0_; (try clear hb); (try clear hb2); (try clear hk); (try clear hi)) | ((with_reducible refine gate_callee (f := 67) rfl ?_); refine goesL_ (some 15) rfl rfl Tryd.func67 (by kernel_rfl) rfl #[.string t322] rfl (by (try simp only [List.map_toArray, List.map_cons, List.map_nil]); first | done | rfl | (simp only [List.length_drop, List.length_take]; rfl)) ?_; (with_reducible refine (pantryref12_Read.calls k t322 t324 t325 _ A4.out).mono ?_); rintro e w6 ⟨rfl, hb⟩; refine ⟨_, rfl, ?_⟩; have n0_ := Aside0.mk (below_step (by repeat (first | (with_reducible first | exact HB.out | apply below_alloc | apply pw_below_drewN | apply below_drew1) | exact HB.out)) hb); clear HB; have HB := n0_; clear n0_; (try clear hb); (try clear hb2); (try clear hk); (try clear hi)))
  go_ret2
  exact ⟨by first | rfl | (generalize ByteArray.toList _ = l_; cases l_ <;> rfl) | (simp [errW_none, errW_some] <;> rfl) | (simp [*, errW_none, errW_some] <;> rfl), by repeat (first | (with_reducible first | exact HB.out | apply below_alloc | apply pw_below_drewN | apply below_drew1) | exact HB.out)⟩

/-! ### pantryref13_Asking: function 27, by hand -/
-- over 19 38 39 51 40
theorem without_view {A0 : Option Addr} {c0 : Nat} {l0 x : List S53} {i : Int} {w wr : World} {v : Value} (hr0 : Kd.C k53 w A0 l0.length l0) (hc0 : l0.length ≤ c0) (hb : Below w.heap.size w wr) (h : (v = .slice A0 l0.length c0 ∧ x = l0 ∧ i = 0) ∨ Kd.R k53 53 wr w.heap.size (fun _ => True) v x) : ∃ A c, v = .slice A x.length c ∧ x.length ≤ c ∧ Kd.C k53 wr A x.length x := by
  rcases h with ⟨h1, h2, _⟩ | h1
  · exact ⟨A0, c0, by rw [h1, h2], by rw [h2]; exact hc0, by rw [h2]; exact Kd.C_below hr0 hb⟩
  · exact Kd.R_reads h1
set_option maxHeartbeats 8000000 in
set_option maxRecDepth 100000 in
theorem pantryref13_without.own (k : Nat) (A0 : Option Addr) (c0 : Nat) (l0 : List (S53)) (A1 : Option Addr) (c1 : Nat) (l1 : List ByteArray) (r : List (S53)) (w : World) (hr0 : Kd.C k53 w A0 l0.length l0) (hc0 : l0.length ≤ c0) (hr1 : Kd.C Kd.string w A1 l1.length l1) (hc1 : l1.length ≤ c1) (hne : l1.isEmpty = false) (h : pantryref13_without.f k l0 l1 = some r) :
    Calls Tryd.prog 38 #[.slice A0 l0.length c0, .slice A1 l1.length c1] w fun e w' => ∃ v0_ : Value, e = .returned (v0_) ∧ Kd.R k53 53 w' w.heap.size (fun _ => True) v0_ r ∧ Below w.heap.size w w' := by
  have hpos : 0 < l1.length := by cases l1 with | nil => cases hne | cons _ _ => simp
  have HP := Aside0.mk hpos
  have HR0 := Aside0.mk hr0
  have HC0 := Aside0.mk hc0
  have HR1 := Aside0.mk hr1
  have HC1 := Aside0.mk hc1
  clear hr1 hc1 hr0 hc0 hne hpos
  have HB := Aside0.mk (Below.refl w.heap.size w)
  have H : (pantryref13_without.l0 k l0 l1 0) = some r := h
  clear h
  have H' := Aside0.mk H
  clear H
  go_enter Tryd.func38, Tryd.ntmps38
  go_wp2
  go_loopg [0, 5] k (fun kq v0 v5 w' => ∃ (x0_1 : List (S53)) (x5_1 : Int), v5 = .int .i64 x5_1 ∧ Aside0 (pantryref13_without.l0 kq x0_1 l1 x5_1 = some r) ∧ Aside0 (kq ≤ k) ∧ Aside0 ((v0 = .slice A0 l0.length c0 ∧ x0_1 = l0 ∧ x5_1 = 0) ∨ (Kd.R k53 53 w' w.heap.size (fun _ => True) v0 x0_1)) ∧ Aside0 (Below w.heap.size w w'))
  case atStart => exact ⟨l0, 0, rfl, H', ⟨Nat.le_refl _⟩, ⟨.inl ⟨rfl, rfl, rfl⟩⟩, HB⟩
  case round =>
    clear H' HB
    obtain ⟨x0_1, x5_1, rfl, HA, HK1, HO_0, HB⟩ := hrel
    cases gk with
    | zero => exact absurd HA.out (by simp [pantryref13_without.l0])
    | succ k1 =>
      have H := HA.out
      clear HA
      simp only [pantryref13_without.l0] at H
      by_cases c3 : x5_1 < (l1.length : Int)
      · rw [if_pos c3] at H
        have c3b0 : decide (x5_1 < (l1.length : Int)) = true := decide_eq_true c3
        clear c3
        by_cases c4 : 0 ≤ x5_1
        · rw [if_pos c4] at H
          have c4b0 : decide (0 ≤ x5_1) = true := decide_eq_true c4
          clear c4
          replace H := Option.bind_eq_some_iff.mp H
          obtain ⟨t281, A50, H⟩ := H
          replace H : (pantryref13_without.l0 k1 t281 l1 (wrap64 (x5_1 + 1))) = some r := H
          have A5 := Aside0.mk A50
          clear A50
          have H' := Aside0.mk H
          clear H
          have p280 : 0 ≤ (x5_1 : Int) := of_decide_eq_true (by first | (with_reducible assumption) | assumption)
          have q280 : x5_1 < (l1.length : Int) := of_decide_eq_true (by first | (with_reducible assumption) | assumption)
          obtain ⟨ad280, e280, hx280_0⟩ := Kd.at_string HR1.out x5_1 p280 q280
          cases e280
          replace hx280_0 := (HB.out.cell (World.block_lt_of_cell? w _ hx280_0)).trans hx280_0
          replace p280 := eq_true p280
          replace q280 := eq_true q280
          obtain ⟨Ao6, co6, eo6, hlc, hC⟩ := without_view HR0.out HC0.out HB.out HO_0.out
          have HL := Aside0.mk hlc
          have HC := Aside0.mk hC
          subst eo6
          clear hlc hC HO_0
          go_wp2_with (first | ((with_reducible refine gate_callee (f := 40) rfl ?_); refine goesL_ (some 17) rfl rfl Tryd.func40 (by kernel_rfl) rfl #[.slice Ao6 x0_1.length co6, .string (rdOf ByteArray.empty l1 x5_1)] rfl (by (try simp only [List.map_toArray, List.map_cons, List.map_nil]); first | done | rfl | (simp only [List.length_drop, List.length_take]; rfl)) ?_; (with_reducible refine (pantryref03_Without.calls k1 _ _ x0_1 (rdOf ByteArray.empty l1 x5_1) t281 _ ?side1 ?side2 A5.out).mono ?_); (case side1 => repeat (first | exact HC.out | (with_reducible refine Kd.C_alloc ?_ _) | (with_reducible refine Kd.C_drewN ?_ _) | (with_reducible refine Kd.C_drew ?_))); (case side2 => exact HL.out); rintro e w7 ⟨v282, rfl, ho0, hb⟩; refine ⟨_, rfl, ?_⟩; have n1_ := Aside0.mk (Kd.R_lower ho0 (below_size (by repeat (first | (with_reducible first | exact HB.out | apply below_alloc | apply pw_below_drewN | apply below_drew1) | exact HB.out)))); have n2_ := Aside0.mk (below_step (by repeat (first | (with_reducible first | exact HB.out | apply below_alloc | apply pw_below_drewN | apply below_drew1) | exact HB.out)) hb); clear HB; have HO283 := n1_; have HB := n2_; clear n1_ n2_; (try clear hb); (try clear ho0)))
          go_roundg k1
          case measure => have := HK1.out; omega
          case rel => exact ⟨(t281), (wrap64 (x5_1 + 1)), (by first | rfl | (simp; done) | (simp [*]; done)), H', ⟨by have := HK1.out; omega⟩, ⟨.inr (by (with_reducible repeat (first | apply Kd.R_alloc | apply Kd.R_drewN | apply Kd.R_drew)); exact Kd.R_mono HO283.out (fun _ _ => trivial))⟩, ⟨by repeat (first | (with_reducible first | exact HB.out | apply below_alloc | apply pw_below_drewN | apply below_drew1) | exact HB.out)⟩⟩
        · rw [if_neg c4] at H
          exact absurd H (by simp)
      · rw [if_neg c3] at H
        have HF := Aside0.mk c3
        have c3b0 : decide (x5_1 < (l1.length : Int)) = false := decide_eq_false c3
        clear c3
        obtain rfl := Option.some.inj H
        have hR := HO_0.out.resolve_left (fun h3 => by have := HF.out; have := HP.out; have := h3.2.2; omega)
        have HQ := Aside0.mk hR
        clear hR HO_0
        go_wp2
        go_ret
        exact ⟨_, by first | rfl | (generalize ByteArray.toList _ = l_; cases l_ <;> rfl) | (simp [errW_none, errW_some] <;> rfl), by (with_reducible repeat (first | apply Kd.R_alloc | apply Kd.R_drewN | apply Kd.R_drew)); exact HQ.out, by repeat (first | (with_reducible first | exact HB.out | apply below_alloc | apply pw_below_drewN | apply below_drew1) | exact HB.out)⟩
def pantryref13_Asking.j0 : Nat → List (S53) → List (S53) → Option ((List (S53)))
  | 0, _, _ => none
  | k + 1, x1, x5 => (pantryref12_Dated.f k x1 (⟨#[108, 97, 115, 116, 45, 109, 111, 100, 105, 102, 105, 101, 100]⟩ : ByteArray)).bind fun bt336 => (if bt336.2 = true then ((pantryref03_Get.f k x1 (⟨#[108, 97, 115, 116, 45, 109, 111, 100, 105, 102, 105, 101, 100]⟩ : ByteArray)).bind fun bt338 => (if x5.length < 4398046511104 then (some (x5 ++ [(⟨(⟨#[73, 102, 45, 77, 111, 100, 105, 102, 105, 101, 100, 45, 83, 105, 110, 99, 101]⟩ : ByteArray), bt338.1⟩ : S53)])) else (none))) else (some x5))
def pantryref13_Asking.f (k : Nat) (l0 : List (S53)) (l1 : List (S53)) : Option ((List (S53))) := (pantryref13_Onward.f k l0).bind fun t322 => ((pantryref13_without.f k t322 (([(⟨#[105, 102, 45, 110, 111, 110, 101, 45, 109, 97, 116, 99, 104]⟩ : ByteArray), (⟨#[105, 102, 45, 109, 111, 100, 105, 102, 105, 101, 100, 45, 115, 105, 110, 99, 101]⟩ : ByteArray), (⟨#[105, 102, 45, 109, 97, 116, 99, 104]⟩ : ByteArray), (⟨#[105, 102, 45, 117, 110, 109, 111, 100, 105, 102, 105, 101, 100, 45, 115, 105, 110, 99, 101]⟩ : ByteArray), (⟨#[105, 102, 45, 114, 97, 110, 103, 101]⟩ : ByteArray), (⟨#[114, 97, 110, 103, 101]⟩ : ByteArray)] : List ByteArray))).bind fun t328 => ((pantryref03_Get.f k l1 (⟨#[101, 116, 97, 103]⟩ : ByteArray)).bind fun bt331 => (if bt331.1.toList = ([] : List UInt8) then (pantryref13_Asking.j0 k l1 t328) else (if t328.length < 4398046511104 then (pantryref13_Asking.j0 k l1 (t328 ++ [(⟨(⟨#[73, 102, 45, 78, 111, 110, 101, 45, 77, 97, 116, 99, 104]⟩ : ByteArray), bt331.1⟩ : S53)])) else (none)))))
theorem pantryref13_Asking.mono_l : ∀ k, (∀ y0 y1, LeO (pantryref13_Asking.j0 k y0 y1) (pantryref13_Asking.j0 (k + 1) y0 y1))
  | 0 => fun _ _ r h => by simp [pantryref13_Asking.j0] at h
  | k + 1 => by
    have ih0 := pantryref13_Asking.mono_l k
    · intro y0 y1
      unfold pantryref13_Asking.j0
      repeat' first
      | (with_reducible exact ih0 _ _)
      | (with_reducible exact pantryref03_Get.mono _ _ _)
      | (with_reducible exact pantryref12_Dated.mono _ _ _)
      | (with_reducible exact pantryref13_Onward.mono _ _)
      | (with_reducible exact pantryref13_without.mono _ _ _)
      | (with_reducible exact LeO.refl _)
      | (with_reducible exact LeO.none _)
      | (with_reducible refine LeO.ite ?_ ?_)
      | (with_reducible refine LeO.bind ?_ (fun _ => ?_))
      | exact ih0 _ _
      | exact pantryref03_Get.mono _ _ _
      | exact pantryref12_Dated.mono _ _ _
      | exact pantryref13_Onward.mono _ _
      | exact pantryref13_without.mono _ _ _
      | exact LeO.none _
      | refine LeO.ite ?_ ?_
      | refine LeO.bind ?_ (fun _ => ?_)
theorem pantryref13_Asking.mono : ∀ a0 a1 k, LeO (pantryref13_Asking.f k a0 a1) (pantryref13_Asking.f (k + 1) a0 a1) := by
  intro a0 a1 k
  have ih0 := pantryref13_Asking.mono_l k
  unfold pantryref13_Asking.f
  repeat' first
      | (with_reducible exact ih0 _ _)
      | (with_reducible exact pantryref03_Get.mono _ _ _)
      | (with_reducible exact pantryref12_Dated.mono _ _ _)
      | (with_reducible exact pantryref13_Onward.mono _ _)
      | (with_reducible exact pantryref13_without.mono _ _ _)
      | (with_reducible exact LeO.refl _)
      | (with_reducible exact LeO.none _)
      | (with_reducible refine LeO.ite ?_ ?_)
      | (with_reducible refine LeO.bind ?_ (fun _ => ?_))
      | exact ih0 _ _
      | exact pantryref03_Get.mono _ _ _
      | exact pantryref12_Dated.mono _ _ _
      | exact pantryref13_Onward.mono _ _
      | exact pantryref13_without.mono _ _ _
      | exact LeO.none _
      | refine LeO.ite ?_ ?_
      | refine LeO.bind ?_ (fun _ => ?_)
set_option maxHeartbeats 8000000 in
set_option maxRecDepth 100000 in
theorem pantryref13_Asking.calls (k : Nat) (A0 : Option Addr) (c0 : Nat) (l0 : List (S53)) (A1 : Option Addr) (c1 : Nat) (l1 : List (S53)) (r : List (S53)) (w : World) (hr0 : Kd.C k53 w A0 l0.length l0) (hc0 : l0.length ≤ c0) (hr1 : Kd.C k53 w A1 l1.length l1) (hc1 : l1.length ≤ c1) (h : pantryref13_Asking.f k l0 l1 = some r) :
    Calls Tryd.prog 27 #[.slice A0 l0.length c0, .slice A1 l1.length c1] w fun e w' => ∃ v0_ : Value, e = .returned (v0_) ∧ Kd.R k53 53 w' w.heap.size (fun _ => True) v0_ r ∧ Below w.heap.size w w' := by
  have hu53 := Tryd.underlying53
  have HR0 := Aside0.mk hr0
  have HC0 := Aside0.mk hc0
  clear hr0 hc0
  have HR1 := Aside0.mk hr1
  have HC1 := Aside0.mk hc1
  clear hr1 hc1
  have HB := Aside0.mk (Below.refl w.heap.size w)
  have H : ((pantryref13_Onward.f k l0).bind fun t322 => ((pantryref13_without.f k t322 (([(⟨#[105, 102, 45, 110, 111, 110, 101, 45, 109, 97, 116, 99, 104]⟩ : ByteArray), (⟨#[105, 102, 45, 109, 111, 100, 105, 102, 105, 101, 100, 45, 115, 105, 110, 99, 101]⟩ : ByteArray), (⟨#[105, 102, 45, 109, 97, 116, 99, 104]⟩ : ByteArray), (⟨#[105, 102, 45, 117, 110, 109, 111, 100, 105, 102, 105, 101, 100, 45, 115, 105, 110, 99, 101]⟩ : ByteArray), (⟨#[105, 102, 45, 114, 97, 110, 103, 101]⟩ : ByteArray), (⟨#[114, 97, 110, 103, 101]⟩ : ByteArray)] : List ByteArray))).bind fun t328 => ((pantryref03_Get.f k l1 (⟨#[101, 116, 97, 103]⟩ : ByteArray)).bind fun bt331 => (if bt331.1.toList = ([] : List UInt8) then (pantryref13_Asking.j0 k l1 t328) else (if t328.length < 4398046511104 then (pantryref13_Asking.j0 k l1 (t328 ++ [(⟨(⟨#[73, 102, 45, 78, 111, 110, 101, 45, 77, 97, 116, 99, 104]⟩ : ByteArray), bt331.1⟩ : S53)])) else (none)))))) = some r := h
  clear h
  replace H := Option.bind_eq_some_iff.mp H
  obtain ⟨t322, A30, H⟩ := H
  replace H : ((pantryref13_without.f k t322 (([(⟨#[105, 102, 45, 110, 111, 110, 101, 45, 109, 97, 116, 99, 104]⟩ : ByteArray), (⟨#[105, 102, 45, 109, 111, 100, 105, 102, 105, 101, 100, 45, 115, 105, 110, 99, 101]⟩ : ByteArray), (⟨#[105, 102, 45, 109, 97, 116, 99, 104]⟩ : ByteArray), (⟨#[105, 102, 45, 117, 110, 109, 111, 100, 105, 102, 105, 101, 100, 45, 115, 105, 110, 99, 101]⟩ : ByteArray), (⟨#[105, 102, 45, 114, 97, 110, 103, 101]⟩ : ByteArray), (⟨#[114, 97, 110, 103, 101]⟩ : ByteArray)] : List ByteArray))).bind fun t328 => ((pantryref03_Get.f k l1 (⟨#[101, 116, 97, 103]⟩ : ByteArray)).bind fun bt331 => (if bt331.1.toList = ([] : List UInt8) then (pantryref13_Asking.j0 k l1 t328) else (if t328.length < 4398046511104 then (pantryref13_Asking.j0 k l1 (t328 ++ [(⟨(⟨#[73, 102, 45, 78, 111, 110, 101, 45, 77, 97, 116, 99, 104]⟩ : ByteArray), bt331.1⟩ : S53)])) else (none))))) = some r := H
  have A3 := Aside0.mk A30
  clear A30
  obtain ⟨y325, hy325⟩ : ∃ y_ : List ByteArray, y_ = (([(⟨#[105, 102, 45, 110, 111, 110, 101, 45, 109, 97, 116, 99, 104]⟩ : ByteArray), (⟨#[105, 102, 45, 109, 111, 100, 105, 102, 105, 101, 100, 45, 115, 105, 110, 99, 101]⟩ : ByteArray), (⟨#[105, 102, 45, 109, 97, 116, 99, 104]⟩ : ByteArray), (⟨#[105, 102, 45, 117, 110, 109, 111, 100, 105, 102, 105, 101, 100, 45, 115, 105, 110, 99, 101]⟩ : ByteArray), (⟨#[105, 102, 45, 114, 97, 110, 103, 101]⟩ : ByteArray), (⟨#[114, 97, 110, 103, 101]⟩ : ByteArray)] : List ByteArray)) := ⟨_, rfl⟩
  replace H : ((pantryref13_without.f k t322 y325).bind fun t328 => ((pantryref03_Get.f k l1 (⟨#[101, 116, 97, 103]⟩ : ByteArray)).bind fun bt331 => (if bt331.1.toList = ([] : List UInt8) then (pantryref13_Asking.j0 k l1 t328) else (if t328.length < 4398046511104 then (pantryref13_Asking.j0 k l1 (t328 ++ [(⟨(⟨#[73, 102, 45, 78, 111, 110, 101, 45, 77, 97, 116, 99, 104]⟩ : ByteArray), bt331.1⟩ : S53)])) else (none))))) = some r := by first | (rw [hy325]; with_reducible exact H) | (have H2_ := (Option.bind_some _ _).symm.trans H; rw [hy325]; with_reducible exact H2_) | (have H2_ := (Option.bind_some _ _).symm.trans H; with_reducible exact H2_) | with_reducible exact H | (rw [hy325]; exact H) | exact H
  have Ny325 := Aside0.mk hy325
  have HNE := Aside0.mk (show y325.isEmpty = false by rw [hy325]; rfl)
  clear hy325
  replace H := Option.bind_eq_some_iff.mp H
  obtain ⟨t328, A40, H⟩ := H
  replace H : ((pantryref03_Get.f k l1 (⟨#[101, 116, 97, 103]⟩ : ByteArray)).bind fun bt331 => (if bt331.1.toList = ([] : List UInt8) then (pantryref13_Asking.j0 k l1 t328) else (if t328.length < 4398046511104 then (pantryref13_Asking.j0 k l1 (t328 ++ [(⟨(⟨#[73, 102, 45, 78, 111, 110, 101, 45, 77, 97, 116, 99, 104]⟩ : ByteArray), bt331.1⟩ : S53)])) else (none)))) = some r := H
  have A4 := Aside0.mk A40
  clear A40
  replace H := Option.bind_eq_some_iff.mp H
  obtain ⟨⟨t331, t332⟩, A50, H⟩ := H
  replace H : (if t331.toList = ([] : List UInt8) then (pantryref13_Asking.j0 k l1 t328) else (if t328.length < 4398046511104 then (pantryref13_Asking.j0 k l1 (t328 ++ [(⟨(⟨#[73, 102, 45, 78, 111, 110, 101, 45, 77, 97, 116, 99, 104]⟩ : ByteArray), t331⟩ : S53)])) else (none))) = some r := H
  have A5 := Aside0.mk A50
  clear A50
  have HC6 := Aside0.mk H
  clear H
  go_enter Tryd.func27, Tryd.ntmps27
  go_upto_if 22 with (first | ((with_reducible refine gate_callee (f := 19) rfl ?_); refine goesL_ (some 13) rfl rfl Tryd.func19 (by kernel_rfl) rfl #[.slice A0 l0.length c0] rfl (by (try simp only [List.map_toArray, List.map_cons, List.map_nil]); first | done | rfl | (simp only [List.length_drop, List.length_take]; rfl)) ?_; (with_reducible refine (pantryref13_Onward.calls k _ _ l0 t322 _ ?side1 ?side2 A3.out).mono ?_); (case side1 => repeat (first | exact HR0.out | (with_reducible refine Kd.C_alloc ?_ _) | (with_reducible refine Kd.C_drewN ?_ _) | (with_reducible refine Kd.C_drew ?_))); (case side2 => exact HC0.out); rintro e w7 ⟨v323, rfl, ho0, hb⟩; refine ⟨_, rfl, ?_⟩; have n0_ := Aside0.mk (Kd.R_lower ho0 (below_size (by repeat (first | (with_reducible first | exact HB.out | apply below_alloc | apply pw_below_drewN | apply below_drew1) | exact HB.out)))); have n1_ := Aside0.mk (below_step (by repeat (first | (with_reducible first | exact HB.out | apply below_alloc | apply pw_below_drewN | apply below_drew1) | exact HB.out)) hb); clear HB; have HO324 := n0_; have HB := n1_; clear n0_ n1_; (try clear hb); (try clear hb2); (try clear hk); (try clear hi); (try clear ho0)) | ((with_reducible refine gate_dst (N := 14) rfl ?_); refine Kd.R_lit Kd.string _ 9 ?hg (N := 14) ?hd (xs := ([(⟨#[105, 102, 45, 110, 111, 110, 101, 45, 109, 97, 116, 99, 104]⟩ : ByteArray), (⟨#[105, 102, 45, 109, 111, 100, 105, 102, 105, 101, 100, 45, 115, 105, 110, 99, 101]⟩ : ByteArray), (⟨#[105, 102, 45, 109, 97, 116, 99, 104]⟩ : ByteArray), (⟨#[105, 102, 45, 117, 110, 109, 111, 100, 105, 102, 105, 101, 100, 45, 115, 105, 110, 99, 101]⟩ : ByteArray), (⟨#[105, 102, 45, 114, 97, 110, 103, 101]⟩ : ByteArray), (⟨#[114, 97, 110, 103, 101]⟩ : ByteArray)] : List ByteArray)) (inner := [.string (⟨#[105, 102, 45, 110, 111, 110, 101, 45, 109, 97, 116, 99, 104]⟩ : ByteArray), .string (⟨#[105, 102, 45, 109, 111, 100, 105, 102, 105, 101, 100, 45, 115, 105, 110, 99, 101]⟩ : ByteArray), .string (⟨#[105, 102, 45, 109, 97, 116, 99, 104]⟩ : ByteArray), .string (⟨#[105, 102, 45, 117, 110, 109, 111, 100, 105, 102, 105, 101, 100, 45, 115, 105, 110, 99, 101]⟩ : ByteArray), .string (⟨#[105, 102, 45, 114, 97, 110, 103, 101]⟩ : ByteArray), .string (⟨#[114, 97, 110, 103, 101]⟩ : ByteArray)]) (ok := fun _ => True) (okp := fun _ => True) ?hr ?hp (fun _ hk => hk) trivial (Below.refl _ _) (Nat.le_refl _) (by simp) ?_; (case hd => rfl); (case hg => rfl); (case hr => first | (go_simp; done) | (go_simp; rfl)); (case hp => exact (Reps.one (show Kd.M Kd.string _ _ _ (⟨#[105, 102, 45, 110, 111, 110, 101, 45, 109, 97, 116, 99, 104]⟩ : ByteArray) [.string (⟨#[105, 102, 45, 110, 111, 110, 101, 45, 109, 97, 116, 99, 104]⟩ : ByteArray)] from rfl) (Reps.one (show Kd.M Kd.string _ _ _ (⟨#[105, 102, 45, 109, 111, 100, 105, 102, 105, 101, 100, 45, 115, 105, 110, 99, 101]⟩ : ByteArray) [.string (⟨#[105, 102, 45, 109, 111, 100, 105, 102, 105, 101, 100, 45, 115, 105, 110, 99, 101]⟩ : ByteArray)] from rfl) (Reps.one (show Kd.M Kd.string _ _ _ (⟨#[105, 102, 45, 109, 97, 116, 99, 104]⟩ : ByteArray) [.string (⟨#[105, 102, 45, 109, 97, 116, 99, 104]⟩ : ByteArray)] from rfl) (Reps.one (show Kd.M Kd.string _ _ _ (⟨#[105, 102, 45, 117, 110, 109, 111, 100, 105, 102, 105, 101, 100, 45, 115, 105, 110, 99, 101]⟩ : ByteArray) [.string (⟨#[105, 102, 45, 117, 110, 109, 111, 100, 105, 102, 105, 101, 100, 45, 115, 105, 110, 99, 101]⟩ : ByteArray)] from rfl) (Reps.one (show Kd.M Kd.string _ _ _ (⟨#[105, 102, 45, 114, 97, 110, 103, 101]⟩ : ByteArray) [.string (⟨#[105, 102, 45, 114, 97, 110, 103, 101]⟩ : ByteArray)] from rfl) (Reps.one (show Kd.M Kd.string _ _ _ (⟨#[114, 97, 110, 103, 101]⟩ : ByteArray) [.string (⟨#[114, 97, 110, 103, 101]⟩ : ByteArray)] from rfl) (Reps.none _ _)))))))); intro v326 w8 ho9 hb hg_ hnew_; clear hg_ hnew_; (first | rw [← Ny325.out] at ho9 | (simp only [Int.reduceToNat] at ho9; rw [← Ny325.out] at ho9)); have n0_ := Aside0.mk (Kd.R_below (by (with_reducible repeat (first | apply Kd.R_alloc | apply Kd.R_drewN | apply Kd.R_drew)); exact HO324.out) hb); have n1_ := Aside0.mk (Kd.R_lower ho9 (below_size (by repeat (first | (with_reducible first | exact HB.out | apply below_alloc | apply pw_below_drewN | apply below_drew1) | exact HB.out)))); have n2_ := Aside0.mk (below_step (by repeat (first | (with_reducible first | exact HB.out | apply below_alloc | apply pw_below_drewN | apply below_drew1) | exact HB.out)) hb); clear HO324; clear HB; have HO324 := n0_; have HO327 := n1_; have HB := n2_; clear n0_ n1_ n2_; clear hb ho9; obtain ⟨Ao10, co10, eo10⟩ := Kd.R_slice HO324.out; subst eo10; obtain ⟨Ao11, co11, eo11⟩ := Kd.R_slice HO327.out; subst eo11) | ((with_reducible refine gate_callee (f := 38) rfl ?_); refine goesL_ (some 15) rfl rfl Tryd.func38 (by kernel_rfl) rfl #[.slice Ao10 t322.length co10, .slice Ao11 y325.length co11] rfl (by (try simp only [List.map_toArray, List.map_cons, List.map_nil]); first | done | rfl | (simp only [List.length_drop, List.length_take]; rfl)) ?_; (with_reducible refine (pantryref13_without.own k _ _ t322 _ _ y325 t328 _ ?side1 ?side2 ?side3 ?side4 HNE.out A4.out).mono ?_); (case side1 => repeat (first | exact (Kd.R_reads' HO324.out).2.2 | (with_reducible refine Kd.C_alloc ?_ _) | (with_reducible refine Kd.C_drewN ?_ _) | (with_reducible refine Kd.C_drew ?_))); (case side2 => exact (Kd.R_reads' HO324.out).2.1); (case side3 => repeat (first | exact (Kd.R_reads' HO327.out).2.2 | (with_reducible refine Kd.C_alloc ?_ _) | (with_reducible refine Kd.C_drewN ?_ _) | (with_reducible refine Kd.C_drew ?_))); (case side4 => exact (Kd.R_reads' HO327.out).2.1); rintro e w12 ⟨v329, rfl, ho0, hb⟩; refine ⟨_, rfl, ?_⟩; have n0_ := Aside0.mk (Kd.R_elder' (by (with_reducible repeat (first | apply Kd.R_alloc | apply Kd.R_drewN | apply Kd.R_drew)); exact HO324.out) (Kd.R_base ho0) hb); have n1_ := Aside0.mk (Kd.R_below (by (with_reducible repeat (first | apply Kd.R_alloc | apply Kd.R_drewN | apply Kd.R_drew)); exact HO327.out) hb); have n2_ := Aside0.mk (Kd.R_lower (Kd.R_new' ho0 (Kd.R_lt (by (with_reducible repeat (first | apply Kd.R_alloc | apply Kd.R_drewN | apply Kd.R_drew)); exact HO324.out))) (below_size (by repeat (first | (with_reducible first | exact HB.out | apply below_alloc | apply pw_below_drewN | apply below_drew1) | exact HB.out)))); have n3_ := Aside0.mk (below_step (by repeat (first | (with_reducible first | exact HB.out | apply below_alloc | apply pw_below_drewN | apply below_drew1) | exact HB.out)) hb); clear HO324; clear HO327; clear HB; have HO324 := n0_; have HO327 := n1_; have HO330 := n2_; have HB := n3_; clear n0_ n1_ n2_ n3_; (try clear hb); (try clear hb2); (try clear hk); (try clear hi); (try clear ho0)) | ((with_reducible refine gate_callee (f := 39) rfl ?_); refine goesL_ (some 18) rfl rfl Tryd.func39 (by kernel_rfl) rfl #[.slice A1 l1.length c1, .string (⟨#[101, 116, 97, 103]⟩ : ByteArray)] rfl (by (try simp only [List.map_toArray, List.map_cons, List.map_nil]); first | done | rfl | (simp only [List.length_drop, List.length_take]; rfl)) ?_; (with_reducible refine (pantryref03_Get.calls k _ _ l1 (⟨#[101, 116, 97, 103]⟩ : ByteArray) t331 t332 _ ?side1 ?side2 A5.out).mono ?_); (case side1 => repeat (first | exact (Kd.C_below HR1.out HB.out) | (with_reducible refine Kd.C_alloc ?_ _) | (with_reducible refine Kd.C_drewN ?_ _) | (with_reducible refine Kd.C_drew ?_))); (case side2 => exact HC1.out); rintro e w13 ⟨rfl, hb⟩; refine ⟨_, rfl, ?_⟩; have n0_ := Aside0.mk (Kd.R_below (by (with_reducible repeat (first | apply Kd.R_alloc | apply Kd.R_drewN | apply Kd.R_drew)); exact HO324.out) hb); have n1_ := Aside0.mk (Kd.R_below (by (with_reducible repeat (first | apply Kd.R_alloc | apply Kd.R_drewN | apply Kd.R_drew)); exact HO327.out) hb); have n2_ := Aside0.mk (Kd.R_below (by (with_reducible repeat (first | apply Kd.R_alloc | apply Kd.R_drewN | apply Kd.R_drew)); exact HO330.out) hb); have n3_ := Aside0.mk (below_step (by repeat (first | (with_reducible first | exact HB.out | apply below_alloc | apply pw_below_drewN | apply below_drew1) | exact HB.out)) hb); clear HO324; clear HO327; clear HO330; clear HB; have HO324 := n0_; have HO327 := n1_; have HO330 := n2_; have HB := n3_; clear n0_ n1_ n2_ n3_; (try clear hb); (try clear hb2); (try clear hk); (try clear hi)))
  (try simp only [Act.put, List.setIfInBounds_toArray, List.set_cons_zero, List.set_cons_succ])
  go_cut [5] (fun v5 wc => ∃ (kq : Nat) (x5_5 : List (S53)), Aside0 (pantryref13_Asking.j0 kq l1 x5_5 = some r) ∧ Aside0 (kq ≤ k) ∧ Aside0 (Kd.R k53 53 wc w.heap.size (fun _ => True) v5 x5_5) ∧ Aside0 (Below w.heap.size w wc))
  case first =>
    have H := HC6.out
    clear HC6
    by_cases c14 : t331.toList = ([] : List UInt8)
    · rw [if_pos c14] at H
      have c14b0 : (t331.toList == ([] : List UInt8)) = true := beq_iff_eq.mpr c14
      have c14b1 : (t331.toList != ([] : List UInt8)) = false := bne_eq_false_iff_eq.mpr c14
      have c14b4 : (t331.toList).isEmpty = true := by have h_ := c14b1; revert h_; generalize t331.toList = l_; cases l_ <;> simp
      have c14b4 : (t331.toList).isEmpty = true := by have h_ := c14b1; revert h_; generalize t331.toList = l_; cases l_ <;> simp
      clear c14
      (first | rw [c14b4] | rw [c14b0] | (simp only [i64_w, i32_w]; rw [c14b0]) | skip)
      have H' := Aside0.mk H
      clear H
      go_wp2
      go_meet
      case rel => exact ⟨_, (t328), H', ⟨by first | omega | exact Nat.le_refl _⟩, ⟨by (with_reducible repeat (first | apply Kd.R_alloc | apply Kd.R_drewN | apply Kd.R_drew)); exact Kd.R_mono HO330.out (fun _ hk => trivial)⟩, ⟨by repeat (first | (with_reducible first | exact HB.out | apply below_alloc | apply pw_below_drewN | apply below_drew1) | exact HB.out)⟩⟩
    · rw [if_neg c14] at H
      have c14b0 : (t331.toList == ([] : List UInt8)) = false := beq_eq_false_iff_ne.mpr c14
      have c14b1 : (t331.toList != ([] : List UInt8)) = true := bne_iff_ne.mpr c14
      have c14b4 : (t331.toList).isEmpty = false := by have h_ := c14b1; revert h_; generalize t331.toList = l_; cases l_ <;> simp
      have c14b4 : (t331.toList).isEmpty = false := by have h_ := c14b1; revert h_; generalize t331.toList = l_; cases l_ <;> simp
      (first | rw [c14b4] | rw [c14b0] | (simp only [i64_w, i32_w]; rw [c14b0]) | skip)
      by_cases c15 : t328.length < 4398046511104
      · rw [if_pos c15] at H
        have LMc15 := Aside0.mk c15
        clear c15
        obtain ⟨y333, hy333⟩ : ∃ y_ : List (S53), y_ = (t328 ++ [(⟨(⟨#[73, 102, 45, 78, 111, 110, 101, 45, 77, 97, 116, 99, 104]⟩ : ByteArray), t331⟩ : S53)]) := ⟨_, rfl⟩
        replace H : (pantryref13_Asking.j0 k l1 y333) = some r := by first | (rw [hy333]; with_reducible exact H) | (have H2_ := (Option.bind_some _ _).symm.trans H; rw [hy333]; with_reducible exact H2_) | (have H2_ := (Option.bind_some _ _).symm.trans H; with_reducible exact H2_) | with_reducible exact H | (rw [hy333]; exact H) | exact H
        have Ny333 := Aside0.mk hy333
        clear hy333
        have H' := Aside0.mk H
        clear H
        go_wp2_with (first | ((with_reducible refine gate_builtin (b := .append) (xs := #[.tmp 23, .tmp 26]) rfl ?_); at_builtin; refine Kd.R_append k53 (w0 := w) w.heap.size rfl (.tmp 23) (.tmp 26) 31 53 (.agg #[(.string ⟨#[]⟩), (.string ⟨#[]⟩)]) 32 rfl Tryd.underlying31 info53 rfl (by decide) (by omega) v329 t328 (⟨(⟨#[73, 102, 45, 78, 111, 110, 101, 45, 77, 97, 116, 99, 104]⟩ : ByteArray), t331⟩ : S53) [.string (⟨#[73, 102, 45, 78, 111, 110, 101, 45, 77, 97, 116, 99, 104]⟩ : ByteArray), .string t331] (fun k_ => some k_ ≠ (.slice Ao10 t322.length co10 : Value).ownBlock) (fun _ => False) rfl rfl ?aP (fun _ hk => hk.elim) ?aF ?aO ?aB ?aS ?aL ?_; (case aP => exact k53_mkM _ _ _ (⟨(⟨#[73, 102, 45, 78, 111, 110, 101, 45, 77, 97, 116, 99, 104]⟩ : ByteArray), t331⟩ : S53)); (case aB => exact (by repeat (first | (with_reducible first | exact HB.out | apply below_alloc | apply pw_below_drewN | apply below_drew1) | exact HB.out))); (case aF => exact (fun k_ hk => Kd.fresh' (Kd.R_lt (by (with_reducible repeat (first | apply Kd.R_alloc | apply Kd.R_drewN | apply Kd.R_drew)); exact HO324.out)) k_ hk)); (case aO => exact (by (with_reducible repeat (first | apply Kd.R_alloc | apply Kd.R_drewN | apply Kd.R_drew)); exact Kd.R_mono HO330.out (fun _ hk => hk.2))); (case aS => exact (below_size (by repeat (first | (with_reducible first | exact HB.out | apply below_alloc | apply pw_below_drewN | apply below_drew1) | exact HB.out)))); (case aL => have := LMc15.out; omega); intro v334 w16 ho hb hg hat; rw [← Ny333.out] at ho; have n0_ := Aside0.mk (Kd.R_after (ok := (fun _ => True)) (by (with_reducible repeat (first | apply Kd.R_alloc | apply Kd.R_drewN | apply Kd.R_drew)); exact HO324.out) hg hat); have n1_ := Aside0.mk (Kd.R_over' (by (with_reducible repeat (first | apply Kd.R_alloc | apply Kd.R_drewN | apply Kd.R_drew)); exact HO327.out) (Kd.R_typed (by (with_reducible repeat (first | apply Kd.R_alloc | apply Kd.R_drewN | apply Kd.R_drew)); exact HO330.out)) (by decide) hg); have n2_ := Aside0.mk (hb); have n3_ := Aside0.mk (ho); clear HO324; clear HO327; clear HB; clear HO330; have HO324 := n0_; have HO327 := n1_; have HB := n2_; have HO335 := n3_; clear n0_ n1_ n2_ n3_; clear ho hb hg hat))
        go_meet
        case rel => exact ⟨_, (y333), H', ⟨by first | omega | exact Nat.le_refl _⟩, ⟨by (with_reducible repeat (first | apply Kd.R_alloc | apply Kd.R_drewN | apply Kd.R_drew)); exact Kd.R_mono HO335.out (fun _ hk => trivial)⟩, ⟨by repeat (first | (with_reducible first | exact HB.out | apply below_alloc | apply pw_below_drewN | apply below_drew1) | exact HB.out)⟩⟩
      · rw [if_neg c15] at H
        exact absurd H (by simp)
  case rest =>
    clear HC6
    try clear c1
    try clear c2
    try clear p2
    try clear c3
    try clear c14
    try clear c14b0
    try clear c14b1
    try clear c15
    obtain ⟨kq, x5_5, HA, HJ5, HO_5, HB⟩ := hcut
    cases kq with
    | zero => exact absurd HA.out (by simp [pantryref13_Asking.j0])
    | succ kj5 =>
      have H := HA.out
      clear HA
      simp only [pantryref13_Asking.j0] at H
      replace H := Option.bind_eq_some_iff.mp H
      obtain ⟨⟨t336, t337⟩, A170, H⟩ := H
      replace H : (if t337 = true then ((pantryref03_Get.f kj5 l1 (⟨#[108, 97, 115, 116, 45, 109, 111, 100, 105, 102, 105, 101, 100]⟩ : ByteArray)).bind fun bt338 => (if x5_5.length < 4398046511104 then (some (x5_5 ++ [(⟨(⟨#[73, 102, 45, 77, 111, 100, 105, 102, 105, 101, 100, 45, 83, 105, 110, 99, 101]⟩ : ByteArray), bt338.1⟩ : S53)])) else (none))) else (some x5_5)) = some r := H
      have A17 := Aside0.mk A170
      clear A170
      by_cases c18 : t337 = true
      · subst c18
        have H1 : ((pantryref03_Get.f kj5 l1 (⟨#[108, 97, 115, 116, 45, 109, 111, 100, 105, 102, 105, 101, 100]⟩ : ByteArray)).bind fun bt338 => (if x5_5.length < 4398046511104 then (some (x5_5 ++ [(⟨(⟨#[73, 102, 45, 77, 111, 100, 105, 102, 105, 101, 100, 45, 83, 105, 110, 99, 101]⟩ : ByteArray), bt338.1⟩ : S53)])) else (none))) = some r := by rw [if_pos rfl] at H; exact H
        clear H
        have H := H1
        clear H1
        replace H := Option.bind_eq_some_iff.mp H
        obtain ⟨⟨t338, t339⟩, A190, H⟩ := H
        replace H : (if x5_5.length < 4398046511104 then (some (x5_5 ++ [(⟨(⟨#[73, 102, 45, 77, 111, 100, 105, 102, 105, 101, 100, 45, 83, 105, 110, 99, 101]⟩ : ByteArray), t338⟩ : S53)])) else (none)) = some r := H
        have A19 := Aside0.mk A190
        clear A190
        by_cases c20 : x5_5.length < 4398046511104
        · rw [if_pos c20] at H
          have LMc20 := Aside0.mk c20
          clear c20
          obtain ⟨y340, hy340⟩ : ∃ y_ : List (S53), y_ = (x5_5 ++ [(⟨(⟨#[73, 102, 45, 77, 111, 100, 105, 102, 105, 101, 100, 45, 83, 105, 110, 99, 101]⟩ : ByteArray), t338⟩ : S53)]) := ⟨_, rfl⟩
          replace H : (some y340) = some r := by first | (rw [hy340]; with_reducible exact H) | (have H2_ := (Option.bind_some _ _).symm.trans H; rw [hy340]; with_reducible exact H2_) | (have H2_ := (Option.bind_some _ _).symm.trans H; with_reducible exact H2_) | with_reducible exact H | (rw [hy340]; exact H) | exact H
          have Ny340 := Aside0.mk hy340
          clear hy340
          obtain rfl := Option.some.inj H
          go_wp2_with (first | ((with_reducible refine gate_callee (f := 51) rfl ?_); refine goesL_ (some 30) rfl rfl Tryd.func51 (by kernel_rfl) rfl #[.slice A1 l1.length c1, .string (⟨#[108, 97, 115, 116, 45, 109, 111, 100, 105, 102, 105, 101, 100]⟩ : ByteArray)] rfl (by (try simp only [List.map_toArray, List.map_cons, List.map_nil]); first | done | rfl | (simp only [List.length_drop, List.length_take]; rfl)) ?_; (with_reducible refine (pantryref12_Dated.calls kj5 _ _ l1 (⟨#[108, 97, 115, 116, 45, 109, 111, 100, 105, 102, 105, 101, 100]⟩ : ByteArray) t336 true _ ?side1 ?side2 A17.out).mono ?_); (case side1 => repeat (first | exact (Kd.C_below HR1.out HB.out) | (with_reducible refine Kd.C_alloc ?_ _) | (with_reducible refine Kd.C_drewN ?_ _) | (with_reducible refine Kd.C_drew ?_))); (case side2 => exact HC1.out); rintro e w21 ⟨rfl, hb⟩; refine ⟨_, rfl, ?_⟩; have n0_ := Aside0.mk (Kd.R_below (by (with_reducible repeat (first | apply Kd.R_alloc | apply Kd.R_drewN | apply Kd.R_drew)); exact HO_5.out) hb); have n1_ := Aside0.mk (below_step (by repeat (first | (with_reducible first | exact HB.out | apply below_alloc | apply pw_below_drewN | apply below_drew1) | exact HB.out)) hb); clear HO_5; clear HB; have HO_5 := n0_; have HB := n1_; clear n0_ n1_; (try clear hb); (try clear hb2); (try clear hk); (try clear hi)) | ((with_reducible refine gate_callee (f := 39) rfl ?_); refine goesL_ (some 36) rfl rfl Tryd.func39 (by kernel_rfl) rfl #[.slice A1 l1.length c1, .string (⟨#[108, 97, 115, 116, 45, 109, 111, 100, 105, 102, 105, 101, 100]⟩ : ByteArray)] rfl (by (try simp only [List.map_toArray, List.map_cons, List.map_nil]); first | done | rfl | (simp only [List.length_drop, List.length_take]; rfl)) ?_; (with_reducible refine (pantryref03_Get.calls kj5 _ _ l1 (⟨#[108, 97, 115, 116, 45, 109, 111, 100, 105, 102, 105, 101, 100]⟩ : ByteArray) t338 t339 _ ?side1 ?side2 A19.out).mono ?_); (case side1 => repeat (first | exact (Kd.C_below HR1.out HB.out) | (with_reducible refine Kd.C_alloc ?_ _) | (with_reducible refine Kd.C_drewN ?_ _) | (with_reducible refine Kd.C_drew ?_))); (case side2 => exact HC1.out); rintro e w22 ⟨rfl, hb⟩; refine ⟨_, rfl, ?_⟩; have n0_ := Aside0.mk (Kd.R_below (by (with_reducible repeat (first | apply Kd.R_alloc | apply Kd.R_drewN | apply Kd.R_drew)); exact HO_5.out) hb); have n1_ := Aside0.mk (below_step (by repeat (first | (with_reducible first | exact HB.out | apply below_alloc | apply pw_below_drewN | apply below_drew1) | exact HB.out)) hb); clear HO_5; clear HB; have HO_5 := n0_; have HB := n1_; clear n0_ n1_; (try clear hb); (try clear hb2); (try clear hk); (try clear hi)) | ((with_reducible refine gate_builtin (b := .append) (xs := #[.tmp 39, .tmp 42]) rfl ?_); at_builtin; refine Kd.R_append k53 (w0 := w) w.heap.size rfl (.tmp 39) (.tmp 42) 31 53 (.agg #[(.string ⟨#[]⟩), (.string ⟨#[]⟩)]) 32 rfl Tryd.underlying31 info53 rfl (by decide) (by omega) u5 x5_5 (⟨(⟨#[73, 102, 45, 77, 111, 100, 105, 102, 105, 101, 100, 45, 83, 105, 110, 99, 101]⟩ : ByteArray), t338⟩ : S53) [.string (⟨#[73, 102, 45, 77, 111, 100, 105, 102, 105, 101, 100, 45, 83, 105, 110, 99, 101]⟩ : ByteArray), .string t338] (fun _ => True) (fun _ => False) rfl rfl ?aP (fun _ hk => hk.elim) ?aF ?aO ?aB ?aS ?aL ?_; (case aP => exact k53_mkM _ _ _ (⟨(⟨#[73, 102, 45, 77, 111, 100, 105, 102, 105, 101, 100, 45, 83, 105, 110, 99, 101]⟩ : ByteArray), t338⟩ : S53)); (case aB => exact (by repeat (first | (with_reducible first | exact HB.out | apply below_alloc | apply pw_below_drewN | apply below_drew1) | exact HB.out))); (case aF => exact (fun _ _ => trivial)); (case aO => exact (by (with_reducible repeat (first | apply Kd.R_alloc | apply Kd.R_drewN | apply Kd.R_drew)); exact HO_5.out)); (case aS => exact (below_size (by repeat (first | (with_reducible first | exact HB.out | apply below_alloc | apply pw_below_drewN | apply below_drew1) | exact HB.out)))); (case aL => have := LMc20.out; omega); intro v341 w23 ho hb hg hat; rw [← Ny340.out] at ho; have n0_ := Aside0.mk (hb); have n1_ := Aside0.mk (ho); clear HB; clear HO_5; have HB := n0_; have HO342 := n1_; clear n0_ n1_; clear ho hb hg hat))
          go_ret
          exact ⟨_, by first | rfl | (generalize ByteArray.toList _ = l_; cases l_ <;> rfl) | (simp [errW_none, errW_some] <;> rfl) | (simp [*, errW_none, errW_some] <;> rfl), by (with_reducible repeat (first | apply Kd.R_alloc | apply Kd.R_drewN | apply Kd.R_drew)); exact HO342.out, by repeat (first | (with_reducible first | exact HB.out | apply below_alloc | apply pw_below_drewN | apply below_drew1) | exact HB.out)⟩
        · rw [if_neg c20] at H
          exact absurd H (by simp)
      · replace c18 := Bool.eq_false_iff.mpr c18
        subst c18
        have H1 : (some x5_5) = some r := by rw [if_neg (show ¬ (false = true) by decide)] at H; exact H
        clear H
        have H := H1
        clear H1
        obtain rfl := Option.some.inj H
        go_wp2_with (first | ((with_reducible refine gate_callee (f := 51) rfl ?_); refine goesL_ (some 30) rfl rfl Tryd.func51 (by kernel_rfl) rfl #[.slice A1 l1.length c1, .string (⟨#[108, 97, 115, 116, 45, 109, 111, 100, 105, 102, 105, 101, 100]⟩ : ByteArray)] rfl (by (try simp only [List.map_toArray, List.map_cons, List.map_nil]); first | done | rfl | (simp only [List.length_drop, List.length_take]; rfl)) ?_; (with_reducible refine (pantryref12_Dated.calls kj5 _ _ l1 (⟨#[108, 97, 115, 116, 45, 109, 111, 100, 105, 102, 105, 101, 100]⟩ : ByteArray) t336 false _ ?side1 ?side2 A17.out).mono ?_); (case side1 => repeat (first | exact (Kd.C_below HR1.out HB.out) | (with_reducible refine Kd.C_alloc ?_ _) | (with_reducible refine Kd.C_drewN ?_ _) | (with_reducible refine Kd.C_drew ?_))); (case side2 => exact HC1.out); rintro e w24 ⟨rfl, hb⟩; refine ⟨_, rfl, ?_⟩; have n0_ := Aside0.mk (Kd.R_below (by (with_reducible repeat (first | apply Kd.R_alloc | apply Kd.R_drewN | apply Kd.R_drew)); exact HO_5.out) hb); have n1_ := Aside0.mk (below_step (by repeat (first | (with_reducible first | exact HB.out | apply below_alloc | apply pw_below_drewN | apply below_drew1) | exact HB.out)) hb); clear HO_5; clear HB; have HO_5 := n0_; have HB := n1_; clear n0_ n1_; (try clear hb); (try clear hb2); (try clear hk); (try clear hi)))
        go_ret
        exact ⟨_, by first | rfl | (generalize ByteArray.toList _ = l_; cases l_ <;> rfl) | (simp [errW_none, errW_some] <;> rfl) | (simp [*, errW_none, errW_some] <;> rfl), by (with_reducible repeat (first | apply Kd.R_alloc | apply Kd.R_drewN | apply Kd.R_drew)); exact HO_5.out, by repeat (first | (with_reducible first | exact HB.out | apply below_alloc | apply pw_below_drewN | apply below_drew1) | exact HB.out)⟩

end Go.Proofs.YtcechlbeghcliaaDoor.PAll
