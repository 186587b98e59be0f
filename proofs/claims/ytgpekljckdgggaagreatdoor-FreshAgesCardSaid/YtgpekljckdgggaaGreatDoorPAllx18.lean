import Derived.Test.YtgpekljckdgggaaGreatDoorPAllx0
import Derived.Test.YtgpekljckdgggaaGreatDoorPAllx7
import Derived.Test.YtgpekljckdgggaaGreatDoorPAllx13
import Derived.Test.YtgpekljckdgggaaGreatDoorPAllx17
namespace Go.Proofs.YtgpekljckdgggaaGreatDoor.PAll
open Go.RowKit Go.Proofs.YtgpekljckdgggaaGreatDoorW.PrintWords Go.Proofs.YtgpekljckdgggaaGreatDoorW.PrintLast Go.Proofs.YtgpekljckdgggaaGreatDoorW.PrintMore
attribute [local go_sem] max2_int min2_int max_two min_two max_three min_three max_four min_four   -- for this text's walks alone
set_option linter.unusedVariables false
set_option linter.unusedSimpArgs false

/-! ### pantryref02_Show: function 25, by hand -/
def rtwo (n : Int) : ByteArray := (pantryref02_two.f n).getD ⟨#[]⟩
theorem two_any (n : Int) (w : World) : Calls Tryz.prog 44 #[.int .i64 n] w fun e w' => e = .returned (.string (rtwo n)) ∧ Below w.heap.size w w' :=
 pantryref02_two.calls n (rtwo n) w rfl
theorem rtwo_size (n : Int) : (rtwo n).size = 2 := by
 unfold rtwo pantryref02_two.f strOfNums
 rfl
theorem szA : (⟨#[44, 32]⟩ : ByteArray).size = 2 := rfl
theorem szB : (⟨#[32]⟩ : ByteArray).size = 1 := rfl
theorem szC : (⟨#[58]⟩ : ByteArray).size = 1 := rfl
theorem szD : (⟨#[32, 71, 77, 84]⟩ : ByteArray).size = 4 := rfl
def refWeek : Array Value := #[.string ⟨#[84, 104, 117]⟩, .string ⟨#[70, 114, 105]⟩, .string ⟨#[83, 97, 116]⟩, .string ⟨#[83, 117, 110]⟩, .string ⟨#[77, 111, 110]⟩, .string ⟨#[84, 117, 101]⟩, .string ⟨#[87, 101, 100]⟩]
def refMonth : Array Value := #[.string ⟨#[]⟩, .string ⟨#[74, 97, 110]⟩, .string ⟨#[70, 101, 98]⟩, .string ⟨#[77, 97, 114]⟩, .string ⟨#[65, 112, 114]⟩, .string ⟨#[77, 97, 121]⟩, .string ⟨#[74, 117, 110]⟩, .string ⟨#[74, 117, 108]⟩, .string ⟨#[65, 117, 103]⟩, .string ⟨#[83, 101, 112]⟩, .string ⟨#[79, 99, 116]⟩, .string ⟨#[78, 111, 118]⟩, .string ⟨#[68, 101, 99]⟩]
def weekAt (q : Nat) : ByteArray := weekB.extract (q * 3) (q * 3 + 3)
def monthAt (m : Nat) : ByteArray := monthB.extract (3 * m - 3) (3 * m - 3 + 3)
theorem refWeek_at (q : Nat) (h : q ≤ 6) : refWeek[q]? = some (.string (weekAt q)) := by
 rcases q with _ | _ | _ | _ | _ | _ | _ | q
 any_goals rfl
 omega
theorem refMonth_at (m : Nat) (h0 : 1 ≤ m) (h : m ≤ 12) : refMonth[m]? = some (.string (monthAt m)) := by
 rcases m with _ | _ | _ | _ | _ | _ | _ | _ | _ | _ | _ | _ | _ | m
 ·
  omega
 any_goals rfl
 omega
def refShowB (t y m d r : Int) : ByteArray := weekAt (t / 86400 % 7).toNat ++ ⟨#[44, 32]⟩ ++ (rtwo d) ++ ⟨#[32]⟩ ++ monthAt m.toNat ++ ⟨#[32]⟩ ++ (rtwo (y / 100)) ++ (rtwo (y % 100)) ++ ⟨#[32]⟩ ++ (rtwo (r / 3600)) ++ ⟨#[58]⟩ ++ (rtwo (r / 60 % 60)) ++ ⟨#[58]⟩ ++ (rtwo (r % 60)) ++ ⟨#[32, 71, 77, 84]⟩
def pantryref02_Show.f (k : Nat) (a0 : Int) : Option ByteArray :=
 (pantryref02_Split.f k a0).bind fun b => if ShowOk a0 b.1 b.2.1 b.2.2.1 b.2.2.2 then some (refShowB a0 b.1 b.2.1 b.2.2.1 b.2.2.2) else none
theorem pantryref02_Show.mono : ∀ a0 k, LeO (pantryref02_Show.f k a0) (pantryref02_Show.f (k + 1) a0) := by
 intro a0 k
 unfold pantryref02_Show.f
 exact LeO.bind (pantryref02_Split.mono _ _) (fun _ => LeO.refl _)
theorem run_adds {P : Program} (a b : ByteArray) (n : Nat) (ha : a.size ≤ n) (hb : b.size ≤ 4) (hn : n ≤ 100) (W : World) : (Op.stringOp .add a b).run P W = .ok (.string (a ++ b)) W := run_string_add_sum W a b (by omega)
set_option maxHeartbeats 4000000 in
set_option maxRecDepth 100000 in
theorem pantryref02_Show.calls (k : Nat) (a0 : Int) (r1 : ByteArray) (w : World) (h : pantryref02_Show.f k a0 = some r1) :
  Calls Tryz.prog 25 #[.int .i64 a0] w fun e w' => e = .returned (.string r1) ∧ Below w.heap.size w w' := by
 unfold pantryref02_Show.f at h
 cases hs : pantryref02_Split.f k a0 with
 | none => rw [hs] at h; simp at h
 | some b =>
  obtain ⟨y, m, d, r⟩ := b
  rw [hs] at h
  simp only [Option.bind_some] at h
  have HS := Aside0.mk hs
  clear hs
  by_cases hok : ShowOk a0 y m d r
  ·
   rw [if_pos hok] at h
   have h' := Option.some.inj h
   clear h
   obtain ⟨⟨ht0, ht1⟩, ⟨hy0, hy1⟩, ⟨hm0, hm1⟩, ⟨hd0, hd1⟩, hr0, hr1⟩ := hok
   obtain ⟨m, rfl⟩ := Int.eq_ofNat_of_zero_le (show 0 ≤ m by omega)
   obtain ⟨q, hq⟩ := Int.eq_ofNat_of_zero_le (show 0 ≤ a0 / 86400 % 7 by omega)
   have hq6 : q ≤ 6 := by omega
   have hm1' : m ≤ 12 := by omega
   have hm0' : 1 ≤ m := by omega
   unfold refShowB at h'
   rw [hq, Int.toNat_natCast, Int.toNat_natCast] at h'
   have hwk : (weekAt q).size ≤ 3 := by unfold weekAt; rw [ByteArray.size_extract]; omega
   have hmo : (monthAt m).size ≤ 4 := by unfold monthAt; rw [ByteArray.size_extract]; omega
   have cW := refWeek_at q hq6
   have cM := refMonth_at m hm0' hm1'
   generalize weekAt q = wk at *
   generalize monthAt m = mo at *
   subst h'
   have HQ := Aside0.mk hq
   clear hq
   have hszw := hwk
   have hszm := hmo
   have k1 : ∀ W, (Op.stringOp .add wk ⟨#[44, 32]⟩).run Tryz.prog W = .ok (.string (wk ++ ⟨#[44, 32]⟩)) W := fun W => run_adds _ _ 60 (by first | omega | (simp only [ByteArray.size_append, rtwo_size, szA, szB, szC]; omega)) (by first | (rw [rtwo_size]; omega) | (simp only [szA, szB, szC, szD]; omega) | omega) (by omega) W
   have k2 : ∀ W, (Op.stringOp .add (wk ++ ⟨#[44, 32]⟩) (rtwo d)).run Tryz.prog W = .ok (.string (wk ++ ⟨#[44, 32]⟩ ++ (rtwo d))) W := fun W => run_adds _ _ 60 (by first | omega | (simp only [ByteArray.size_append, rtwo_size, szA, szB, szC]; omega)) (by first | (rw [rtwo_size]; omega) | (simp only [szA, szB, szC, szD]; omega) | omega) (by omega) W
   have k3 : ∀ W, (Op.stringOp .add (wk ++ ⟨#[44, 32]⟩ ++ (rtwo d)) ⟨#[32]⟩).run Tryz.prog W = .ok (.string (wk ++ ⟨#[44, 32]⟩ ++ (rtwo d) ++ ⟨#[32]⟩)) W := fun W => run_adds _ _ 60 (by first | omega | (simp only [ByteArray.size_append, rtwo_size, szA, szB, szC]; omega)) (by first | (rw [rtwo_size]; omega) | (simp only [szA, szB, szC, szD]; omega) | omega) (by omega) W
   have k4 : ∀ W, (Op.stringOp .add (wk ++ ⟨#[44, 32]⟩ ++ (rtwo d) ++ ⟨#[32]⟩) mo).run Tryz.prog W = .ok (.string (wk ++ ⟨#[44, 32]⟩ ++ (rtwo d) ++ ⟨#[32]⟩ ++ mo)) W := fun W => run_adds _ _ 60 (by first | omega | (simp only [ByteArray.size_append, rtwo_size, szA, szB, szC]; omega)) (by first | (rw [rtwo_size]; omega) | (simp only [szA, szB, szC, szD]; omega) | omega) (by omega) W
   have k5 : ∀ W, (Op.stringOp .add (wk ++ ⟨#[44, 32]⟩ ++ (rtwo d) ++ ⟨#[32]⟩ ++ mo) ⟨#[32]⟩).run Tryz.prog W = .ok (.string (wk ++ ⟨#[44, 32]⟩ ++ (rtwo d) ++ ⟨#[32]⟩ ++ mo ++ ⟨#[32]⟩)) W := fun W => run_adds _ _ 60 (by first | omega | (simp only [ByteArray.size_append, rtwo_size, szA, szB, szC]; omega)) (by first | (rw [rtwo_size]; omega) | (simp only [szA, szB, szC, szD]; omega) | omega) (by omega) W
   have k6 : ∀ W, (Op.stringOp .add (wk ++ ⟨#[44, 32]⟩ ++ (rtwo d) ++ ⟨#[32]⟩ ++ mo ++ ⟨#[32]⟩) (rtwo (y / 100))).run Tryz.prog W = .ok (.string (wk ++ ⟨#[44, 32]⟩ ++ (rtwo d) ++ ⟨#[32]⟩ ++ mo ++ ⟨#[32]⟩ ++ (rtwo (y / 100)))) W := fun W => run_adds _ _ 60 (by first | omega | (simp only [ByteArray.size_append, rtwo_size, szA, szB, szC]; omega)) (by first | (rw [rtwo_size]; omega) | (simp only [szA, szB, szC, szD]; omega) | omega) (by omega) W
   have k7 : ∀ W, (Op.stringOp .add (wk ++ ⟨#[44, 32]⟩ ++ (rtwo d) ++ ⟨#[32]⟩ ++ mo ++ ⟨#[32]⟩ ++ (rtwo (y / 100))) (rtwo (y % 100))).run Tryz.prog W = .ok (.string (wk ++ ⟨#[44, 32]⟩ ++ (rtwo d) ++ ⟨#[32]⟩ ++ mo ++ ⟨#[32]⟩ ++ (rtwo (y / 100)) ++ (rtwo (y % 100)))) W := fun W => run_adds _ _ 60 (by first | omega | (simp only [ByteArray.size_append, rtwo_size, szA, szB, szC]; omega)) (by first | (rw [rtwo_size]; omega) | (simp only [szA, szB, szC, szD]; omega) | omega) (by omega) W
   have k8 : ∀ W, (Op.stringOp .add (wk ++ ⟨#[44, 32]⟩ ++ (rtwo d) ++ ⟨#[32]⟩ ++ mo ++ ⟨#[32]⟩ ++ (rtwo (y / 100)) ++ (rtwo (y % 100))) ⟨#[32]⟩).run Tryz.prog W = .ok (.string (wk ++ ⟨#[44, 32]⟩ ++ (rtwo d) ++ ⟨#[32]⟩ ++ mo ++ ⟨#[32]⟩ ++ (rtwo (y / 100)) ++ (rtwo (y % 100)) ++ ⟨#[32]⟩)) W := fun W => run_adds _ _ 60 (by first | omega | (simp only [ByteArray.size_append, rtwo_size, szA, szB, szC]; omega)) (by first | (rw [rtwo_size]; omega) | (simp only [szA, szB, szC, szD]; omega) | omega) (by omega) W
   have k9 : ∀ W, (Op.stringOp .add (wk ++ ⟨#[44, 32]⟩ ++ (rtwo d) ++ ⟨#[32]⟩ ++ mo ++ ⟨#[32]⟩ ++ (rtwo (y / 100)) ++ (rtwo (y % 100)) ++ ⟨#[32]⟩) (rtwo (r / 3600))).run Tryz.prog W = .ok (.string (wk ++ ⟨#[44, 32]⟩ ++ (rtwo d) ++ ⟨#[32]⟩ ++ mo ++ ⟨#[32]⟩ ++ (rtwo (y / 100)) ++ (rtwo (y % 100)) ++ ⟨#[32]⟩ ++ (rtwo (r / 3600)))) W := fun W => run_adds _ _ 60 (by first | omega | (simp only [ByteArray.size_append, rtwo_size, szA, szB, szC]; omega)) (by first | (rw [rtwo_size]; omega) | (simp only [szA, szB, szC, szD]; omega) | omega) (by omega) W
   have k10 : ∀ W, (Op.stringOp .add (wk ++ ⟨#[44, 32]⟩ ++ (rtwo d) ++ ⟨#[32]⟩ ++ mo ++ ⟨#[32]⟩ ++ (rtwo (y / 100)) ++ (rtwo (y % 100)) ++ ⟨#[32]⟩ ++ (rtwo (r / 3600))) ⟨#[58]⟩).run Tryz.prog W = .ok (.string (wk ++ ⟨#[44, 32]⟩ ++ (rtwo d) ++ ⟨#[32]⟩ ++ mo ++ ⟨#[32]⟩ ++ (rtwo (y / 100)) ++ (rtwo (y % 100)) ++ ⟨#[32]⟩ ++ (rtwo (r / 3600)) ++ ⟨#[58]⟩)) W := fun W => run_adds _ _ 60 (by first | omega | (simp only [ByteArray.size_append, rtwo_size, szA, szB, szC]; omega)) (by first | (rw [rtwo_size]; omega) | (simp only [szA, szB, szC, szD]; omega) | omega) (by omega) W
   have k11 : ∀ W, (Op.stringOp .add (wk ++ ⟨#[44, 32]⟩ ++ (rtwo d) ++ ⟨#[32]⟩ ++ mo ++ ⟨#[32]⟩ ++ (rtwo (y / 100)) ++ (rtwo (y % 100)) ++ ⟨#[32]⟩ ++ (rtwo (r / 3600)) ++ ⟨#[58]⟩) (rtwo (r / 60 % 60))).run Tryz.prog W = .ok (.string (wk ++ ⟨#[44, 32]⟩ ++ (rtwo d) ++ ⟨#[32]⟩ ++ mo ++ ⟨#[32]⟩ ++ (rtwo (y / 100)) ++ (rtwo (y % 100)) ++ ⟨#[32]⟩ ++ (rtwo (r / 3600)) ++ ⟨#[58]⟩ ++ (rtwo (r / 60 % 60)))) W := fun W => run_adds _ _ 60 (by first | omega | (simp only [ByteArray.size_append, rtwo_size, szA, szB, szC]; omega)) (by first | (rw [rtwo_size]; omega) | (simp only [szA, szB, szC, szD]; omega) | omega) (by omega) W
   have k12 : ∀ W, (Op.stringOp .add (wk ++ ⟨#[44, 32]⟩ ++ (rtwo d) ++ ⟨#[32]⟩ ++ mo ++ ⟨#[32]⟩ ++ (rtwo (y / 100)) ++ (rtwo (y % 100)) ++ ⟨#[32]⟩ ++ (rtwo (r / 3600)) ++ ⟨#[58]⟩ ++ (rtwo (r / 60 % 60))) ⟨#[58]⟩).run Tryz.prog W = .ok (.string (wk ++ ⟨#[44, 32]⟩ ++ (rtwo d) ++ ⟨#[32]⟩ ++ mo ++ ⟨#[32]⟩ ++ (rtwo (y / 100)) ++ (rtwo (y % 100)) ++ ⟨#[32]⟩ ++ (rtwo (r / 3600)) ++ ⟨#[58]⟩ ++ (rtwo (r / 60 % 60)) ++ ⟨#[58]⟩)) W := fun W => run_adds _ _ 60 (by first | omega | (simp only [ByteArray.size_append, rtwo_size, szA, szB, szC]; omega)) (by first | (rw [rtwo_size]; omega) | (simp only [szA, szB, szC, szD]; omega) | omega) (by omega) W
   have k13 : ∀ W, (Op.stringOp .add (wk ++ ⟨#[44, 32]⟩ ++ (rtwo d) ++ ⟨#[32]⟩ ++ mo ++ ⟨#[32]⟩ ++ (rtwo (y / 100)) ++ (rtwo (y % 100)) ++ ⟨#[32]⟩ ++ (rtwo (r / 3600)) ++ ⟨#[58]⟩ ++ (rtwo (r / 60 % 60)) ++ ⟨#[58]⟩) (rtwo (r % 60))).run Tryz.prog W = .ok (.string (wk ++ ⟨#[44, 32]⟩ ++ (rtwo d) ++ ⟨#[32]⟩ ++ mo ++ ⟨#[32]⟩ ++ (rtwo (y / 100)) ++ (rtwo (y % 100)) ++ ⟨#[32]⟩ ++ (rtwo (r / 3600)) ++ ⟨#[58]⟩ ++ (rtwo (r / 60 % 60)) ++ ⟨#[58]⟩ ++ (rtwo (r % 60)))) W := fun W => run_adds _ _ 60 (by first | omega | (simp only [ByteArray.size_append, rtwo_size, szA, szB, szC]; omega)) (by first | (rw [rtwo_size]; omega) | (simp only [szA, szB, szC, szD]; omega) | omega) (by omega) W
   have k14 : ∀ W, (Op.stringOp .add (wk ++ ⟨#[44, 32]⟩ ++ (rtwo d) ++ ⟨#[32]⟩ ++ mo ++ ⟨#[32]⟩ ++ (rtwo (y / 100)) ++ (rtwo (y % 100)) ++ ⟨#[32]⟩ ++ (rtwo (r / 3600)) ++ ⟨#[58]⟩ ++ (rtwo (r / 60 % 60)) ++ ⟨#[58]⟩ ++ (rtwo (r % 60))) ⟨#[32, 71, 77, 84]⟩).run Tryz.prog W = .ok (.string (wk ++ ⟨#[44, 32]⟩ ++ (rtwo d) ++ ⟨#[32]⟩ ++ mo ++ ⟨#[32]⟩ ++ (rtwo (y / 100)) ++ (rtwo (y % 100)) ++ ⟨#[32]⟩ ++ (rtwo (r / 3600)) ++ ⟨#[58]⟩ ++ (rtwo (r / 60 % 60)) ++ ⟨#[58]⟩ ++ (rtwo (r % 60)) ++ ⟨#[32, 71, 77, 84]⟩)) W := fun W => run_adds _ _ 60 (by first | omega | (simp only [ByteArray.size_append, rtwo_size, szA, szB, szC]; omega)) (by first | (rw [rtwo_size]; omega) | (simp only [szA, szB, szC, szD]; omega) | omega) (by omega) W
   go_enter Tryz.func25, Tryz.ntmps25
   go_wp2_with (go_at_call 43; refine (pantryref02_Split.calls k a0 y m d r w HS.out).mono ?_; rintro e w' ⟨rfl, hb0⟩)
   have hq := HQ.out
   have hq0 : (0 : Int) ≤ (q : Int) := by omega
   have hq7 : (q : Int) < 7 := by omega
   have hm7 : (m : Int) < 13 := by omega
   have hc7 : ((w'.alloc (.cells #[.string ⟨#[84, 104, 117]⟩, .string ⟨#[70, 114, 105]⟩, .string ⟨#[83, 97, 116]⟩, .string ⟨#[83, 117, 110]⟩, .string ⟨#[77, 111, 110]⟩, .string ⟨#[84, 117, 101]⟩, .string ⟨#[87, 101, 100]⟩] 83)).alloc (.cells #[.string ⟨#[]⟩, .string ⟨#[74, 97, 110]⟩, .string ⟨#[70, 101, 98]⟩, .string ⟨#[77, 97, 114]⟩, .string ⟨#[65, 112, 114]⟩, .string ⟨#[77, 97, 121]⟩, .string ⟨#[74, 117, 110]⟩, .string ⟨#[74, 117, 108]⟩, .string ⟨#[65, 117, 103]⟩, .string ⟨#[83, 101, 112]⟩, .string ⟨#[79, 99, 116]⟩, .string ⟨#[78, 111, 118]⟩, .string ⟨#[68, 101, 99]⟩] 84)).cell? ⟨w'.heap.size, q, none⟩ = some (.string wk) := by
    rw [Lib.cell_of_heap ((Lib.alloc_old _ _ _ (by simp)).trans (heap_alloc_new w' _))]
    exact cW
   have hc13 : ((w'.alloc (.cells #[.string ⟨#[84, 104, 117]⟩, .string ⟨#[70, 114, 105]⟩, .string ⟨#[83, 97, 116]⟩, .string ⟨#[83, 117, 110]⟩, .string ⟨#[77, 111, 110]⟩, .string ⟨#[84, 117, 101]⟩, .string ⟨#[87, 101, 100]⟩] 83)).alloc (.cells #[.string ⟨#[]⟩, .string ⟨#[74, 97, 110]⟩, .string ⟨#[70, 101, 98]⟩, .string ⟨#[77, 97, 114]⟩, .string ⟨#[65, 112, 114]⟩, .string ⟨#[77, 97, 121]⟩, .string ⟨#[74, 117, 110]⟩, .string ⟨#[74, 117, 108]⟩, .string ⟨#[65, 117, 103]⟩, .string ⟨#[83, 101, 112]⟩, .string ⟨#[79, 99, 116]⟩, .string ⟨#[78, 111, 118]⟩, .string ⟨#[68, 101, 99]⟩] 84)).cell? ⟨w'.heap.size + 1, m, none⟩ = some (.string mo) := by
    have := heap_alloc_new (w'.alloc (.cells refWeek 83)) (.cells refMonth 84)
    rw [show (w'.alloc (.cells refWeek 83)).heap.size = w'.heap.size + 1 by simp] at this
    exact (Lib.cell_of_heap this m).trans cM
   have hbz : Below w.heap.size w ((w'.alloc (.cells #[.string ⟨#[84, 104, 117]⟩, .string ⟨#[70, 114, 105]⟩, .string ⟨#[83, 97, 116]⟩, .string ⟨#[83, 117, 110]⟩, .string ⟨#[77, 111, 110]⟩, .string ⟨#[84, 117, 101]⟩, .string ⟨#[87, 101, 100]⟩] 83)).alloc (.cells #[.string ⟨#[]⟩, .string ⟨#[74, 97, 110]⟩, .string ⟨#[70, 101, 98]⟩, .string ⟨#[77, 97, 114]⟩, .string ⟨#[65, 112, 114]⟩, .string ⟨#[77, 97, 121]⟩, .string ⟨#[74, 117, 110]⟩, .string ⟨#[74, 117, 108]⟩, .string ⟨#[65, 117, 103]⟩, .string ⟨#[83, 101, 112]⟩, .string ⟨#[79, 99, 116]⟩, .string ⟨#[78, 111, 118]⟩, .string ⟨#[68, 101, 99]⟩] 84)) := (hb0.alloc hb0.size _).alloc (by have := hb0.size; simp; omega) _
   generalize ((w'.alloc (.cells #[.string ⟨#[84, 104, 117]⟩, .string ⟨#[70, 114, 105]⟩, .string ⟨#[83, 97, 116]⟩, .string ⟨#[83, 117, 110]⟩, .string ⟨#[77, 111, 110]⟩, .string ⟨#[84, 117, 101]⟩, .string ⟨#[87, 101, 100]⟩] 83)).alloc (.cells #[.string ⟨#[]⟩, .string ⟨#[74, 97, 110]⟩, .string ⟨#[70, 101, 98]⟩, .string ⟨#[77, 97, 114]⟩, .string ⟨#[65, 112, 114]⟩, .string ⟨#[77, 97, 121]⟩, .string ⟨#[74, 117, 110]⟩, .string ⟨#[74, 117, 108]⟩, .string ⟨#[65, 117, 103]⟩, .string ⟨#[83, 101, 112]⟩, .string ⟨#[79, 99, 116]⟩, .string ⟨#[78, 111, 118]⟩, .string ⟨#[68, 101, 99]⟩] 84)) = wz at *
   have e20 : a0.tdiv 86400 = a0 / 86400 := Int.tdiv_eq_ediv_of_nonneg ht0
   have e20w : IntKind.i64.wrap (a0 / 86400) = a0 / 86400 := IntWalk.i64_in _ (by omega)
   have e21 : (a0 / 86400).tmod 7 = (q : Int) := by rw [Int.tmod_eq_emod_of_nonneg (by omega)]; exact hq
   have e35 : y.tdiv 100 = y / 100 := Int.tdiv_eq_ediv_of_nonneg hy0
   have e35w : IntKind.i64.wrap (y / 100) = y / 100 := IntWalk.i64_in _ (by omega)
   have e39 : y.tmod 100 = y % 100 := Int.tmod_eq_emod_of_nonneg hy0
   go_region_held3 (fun W => W.cell? ⟨w'.heap.size, q, none⟩ = some (.string wk) ∧ W.cell? ⟨w'.heap.size + 1, m, none⟩ = some (.string mo) ∧ Below w.heap.size w W)
    (first | (go_split_ands; exact ⟨pw_cell_below hbt (by assumption), pw_cell_below hbt (by assumption), below_then (by assumption) (Below.size (by assumption)) hbt⟩) | exact ⟨(by assumption : _), (by assumption : _), below_drew (by assumption)⟩ | go_keep)
    (first | (go_at_call 44; refine (two_any _ _).mono ?_; rintro e w9 ⟨rfl, hbt⟩))
   go_split_ands
   have HBQ : Aside0 (Below w.heap.size w _) := Aside0.mk (by assumption)
   have f45 : 0 ≤ r / 3600 := by omega
   have f50 : 0 ≤ r / 60 := by omega
   clear hc7 hc13
   go_wp2_with fail
   refine (two_any _ _).mono ?_
   rintro e wa ⟨rfl, hba⟩
   have HB1 := Aside0.mk (below_then HBQ.out HBQ.out.size hba)
   go_wp2_with fail
   refine (two_any _ _).mono ?_
   rintro e wb ⟨rfl, hbb⟩
   have HB2 := Aside0.mk (below_then HB1.out HB1.out.size hbb)
   go_wp2_with fail
   refine (two_any _ _).mono ?_
   rintro e wc ⟨rfl, hbc⟩
   go_wp2
   go_ret
   exact ⟨rfl, below_then HB2.out HB2.out.size hbc⟩
  ·
   rw [if_neg hok] at h
   cases h

/-! ### pantryref12_number: function 87 -/
def pantryref12_number.l0 : Nat → ByteArray → Int → Int → Int → Int → Option (Int)
 | 0, _, _, _, _, _ => none
 | k + 1, x0, x1, x2, x7, x8 => if x8 < (wrap64 (x1 + x2)) then (if 0 ≤ x8 then (if x8 < (x0.size : Int) then (if (bt x0 x8) < 48 then (some (-1)) else (if (bt x0 x8) > 57 then (some (-1)) else (pantryref12_number.l0 k x0 x1 x2 (wrap64 ((wrap64 (10 * x7)) + (((bt x0 x8) - 48) % 256))) (wrap64 (x8 + 1))))) else (none)) else (none)) else (some x7)
def pantryref12_number.f (k : Nat) (a0 : ByteArray) (a1 : Int) (a2 : Int) : Option (Int) := pantryref12_number.l0 k a0 a1 a2 0 a1
theorem pantryref12_number.mono_l : ∀ k, (∀ y0 y1 y2 y3 y4, LeO (pantryref12_number.l0 k y0 y1 y2 y3 y4) (pantryref12_number.l0 (k + 1) y0 y1 y2 y3 y4))
 | 0 => fun _ _ _ _ _ r h => by simp [pantryref12_number.l0] at h
 | k + 1 => by
  have ih0 := pantryref12_number.mono_l k
  ·
   intro y0 y1 y2 y3 y4
   unfold pantryref12_number.l0
   repeat' (with_reducible first | exact ih0 _ _ _ _ _ | exact lR_ | refine LeO.ite ?_ ?_ | refine LeO.bind ?_ (fun _ => ?_))
theorem pantryref12_number.mono : ∀ a0 a1 a2 k, LeO (pantryref12_number.f k a0 a1 a2) (pantryref12_number.f (k + 1) a0 a1 a2) := by
 intro a0 a1 a2 k
 have ih0 := pantryref12_number.mono_l k
 unfold pantryref12_number.f
 repeat' (with_reducible first | exact ih0 _ _ _ _ _ | exact lR_ | refine LeO.ite ?_ ?_ | refine LeO.bind ?_ (fun _ => ?_))
set_option maxHeartbeats 8000000 in
set_option maxRecDepth 100000 in
theorem pantryref12_number.calls (k : Nat) (a0 : ByteArray) (a1 : Int) (a2 : Int) (r : Int) (w : World) (h : pantryref12_number.f k a0 a1 a2 = some r) :
  Calls Tryz.prog 87 #[.string a0, .int .i64 a1, .int .i64 a2] w fun e w' => e = .returned (.int .i64 r) ∧ Drawn0 w w' := by
 have H : (pantryref12_number.l0 k a0 a1 a2 0 a1) = some r := h
 clear h
 have H' := Aside0.mk H
 clear H
 go_enter Tryz.func87, Tryz.ntmps87
 go_wp2
 go_loopg [7, 8] k (fun kq v7 v8 w' => ∃ (x7_1 : Int) (x8_1 : Int), v7 = .int .i64 x7_1 ∧ v8 = .int .i64 x8_1 ∧ Aside0 (pantryref12_number.l0 kq a0 a1 a2 x7_1 x8_1 = some r) ∧ Aside0 (kq ≤ k) ∧ Drawn0 w w')
 case atStart => exact ⟨(0), (a1), E3_, E3_, H', ⟨Nat.le_refl _⟩, D1_⟩
 case round =>
  clear H'
  obtain ⟨x7_1, x8_1, rfl, rfl, HA, HK1, ⟨m1, rfl⟩⟩ := hrel
  cases gk with
  | zero => exact absurd HA.out (by simp [pantryref12_number.l0])
  | succ k1 =>
   have H := HA.out
   clear HA
   simp only [pantryref12_number.l0] at H
   by_cases c4 : x8_1 < (wrap64 (a1 + a2))
   ·
    rw [if_pos c4] at H
    have c4b0 : decide (x8_1 < (wrap64 (a1 + a2))) = true := decide_eq_true c4
    clear c4
    by_cases c5 : 0 ≤ x8_1
    ·
     rw [if_pos c5] at H
     have c5b0 : decide (0 ≤ x8_1) = true := decide_eq_true c5
     clear c5
     by_cases c6 : x8_1 < (a0.size : Int)
     ·
      rw [if_pos c6] at H
      have c6b0 : decide (x8_1 < (a0.size : Int)) = true := decide_eq_true c6
      clear c6
      by_cases c8 : (bt a0 x8_1) < 48
      ·
       rw [if_pos c8] at H
       have c8b0 : decide ((bt a0 x8_1) < 48) = true := decide_eq_true c8
       clear c8
       obtain rfl := Option.some.inj H
       have p7 : 0 ≤ (x8_1 : Int) := oA_
       have q7 : x8_1 < (a0.size : Int) := oA_
       have hx7 := bt_at a0 x8_1
       replace p7 := eq_true p7
       replace q7 := eq_true q7
       go_wp2
       go_ret
       exact ⟨E2_, D1_⟩
      ·
       rw [if_neg c8] at H
       have c8b0 : decide ((bt a0 x8_1) < 48) = false := decide_eq_false c8
       clear c8
       by_cases c10 : (bt a0 x8_1) > 57
       ·
        rw [if_pos c10] at H
        have c10b0 : decide (57 < (bt a0 x8_1)) = true := decide_eq_true c10
        clear c10
        obtain rfl := Option.some.inj H
        have p7 : 0 ≤ (x8_1 : Int) := oA_
        have q7 : x8_1 < (a0.size : Int) := oA_
        have hx7 := bt_at a0 x8_1
        replace p7 := eq_true p7
        replace q7 := eq_true q7
        have p9 : 0 ≤ (x8_1 : Int) := oA_
        have q9 : x8_1 < (a0.size : Int) := oA_
        have hx9 := bt_at a0 x8_1
        replace p9 := eq_true p9
        replace q9 := eq_true q9
        go_wp2
        go_ret
        exact ⟨E2_, D1_⟩
       ·
        rw [if_neg c10] at H
        have c10b0 : decide (57 < (bt a0 x8_1)) = false := decide_eq_false c10
        clear c10
        have H' := Aside0.mk H
        clear H
        have p7 : 0 ≤ (x8_1 : Int) := oA_
        have q7 : x8_1 < (a0.size : Int) := oA_
        have hx7 := bt_at a0 x8_1
        replace p7 := eq_true p7
        replace q7 := eq_true q7
        have p9 : 0 ≤ (x8_1 : Int) := oA_
        have q9 : x8_1 < (a0.size : Int) := oA_
        have hx9 := bt_at a0 x8_1
        replace p9 := eq_true p9
        replace q9 := eq_true q9
        have p11 : 0 ≤ (x8_1 : Int) := oA_
        have q11 : x8_1 < (a0.size : Int) := oA_
        have hx11 := bt_at a0 x8_1
        replace p11 := eq_true p11
        replace q11 := eq_true q11
        go_wp2
        go_roundg k1
        case measure => have := HK1.out; omega
        case rel => exact ⟨(wrap64 ((wrap64 (10 * x7_1)) + (((bt a0 x8_1) - 48) % 256))), (wrap64 (x8_1 + 1)), E3_, E3_, H', ⟨by have := HK1.out; omega⟩, D1_⟩
     ·
      rw [if_neg c6] at H
      exact absurd H (by simp)
    ·
     rw [if_neg c5] at H
     exact absurd H (by simp)
   ·
    rw [if_neg c4] at H
    have c4b0 : decide (x8_1 < (wrap64 (a1 + a2))) = false := decide_eq_false c4
    clear c4
    obtain rfl := Option.some.inj H
    go_wp2
    go_ret
    exact ⟨E2_, D1_⟩

/-! ### pantryref12_Read: function 63, by hand -/
-- over 87 64 65 25
def monGo (x : ByteArray) : Nat → Nat → Int → Int
 | 0, _, m => m
 | q + 1, i, m => monGo x q (i + 1) (if (monthAt i).toList = x.toList then (i : Int) else m)
def monNo (s : ByteArray) : Int := monGo (s.extract 8 11) 12 1 0
theorem wrap64_small {x : Int} (h0 : -9223372036854775808 ≤ x) (h1 : x ≤ 9223372036854775807) : wrap64 x = x := by unfold wrap64; omega
mutual
def pantryref12_Read.j0 : Nat → ByteArray → Int → Int → Int → Bool → Option (Int × Bool)
 | 0, _, _, _, _, _ => none
 | k + 1, x0, x5, x7, x8, x41 => if x41 = true then (some (0, false)) else (pantryref12_Read.l0 k x0 x5 x7 (wrap64 (x8 - 1)) 1970)
def pantryref12_Read.l0 : Nat → ByteArray → Int → Int → Int → Int → Option (Int × Bool)
 | 0, _, _, _, _, _ => none
 | k + 1, x0, x5, x7, x9, x10 => if x10 < x7 then ((pantryref02_Leap.f x10).bind fun t260 => (if t260 = true then (pantryref12_Read.l0 k x0 x5 x7 (wrap64 ((wrap64 (x9 + 365)) + 1)) (wrap64 (x10 + 1))) else (pantryref12_Read.l0 k x0 x5 x7 (wrap64 (x9 + 365)) (wrap64 (x10 + 1))))) else (pantryref12_Read.l1 k x0 x5 x7 x9 1)
def pantryref12_Read.l1 : Nat → ByteArray → Int → Int → Int → Int → Option (Int × Bool)
 | 0, _, _, _, _, _ => none
 | k + 1, x0, x5, x7, x9, x11 => if x11 < x5 then ((pantryref02_Days.f x7 x11).bind fun t261 => (pantryref12_Read.l1 k x0 x5 x7 (wrap64 (x9 + t261)) (wrap64 (x11 + 1)))) else ((pantryref12_number.f k x0 17 2).bind fun t262 => ((pantryref12_number.f k x0 20 2).bind fun t263 => ((pantryref12_number.f k x0 23 2).bind fun t264 => (if (wrap64 ((wrap64 ((wrap64 ((wrap64 (x9 * 86400)) + (wrap64 (t262 * 3600)))) + (wrap64 (t263 * 60)))) + t264)) < 0 then (some (0, false)) else (if (wrap64 ((wrap64 ((wrap64 ((wrap64 (x9 * 86400)) + (wrap64 (t262 * 3600)))) + (wrap64 (t263 * 60)))) + t264)) > 253402300799 then (some (0, false)) else ((pantryref02_Show.f k (wrap64 ((wrap64 ((wrap64 ((wrap64 (x9 * 86400)) + (wrap64 (t262 * 3600)))) + (wrap64 (t263 * 60)))) + t264))).bind fun t265 => (if t265.toList = x0.toList then (some (wrap64 ((wrap64 ((wrap64 ((wrap64 (x9 * 86400)) + (wrap64 (t262 * 3600)))) + (wrap64 (t263 * 60)))) + t264), true)) else (some (0, false)))))))))
end
def pantryref12_Read.f (k : Nat) (a0 : ByteArray) : Option (Int × Bool) := if (a0.size : Int) = 29 then ((some (monNo a0) : Option Int).bind fun t257 => ((pantryref12_number.f k a0 12 4).bind fun t258 => ((pantryref12_number.f k a0 5 2).bind fun t259 => (if t257 = 0 then (pantryref12_Read.j0 k a0 t257 t258 t259 true) else (if t258 < 1970 then (pantryref12_Read.j0 k a0 t257 t258 t259 true) else (pantryref12_Read.j0 k a0 t257 t258 t259 (decide (t259 < 1)))))))) else (some (0, false))
theorem pantryref12_Read.mono_l : ∀ k, (∀ y0 y1 y2 y3 y4, LeO (pantryref12_Read.j0 k y0 y1 y2 y3 y4) (pantryref12_Read.j0 (k + 1) y0 y1 y2 y3 y4)) ∧ (∀ y0 y1 y2 y3 y4, LeO (pantryref12_Read.l0 k y0 y1 y2 y3 y4) (pantryref12_Read.l0 (k + 1) y0 y1 y2 y3 y4)) ∧ (∀ y0 y1 y2 y3 y4, LeO (pantryref12_Read.l1 k y0 y1 y2 y3 y4) (pantryref12_Read.l1 (k + 1) y0 y1 y2 y3 y4))
 | 0 => ⟨fun _ _ _ _ _ r h => by simp [pantryref12_Read.j0] at h, fun _ _ _ _ _ r h => by simp [pantryref12_Read.l0] at h, fun _ _ _ _ _ r h => by simp [pantryref12_Read.l1] at h⟩
 | k + 1 => by
  obtain ⟨ih0, ih1, ih2⟩ := pantryref12_Read.mono_l k
  refine ⟨?_, ?_, ?_⟩
  ·
   intro y0 y1 y2 y3 y4
   unfold pantryref12_Read.j0
   repeat' (with_reducible first | exact ih0 _ _ _ _ _ | exact ih1 _ _ _ _ _ | exact ih2 _ _ _ _ _ | exact pantryref02_Show.mono _ _ | exact pantryref12_number.mono _ _ _ _ | exact lR_ | refine LeO.ite ?_ ?_ | refine LeO.bind ?_ (fun _ => ?_))
  ·
   intro y0 y1 y2 y3 y4
   unfold pantryref12_Read.l0
   repeat' (with_reducible first | exact ih0 _ _ _ _ _ | exact ih1 _ _ _ _ _ | exact ih2 _ _ _ _ _ | exact pantryref02_Show.mono _ _ | exact pantryref12_number.mono _ _ _ _ | exact lR_ | refine LeO.ite ?_ ?_ | refine LeO.bind ?_ (fun _ => ?_))
  ·
   intro y0 y1 y2 y3 y4
   unfold pantryref12_Read.l1
   repeat' (with_reducible first | exact ih0 _ _ _ _ _ | exact ih1 _ _ _ _ _ | exact ih2 _ _ _ _ _ | exact pantryref02_Show.mono _ _ | exact pantryref12_number.mono _ _ _ _ | exact lR_ | refine LeO.ite ?_ ?_ | refine LeO.bind ?_ (fun _ => ?_))
theorem pantryref12_Read.mono : ∀ a0 k, LeO (pantryref12_Read.f k a0) (pantryref12_Read.f (k + 1) a0) := by
 intro a0 k
 obtain ⟨ih0, ih1, ih2⟩ := pantryref12_Read.mono_l k
 unfold pantryref12_Read.f
 repeat' (with_reducible first | exact ih0 _ _ _ _ _ | exact ih1 _ _ _ _ _ | exact ih2 _ _ _ _ _ | exact pantryref02_Show.mono _ _ | exact pantryref12_number.mono _ _ _ _ | exact lR_ | refine LeO.ite ?_ ?_ | refine LeO.bind ?_ (fun _ => ?_))
set_option maxHeartbeats 8000000 in
set_option maxRecDepth 100000 in
theorem pantryref12_Read.calls (k : Nat) (a0 : ByteArray) (r1 : Int) (r2 : Bool) (w : World) (h : pantryref12_Read.f k a0 = some (r1, r2)) :
  Calls Tryz.prog 63 #[.string a0] w fun e w' => e = .returned (.tuple #[.int .i64 r1, .bool r2]) ∧ Below w.heap.size w w' := by
 have HB := Aside0.mk (Below.refl w.heap.size w)
 have H : (if (a0.size : Int) = 29 then ((some (monNo a0) : Option Int).bind fun t257 => ((pantryref12_number.f k a0 12 4).bind fun t258 => ((pantryref12_number.f k a0 5 2).bind fun t259 => (if t257 = 0 then (pantryref12_Read.j0 k a0 t257 t258 t259 true) else (if t258 < 1970 then (pantryref12_Read.j0 k a0 t257 t258 t259 true) else (pantryref12_Read.j0 k a0 t257 t258 t259 (decide (t259 < 1)))))))) else (some (0, false))) = some (r1, r2) := h
 clear h
 by_cases c2 : (a0.size : Int) = 29
 ·
  rw [if_pos c2] at H
  have c2b0 : ((a0.size : Int) == 29) = true := beq_iff_eq.mpr c2
  have c2b1 : ((a0.size : Int) != 29) = false := bne_eq_false_iff_eq.mpr c2
  have C29 := Aside0.mk c2
  clear c2
  obtain ⟨t257, A3, H⟩ := bS_ H
  try dsimp only at H
  obtain ⟨t258, A4, H⟩ := bS_ H
  try dsimp only at H
  obtain ⟨t259, A5, H⟩ := bS_ H
  try dsimp only at H
  have HC6 := Aside0.mk H
  clear H
  have q11 : ((11 : Int) ≤ (a0.size : Int)) = True := eq_true (by have := C29.out; omega)
  go_enter Tryz.func63, Tryz.ntmps63
  go_wp2
  go_loopg [5, 6] 12 (fun kq v5 v6 w' => ∃ (m i : Int), v5 = .int .i64 m ∧ v6 = .int .i64 i ∧ Aside0 (1 ≤ i ∧ i + kq = 13 ∧ monGo (a0.extract 8 11) kq i.toNat m = t257) ∧ Aside0 (w'.heap[w.heap.size]? = some (.cells refMonth 84 (0, 0))) ∧ Aside0 (Below w.heap.size w w'))
  case atStart => exact ⟨0, 1, rfl, rfl, ⟨by omega, by omega, Option.some.inj A3.out⟩, ⟨heap_alloc_new w _⟩, ⟨(Below.refl _ _).alloc (Nat.le_refl _) _⟩⟩
  case round =>
   clear HB
   obtain ⟨m, i, rfl, rfl, HI, HH, HB⟩ := hrel
   cases gk with
   | succ k2 =>
    obtain ⟨hi1, hi2, hi3⟩ := HI.out
    clear HI HC6 A4 A5 A3
    obtain ⟨n, rfl⟩ := Int.eq_ofNat_of_zero_le (show 0 ≤ i by omega)
    have hcell : wr.cell? ⟨w.heap.size, n, none⟩ = some (.string (monthAt n)) := by
     rw [Lib.cell_of_heap HH.out]
     exact refMonth_at n (by omega) (by omega)
    have h12 : decide ((n : Int) ≤ 12) = true := decide_eq_true (by omega)
    have p13 : ((n : Int) < 13) = True := eq_true (by omega)
    have p0 : (0 ≤ (n : Int)) = True := eq_true (by omega)
    have HN := Aside0.mk (And.intro hi1 (And.intro hi2 hi3))
    by_cases he : (monthAt n).toList = (a0.extract 8 11).toList
    ·
     have heb : ((monthAt n).toList == (a0.extract 8 11).toList) = true := beq_iff_eq.mpr he
     have HE := Aside0.mk he
     clear he hi1 hi2 hi3
     generalize monthAt n = mo at hcell heb
     go_wp2
     repeat (go_quiet (fail); try go_wp2)
     go_roundg k2
     case measure => omega
     case rel =>
      obtain ⟨hi1, hi2, hi3⟩ := HN.out
      refine ⟨(n : Int), (n : Int) + 1, rfl, ?_, ⟨by omega, by omega, ?_⟩, ⟨by first | exact HH.out | simpa using HH.out⟩, ⟨W1_⟩⟩
      ·
       first | rfl | (rw [wrap64_small (by omega) (by omega)])
      ·
       rw [show ((n : Int) + 1).toNat = n + 1 by omega]
       simp only [monGo, Int.toNat_natCast] at hi3
       rwa [if_pos (by exact HE.out)] at hi3
    ·
     have heb : ((monthAt n).toList == (a0.extract 8 11).toList) = false := beq_eq_false_iff_ne.mpr he
     have HE := Aside0.mk he
     clear he hi1 hi2 hi3
     generalize monthAt n = mo at hcell heb
     go_wp2
     repeat (go_quiet (fail); try go_wp2)
     go_roundg k2
     case measure => omega
     case rel =>
      obtain ⟨hi1, hi2, hi3⟩ := HN.out
      refine ⟨m, (n : Int) + 1, rfl, ?_, ⟨by omega, by omega, ?_⟩, ⟨by first | exact HH.out | simpa using HH.out⟩, ⟨W1_⟩⟩
      ·
       first | rfl | (rw [wrap64_small (by omega) (by omega)])
      ·
       rw [show ((n : Int) + 1).toNat = n + 1 by omega]
       simp only [monGo, Int.toNat_natCast] at hi3
       rwa [if_neg (by exact HE.out)] at hi3
   | zero =>
    obtain ⟨hi1, hi2, hi3⟩ := HI.out
    have h12 : decide (i ≤ 12) = false := decide_eq_false (by omega)
    obtain rfl : t257 = m := hi3.symm
    clear HI HH hi1 hi2 q11 A3
    go_upto_region 12 with (first | ((with_reducible refine gate_callee (f := 87) rfl ?_); refine goesL_ (some 29) rfl rfl Tryz.func87 (by kernel_rfl) rfl #[.string a0, .int .i64 12, .int .i64 4] rfl T1_ ?_; (with_reducible refine (pantryref12_number.calls k a0 12 4 t258 _ A4.out).mono ?_); rintro e w' ⟨rfl, ⟨nd, rfl⟩⟩; refine ⟨_, rfl, ?_⟩) | ((with_reducible refine gate_callee (f := 87) rfl ?_); refine goesL_ (some 31) rfl rfl Tryz.func87 (by kernel_rfl) rfl #[.string a0, .int .i64 5, .int .i64 2] rfl T1_ ?_; (with_reducible refine (pantryref12_number.calls k a0 5 2 t259 _ A5.out).mono ?_); rintro e w' ⟨rfl, ⟨nd, rfl⟩⟩; refine ⟨_, rfl, ?_⟩))
    (try simp only [Act.put, sA_, sZ_, sS_])
    go_cut [41] (fun v41 wc => ∃ (kq : Nat) (x41_5 : Bool), v41 = .bool x41_5 ∧ Aside0 (pantryref12_Read.j0 kq a0 t257 t258 t259 x41_5 = some (r1, r2)) ∧ Aside0 (kq ≤ k) ∧ Aside0 (Below w.heap.size w wc))
    case first =>
     have H := HC6.out
     clear HC6
     by_cases c7 : t257 = 0
     ·
      rw [if_pos c7] at H
      have c7b0 : (t257 == 0) = true := beq_iff_eq.mpr c7
      have c7b1 : (t257 != 0) = false := bne_eq_false_iff_eq.mpr c7
      clear c7
      (first | rw [c7b0] | (simp only [i64_w, i32_w]; rw [c7b0]) | skip)
      have H' := Aside0.mk H
      clear H
      go_wp2
      go_meet
      case rel => exact ⟨_, (true), E3_, H', ⟨by first | omega | exact Nat.le_refl _⟩, ⟨W1_⟩⟩
     ·
      rw [if_neg c7] at H
      have c7b0 : (t257 == 0) = false := beq_eq_false_iff_ne.mpr c7
      have c7b1 : (t257 != 0) = true := bne_iff_ne.mpr c7
      (first | rw [c7b0] | (simp only [i64_w, i32_w]; rw [c7b0]) | skip)
      by_cases c8 : t258 < 1970
      ·
       rw [if_pos c8] at H
       have c8b0 : decide (t258 < 1970) = true := decide_eq_true c8
       clear c8
       have H' := Aside0.mk H
       clear H
       go_wp2
       go_meet
       case rel => exact ⟨_, (true), E3_, H', ⟨by first | omega | exact Nat.le_refl _⟩, ⟨W1_⟩⟩
      ·
       rw [if_neg c8] at H
       have c8b0 : decide (t258 < 1970) = false := decide_eq_false c8
       clear c8
       have H' := Aside0.mk H
       clear H
       go_wp2
       go_meet
       case rel => exact ⟨_, (decide (t259 < 1)), E3_, H', ⟨by first | omega | exact Nat.le_refl _⟩, ⟨W1_⟩⟩
    case rest =>
     clear HC6
     (try clear c2); (try clear c2b0); (try clear c2b1); (try clear c7); (try clear c7b0); (try clear c7b1); (try clear c8); (try clear c8b0)
     obtain ⟨kq, x41_5, rfl, HA, HJ5, HB⟩ := hcut
     cases kq with
     | zero => exact absurd HA.out (by simp [pantryref12_Read.j0])
     | succ kj5 =>
      have H := HA.out
      clear HA
      simp only [pantryref12_Read.j0] at H
      by_cases c9 : x41_5 = true
      ·
       subst c9
       rw [if_pos rfl] at H
       simp only [Option.some.injEq, Prod.mk.injEq] at H
       obtain ⟨rfl, rfl⟩ := H
       go_wp2
       go_ret2
       exact ⟨E1_, W1_⟩
      ·
       replace c9 := Bool.eq_false_iff.mpr c9
       subst c9
       rw [if_neg (show ¬ (false = true) by decide)] at H
       have H' := Aside0.mk H
       clear H
       go_wp2
       go_loopg [9, 10] kj5 (fun kq v9 v10 w' => ∃ (x9_2 : Int) (x10_2 : Int), v9 = .int .i64 x9_2 ∧ v10 = .int .i64 x10_2 ∧ Aside0 (pantryref12_Read.l0 kq a0 t257 t258 x9_2 x10_2 = some (r1, r2)) ∧ Aside0 (kq ≤ kj5) ∧ Aside0 (Below w.heap.size w w'))
       case atStart => exact ⟨(wrap64 (t259 - 1)), (1970), E3_, E3_, H', ⟨Nat.le_refl _⟩, ⟨W1_⟩⟩
       case round =>
        clear H'
        (try clear c2); (try clear c2b0); (try clear c2b1); (try clear c7); (try clear c7b0); (try clear c7b1); (try clear c8); (try clear c8b0); (try clear c9)
        obtain ⟨x9_2, x10_2, rfl, rfl, HA, HK2, HB⟩ := hrel
        cases gk with
        | zero => exact absurd HA.out (by simp [pantryref12_Read.l0])
        | succ k2 =>
         have H := HA.out
         clear HA
         simp only [pantryref12_Read.l0] at H
         by_cases c10 : x10_2 < t258
         ·
          rw [if_pos c10] at H
          have c10b0 : decide (x10_2 < t258) = true := decide_eq_true c10
          clear c10
          obtain ⟨t260, A11, H⟩ := bS_ H
          try dsimp only at H
          by_cases c12 : t260 = true
          ·
           subst c12
           rw [if_pos rfl] at H
           have H' := Aside0.mk H
           clear H
           go_wp2_with (first | ((with_reducible refine gate_callee (f := 64) rfl ?_); refine goesL_ (some 52) rfl rfl Tryz.func64 (by kernel_rfl) rfl #[.int .i64 x10_2] rfl T1_ ?_; (with_reducible refine (pantryref02_Leap.calls x10_2 true _ A11.out).mono ?_); rintro e w' ⟨rfl, ⟨nd, rfl⟩⟩; refine ⟨_, rfl, ?_⟩))
           go_roundg k2
           case measure => have := HJ5.out; have := HK2.out; omega
           case rel => exact ⟨(wrap64 ((wrap64 (x9_2 + 365)) + 1)), (wrap64 (x10_2 + 1)), E3_, E3_, H', ⟨by have := HJ5.out; have := HK2.out; omega⟩, ⟨W1_⟩⟩
          ·
           replace c12 := Bool.eq_false_iff.mpr c12
           subst c12
           rw [if_neg (show ¬ (false = true) by decide)] at H
           have H' := Aside0.mk H
           clear H
           go_wp2_with (first | ((with_reducible refine gate_callee (f := 64) rfl ?_); refine goesL_ (some 52) rfl rfl Tryz.func64 (by kernel_rfl) rfl #[.int .i64 x10_2] rfl T1_ ?_; (with_reducible refine (pantryref02_Leap.calls x10_2 false _ A11.out).mono ?_); rintro e w' ⟨rfl, ⟨nd, rfl⟩⟩; refine ⟨_, rfl, ?_⟩))
           go_roundg k2
           case measure => have := HJ5.out; have := HK2.out; omega
           case rel => exact ⟨(wrap64 (x9_2 + 365)), (wrap64 (x10_2 + 1)), E3_, E3_, H', ⟨by have := HJ5.out; have := HK2.out; omega⟩, ⟨W1_⟩⟩
         ·
          rw [if_neg c10] at H
          have c10b0 : decide (x10_2 < t258) = false := decide_eq_false c10
          clear c10
          have H' := Aside0.mk H
          clear H
          go_wp2
          go_loopg [9, 11] k2 (fun kq v9 v11 w' => ∃ (x9_3 : Int) (x11_3 : Int), v9 = .int .i64 x9_3 ∧ v11 = .int .i64 x11_3 ∧ Aside0 (pantryref12_Read.l1 kq a0 t257 t258 x9_3 x11_3 = some (r1, r2)) ∧ Aside0 (kq ≤ k2) ∧ Aside0 (Below w.heap.size w w'))
          case atStart => exact ⟨(x9_2), (1), E3_, E3_, H', ⟨Nat.le_refl _⟩, ⟨W1_⟩⟩
          case round =>
           clear H'
           (try clear c2); (try clear c2b0); (try clear c2b1); (try clear c7); (try clear c7b0); (try clear c7b1); (try clear c8); (try clear c8b0); (try clear c9); (try clear c10); (try clear c10b0); (try clear c12)
           obtain ⟨x9_3, x11_3, rfl, rfl, HA, HK3, HB⟩ := hrel
           cases gk with
           | zero => exact absurd HA.out (by simp [pantryref12_Read.l1])
           | succ k3 =>
            have H := HA.out
            clear HA
            simp only [pantryref12_Read.l1] at H
            by_cases c13 : x11_3 < t257
            ·
             rw [if_pos c13] at H
             have c13b0 : decide (x11_3 < t257) = true := decide_eq_true c13
             clear c13
             obtain ⟨t261, A14, H⟩ := bS_ H
             try dsimp only at H
             have H' := Aside0.mk H
             clear H
             go_wp2_with (first | ((with_reducible refine gate_callee (f := 65) rfl ?_); refine goesL_ (some 63) rfl rfl Tryz.func65 (by kernel_rfl) rfl #[.int .i64 t258, .int .i64 x11_3] rfl T1_ ?_; (with_reducible refine (pantryref02_Days.calls t258 x11_3 t261 _ A14.out).mono ?_); rintro e w15 ⟨rfl, hb⟩; refine ⟨_, rfl, ?_⟩; replace HB := y1_ hb; (try clear hb)))
             go_roundg k3
             case measure => have := HJ5.out; have := HK2.out; have := HK3.out; omega
             case rel => exact ⟨(wrap64 (x9_3 + t261)), (wrap64 (x11_3 + 1)), E3_, E3_, H', ⟨by have := HJ5.out; have := HK2.out; have := HK3.out; omega⟩, ⟨W1_⟩⟩
            ·
             rw [if_neg c13] at H
             have c13b0 : decide (x11_3 < t257) = false := decide_eq_false c13
             clear c13
             obtain ⟨t262, A16, H⟩ := bS_ H
             try dsimp only at H
             obtain ⟨t263, A17, H⟩ := bS_ H
             try dsimp only at H
             obtain ⟨t264, A18, H⟩ := bS_ H
             try dsimp only at H
             by_cases c19 : (wrap64 ((wrap64 ((wrap64 ((wrap64 (x9_3 * 86400)) + (wrap64 (t262 * 3600)))) + (wrap64 (t263 * 60)))) + t264)) < 0
             ·
              rw [if_pos c19] at H
              have c19b0 : decide ((wrap64 ((wrap64 ((wrap64 ((wrap64 (x9_3 * 86400)) + (wrap64 (t262 * 3600)))) + (wrap64 (t263 * 60)))) + t264)) < 0) = true := decide_eq_true c19
              clear c19
              simp only [Option.some.injEq, Prod.mk.injEq] at H
              obtain ⟨rfl, rfl⟩ := H
              go_wp2_with (first | ((with_reducible refine gate_callee (f := 87) rfl ?_); refine goesL_ (some 68) rfl rfl Tryz.func87 (by kernel_rfl) rfl #[.string a0, .int .i64 17, .int .i64 2] rfl T1_ ?_; (with_reducible refine (pantryref12_number.calls k3 a0 17 2 t262 _ A16.out).mono ?_); rintro e w' ⟨rfl, ⟨nd, rfl⟩⟩; refine ⟨_, rfl, ?_⟩) | ((with_reducible refine gate_callee (f := 87) rfl ?_); refine goesL_ (some 72) rfl rfl Tryz.func87 (by kernel_rfl) rfl #[.string a0, .int .i64 20, .int .i64 2] rfl T1_ ?_; (with_reducible refine (pantryref12_number.calls k3 a0 20 2 t263 _ A17.out).mono ?_); rintro e w' ⟨rfl, ⟨nd, rfl⟩⟩; refine ⟨_, rfl, ?_⟩) | ((with_reducible refine gate_callee (f := 87) rfl ?_); refine goesL_ (some 76) rfl rfl Tryz.func87 (by kernel_rfl) rfl #[.string a0, .int .i64 23, .int .i64 2] rfl T1_ ?_; (with_reducible refine (pantryref12_number.calls k3 a0 23 2 t264 _ A18.out).mono ?_); rintro e w' ⟨rfl, ⟨nd, rfl⟩⟩; refine ⟨_, rfl, ?_⟩))
              go_ret2
              exact ⟨E1_, W1_⟩
             ·
              rw [if_neg c19] at H
              have c19b0 : decide ((wrap64 ((wrap64 ((wrap64 ((wrap64 (x9_3 * 86400)) + (wrap64 (t262 * 3600)))) + (wrap64 (t263 * 60)))) + t264)) < 0) = false := decide_eq_false c19
              clear c19
              by_cases c20 : (wrap64 ((wrap64 ((wrap64 ((wrap64 (x9_3 * 86400)) + (wrap64 (t262 * 3600)))) + (wrap64 (t263 * 60)))) + t264)) > 253402300799
              ·
               rw [if_pos c20] at H
               have c20b0 : decide (253402300799 < (wrap64 ((wrap64 ((wrap64 ((wrap64 (x9_3 * 86400)) + (wrap64 (t262 * 3600)))) + (wrap64 (t263 * 60)))) + t264))) = true := decide_eq_true c20
               clear c20
               simp only [Option.some.injEq, Prod.mk.injEq] at H
               obtain ⟨rfl, rfl⟩ := H
               go_wp2_with (first | ((with_reducible refine gate_callee (f := 87) rfl ?_); refine goesL_ (some 68) rfl rfl Tryz.func87 (by kernel_rfl) rfl #[.string a0, .int .i64 17, .int .i64 2] rfl T1_ ?_; (with_reducible refine (pantryref12_number.calls k3 a0 17 2 t262 _ A16.out).mono ?_); rintro e w' ⟨rfl, ⟨nd, rfl⟩⟩; refine ⟨_, rfl, ?_⟩) | ((with_reducible refine gate_callee (f := 87) rfl ?_); refine goesL_ (some 72) rfl rfl Tryz.func87 (by kernel_rfl) rfl #[.string a0, .int .i64 20, .int .i64 2] rfl T1_ ?_; (with_reducible refine (pantryref12_number.calls k3 a0 20 2 t263 _ A17.out).mono ?_); rintro e w' ⟨rfl, ⟨nd, rfl⟩⟩; refine ⟨_, rfl, ?_⟩) | ((with_reducible refine gate_callee (f := 87) rfl ?_); refine goesL_ (some 76) rfl rfl Tryz.func87 (by kernel_rfl) rfl #[.string a0, .int .i64 23, .int .i64 2] rfl T1_ ?_; (with_reducible refine (pantryref12_number.calls k3 a0 23 2 t264 _ A18.out).mono ?_); rintro e w' ⟨rfl, ⟨nd, rfl⟩⟩; refine ⟨_, rfl, ?_⟩))
               go_ret2
               exact ⟨E1_, W1_⟩
              ·
               rw [if_neg c20] at H
               have c20b0 : decide (253402300799 < (wrap64 ((wrap64 ((wrap64 ((wrap64 (x9_3 * 86400)) + (wrap64 (t262 * 3600)))) + (wrap64 (t263 * 60)))) + t264))) = false := decide_eq_false c20
               clear c20
               obtain ⟨t265, A21, H⟩ := bS_ H
               try dsimp only at H
               by_cases c22 : t265.toList = a0.toList
               ·
                rw [if_pos c22] at H
                have c22b0 : (t265.toList == a0.toList) = true := beq_iff_eq.mpr c22
                have c22b1 : (t265.toList != a0.toList) = false := bne_eq_false_iff_eq.mpr c22
                clear c22
                simp only [Option.some.injEq, Prod.mk.injEq] at H
                obtain ⟨rfl, rfl⟩ := H
                go_wp2_with (first | ((with_reducible refine gate_callee (f := 87) rfl ?_); refine goesL_ (some 68) rfl rfl Tryz.func87 (by kernel_rfl) rfl #[.string a0, .int .i64 17, .int .i64 2] rfl T1_ ?_; (with_reducible refine (pantryref12_number.calls k3 a0 17 2 t262 _ A16.out).mono ?_); rintro e w' ⟨rfl, ⟨nd, rfl⟩⟩; refine ⟨_, rfl, ?_⟩) | ((with_reducible refine gate_callee (f := 87) rfl ?_); refine goesL_ (some 72) rfl rfl Tryz.func87 (by kernel_rfl) rfl #[.string a0, .int .i64 20, .int .i64 2] rfl T1_ ?_; (with_reducible refine (pantryref12_number.calls k3 a0 20 2 t263 _ A17.out).mono ?_); rintro e w' ⟨rfl, ⟨nd, rfl⟩⟩; refine ⟨_, rfl, ?_⟩) | ((with_reducible refine gate_callee (f := 87) rfl ?_); refine goesL_ (some 76) rfl rfl Tryz.func87 (by kernel_rfl) rfl #[.string a0, .int .i64 23, .int .i64 2] rfl T1_ ?_; (with_reducible refine (pantryref12_number.calls k3 a0 23 2 t264 _ A18.out).mono ?_); rintro e w' ⟨rfl, ⟨nd, rfl⟩⟩; refine ⟨_, rfl, ?_⟩) | (go_at_call 25; (with_reducible refine (pantryref02_Show.calls k3 (wrap64 ((wrap64 ((wrap64 ((wrap64 (x9_3 * 86400)) + (wrap64 (t262 * 3600)))) + (wrap64 (t263 * 60)))) + t264)) t265 _ A21.out).mono ?_); rintro e w23 ⟨rfl, hb⟩; replace HB := y1_ hb; (try clear hb)))
                go_ret2
                exact ⟨E1_, W1_⟩
               ·
                rw [if_neg c22] at H
                have c22b0 : (t265.toList == a0.toList) = false := beq_eq_false_iff_ne.mpr c22
                have c22b1 : (t265.toList != a0.toList) = true := bne_iff_ne.mpr c22
                simp only [Option.some.injEq, Prod.mk.injEq] at H
                obtain ⟨rfl, rfl⟩ := H
                go_wp2_with (first | ((with_reducible refine gate_callee (f := 87) rfl ?_); refine goesL_ (some 68) rfl rfl Tryz.func87 (by kernel_rfl) rfl #[.string a0, .int .i64 17, .int .i64 2] rfl T1_ ?_; (with_reducible refine (pantryref12_number.calls k3 a0 17 2 t262 _ A16.out).mono ?_); rintro e w' ⟨rfl, ⟨nd, rfl⟩⟩; refine ⟨_, rfl, ?_⟩) | ((with_reducible refine gate_callee (f := 87) rfl ?_); refine goesL_ (some 72) rfl rfl Tryz.func87 (by kernel_rfl) rfl #[.string a0, .int .i64 20, .int .i64 2] rfl T1_ ?_; (with_reducible refine (pantryref12_number.calls k3 a0 20 2 t263 _ A17.out).mono ?_); rintro e w' ⟨rfl, ⟨nd, rfl⟩⟩; refine ⟨_, rfl, ?_⟩) | ((with_reducible refine gate_callee (f := 87) rfl ?_); refine goesL_ (some 76) rfl rfl Tryz.func87 (by kernel_rfl) rfl #[.string a0, .int .i64 23, .int .i64 2] rfl T1_ ?_; (with_reducible refine (pantryref12_number.calls k3 a0 23 2 t264 _ A18.out).mono ?_); rintro e w' ⟨rfl, ⟨nd, rfl⟩⟩; refine ⟨_, rfl, ?_⟩) | (go_at_call 25; (with_reducible refine (pantryref02_Show.calls k3 (wrap64 ((wrap64 ((wrap64 ((wrap64 (x9_3 * 86400)) + (wrap64 (t262 * 3600)))) + (wrap64 (t263 * 60)))) + t264)) t265 _ A21.out).mono ?_); rintro e w24 ⟨rfl, hb⟩; replace HB := y1_ hb; (try clear hb)))
                go_ret2
                exact ⟨E1_, W1_⟩
 ·
  rw [if_neg c2] at H
  have c2b0 : ((a0.size : Int) == 29) = false := beq_eq_false_iff_ne.mpr c2
  have c2b1 : ((a0.size : Int) != 29) = true := bne_iff_ne.mpr c2
  simp only [Option.some.injEq, Prod.mk.injEq] at H
  obtain ⟨rfl, rfl⟩ := H
  go_enter Tryz.func63, Tryz.ntmps63
  go_wp2
  go_ret2
  exact ⟨E1_, W1_⟩

/-! ### pantryref12_Dated: function 39 -/
def pantryref12_Dated.f (k : Nat) (l0 : List (S70)) (a1 : ByteArray) : Option (Int × Bool) := (pantryref03_Get.f k l0 a1).bind fun bt374 => ((pantryref12_Read.f k bt374.1).bind fun bt376 => (some (bt376.1, bt376.2)))
theorem pantryref12_Dated.mono : ∀ a0 a1 k, LeO (pantryref12_Dated.f k a0 a1) (pantryref12_Dated.f (k + 1) a0 a1) := by
 intro a0 a1 k
 unfold pantryref12_Dated.f
 repeat' (with_reducible first | exact pantryref03_Get.mono _ _ _ | exact pantryref12_Read.mono _ _ | exact lR_ | refine LeO.ite ?_ ?_ | refine LeO.bind ?_ (fun _ => ?_))
set_option maxHeartbeats 8000000 in
set_option maxRecDepth 100000 in
theorem pantryref12_Dated.calls (k : Nat) (A0 : Option Addr) (c0 : Nat) (l0 : List (S70)) (a1 : ByteArray) (r1 : Int) (r2 : Bool) (w : World) (hr0 : Kd.C k70 w A0 l0.length l0) (hc0 : l0.length ≤ c0) (h : pantryref12_Dated.f k l0 a1 = some (r1, r2)) :
  Calls Tryz.prog 39 #[.slice A0 l0.length c0, .string a1] w fun e w' => e = .returned (.tuple #[.int .i64 r1, .bool r2]) ∧ Below w.heap.size w w' := by
 have HR0 := Aside0.mk hr0
 have HC0 := Aside0.mk hc0
 clear hr0 hc0
 have HB := Aside0.mk (Below.refl w.heap.size w)
 have H : ((pantryref03_Get.f k l0 a1).bind fun bt374 => ((pantryref12_Read.f k bt374.1).bind fun bt376 => (some (bt376.1, bt376.2)))) = some (r1, r2) := h
 clear h
 obtain ⟨⟨t374, t375⟩, A3, H⟩ := bS_ H
 try dsimp only at H
 obtain ⟨⟨t376, t377⟩, A4, H⟩ := bS_ H
 try dsimp only at H
 simp only [Option.some.injEq, Prod.mk.injEq] at H
 obtain ⟨rfl, rfl⟩ := H
 go_enter Tryz.func39, Tryz.ntmps39
 go_wp2_with (first | ((with_reducible refine gate_callee (f := 32) rfl ?_); refine goesL_ (some 11) rfl rfl Tryz.func32 (by kernel_rfl) rfl #[.slice A0 l0.length c0, .string a1] rfl T1_ ?_; (with_reducible refine (pantryref03_Get.calls k _ _ l0 a1 t374 t375 _ ?side1 ?side2 A3.out).mono ?_); (case side1 => exact C1_ (HR0.out)); (case side2 => exact HC0.out); rintro e w5 ⟨rfl, hb⟩; refine ⟨_, rfl, ?_⟩; replace HB := y1_ hb; (try clear hb)) | ((with_reducible refine gate_callee (f := 63) rfl ?_); refine goesL_ (some 15) rfl rfl Tryz.func63 (by kernel_rfl) rfl #[.string t374] rfl T1_ ?_; (with_reducible refine (pantryref12_Read.calls k t374 t376 t377 _ A4.out).mono ?_); rintro e w6 ⟨rfl, hb⟩; refine ⟨_, rfl, ?_⟩; replace HB := y1_ hb; (try clear hb)))
 go_ret2
 exact ⟨E1_, W1_⟩

end Go.Proofs.YtgpekljckdgggaaGreatDoor.PAll
