/- The walk of BulletinLatest: it returns true, whatever comes in. The drawn region's steps are printed by x6.py. -/
import Derived.WalkSpells
import Derived.Deep.QuietTactic
import Derived.BigQuiet
import Derived.Test.YtibmbffhlicpaaaM6
namespace Go.Proofs.Ytibmbffhlicpaaa.A
open Go.RowKit Go.Proofs.YtibmbffhlicpaaaW.PrintWords Go.Proofs.YtibmbffhlicpaaaW.PrintLast Go.Proofs.YtibmbffhlicpaaaW.PrintMore
attribute [local go_sem] max2_int min2_int max_two min_two max_three min_three max_four min_four
set_option linter.unusedVariables false
set_option linter.unusedSimpArgs false
def X6.T20 : Bool × List (List Nat × List Nat) := (true, [([], []), ([], []), ([1], [1]), ([0, 2], [0, 2]), ([], []), ([3, 4], [3, 4]), ([5, 3], [5]), ([6], [6]), ([7, 6], [6, 7]), ([6], [6]), ([9, 6], [6, 9]), ([8, 10, 6], [6, 8, 10]), ([6, 11], [6, 11]), ([12, 6], [12]), ([13], [13]), ([13], [13]), ([15, 13], [13, 15]), ([14, 16, 13, 13], [13, 14, 16]), ([13], [13]), ([17, 18, 13], [13, 17, 18]), ([13, 19], [13, 19]), ([20, 17], [20]), ([21], [21]), ([21], [21]), ([22, 23, 21, 21], [21, 22, 23]), ([21], [21]), ([21], [21]), ([25, 26, 24, 21], [21, 25, 26]), ([24, 27, 21], [21, 24, 27]), ([21, 28], [21, 28]), ([29, 27], [29]), ([30], [30]), ([30], [30]), ([31, 32, 30, 30], [30, 31, 32]), ([30], [30]), ([30], [30]), ([34, 35, 33, 30], [30, 34, 35]), ([33, 36, 30], [30, 33, 36]), ([30, 37], [30, 37]), ([38, 36], [38]), ([39], [39]), ([39], [39]), ([41, 39], [39, 41]), ([40, 42, 39, 39], [39, 40, 42]), ([39], [39]), ([43, 44, 39], [39, 43, 44]), ([39, 45], [39, 45]), ([46, 43, 0, 1, 2, 3, 4, 5, 6, 7, 8, 9, 10, 11, 12, 13, 14, 15, 16, 17, 18, 19, 20, 21, 22, 23, 24, 25, 26, 27, 28, 29, 30, 31, 32, 33, 34, 35, 36, 37, 38, 39, 40, 41, 42, 43, 44, 45, 46], [46])])
def X6.B20 : List Nat := [0, 0, 2, 7, 0, 31, 63, 127, 255, 127, 639, 2047, 4095, 8191, 16383, 16383, 49151, 131071, 16383, 524287, 1048575, 2097151, 4194303, 4194303, 16777215, 4194303, 4194303, 134217727, 268435455, 536870911, 1073741823, 2147483647, 2147483647, 8589934591, 2147483647, 2147483647, 68719476735, 137438953471, 274877906943, 549755813887, 1099511627775, 1099511627775, 3298534883327, 8796093022207, 1099511627775, 35184372088831, 70368744177663, 140737488355327]
theorem X6.tab20 : rtab .any (opsOf Try.f6 20) = X6.T20 := by kernel_rfl
theorem X6.bits20 : waitsOk X6.T20.2 X6.B20 = true := by kernel_rfl
set_option maxHeartbeats 8000000 in
set_option maxRecDepth 100000 in
theorem latest_no (A0 : Option Addr) (c0 : Nat) (l0 : List S31) (a1_0 a1_1 a1_2 a1_3 a2 : Int) (w : World) (hr0 : Kd.C k31 w A0 l0.length l0) (hc0 : l0.length ≤ c0) (kR : Nat) (hR : skiarealaw49_right.f kR l0 = some false) :
    Calls Try.prog 6 #[.slice A0 l0.length c0, .agg #[.int .i64 a1_0, .int .i64 a1_1, .int .i64 a1_2, .int .i64 a1_3], .int .i64 a2] w fun e w' => e = .returned (.bool true) ∧ Below w.heap.size w w' := by
  have hu31 := Try.underlying31
  have hu37 := Try.underlying37
  have hu28 := Try.underlying28
  have HR := Aside0.mk hr0
  have HC := Aside0.mk hc0
  clear hr0 hc0
  obtain ⟨kA, hA⟩ := alive_ev.rounds
  go_enter Try.func6, Try.ntmps6
  go_wp2_with fail
  refine (skiarealaw49_alive.calls kA true _ hA).mono ?_
  rintro e w1 ⟨rfl, hb⟩
  have BP := Aside0.mk (blk_below (heap_alloc_new w (.cells #[.int .i64 a1_0, .int .i64 a1_1, .int .i64 a1_2, .int .i64 a1_3] 37 (0, 0))) hb)
  have HB := Aside0.mk (below_step (below_alloc (Below.refl w.heap.size w) _) hb)
  clear hb
  go_wp2_with fail
  refine (skiarealaw49_right.calls kR _ _ l0 false _ (Kd.C_below HR.out HB.out) HC.out hR).mono ?_
  rintro e w2 ⟨rfl, hb⟩
  have n0_ := Aside0.mk (blk_below BP.out hb)
  have n1_ := Aside0.mk (below_step HB.out hb)
  clear BP HB
  have BP := n0_
  have HB := n1_
  clear n0_ n1_
  clear hb
  go_wp2
  go_ret
  exact ⟨by first | rfl | (simp; done), HB.out⟩
set_option maxHeartbeats 8000000 in
set_option maxRecDepth 100000 in
theorem latest_lo (A0 : Option Addr) (c0 : Nat) (l0 : List S31) (a1_0 a1_1 a1_2 a1_3 a2 : Int) (w : World) (hr0 : Kd.C k31 w A0 l0.length l0) (hc0 : l0.length ≤ c0) (kR : Nat) (hR : skiarealaw49_right.f kR l0 = some true) (h : a2 < 1) :
    Calls Try.prog 6 #[.slice A0 l0.length c0, .agg #[.int .i64 a1_0, .int .i64 a1_1, .int .i64 a1_2, .int .i64 a1_3], .int .i64 a2] w fun e w' => e = .returned (.bool true) ∧ Below w.heap.size w w' := by
  have q1 : decide (a2 < 1) = true := decide_eq_true h
  clear h
  have hu31 := Try.underlying31
  have hu37 := Try.underlying37
  have hu28 := Try.underlying28
  have HR := Aside0.mk hr0
  have HC := Aside0.mk hc0
  clear hr0 hc0
  obtain ⟨kA, hA⟩ := alive_ev.rounds
  go_enter Try.func6, Try.ntmps6
  go_wp2_with fail
  refine (skiarealaw49_alive.calls kA true _ hA).mono ?_
  rintro e w1 ⟨rfl, hb⟩
  have BP := Aside0.mk (blk_below (heap_alloc_new w (.cells #[.int .i64 a1_0, .int .i64 a1_1, .int .i64 a1_2, .int .i64 a1_3] 37 (0, 0))) hb)
  have HB := Aside0.mk (below_step (below_alloc (Below.refl w.heap.size w) _) hb)
  clear hb
  go_wp2_with fail
  refine (skiarealaw49_right.calls kR _ _ l0 true _ (Kd.C_below HR.out HB.out) HC.out hR).mono ?_
  rintro e w2 ⟨rfl, hb⟩
  have n0_ := Aside0.mk (blk_below BP.out hb)
  have n1_ := Aside0.mk (below_step HB.out hb)
  clear BP HB
  have BP := n0_
  have HB := n1_
  clear n0_ n1_
  clear hb
  go_wp2
  go_ret
  exact ⟨by first | rfl | (simp; done), HB.out⟩
set_option maxHeartbeats 8000000 in
set_option maxRecDepth 100000 in
theorem latest_hi (A0 : Option Addr) (c0 : Nat) (l0 : List S31) (a1_0 a1_1 a1_2 a1_3 a2 : Int) (w : World) (hr0 : Kd.C k31 w A0 l0.length l0) (hc0 : l0.length ≤ c0) (kR : Nat) (hR : skiarealaw49_right.f kR l0 = some true) (h1 : ¬ a2 < 1) (h : 5 < a2) :
    Calls Try.prog 6 #[.slice A0 l0.length c0, .agg #[.int .i64 a1_0, .int .i64 a1_1, .int .i64 a1_2, .int .i64 a1_3], .int .i64 a2] w fun e w' => e = .returned (.bool true) ∧ Below w.heap.size w w' := by
  have q1 : decide (a2 < 1) = false := decide_eq_false h1
  have q2 : decide (a2 > 5) = true := decide_eq_true h
  have q3 : decide (5 < a2) = true := decide_eq_true h
  clear h
  clear h1
  have hu31 := Try.underlying31
  have hu37 := Try.underlying37
  have hu28 := Try.underlying28
  have HR := Aside0.mk hr0
  have HC := Aside0.mk hc0
  clear hr0 hc0
  obtain ⟨kA, hA⟩ := alive_ev.rounds
  go_enter Try.func6, Try.ntmps6
  go_wp2_with fail
  refine (skiarealaw49_alive.calls kA true _ hA).mono ?_
  rintro e w1 ⟨rfl, hb⟩
  have BP := Aside0.mk (blk_below (heap_alloc_new w (.cells #[.int .i64 a1_0, .int .i64 a1_1, .int .i64 a1_2, .int .i64 a1_3] 37 (0, 0))) hb)
  have HB := Aside0.mk (below_step (below_alloc (Below.refl w.heap.size w) _) hb)
  clear hb
  go_wp2_with fail
  refine (skiarealaw49_right.calls kR _ _ l0 true _ (Kd.C_below HR.out HB.out) HC.out hR).mono ?_
  rintro e w2 ⟨rfl, hb⟩
  have n0_ := Aside0.mk (blk_below BP.out hb)
  have n1_ := Aside0.mk (below_step HB.out hb)
  clear BP HB
  have BP := n0_
  have HB := n1_
  clear n0_ n1_
  clear hb
  go_wp2
  go_ret
  exact ⟨by first | rfl | (simp; done), HB.out⟩
set_option maxHeartbeats 8000000 in
set_option maxRecDepth 100000 in
theorem latest_main (A0 : Option Addr) (c0 : Nat) (l0 : List S31) (a1_0 a1_1 a1_2 a1_3 a2 : Int) (w : World) (hr0 : Kd.C k31 w A0 l0.length l0) (hc0 : l0.length ≤ c0) (kR : Nat) (hR : skiarealaw49_right.f kR l0 = some true) (h1 : ¬ a2 < 1) (h2 : ¬ 5 < a2) (hr : RightP l0) (kC : Nat) (hC : bulletin_Current.f kC l0 a1_3 = some (curV l0 a1_3)) (kL : Nat) (u : Int) (hCL : bulletin_Current.f kL (latTo l0 (curV l0 a1_3) l0.length) a1_3 = some (curV l0 a1_3)) (hLL : skiarealaw49_level.f (latTo l0 (curV l0 a1_3) l0.length) a1_0 a1_1 a1_2 a1_3 = some u) (hLV : skiarealaw49_level.f l0 a1_0 a1_1 a1_2 a1_3 = some u) (hLC : skiarealaw49_level.f (chgTo l0 (curV l0 a1_3) a2 l0.length) a1_0 a1_1 a1_2 a1_3 = some u) (hWC : bulletin_Worst.f (chgTo l0 (curV l0 a1_3) a2 l0.length) a1_3 = some (grTo allB (curV l0 a1_3) a1_3 l0 l0.length)) (hpos : 0 < curV l0 a1_3 ↔ 0 < grTo allB (curV l0 a1_3) a1_3 l0 l0.length) :
    Calls Try.prog 6 #[.slice A0 l0.length c0, .agg #[.int .i64 a1_0, .int .i64 a1_1, .int .i64 a1_2, .int .i64 a1_3], .int .i64 a2] w fun e w' => e = .returned (.bool true) ∧ Below w.heap.size w w' := by
  have HPOS := Aside0.mk hpos
  clear hpos
  have q1 : decide (a2 < 1) = false := decide_eq_false h1
  have q2 : decide (a2 > 5) = false := decide_eq_false h2
  have q3 : decide (5 < a2) = false := decide_eq_false h2
  clear h1 h2
  have HRP := Aside0.mk hr
  clear hr
  have hu31 := Try.underlying31
  have hu37 := Try.underlying37
  have hu28 := Try.underlying28
  have HR := Aside0.mk hr0
  have HC := Aside0.mk hc0
  clear hr0 hc0
  obtain ⟨kA, hA⟩ := alive_ev.rounds
  go_enter Try.func6, Try.ntmps6
  go_wp2_with fail
  refine (skiarealaw49_alive.calls kA true _ hA).mono ?_
  rintro e w1 ⟨rfl, hb⟩
  have BP := Aside0.mk (blk_below (heap_alloc_new w (.cells #[.int .i64 a1_0, .int .i64 a1_1, .int .i64 a1_2, .int .i64 a1_3] 37 (0, 0))) hb)
  have HB := Aside0.mk (below_step (below_alloc (Below.refl w.heap.size w) _) hb)
  clear hb
  go_wp2_with fail
  refine (skiarealaw49_right.calls kR _ _ l0 true _ (Kd.C_below HR.out HB.out) HC.out hR).mono ?_
  rintro e w2 ⟨rfl, hb⟩
  have n0_ := Aside0.mk (blk_below BP.out hb)
  have n1_ := Aside0.mk (below_step HB.out hb)
  clear BP HB
  have BP := n0_
  have HB := n1_
  clear n0_ n1_
  clear hb
  have t0 := blk_cell BP.out 0
  have t1 := blk_cell BP.out 1
  have t2 := blk_cell BP.out 2
  have t3 := blk_cell BP.out 3
  simp only [List.getElem?_toArray, List.getElem?_cons_zero, List.getElem?_cons_succ] at t0 t1 t2 t3
  have zP : w.heap.size < _ := blk_lt BP.out
  go_wp2_with fail
  clear t0 t1 t2 t3 zP
  refine (bulletin_Current.calls kC _ _ l0 a1_3 (curV l0 a1_3) _ (Kd.C_below HR.out HB.out) HC.out hC).mono ?_
  rintro e w3 ⟨rfl, hb⟩
  have n0_ := Aside0.mk (blk_below BP.out hb)
  have n1_ := Aside0.mk (below_step HB.out hb)
  clear BP HB
  have BP := n0_
  have HB := n1_
  clear n0_ n1_
  clear hb
  go_wp2
  go_loopw [8, 9, 10, 11, 12] (fun v8 v9 v10 v11 _ wr => L6 l0 (curV l0 a1_3) a1_0 a1_1 a1_2 a1_3 a2 w v8 v9 v10 v11 wr) (fun _ _ _ v11 _ _ => l0.length - (intOf v11).toNat)
  case atStart => exact ⟨0, Nat.zero_le _, rfl, rfl, Kd.N_nil _ _ _ _ _, Kd.N_nil _ _ _ _ _, HB.out, BP.out⟩
  case round =>
    obtain ⟨j, hj, rfl, rfl, n8, n9, hb, bp⟩ := hrel
    have H8 := Aside0.mk n8
    have H9 := Aside0.mk n9
    clear n8 n9 HB BP
    have HB := Aside0.mk hb
    have BP := Aside0.mk bp
    clear hb bp
    have hm := HRP.out.2.1
    by_cases hlt : j < l0.length
    · obtain ⟨ad, Az, cz, rfl, hx0, hx1, hx2, hx3, hx4, hx5, hx6, hlz, hiz⟩ := at_T31 HR.out (j : Int) (by omega) (by omega)
      rw [Int.toNat_natCast] at hx0 hx1 hx2 hx3 hx4 hx5 hx6
      replace hx0 := (HB.out.cell (World.block_lt_of_cell? w _ hx0)).trans hx0
      replace hx1 := (HB.out.cell (World.block_lt_of_cell? w _ hx1)).trans hx1
      replace hx2 := (HB.out.cell (World.block_lt_of_cell? w _ hx2)).trans hx2
      replace hx3 := (HB.out.cell (World.block_lt_of_cell? w _ hx3)).trans hx3
      replace hx4 := (HB.out.cell (World.block_lt_of_cell? w _ hx4)).trans hx4
      replace hx5 := (HB.out.cell (World.block_lt_of_cell? w _ hx5)).trans hx5
      replace hx6 := (HB.out.cell (World.block_lt_of_cell? w _ hx6)).trans hx6
      have HF := Aside0.mk (Kd.F_below (Kd.C_F (Kd.heap_int .i64) hiz) HB.out)
      have HF0 := Aside0.mk (Kd.C_F (Kd.heap_int .i64) hiz)
      have HLZ := Aside0.mk hlz
      clear hiz hlz
      have t0 := blk_cell BP.out 0
      have t1 := blk_cell BP.out 1
      have t2 := blk_cell BP.out 2
      have t3 := blk_cell BP.out 3
      simp only [List.getElem?_toArray, List.getElem?_cons_zero, List.getElem?_cons_succ] at t0 t1 t2 t3
      have zP : w.heap.size < _ := blk_lt BP.out
      by_cases hv : (rd_T31 l0 j).f0 = curV l0 a1_3
      · by_cases hc1 : (rd_T31 l0 j).f1.f0 ≤ a1_3
        · by_cases hc2 : a1_3 < (rd_T31 l0 j).f1.f1
          · have c1 : decide ((rd_T31 l0 j).f1.f0 ≤ a1_3) = true := decide_eq_true hc1
            have c2 : decide (a1_3 < (rd_T31 l0 j).f1.f1) = true := decide_eq_true hc2
            have hcv : covB (rd_T31 l0 j) a1_3 = true := decide_eq_true ⟨hc1, hc2⟩
            have hle := cur_ge hlt hcv
            have c3 : decide ((rd_T31 l0 j).f0 > curV l0 a1_3) = false := decide_eq_false (by omega)
            have c4 : decide (curV l0 a1_3 < (rd_T31 l0 j).f0) = false := decide_eq_false (by omega)
            replace hle := Aside0.mk hle
            have v1_ : ((rd_T31 l0 j).f0 == curV l0 a1_3) = true := beq_iff_eq.mpr hv
            have hlat : latTo l0 (curV l0 a1_3) (j + 1) = latTo l0 (curV l0 a1_3) j ++ [rd_T31 l0 j] := if_pos hv
            have hchg : chgB (curV l0 a1_3) a2 (rd_T31 l0 j) = rd_T31 l0 j := if_pos hv
            have hgr : grTo allB (curV l0 a1_3) a1_3 l0 (j + 1) = mx (grTo allB (curV l0 a1_3) a1_3 l0 j) (rd_T31 l0 j).f5 := gr_yes ⟨hv, hcv, rfl⟩
            replace hcv := Aside0.mk hcv
            replace hgr := Aside0.mk hgr
            replace hlat := Aside0.mk hlat
            replace hchg := Aside0.mk hchg
            replace hv := Aside0.mk hv
            have l8 := lat_len l0 (curV l0 a1_3) j
            have l9 := chg_len l0 (curV l0 a1_3) a2 j
            replace l8 := Aside0.mk l8
            replace l9 := Aside0.mk l9
            have hB1 := Aside0.mk (below_alloc HB.out (.cells #[.int .i64 (rd_T31 l0 j).f0, .int .i64 (rd_T31 l0 j).f1.f0, .int .i64 (rd_T31 l0 j).f1.f1, .int .i64 (rd_T31 l0 j).f2, .int .i64 (rd_T31 l0 j).f3, .slice Az (rd_T31 l0 j).f4.length cz, .int .i64 (rd_T31 l0 j).f5] 31 (0, 0)))
            have HX := Aside0.mk (heap_alloc_new wr (.cells #[.int .i64 (rd_T31 l0 j).f0, .int .i64 (rd_T31 l0 j).f1.f0, .int .i64 (rd_T31 l0 j).f1.f1, .int .i64 (rd_T31 l0 j).f2, .int .i64 (rd_T31 l0 j).f3, .slice Az (rd_T31 l0 j).f4.length cz, .int .i64 (rd_T31 l0 j).f5] 31 (0, 0)))
            have hBP1 := Aside0.mk (blk_alloc BP.out (.cells #[.int .i64 (rd_T31 l0 j).f0, .int .i64 (rd_T31 l0 j).f1.f0, .int .i64 (rd_T31 l0 j).f1.f1, .int .i64 (rd_T31 l0 j).f2, .int .i64 (rd_T31 l0 j).f3, .slice Az (rd_T31 l0 j).f4.length cz, .int .i64 (rd_T31 l0 j).f5] 31 (0, 0)))
            have h81 := Aside0.mk (Kd.N_alloc H8.out (.cells #[.int .i64 (rd_T31 l0 j).f0, .int .i64 (rd_T31 l0 j).f1.f0, .int .i64 (rd_T31 l0 j).f1.f1, .int .i64 (rd_T31 l0 j).f2, .int .i64 (rd_T31 l0 j).f3, .slice Az (rd_T31 l0 j).f4.length cz, .int .i64 (rd_T31 l0 j).f5] 31 (0, 0)))
            have h91 := Aside0.mk (Kd.N_alloc H9.out (.cells #[.int .i64 (rd_T31 l0 j).f0, .int .i64 (rd_T31 l0 j).f1.f0, .int .i64 (rd_T31 l0 j).f1.f1, .int .i64 (rd_T31 l0 j).f2, .int .i64 (rd_T31 l0 j).f3, .slice Az (rd_T31 l0 j).f4.length cz, .int .i64 (rd_T31 l0 j).f5] 31 (0, 0)))
            have HFX := Aside0.mk (Kd.F_below HF.out (below_alloc (Below.refl wr.heap.size wr) (.cells #[.int .i64 (rd_T31 l0 j).f0, .int .i64 (rd_T31 l0 j).f1.f0, .int .i64 (rd_T31 l0 j).f1.f1, .int .i64 (rd_T31 l0 j).f2, .int .i64 (rd_T31 l0 j).f3, .slice Az (rd_T31 l0 j).f4.length cz, .int .i64 (rd_T31 l0 j).f5] 31 (0, 0))))
            go_wp2_with (first | ((with_reducible refine gate_dst (N := 67) rfl ?_); refine Kd.N_append k31 (w0 := w) w.heap.size rfl (.tmp 64) (.tmp 66) 22 31 (.agg #[(.int .i64 0), (.int .i64 0), (.int .i64 0), (.int .i64 0), (.int .i64 0), (.slice none 0 0), (.int .i64 0)]) 72 rfl Try.underlying22 info31 rfl (by decide) (by omega) u8 (latTo l0 (curV l0 a1_3) j) (rd_T31 l0 j) [.int .i64 (rd_T31 l0 j).f0, .int .i64 (rd_T31 l0 j).f1.f0, .int .i64 (rd_T31 l0 j).f1.f1, .int .i64 (rd_T31 l0 j).f2, .int .i64 (rd_T31 l0 j).f3, .slice Az (rd_T31 l0 j).f4.length cz, .int .i64 (rd_T31 l0 j).f5] (fun k => k ≠ w.heap.size ∧ some k ≠ u9.ownBlock) (fun k => k < w.heap.size) rfl (by first | rfl | (go_simp; done) | (simp [Act.eval]; done)) ?aP (fun k hk => ⟨⟨Nat.ne_of_lt hk, fun he => absurd (Kd.N_base H9.out k he.symm) (Nat.not_le.2 hk)⟩, fun he => absurd (Kd.N_base H8.out k he.symm) (Nat.not_le.2 hk)⟩) ?aF ?aO ?aB ?aS ?aL ?_; (case aP => exact (k31_mkF _ _ (rd_T31 l0 j) HLZ.out HFX.out)); (case aF => exact (fun k hk => ⟨fun he => by have := blk_lt hBP1.out; omega, fun he => by have := Kd.N_lt h91.out k he.symm; omega⟩)); (case aO => exact h81.out); (case aB => exact hB1.out); (case aS => exact hB1.out.size); (case aL => have := l8.out; simp; omega); intro v1 w5 ho hb hg hat; have n8_ := Aside0.mk (show Kd.N k31 31 w5 w.heap.size (fun k => k ≠ w.heap.size ∧ some k ≠ u9.ownBlock) v1 (latTo l0 (curV l0 a1_3) (j + 1)) from by rw [hlat.out]; exact ho); have n9_ := Aside0.mk (Kd.N_after h91.out hg hat); have nP_ := Aside0.mk (blk_grown hBP1.out hg (Kd.N_away h81.out (fun _ hk => hk.1))); have nX_ := Aside0.mk (blk_grown HX.out hg (fun he => by have := Kd.N_lt H8.out _ he.symm; omega)); have nB_ := Aside0.mk hb; have HF5_ := Aside0.mk (Kd.F_below HF0.out hb); clear ho hb hg hat t0 t1 t2 t3 zP; have s0 := blk_cell nX_.out 0; have s1 := blk_cell nX_.out 1; have s2 := blk_cell nX_.out 2; have s3 := blk_cell nX_.out 3; have s4 := blk_cell nX_.out 4; have s5 := blk_cell nX_.out 5; have s6 := blk_cell nX_.out 6; have t0 := blk_cell nP_.out 0; have t1 := blk_cell nP_.out 1; have t2 := blk_cell nP_.out 2; have t3 := blk_cell nP_.out 3; simp only [List.getElem?_toArray, List.getElem?_cons_zero, List.getElem?_cons_succ] at s0 s1 s2 s3 s4 s5 s6 t0 t1 t2 t3; have zX := blk_lt nX_.out; have zP := blk_lt nP_.out) | ((with_reducible refine gate_dst (N := 91) rfl ?_); refine Kd.N_append k31 (w0 := w) w.heap.size rfl (.tmp 88) (.tmp 90) 22 31 (.agg #[(.int .i64 0), (.int .i64 0), (.int .i64 0), (.int .i64 0), (.int .i64 0), (.slice none 0 0), (.int .i64 0)]) 72 rfl Try.underlying22 info31 rfl (by decide) (by omega) u9 (chgTo l0 (curV l0 a1_3) a2 j) (rd_T31 l0 j) [.int .i64 (rd_T31 l0 j).f0, .int .i64 (rd_T31 l0 j).f1.f0, .int .i64 (rd_T31 l0 j).f1.f1, .int .i64 (rd_T31 l0 j).f2, .int .i64 (rd_T31 l0 j).f3, .slice Az (rd_T31 l0 j).f4.length cz, .int .i64 (rd_T31 l0 j).f5] (fun k => k ≠ w.heap.size ∧ some k ≠ v1.ownBlock) (fun k => k < w.heap.size) rfl (by first | rfl | (go_simp; done) | (simp [Act.eval]; done)) ?aP (fun k hk => ⟨⟨Nat.ne_of_lt hk, fun he => absurd (Kd.N_base n8_.out k he.symm) (Nat.not_le.2 hk)⟩, fun he => absurd (Kd.N_base n9_.out k he.symm) (Nat.not_le.2 hk)⟩) ?aF ?aO ?aB ?aS ?aL ?_; (case aP => exact (k31_mkF _ _ (rd_T31 l0 j) HLZ.out HF5_.out)); (case aF => exact (fun k hk => ⟨fun he => by have := blk_lt nP_.out; omega, fun he => by have := Kd.N_lt n8_.out k he.symm; omega⟩)); (case aO => exact n9_.out); (case aB => exact nB_.out); (case aS => exact nB_.out.size); (case aL => have := l9.out; simp; omega); intro v2 w6 ho hb hg hat; have m9_ := Aside0.mk ho; have m8_ := Aside0.mk (Kd.N_after n8_.out hg hat); have mP_ := Aside0.mk (blk_grown nP_.out hg (Kd.N_away n9_.out (fun _ hk => hk.1))); have mB_ := Aside0.mk hb; clear ho hb hg hat))
            refine ⟨⟨j + 1, hlt, by first | rfl | (simp; done), ?_, by first | exact m8_.out | (rw [hlat.out]; exact m8_.out), ?_, mB_.out, mP_.out⟩, by simp [intOf]; omega⟩
            · first | (rw [hgr.out]; done) | (rw [hgr.out]; rfl) | (rw [hgr.out]; simp [mx]; done)
            · show Kd.N k31 31 w6 w.heap.size _ v2 (chgTo l0 _ a2 j ++ [chgB _ a2 (rd_T31 l0 j)]); rw [hchg.out]; exact m9_.out
          · have c1 : decide ((rd_T31 l0 j).f1.f0 ≤ a1_3) = true := decide_eq_true hc1
            have c2 : decide (a1_3 < (rd_T31 l0 j).f1.f1) = false := decide_eq_false hc2
            have hcv : covB (rd_T31 l0 j) a1_3 = false := decide_eq_false (fun h => hc2 h.2)
            have v1_ : ((rd_T31 l0 j).f0 == curV l0 a1_3) = true := beq_iff_eq.mpr hv
            have hlat : latTo l0 (curV l0 a1_3) (j + 1) = latTo l0 (curV l0 a1_3) j ++ [rd_T31 l0 j] := if_pos hv
            have hchg : chgB (curV l0 a1_3) a2 (rd_T31 l0 j) = rd_T31 l0 j := if_pos hv
            have hgr : grTo allB (curV l0 a1_3) a1_3 l0 (j + 1) = grTo allB (curV l0 a1_3) a1_3 l0 j := gr_no (fun h => by rw [hcv] at h; exact absurd h.2.1 (by decide))
            replace hcv := Aside0.mk hcv
            replace hgr := Aside0.mk hgr
            replace hlat := Aside0.mk hlat
            replace hchg := Aside0.mk hchg
            replace hv := Aside0.mk hv
            have l8 := lat_len l0 (curV l0 a1_3) j
            have l9 := chg_len l0 (curV l0 a1_3) a2 j
            replace l8 := Aside0.mk l8
            replace l9 := Aside0.mk l9
            have hB1 := Aside0.mk (below_alloc HB.out (.cells #[.int .i64 (rd_T31 l0 j).f0, .int .i64 (rd_T31 l0 j).f1.f0, .int .i64 (rd_T31 l0 j).f1.f1, .int .i64 (rd_T31 l0 j).f2, .int .i64 (rd_T31 l0 j).f3, .slice Az (rd_T31 l0 j).f4.length cz, .int .i64 (rd_T31 l0 j).f5] 31 (0, 0)))
            have HX := Aside0.mk (heap_alloc_new wr (.cells #[.int .i64 (rd_T31 l0 j).f0, .int .i64 (rd_T31 l0 j).f1.f0, .int .i64 (rd_T31 l0 j).f1.f1, .int .i64 (rd_T31 l0 j).f2, .int .i64 (rd_T31 l0 j).f3, .slice Az (rd_T31 l0 j).f4.length cz, .int .i64 (rd_T31 l0 j).f5] 31 (0, 0)))
            have hBP1 := Aside0.mk (blk_alloc BP.out (.cells #[.int .i64 (rd_T31 l0 j).f0, .int .i64 (rd_T31 l0 j).f1.f0, .int .i64 (rd_T31 l0 j).f1.f1, .int .i64 (rd_T31 l0 j).f2, .int .i64 (rd_T31 l0 j).f3, .slice Az (rd_T31 l0 j).f4.length cz, .int .i64 (rd_T31 l0 j).f5] 31 (0, 0)))
            have h81 := Aside0.mk (Kd.N_alloc H8.out (.cells #[.int .i64 (rd_T31 l0 j).f0, .int .i64 (rd_T31 l0 j).f1.f0, .int .i64 (rd_T31 l0 j).f1.f1, .int .i64 (rd_T31 l0 j).f2, .int .i64 (rd_T31 l0 j).f3, .slice Az (rd_T31 l0 j).f4.length cz, .int .i64 (rd_T31 l0 j).f5] 31 (0, 0)))
            have h91 := Aside0.mk (Kd.N_alloc H9.out (.cells #[.int .i64 (rd_T31 l0 j).f0, .int .i64 (rd_T31 l0 j).f1.f0, .int .i64 (rd_T31 l0 j).f1.f1, .int .i64 (rd_T31 l0 j).f2, .int .i64 (rd_T31 l0 j).f3, .slice Az (rd_T31 l0 j).f4.length cz, .int .i64 (rd_T31 l0 j).f5] 31 (0, 0)))
            have HFX := Aside0.mk (Kd.F_below HF.out (below_alloc (Below.refl wr.heap.size wr) (.cells #[.int .i64 (rd_T31 l0 j).f0, .int .i64 (rd_T31 l0 j).f1.f0, .int .i64 (rd_T31 l0 j).f1.f1, .int .i64 (rd_T31 l0 j).f2, .int .i64 (rd_T31 l0 j).f3, .slice Az (rd_T31 l0 j).f4.length cz, .int .i64 (rd_T31 l0 j).f5] 31 (0, 0))))
            go_wp2_with (first | ((with_reducible refine gate_dst (N := 67) rfl ?_); refine Kd.N_append k31 (w0 := w) w.heap.size rfl (.tmp 64) (.tmp 66) 22 31 (.agg #[(.int .i64 0), (.int .i64 0), (.int .i64 0), (.int .i64 0), (.int .i64 0), (.slice none 0 0), (.int .i64 0)]) 72 rfl Try.underlying22 info31 rfl (by decide) (by omega) u8 (latTo l0 (curV l0 a1_3) j) (rd_T31 l0 j) [.int .i64 (rd_T31 l0 j).f0, .int .i64 (rd_T31 l0 j).f1.f0, .int .i64 (rd_T31 l0 j).f1.f1, .int .i64 (rd_T31 l0 j).f2, .int .i64 (rd_T31 l0 j).f3, .slice Az (rd_T31 l0 j).f4.length cz, .int .i64 (rd_T31 l0 j).f5] (fun k => k ≠ w.heap.size ∧ some k ≠ u9.ownBlock) (fun k => k < w.heap.size) rfl (by first | rfl | (go_simp; done) | (simp [Act.eval]; done)) ?aP (fun k hk => ⟨⟨Nat.ne_of_lt hk, fun he => absurd (Kd.N_base H9.out k he.symm) (Nat.not_le.2 hk)⟩, fun he => absurd (Kd.N_base H8.out k he.symm) (Nat.not_le.2 hk)⟩) ?aF ?aO ?aB ?aS ?aL ?_; (case aP => exact (k31_mkF _ _ (rd_T31 l0 j) HLZ.out HFX.out)); (case aF => exact (fun k hk => ⟨fun he => by have := blk_lt hBP1.out; omega, fun he => by have := Kd.N_lt h91.out k he.symm; omega⟩)); (case aO => exact h81.out); (case aB => exact hB1.out); (case aS => exact hB1.out.size); (case aL => have := l8.out; simp; omega); intro v1 w5 ho hb hg hat; have n8_ := Aside0.mk (show Kd.N k31 31 w5 w.heap.size (fun k => k ≠ w.heap.size ∧ some k ≠ u9.ownBlock) v1 (latTo l0 (curV l0 a1_3) (j + 1)) from by rw [hlat.out]; exact ho); have n9_ := Aside0.mk (Kd.N_after h91.out hg hat); have nP_ := Aside0.mk (blk_grown hBP1.out hg (Kd.N_away h81.out (fun _ hk => hk.1))); have nX_ := Aside0.mk (blk_grown HX.out hg (fun he => by have := Kd.N_lt H8.out _ he.symm; omega)); have nB_ := Aside0.mk hb; have HF5_ := Aside0.mk (Kd.F_below HF0.out hb); clear ho hb hg hat t0 t1 t2 t3 zP; have s0 := blk_cell nX_.out 0; have s1 := blk_cell nX_.out 1; have s2 := blk_cell nX_.out 2; have s3 := blk_cell nX_.out 3; have s4 := blk_cell nX_.out 4; have s5 := blk_cell nX_.out 5; have s6 := blk_cell nX_.out 6; have t0 := blk_cell nP_.out 0; have t1 := blk_cell nP_.out 1; have t2 := blk_cell nP_.out 2; have t3 := blk_cell nP_.out 3; simp only [List.getElem?_toArray, List.getElem?_cons_zero, List.getElem?_cons_succ] at s0 s1 s2 s3 s4 s5 s6 t0 t1 t2 t3; have zX := blk_lt nX_.out; have zP := blk_lt nP_.out) | ((with_reducible refine gate_dst (N := 91) rfl ?_); refine Kd.N_append k31 (w0 := w) w.heap.size rfl (.tmp 88) (.tmp 90) 22 31 (.agg #[(.int .i64 0), (.int .i64 0), (.int .i64 0), (.int .i64 0), (.int .i64 0), (.slice none 0 0), (.int .i64 0)]) 72 rfl Try.underlying22 info31 rfl (by decide) (by omega) u9 (chgTo l0 (curV l0 a1_3) a2 j) (rd_T31 l0 j) [.int .i64 (rd_T31 l0 j).f0, .int .i64 (rd_T31 l0 j).f1.f0, .int .i64 (rd_T31 l0 j).f1.f1, .int .i64 (rd_T31 l0 j).f2, .int .i64 (rd_T31 l0 j).f3, .slice Az (rd_T31 l0 j).f4.length cz, .int .i64 (rd_T31 l0 j).f5] (fun k => k ≠ w.heap.size ∧ some k ≠ v1.ownBlock) (fun k => k < w.heap.size) rfl (by first | rfl | (go_simp; done) | (simp [Act.eval]; done)) ?aP (fun k hk => ⟨⟨Nat.ne_of_lt hk, fun he => absurd (Kd.N_base n8_.out k he.symm) (Nat.not_le.2 hk)⟩, fun he => absurd (Kd.N_base n9_.out k he.symm) (Nat.not_le.2 hk)⟩) ?aF ?aO ?aB ?aS ?aL ?_; (case aP => exact (k31_mkF _ _ (rd_T31 l0 j) HLZ.out HF5_.out)); (case aF => exact (fun k hk => ⟨fun he => by have := blk_lt nP_.out; omega, fun he => by have := Kd.N_lt n8_.out k he.symm; omega⟩)); (case aO => exact n9_.out); (case aB => exact nB_.out); (case aS => exact nB_.out.size); (case aL => have := l9.out; simp; omega); intro v2 w6 ho hb hg hat; have m9_ := Aside0.mk ho; have m8_ := Aside0.mk (Kd.N_after n8_.out hg hat); have mP_ := Aside0.mk (blk_grown nP_.out hg (Kd.N_away n9_.out (fun _ hk => hk.1))); have mB_ := Aside0.mk hb; clear ho hb hg hat))
            refine ⟨⟨j + 1, hlt, by first | rfl | (simp; done), ?_, by first | exact m8_.out | (rw [hlat.out]; exact m8_.out), ?_, mB_.out, mP_.out⟩, by simp [intOf]; omega⟩
            · first | (rw [hgr.out]; done) | (rw [hgr.out]; rfl) | (rw [hgr.out]; simp [mx]; done)
            · show Kd.N k31 31 w6 w.heap.size _ v2 (chgTo l0 _ a2 j ++ [chgB _ a2 (rd_T31 l0 j)]); rw [hchg.out]; exact m9_.out
        · have c1 : decide ((rd_T31 l0 j).f1.f0 ≤ a1_3) = false := decide_eq_false hc1
          have hcv : covB (rd_T31 l0 j) a1_3 = false := decide_eq_false (fun h => hc1 h.1)
          have v1_ : ((rd_T31 l0 j).f0 == curV l0 a1_3) = true := beq_iff_eq.mpr hv
          have hlat : latTo l0 (curV l0 a1_3) (j + 1) = latTo l0 (curV l0 a1_3) j ++ [rd_T31 l0 j] := if_pos hv
          have hchg : chgB (curV l0 a1_3) a2 (rd_T31 l0 j) = rd_T31 l0 j := if_pos hv
          have hgr : grTo allB (curV l0 a1_3) a1_3 l0 (j + 1) = grTo allB (curV l0 a1_3) a1_3 l0 j := gr_no (fun h => by rw [hcv] at h; exact absurd h.2.1 (by decide))
          replace hcv := Aside0.mk hcv
          replace hgr := Aside0.mk hgr
          replace hlat := Aside0.mk hlat
          replace hchg := Aside0.mk hchg
          replace hv := Aside0.mk hv
          have l8 := lat_len l0 (curV l0 a1_3) j
          have l9 := chg_len l0 (curV l0 a1_3) a2 j
          replace l8 := Aside0.mk l8
          replace l9 := Aside0.mk l9
          have hB1 := Aside0.mk (below_alloc HB.out (.cells #[.int .i64 (rd_T31 l0 j).f0, .int .i64 (rd_T31 l0 j).f1.f0, .int .i64 (rd_T31 l0 j).f1.f1, .int .i64 (rd_T31 l0 j).f2, .int .i64 (rd_T31 l0 j).f3, .slice Az (rd_T31 l0 j).f4.length cz, .int .i64 (rd_T31 l0 j).f5] 31 (0, 0)))
          have HX := Aside0.mk (heap_alloc_new wr (.cells #[.int .i64 (rd_T31 l0 j).f0, .int .i64 (rd_T31 l0 j).f1.f0, .int .i64 (rd_T31 l0 j).f1.f1, .int .i64 (rd_T31 l0 j).f2, .int .i64 (rd_T31 l0 j).f3, .slice Az (rd_T31 l0 j).f4.length cz, .int .i64 (rd_T31 l0 j).f5] 31 (0, 0)))
          have hBP1 := Aside0.mk (blk_alloc BP.out (.cells #[.int .i64 (rd_T31 l0 j).f0, .int .i64 (rd_T31 l0 j).f1.f0, .int .i64 (rd_T31 l0 j).f1.f1, .int .i64 (rd_T31 l0 j).f2, .int .i64 (rd_T31 l0 j).f3, .slice Az (rd_T31 l0 j).f4.length cz, .int .i64 (rd_T31 l0 j).f5] 31 (0, 0)))
          have h81 := Aside0.mk (Kd.N_alloc H8.out (.cells #[.int .i64 (rd_T31 l0 j).f0, .int .i64 (rd_T31 l0 j).f1.f0, .int .i64 (rd_T31 l0 j).f1.f1, .int .i64 (rd_T31 l0 j).f2, .int .i64 (rd_T31 l0 j).f3, .slice Az (rd_T31 l0 j).f4.length cz, .int .i64 (rd_T31 l0 j).f5] 31 (0, 0)))
          have h91 := Aside0.mk (Kd.N_alloc H9.out (.cells #[.int .i64 (rd_T31 l0 j).f0, .int .i64 (rd_T31 l0 j).f1.f0, .int .i64 (rd_T31 l0 j).f1.f1, .int .i64 (rd_T31 l0 j).f2, .int .i64 (rd_T31 l0 j).f3, .slice Az (rd_T31 l0 j).f4.length cz, .int .i64 (rd_T31 l0 j).f5] 31 (0, 0)))
          have HFX := Aside0.mk (Kd.F_below HF.out (below_alloc (Below.refl wr.heap.size wr) (.cells #[.int .i64 (rd_T31 l0 j).f0, .int .i64 (rd_T31 l0 j).f1.f0, .int .i64 (rd_T31 l0 j).f1.f1, .int .i64 (rd_T31 l0 j).f2, .int .i64 (rd_T31 l0 j).f3, .slice Az (rd_T31 l0 j).f4.length cz, .int .i64 (rd_T31 l0 j).f5] 31 (0, 0))))
          go_wp2_with (first | ((with_reducible refine gate_dst (N := 67) rfl ?_); refine Kd.N_append k31 (w0 := w) w.heap.size rfl (.tmp 64) (.tmp 66) 22 31 (.agg #[(.int .i64 0), (.int .i64 0), (.int .i64 0), (.int .i64 0), (.int .i64 0), (.slice none 0 0), (.int .i64 0)]) 72 rfl Try.underlying22 info31 rfl (by decide) (by omega) u8 (latTo l0 (curV l0 a1_3) j) (rd_T31 l0 j) [.int .i64 (rd_T31 l0 j).f0, .int .i64 (rd_T31 l0 j).f1.f0, .int .i64 (rd_T31 l0 j).f1.f1, .int .i64 (rd_T31 l0 j).f2, .int .i64 (rd_T31 l0 j).f3, .slice Az (rd_T31 l0 j).f4.length cz, .int .i64 (rd_T31 l0 j).f5] (fun k => k ≠ w.heap.size ∧ some k ≠ u9.ownBlock) (fun k => k < w.heap.size) rfl (by first | rfl | (go_simp; done) | (simp [Act.eval]; done)) ?aP (fun k hk => ⟨⟨Nat.ne_of_lt hk, fun he => absurd (Kd.N_base H9.out k he.symm) (Nat.not_le.2 hk)⟩, fun he => absurd (Kd.N_base H8.out k he.symm) (Nat.not_le.2 hk)⟩) ?aF ?aO ?aB ?aS ?aL ?_; (case aP => exact (k31_mkF _ _ (rd_T31 l0 j) HLZ.out HFX.out)); (case aF => exact (fun k hk => ⟨fun he => by have := blk_lt hBP1.out; omega, fun he => by have := Kd.N_lt h91.out k he.symm; omega⟩)); (case aO => exact h81.out); (case aB => exact hB1.out); (case aS => exact hB1.out.size); (case aL => have := l8.out; simp; omega); intro v1 w5 ho hb hg hat; have n8_ := Aside0.mk (show Kd.N k31 31 w5 w.heap.size (fun k => k ≠ w.heap.size ∧ some k ≠ u9.ownBlock) v1 (latTo l0 (curV l0 a1_3) (j + 1)) from by rw [hlat.out]; exact ho); have n9_ := Aside0.mk (Kd.N_after h91.out hg hat); have nP_ := Aside0.mk (blk_grown hBP1.out hg (Kd.N_away h81.out (fun _ hk => hk.1))); have nX_ := Aside0.mk (blk_grown HX.out hg (fun he => by have := Kd.N_lt H8.out _ he.symm; omega)); have nB_ := Aside0.mk hb; have HF5_ := Aside0.mk (Kd.F_below HF0.out hb); clear ho hb hg hat t0 t1 t2 t3 zP; have s0 := blk_cell nX_.out 0; have s1 := blk_cell nX_.out 1; have s2 := blk_cell nX_.out 2; have s3 := blk_cell nX_.out 3; have s4 := blk_cell nX_.out 4; have s5 := blk_cell nX_.out 5; have s6 := blk_cell nX_.out 6; have t0 := blk_cell nP_.out 0; have t1 := blk_cell nP_.out 1; have t2 := blk_cell nP_.out 2; have t3 := blk_cell nP_.out 3; simp only [List.getElem?_toArray, List.getElem?_cons_zero, List.getElem?_cons_succ] at s0 s1 s2 s3 s4 s5 s6 t0 t1 t2 t3; have zX := blk_lt nX_.out; have zP := blk_lt nP_.out) | ((with_reducible refine gate_dst (N := 91) rfl ?_); refine Kd.N_append k31 (w0 := w) w.heap.size rfl (.tmp 88) (.tmp 90) 22 31 (.agg #[(.int .i64 0), (.int .i64 0), (.int .i64 0), (.int .i64 0), (.int .i64 0), (.slice none 0 0), (.int .i64 0)]) 72 rfl Try.underlying22 info31 rfl (by decide) (by omega) u9 (chgTo l0 (curV l0 a1_3) a2 j) (rd_T31 l0 j) [.int .i64 (rd_T31 l0 j).f0, .int .i64 (rd_T31 l0 j).f1.f0, .int .i64 (rd_T31 l0 j).f1.f1, .int .i64 (rd_T31 l0 j).f2, .int .i64 (rd_T31 l0 j).f3, .slice Az (rd_T31 l0 j).f4.length cz, .int .i64 (rd_T31 l0 j).f5] (fun k => k ≠ w.heap.size ∧ some k ≠ v1.ownBlock) (fun k => k < w.heap.size) rfl (by first | rfl | (go_simp; done) | (simp [Act.eval]; done)) ?aP (fun k hk => ⟨⟨Nat.ne_of_lt hk, fun he => absurd (Kd.N_base n8_.out k he.symm) (Nat.not_le.2 hk)⟩, fun he => absurd (Kd.N_base n9_.out k he.symm) (Nat.not_le.2 hk)⟩) ?aF ?aO ?aB ?aS ?aL ?_; (case aP => exact (k31_mkF _ _ (rd_T31 l0 j) HLZ.out HF5_.out)); (case aF => exact (fun k hk => ⟨fun he => by have := blk_lt nP_.out; omega, fun he => by have := Kd.N_lt n8_.out k he.symm; omega⟩)); (case aO => exact n9_.out); (case aB => exact nB_.out); (case aS => exact nB_.out.size); (case aL => have := l9.out; simp; omega); intro v2 w6 ho hb hg hat; have m9_ := Aside0.mk ho; have m8_ := Aside0.mk (Kd.N_after n8_.out hg hat); have mP_ := Aside0.mk (blk_grown nP_.out hg (Kd.N_away n9_.out (fun _ hk => hk.1))); have mB_ := Aside0.mk hb; clear ho hb hg hat))
          refine ⟨⟨j + 1, hlt, by first | rfl | (simp; done), ?_, by first | exact m8_.out | (rw [hlat.out]; exact m8_.out), ?_, mB_.out, mP_.out⟩, by simp [intOf]; omega⟩
          · first | (rw [hgr.out]; done) | (rw [hgr.out]; rfl) | (rw [hgr.out]; simp [mx]; done)
          · show Kd.N k31 31 w6 w.heap.size _ v2 (chgTo l0 _ a2 j ++ [chgB _ a2 (rd_T31 l0 j)]); rw [hchg.out]; exact m9_.out
      · by_cases hc1 : (rd_T31 l0 j).f1.f0 ≤ a1_3
        · by_cases hc2 : a1_3 < (rd_T31 l0 j).f1.f1
          · have c1 : decide ((rd_T31 l0 j).f1.f0 ≤ a1_3) = true := decide_eq_true hc1
            have c2 : decide (a1_3 < (rd_T31 l0 j).f1.f1) = true := decide_eq_true hc2
            have hcv : covB (rd_T31 l0 j) a1_3 = true := decide_eq_true ⟨hc1, hc2⟩
            have hle := cur_ge hlt hcv
            have c3 : decide ((rd_T31 l0 j).f0 > curV l0 a1_3) = false := decide_eq_false (by omega)
            have c4 : decide (curV l0 a1_3 < (rd_T31 l0 j).f0) = false := decide_eq_false (by omega)
            replace hle := Aside0.mk hle
            have v1_ : ((rd_T31 l0 j).f0 == curV l0 a1_3) = false := beq_eq_false_iff_ne.mpr hv
            have hlat : latTo l0 (curV l0 a1_3) (j + 1) = latTo l0 (curV l0 a1_3) j := if_neg hv
            have hchg : chgB (curV l0 a1_3) a2 (rd_T31 l0 j) = (⟨(rd_T31 l0 j).f0, (rd_T31 l0 j).f1, (rd_T31 l0 j).f2, (rd_T31 l0 j).f3, (rd_T31 l0 j).f4, a2⟩ : S31) := if_neg hv
            have hgr : grTo allB (curV l0 a1_3) a1_3 l0 (j + 1) = grTo allB (curV l0 a1_3) a1_3 l0 j := gr_no (fun h => hv h.1)
            replace hcv := Aside0.mk hcv
            replace hgr := Aside0.mk hgr
            replace hlat := Aside0.mk hlat
            replace hchg := Aside0.mk hchg
            replace hv := Aside0.mk hv
            have l8 := lat_len l0 (curV l0 a1_3) j
            have l9 := chg_len l0 (curV l0 a1_3) a2 j
            replace l8 := Aside0.mk l8
            replace l9 := Aside0.mk l9
            have n8_ := Aside0.mk (Kd.N_alloc H8.out (.cells #[.int .i64 (rd_T31 l0 j).f0, .int .i64 (rd_T31 l0 j).f1.f0, .int .i64 (rd_T31 l0 j).f1.f1, .int .i64 (rd_T31 l0 j).f2, .int .i64 (rd_T31 l0 j).f3, .slice Az (rd_T31 l0 j).f4.length cz, .int .i64 a2] 31 (0, 0)))
            have n9_ := Aside0.mk (Kd.N_alloc H9.out (.cells #[.int .i64 (rd_T31 l0 j).f0, .int .i64 (rd_T31 l0 j).f1.f0, .int .i64 (rd_T31 l0 j).f1.f1, .int .i64 (rd_T31 l0 j).f2, .int .i64 (rd_T31 l0 j).f3, .slice Az (rd_T31 l0 j).f4.length cz, .int .i64 a2] 31 (0, 0)))
            have nP_ := Aside0.mk (blk_alloc BP.out (.cells #[.int .i64 (rd_T31 l0 j).f0, .int .i64 (rd_T31 l0 j).f1.f0, .int .i64 (rd_T31 l0 j).f1.f1, .int .i64 (rd_T31 l0 j).f2, .int .i64 (rd_T31 l0 j).f3, .slice Az (rd_T31 l0 j).f4.length cz, .int .i64 a2] 31 (0, 0)))
            have nB_ := Aside0.mk (below_alloc HB.out (.cells #[.int .i64 (rd_T31 l0 j).f0, .int .i64 (rd_T31 l0 j).f1.f0, .int .i64 (rd_T31 l0 j).f1.f1, .int .i64 (rd_T31 l0 j).f2, .int .i64 (rd_T31 l0 j).f3, .slice Az (rd_T31 l0 j).f4.length cz, .int .i64 a2] 31 (0, 0)))
            have HF5_ := Aside0.mk (Kd.F_below HF0.out nB_.out)
            go_wp2_with (first | ((with_reducible refine gate_dst (N := 91) rfl ?_); refine Kd.N_append k31 (w0 := w) w.heap.size rfl (.tmp 88) (.tmp 90) 22 31 (.agg #[(.int .i64 0), (.int .i64 0), (.int .i64 0), (.int .i64 0), (.int .i64 0), (.slice none 0 0), (.int .i64 0)]) 72 rfl Try.underlying22 info31 rfl (by decide) (by omega) u9 (chgTo l0 (curV l0 a1_3) a2 j) (⟨(rd_T31 l0 j).f0, (rd_T31 l0 j).f1, (rd_T31 l0 j).f2, (rd_T31 l0 j).f3, (rd_T31 l0 j).f4, a2⟩ : S31) [.int .i64 (rd_T31 l0 j).f0, .int .i64 (rd_T31 l0 j).f1.f0, .int .i64 (rd_T31 l0 j).f1.f1, .int .i64 (rd_T31 l0 j).f2, .int .i64 (rd_T31 l0 j).f3, .slice Az (rd_T31 l0 j).f4.length cz, .int .i64 a2] (fun k => k ≠ w.heap.size ∧ some k ≠ u8.ownBlock) (fun k => k < w.heap.size) rfl (by first | rfl | (go_simp; done) | (simp [Act.eval]; done)) ?aP (fun k hk => ⟨⟨Nat.ne_of_lt hk, fun he => absurd (Kd.N_base n8_.out k he.symm) (Nat.not_le.2 hk)⟩, fun he => absurd (Kd.N_base n9_.out k he.symm) (Nat.not_le.2 hk)⟩) ?aF ?aO ?aB ?aS ?aL ?_; (case aP => exact (k31_mkF _ _ (⟨(rd_T31 l0 j).f0, (rd_T31 l0 j).f1, (rd_T31 l0 j).f2, (rd_T31 l0 j).f3, (rd_T31 l0 j).f4, a2⟩ : S31) HLZ.out HF5_.out)); (case aF => exact (fun k hk => ⟨fun he => by have := blk_lt nP_.out; omega, fun he => by have := Kd.N_lt n8_.out k he.symm; omega⟩)); (case aO => exact n9_.out); (case aB => exact nB_.out); (case aS => exact nB_.out.size); (case aL => have := l9.out; simp; omega); intro v2 w6 ho hb hg hat; have m9_ := Aside0.mk ho; have m8_ := Aside0.mk (Kd.N_after n8_.out hg hat); have mP_ := Aside0.mk (blk_grown nP_.out hg (Kd.N_away n9_.out (fun _ hk => hk.1))); have mB_ := Aside0.mk hb; clear ho hb hg hat))
            refine ⟨⟨j + 1, hlt, by first | rfl | (simp; done), ?_, by first | exact m8_.out | (rw [hlat.out]; exact m8_.out), ?_, mB_.out, mP_.out⟩, by simp [intOf]; omega⟩
            · first | (rw [hgr.out]; done) | (rw [hgr.out]; rfl) | (rw [hgr.out]; simp [mx]; done)
            · show Kd.N k31 31 w6 w.heap.size _ v2 (chgTo l0 _ a2 j ++ [chgB _ a2 (rd_T31 l0 j)]); rw [hchg.out]; exact m9_.out
          · have c1 : decide ((rd_T31 l0 j).f1.f0 ≤ a1_3) = true := decide_eq_true hc1
            have c2 : decide (a1_3 < (rd_T31 l0 j).f1.f1) = false := decide_eq_false hc2
            have hcv : covB (rd_T31 l0 j) a1_3 = false := decide_eq_false (fun h => hc2 h.2)
            have v1_ : ((rd_T31 l0 j).f0 == curV l0 a1_3) = false := beq_eq_false_iff_ne.mpr hv
            have hlat : latTo l0 (curV l0 a1_3) (j + 1) = latTo l0 (curV l0 a1_3) j := if_neg hv
            have hchg : chgB (curV l0 a1_3) a2 (rd_T31 l0 j) = (⟨(rd_T31 l0 j).f0, (rd_T31 l0 j).f1, (rd_T31 l0 j).f2, (rd_T31 l0 j).f3, (rd_T31 l0 j).f4, a2⟩ : S31) := if_neg hv
            have hgr : grTo allB (curV l0 a1_3) a1_3 l0 (j + 1) = grTo allB (curV l0 a1_3) a1_3 l0 j := gr_no (fun h => hv h.1)
            replace hcv := Aside0.mk hcv
            replace hgr := Aside0.mk hgr
            replace hlat := Aside0.mk hlat
            replace hchg := Aside0.mk hchg
            replace hv := Aside0.mk hv
            have l8 := lat_len l0 (curV l0 a1_3) j
            have l9 := chg_len l0 (curV l0 a1_3) a2 j
            replace l8 := Aside0.mk l8
            replace l9 := Aside0.mk l9
            have n8_ := Aside0.mk (Kd.N_alloc H8.out (.cells #[.int .i64 (rd_T31 l0 j).f0, .int .i64 (rd_T31 l0 j).f1.f0, .int .i64 (rd_T31 l0 j).f1.f1, .int .i64 (rd_T31 l0 j).f2, .int .i64 (rd_T31 l0 j).f3, .slice Az (rd_T31 l0 j).f4.length cz, .int .i64 a2] 31 (0, 0)))
            have n9_ := Aside0.mk (Kd.N_alloc H9.out (.cells #[.int .i64 (rd_T31 l0 j).f0, .int .i64 (rd_T31 l0 j).f1.f0, .int .i64 (rd_T31 l0 j).f1.f1, .int .i64 (rd_T31 l0 j).f2, .int .i64 (rd_T31 l0 j).f3, .slice Az (rd_T31 l0 j).f4.length cz, .int .i64 a2] 31 (0, 0)))
            have nP_ := Aside0.mk (blk_alloc BP.out (.cells #[.int .i64 (rd_T31 l0 j).f0, .int .i64 (rd_T31 l0 j).f1.f0, .int .i64 (rd_T31 l0 j).f1.f1, .int .i64 (rd_T31 l0 j).f2, .int .i64 (rd_T31 l0 j).f3, .slice Az (rd_T31 l0 j).f4.length cz, .int .i64 a2] 31 (0, 0)))
            have nB_ := Aside0.mk (below_alloc HB.out (.cells #[.int .i64 (rd_T31 l0 j).f0, .int .i64 (rd_T31 l0 j).f1.f0, .int .i64 (rd_T31 l0 j).f1.f1, .int .i64 (rd_T31 l0 j).f2, .int .i64 (rd_T31 l0 j).f3, .slice Az (rd_T31 l0 j).f4.length cz, .int .i64 a2] 31 (0, 0)))
            have HF5_ := Aside0.mk (Kd.F_below HF0.out nB_.out)
            go_wp2_with (first | ((with_reducible refine gate_dst (N := 91) rfl ?_); refine Kd.N_append k31 (w0 := w) w.heap.size rfl (.tmp 88) (.tmp 90) 22 31 (.agg #[(.int .i64 0), (.int .i64 0), (.int .i64 0), (.int .i64 0), (.int .i64 0), (.slice none 0 0), (.int .i64 0)]) 72 rfl Try.underlying22 info31 rfl (by decide) (by omega) u9 (chgTo l0 (curV l0 a1_3) a2 j) (⟨(rd_T31 l0 j).f0, (rd_T31 l0 j).f1, (rd_T31 l0 j).f2, (rd_T31 l0 j).f3, (rd_T31 l0 j).f4, a2⟩ : S31) [.int .i64 (rd_T31 l0 j).f0, .int .i64 (rd_T31 l0 j).f1.f0, .int .i64 (rd_T31 l0 j).f1.f1, .int .i64 (rd_T31 l0 j).f2, .int .i64 (rd_T31 l0 j).f3, .slice Az (rd_T31 l0 j).f4.length cz, .int .i64 a2] (fun k => k ≠ w.heap.size ∧ some k ≠ u8.ownBlock) (fun k => k < w.heap.size) rfl (by first | rfl | (go_simp; done) | (simp [Act.eval]; done)) ?aP (fun k hk => ⟨⟨Nat.ne_of_lt hk, fun he => absurd (Kd.N_base n8_.out k he.symm) (Nat.not_le.2 hk)⟩, fun he => absurd (Kd.N_base n9_.out k he.symm) (Nat.not_le.2 hk)⟩) ?aF ?aO ?aB ?aS ?aL ?_; (case aP => exact (k31_mkF _ _ (⟨(rd_T31 l0 j).f0, (rd_T31 l0 j).f1, (rd_T31 l0 j).f2, (rd_T31 l0 j).f3, (rd_T31 l0 j).f4, a2⟩ : S31) HLZ.out HF5_.out)); (case aF => exact (fun k hk => ⟨fun he => by have := blk_lt nP_.out; omega, fun he => by have := Kd.N_lt n8_.out k he.symm; omega⟩)); (case aO => exact n9_.out); (case aB => exact nB_.out); (case aS => exact nB_.out.size); (case aL => have := l9.out; simp; omega); intro v2 w6 ho hb hg hat; have m9_ := Aside0.mk ho; have m8_ := Aside0.mk (Kd.N_after n8_.out hg hat); have mP_ := Aside0.mk (blk_grown nP_.out hg (Kd.N_away n9_.out (fun _ hk => hk.1))); have mB_ := Aside0.mk hb; clear ho hb hg hat))
            refine ⟨⟨j + 1, hlt, by first | rfl | (simp; done), ?_, by first | exact m8_.out | (rw [hlat.out]; exact m8_.out), ?_, mB_.out, mP_.out⟩, by simp [intOf]; omega⟩
            · first | (rw [hgr.out]; done) | (rw [hgr.out]; rfl) | (rw [hgr.out]; simp [mx]; done)
            · show Kd.N k31 31 w6 w.heap.size _ v2 (chgTo l0 _ a2 j ++ [chgB _ a2 (rd_T31 l0 j)]); rw [hchg.out]; exact m9_.out
        · have c1 : decide ((rd_T31 l0 j).f1.f0 ≤ a1_3) = false := decide_eq_false hc1
          have hcv : covB (rd_T31 l0 j) a1_3 = false := decide_eq_false (fun h => hc1 h.1)
          have v1_ : ((rd_T31 l0 j).f0 == curV l0 a1_3) = false := beq_eq_false_iff_ne.mpr hv
          have hlat : latTo l0 (curV l0 a1_3) (j + 1) = latTo l0 (curV l0 a1_3) j := if_neg hv
          have hchg : chgB (curV l0 a1_3) a2 (rd_T31 l0 j) = (⟨(rd_T31 l0 j).f0, (rd_T31 l0 j).f1, (rd_T31 l0 j).f2, (rd_T31 l0 j).f3, (rd_T31 l0 j).f4, a2⟩ : S31) := if_neg hv
          have hgr : grTo allB (curV l0 a1_3) a1_3 l0 (j + 1) = grTo allB (curV l0 a1_3) a1_3 l0 j := gr_no (fun h => hv h.1)
          replace hcv := Aside0.mk hcv
          replace hgr := Aside0.mk hgr
          replace hlat := Aside0.mk hlat
          replace hchg := Aside0.mk hchg
          replace hv := Aside0.mk hv
          have l8 := lat_len l0 (curV l0 a1_3) j
          have l9 := chg_len l0 (curV l0 a1_3) a2 j
          replace l8 := Aside0.mk l8
          replace l9 := Aside0.mk l9
          have n8_ := Aside0.mk (Kd.N_alloc H8.out (.cells #[.int .i64 (rd_T31 l0 j).f0, .int .i64 (rd_T31 l0 j).f1.f0, .int .i64 (rd_T31 l0 j).f1.f1, .int .i64 (rd_T31 l0 j).f2, .int .i64 (rd_T31 l0 j).f3, .slice Az (rd_T31 l0 j).f4.length cz, .int .i64 a2] 31 (0, 0)))
          have n9_ := Aside0.mk (Kd.N_alloc H9.out (.cells #[.int .i64 (rd_T31 l0 j).f0, .int .i64 (rd_T31 l0 j).f1.f0, .int .i64 (rd_T31 l0 j).f1.f1, .int .i64 (rd_T31 l0 j).f2, .int .i64 (rd_T31 l0 j).f3, .slice Az (rd_T31 l0 j).f4.length cz, .int .i64 a2] 31 (0, 0)))
          have nP_ := Aside0.mk (blk_alloc BP.out (.cells #[.int .i64 (rd_T31 l0 j).f0, .int .i64 (rd_T31 l0 j).f1.f0, .int .i64 (rd_T31 l0 j).f1.f1, .int .i64 (rd_T31 l0 j).f2, .int .i64 (rd_T31 l0 j).f3, .slice Az (rd_T31 l0 j).f4.length cz, .int .i64 a2] 31 (0, 0)))
          have nB_ := Aside0.mk (below_alloc HB.out (.cells #[.int .i64 (rd_T31 l0 j).f0, .int .i64 (rd_T31 l0 j).f1.f0, .int .i64 (rd_T31 l0 j).f1.f1, .int .i64 (rd_T31 l0 j).f2, .int .i64 (rd_T31 l0 j).f3, .slice Az (rd_T31 l0 j).f4.length cz, .int .i64 a2] 31 (0, 0)))
          have HF5_ := Aside0.mk (Kd.F_below HF0.out nB_.out)
          go_wp2_with (first | ((with_reducible refine gate_dst (N := 91) rfl ?_); refine Kd.N_append k31 (w0 := w) w.heap.size rfl (.tmp 88) (.tmp 90) 22 31 (.agg #[(.int .i64 0), (.int .i64 0), (.int .i64 0), (.int .i64 0), (.int .i64 0), (.slice none 0 0), (.int .i64 0)]) 72 rfl Try.underlying22 info31 rfl (by decide) (by omega) u9 (chgTo l0 (curV l0 a1_3) a2 j) (⟨(rd_T31 l0 j).f0, (rd_T31 l0 j).f1, (rd_T31 l0 j).f2, (rd_T31 l0 j).f3, (rd_T31 l0 j).f4, a2⟩ : S31) [.int .i64 (rd_T31 l0 j).f0, .int .i64 (rd_T31 l0 j).f1.f0, .int .i64 (rd_T31 l0 j).f1.f1, .int .i64 (rd_T31 l0 j).f2, .int .i64 (rd_T31 l0 j).f3, .slice Az (rd_T31 l0 j).f4.length cz, .int .i64 a2] (fun k => k ≠ w.heap.size ∧ some k ≠ u8.ownBlock) (fun k => k < w.heap.size) rfl (by first | rfl | (go_simp; done) | (simp [Act.eval]; done)) ?aP (fun k hk => ⟨⟨Nat.ne_of_lt hk, fun he => absurd (Kd.N_base n8_.out k he.symm) (Nat.not_le.2 hk)⟩, fun he => absurd (Kd.N_base n9_.out k he.symm) (Nat.not_le.2 hk)⟩) ?aF ?aO ?aB ?aS ?aL ?_; (case aP => exact (k31_mkF _ _ (⟨(rd_T31 l0 j).f0, (rd_T31 l0 j).f1, (rd_T31 l0 j).f2, (rd_T31 l0 j).f3, (rd_T31 l0 j).f4, a2⟩ : S31) HLZ.out HF5_.out)); (case aF => exact (fun k hk => ⟨fun he => by have := blk_lt nP_.out; omega, fun he => by have := Kd.N_lt n8_.out k he.symm; omega⟩)); (case aO => exact n9_.out); (case aB => exact nB_.out); (case aS => exact nB_.out.size); (case aL => have := l9.out; simp; omega); intro v2 w6 ho hb hg hat; have m9_ := Aside0.mk ho; have m8_ := Aside0.mk (Kd.N_after n8_.out hg hat); have mP_ := Aside0.mk (blk_grown nP_.out hg (Kd.N_away n9_.out (fun _ hk => hk.1))); have mB_ := Aside0.mk hb; clear ho hb hg hat))
          refine ⟨⟨j + 1, hlt, by first | rfl | (simp; done), ?_, by first | exact m8_.out | (rw [hlat.out]; exact m8_.out), ?_, mB_.out, mP_.out⟩, by simp [intOf]; omega⟩
          · first | (rw [hgr.out]; done) | (rw [hgr.out]; rfl) | (rw [hgr.out]; simp [mx]; done)
          · show Kd.N k31 31 w6 w.heap.size _ v2 (chgTo l0 _ a2 j ++ [chgB _ a2 (rd_T31 l0 j)]); rw [hchg.out]; exact m9_.out
    · have hpos := HPOS.out
      clear HPOS
      have he : j = l0.length := by omega
      subst he
      clear hlt hj
      obtain ⟨A8, c8, rfl⟩ := Kd.N_slice H8.out
      obtain ⟨A9, c9, rfl⟩ := Kd.N_slice H9.out
      have HL := Aside0.mk (Kd.N_reads' H8.out).2
      have HG := Aside0.mk (Kd.N_reads' H9.out).2
      clear H8 H9
      have hW : bulletin_Worst.f l0 a1_3 = some (grTo allB (curV l0 a1_3) a1_3 l0 l0.length) := rfl
      generalize grTo allB (curV l0 a1_3) a1_3 l0 l0.length = g at hW hWC hpos ⊢
      generalize latTo l0 (curV l0 a1_3) l0.length = LL at HL hCL hLL ⊢
      generalize chgTo l0 (curV l0 a1_3) a2 l0.length = CC at HG hLC hWC ⊢
      generalize curV l0 a1_3 = n at hC hCL hpos ⊢
      by_cases hp : 0 < n
      · have p1 : decide (n > 0) = true := decide_eq_true hp
        have p2 : decide (0 < n) = true := decide_eq_true hp
        have p3 : decide (g > 0) = true := decide_eq_true (hpos.1 hp)
        have p4 : decide (0 < g) = true := decide_eq_true (hpos.1 hp)
        clear hpos hp
        go_wp2
        have nL_ := Aside0.mk (And.intro HL.out.1 (Kd.C_drew HL.out.2))
        have nG_ := Aside0.mk (And.intro HG.out.1 (Kd.C_drew HG.out.2))
        have nP_ := Aside0.mk (blk_drew BP.out)
        have nB_ := Aside0.mk (below_drew1 HB.out)
        clear HL HG BP HB
        have HL := nL_
        have HG := nG_
        have BP := nP_
        have HB := nB_
        clear nL_ nG_ nP_ nB_
        refine start_ (n := 48) (S := fun w' => w'.cell? ⟨w.heap.size, 0, none⟩ = some (.int .i64 a1_0) ∧ w'.cell? ⟨w.heap.size, 1, none⟩ = some (.int .i64 a1_1) ∧ w'.cell? ⟨w.heap.size, 2, none⟩ = some (.int .i64 a1_2) ∧ w'.cell? ⟨w.heap.size, 3, none⟩ = some (.int .i64 a1_3)) (ds := []) #[false, false, false, false, false, false, false, false, false, false, false, false, false, false, false, false, false, false, false, false, false, false, false, false, false, false, false, false, false, false, false, false, false, false, false, false, false, false, false, false, false, false, false, false, false, false, false, false] (by kernel_rfl) rfl rfl ⟨((blk_cell BP.out 0).trans rfl), ((blk_cell BP.out 1).trans rfl), ((blk_cell BP.out 2).trans rfl), ((blk_cell BP.out 3).trans rfl)⟩ (fun hHeld => ?_)
        refine with_tabW X6.tab20 X6.bits20 (fun HT_ HW_ => ?_)
        generalize wr.drew = wd2 at HL HG BP HB hHeld ⊢
        refine pure_ (i := 0) (N := some 92) (v := ?_) (a' := ?_) #[true, false, false, false, false, false, false, false, false, false, false, false, false, false, false, false, false, false, false, false, false, false, false, false, false, false, false, false, false, false, false, false, false, false, false, false, false, false, false, false, false, false, false, false, false, false, false, false] rfl rfl (any_of HT_.out (by kernel_rfl)) (fun _ _ _ h => h) (Or.inl ⟨by rfl, ?_⟩) ?_ ?_
        rotate_left
        · intro w'
          go_simp
          with_reducible rfl
        rotate_left
        · simp only [Act.put, List.setIfInBounds_toArray, List.set_cons_zero, List.set_cons_succ, i64_w, i32_w]
          rfl
        refine pure_ (i := 1) (N := some 93) (v := ?_) (a' := ?_) #[true, true, false, false, false, false, false, false, false, false, false, false, false, false, false, false, false, false, false, false, false, false, false, false, false, false, false, false, false, false, false, false, false, false, false, false, false, false, false, false, false, false, false, false, false, false, false, false] rfl rfl (any_of HT_.out (by kernel_rfl)) (fun _ _ _ h => h) (Or.inl ⟨by rfl, ?_⟩) ?_ ?_
        rotate_left
        · intro w'
          go_simp
          with_reducible rfl
        rotate_left
        · simp only [Act.put, List.setIfInBounds_toArray, List.set_cons_zero, List.set_cons_succ, i64_w, i32_w]
          rfl
        refine pure_ (i := 4) (N := some 96) (v := ?_) (a' := ?_) #[true, true, false, false, true, false, false, false, false, false, false, false, false, false, false, false, false, false, false, false, false, false, false, false, false, false, false, false, false, false, false, false, false, false, false, false, false, false, false, false, false, false, false, false, false, false, false, false] rfl rfl (any_of HT_.out (by kernel_rfl)) (fun _ _ _ h => h) (Or.inl ⟨by rfl, ?_⟩) ?_ ?_
        rotate_left
        · intro w'
          go_simp
          with_reducible rfl
        rotate_left
        · simp only [Act.put, List.setIfInBounds_toArray, List.set_cons_zero, List.set_cons_succ, i64_w, i32_w]
          rfl
        refine take_ (i := 2) (N := some 94) (v := ?_) (a' := ?_) #[true, true, true, false, true, false, false, false, false, false, false, false, false, false, false, false, false, false, false, false, false, false, false, false, false, false, false, false, false, false, false, false, false, false, false, false, false, false, false, false, false, false, false, false, false, false, false, false] rfl rfl (take_ofW HT_.out HW_.out (by kernel_rfl)) (fun _ _ _ h => h) (Or.inl ⟨by rfl, ?_⟩) hHeld ?_ ?_
        rotate_left
        · rintro w' ⟨s0, s1, s2, s3⟩
          go_simp
          with_reducible rfl
        rotate_left
        · simp only [Act.put, List.setIfInBounds_toArray, List.set_cons_zero, List.set_cons_succ, i64_w, i32_w]
          rfl
        refine one_ (i := 3) (N := some 95) #[true, true, true, true, true, false, false, false, false, false, false, false, false, false, false, false, false, false, false, false, false, false, false, false, false, false, false, false, false, false, false, false, false, false, false, false, false, false, false, false, false, false, false, false, false, false, false, false] rfl rfl (one_of HT_.out (by kernel_rfl)) (by decide) (fun K hK => ?_)
        refine goes_ Try.func21 (by kernel_rfl) rfl #[.slice A0 l0.length c0, .int .i64 a1_3] (by rfl) rfl rfl (by simp only [List.map_toArray, List.map_cons, List.map_nil]; rfl) ?_
        with_reducible refine (bulletin_Worst.calls _ _ l0 a1_3 g _ (Kd.C_below HR.out HB.out) HC.out hW).mono ?_
        rintro e wz ⟨rfl, hb⟩
        refine ⟨_, rfl, ?_⟩
        have nL_ := Aside0.mk (And.intro HL.out.1 (Kd.C_below HL.out.2 hb))
        have nG_ := Aside0.mk (And.intro HG.out.1 (Kd.C_below HG.out.2 hb))
        have nP_ := Aside0.mk (blk_below BP.out hb)
        have nB_ := Aside0.mk (below_step HB.out hb)
        clear HL HG BP HB hb
        have HL := nL_
        have HG := nG_
        have BP := nP_
        have HB := nB_
        clear nL_ nG_ nP_ nB_
        refine hK.out _ _ ⟨((blk_cell BP.out 0).trans rfl), ((blk_cell BP.out 1).trans rfl), ((blk_cell BP.out 2).trans rfl), ((blk_cell BP.out 3).trans rfl)⟩ (fun hHeld => ?_)
        clear hK K
        refine norm_ (a' := ?_) ?_ ?_
        rotate_left
        · show Act.put _ (some 95) _ = _
          simp only [Act.put, List.setIfInBounds_toArray, List.set_cons_zero, List.set_cons_succ, i64_w, i32_w]
          rfl
        refine pure_ (i := 5) (N := some 97) (v := ?_) (a' := ?_) #[true, true, true, true, true, true, false, false, false, false, false, false, false, false, false, false, false, false, false, false, false, false, false, false, false, false, false, false, false, false, false, false, false, false, false, false, false, false, false, false, false, false, false, false, false, false, false, false] rfl rfl (any_of HT_.out (by kernel_rfl)) (fun _ _ _ h => h) (Or.inl ⟨by rfl, ?_⟩) ?_ ?_
        rotate_left
        · intro w'
          go_simp
          with_reducible rfl
        rotate_left
        · simp only [Act.put, List.setIfInBounds_toArray, List.set_cons_zero, List.set_cons_succ, i64_w, i32_w]
          rfl
        refine pure_ (i := 6) (N := some 98) (v := ?_) (a' := ?_) #[true, true, true, true, true, true, true, false, false, false, false, false, false, false, false, false, false, false, false, false, false, false, false, false, false, false, false, false, false, false, false, false, false, false, false, false, false, false, false, false, false, false, false, false, false, false, false, false] rfl rfl (any_of HT_.out (by kernel_rfl)) (fun _ _ _ h => h) (Or.inl ⟨by rfl, ?_⟩) ?_ ?_
        rotate_left
        · intro w'
          go_simp
          with_reducible rfl
        rotate_left
        · simp only [Act.put, List.setIfInBounds_toArray, List.set_cons_zero, List.set_cons_succ, i64_w, i32_w]
          rfl
        refine pure_ (i := 7) (N := some 99) (v := ?_) (a' := ?_) #[true, true, true, true, true, true, true, true, false, false, false, false, false, false, false, false, false, false, false, false, false, false, false, false, false, false, false, false, false, false, false, false, false, false, false, false, false, false, false, false, false, false, false, false, false, false, false, false] rfl rfl (any_of HT_.out (by kernel_rfl)) (fun _ _ _ h => h) (Or.inl ⟨by rfl, ?_⟩) ?_ ?_
        rotate_left
        · intro w'
          go_simp
          with_reducible rfl
        rotate_left
        · simp only [Act.put, List.setIfInBounds_toArray, List.set_cons_zero, List.set_cons_succ, i64_w, i32_w]
          rfl
        refine pure_ (i := 8) (N := some 100) (v := ?_) (a' := ?_) #[true, true, true, true, true, true, true, true, true, false, false, false, false, false, false, false, false, false, false, false, false, false, false, false, false, false, false, false, false, false, false, false, false, false, false, false, false, false, false, false, false, false, false, false, false, false, false, false] rfl rfl (any_of HT_.out (by kernel_rfl)) (fun _ _ _ h => h) (Or.inl ⟨by rfl, ?_⟩) ?_ ?_
        rotate_left
        · intro w'
          go_simp
          with_reducible rfl
        rotate_left
        · simp only [Act.put, List.setIfInBounds_toArray, List.set_cons_zero, List.set_cons_succ, i64_w, i32_w]
          rfl
        refine pure_ (i := 9) (N := some 101) (v := ?_) (a' := ?_) #[true, true, true, true, true, true, true, true, true, true, false, false, false, false, false, false, false, false, false, false, false, false, false, false, false, false, false, false, false, false, false, false, false, false, false, false, false, false, false, false, false, false, false, false, false, false, false, false] rfl rfl (any_of HT_.out (by kernel_rfl)) (fun _ _ _ h => h) (Or.inl ⟨by rfl, ?_⟩) ?_ ?_
        rotate_left
        · intro w'
          go_simp
          with_reducible rfl
        rotate_left
        · simp only [Act.put, List.setIfInBounds_toArray, List.set_cons_zero, List.set_cons_succ, i64_w, i32_w]
          rfl
        refine pure_ (i := 10) (N := some 102) (v := ?_) (a' := ?_) #[true, true, true, true, true, true, true, true, true, true, true, false, false, false, false, false, false, false, false, false, false, false, false, false, false, false, false, false, false, false, false, false, false, false, false, false, false, false, false, false, false, false, false, false, false, false, false, false] rfl rfl (any_of HT_.out (by kernel_rfl)) (fun _ _ _ h => h) (Or.inl ⟨by rfl, ?_⟩) ?_ ?_
        rotate_left
        · intro w'
          go_simp
          with_reducible rfl
        rotate_left
        · simp only [Act.put, List.setIfInBounds_toArray, List.set_cons_zero, List.set_cons_succ, i64_w, i32_w]
          rfl
        refine pure_ (i := 11) (N := some 103) (v := ?_) (a' := ?_) #[true, true, true, true, true, true, true, true, true, true, true, true, false, false, false, false, false, false, false, false, false, false, false, false, false, false, false, false, false, false, false, false, false, false, false, false, false, false, false, false, false, false, false, false, false, false, false, false] rfl rfl (any_of HT_.out (by kernel_rfl)) (fun _ _ _ h => h) (Or.inl ⟨by rfl, ?_⟩) ?_ ?_
        rotate_left
        · intro w'
          go_simp
          with_reducible rfl
        rotate_left
        · simp only [Act.put, List.setIfInBounds_toArray, List.set_cons_zero, List.set_cons_succ, i64_w, i32_w]
          rfl
        refine pure_ (i := 12) (N := some 104) (v := ?_) (a' := ?_) #[true, true, true, true, true, true, true, true, true, true, true, true, true, false, false, false, false, false, false, false, false, false, false, false, false, false, false, false, false, false, false, false, false, false, false, false, false, false, false, false, false, false, false, false, false, false, false, false] rfl rfl (any_of HT_.out (by kernel_rfl)) (fun _ _ _ h => h) (Or.inl ⟨by rfl, ?_⟩) ?_ ?_
        rotate_left
        · intro w'
          go_simp
          with_reducible rfl
        rotate_left
        · simp only [Act.put, List.setIfInBounds_toArray, List.set_cons_zero, List.set_cons_succ, i64_w, i32_w]
          rfl
        refine pure_ (i := 13) (N := some 105) (v := ?_) (a' := ?_) #[true, true, true, true, true, true, true, true, true, true, true, true, true, true, false, false, false, false, false, false, false, false, false, false, false, false, false, false, false, false, false, false, false, false, false, false, false, false, false, false, false, false, false, false, false, false, false, false] rfl rfl (any_of HT_.out (by kernel_rfl)) (fun _ _ _ h => h) (Or.inl ⟨by rfl, ?_⟩) ?_ ?_
        rotate_left
        · intro w'
          go_simp
          with_reducible rfl
        rotate_left
        · simp only [Act.put, List.setIfInBounds_toArray, List.set_cons_zero, List.set_cons_succ, i64_w, i32_w]
          rfl
        refine pure_ (i := 14) (N := some 106) (v := ?_) (a' := ?_) #[true, true, true, true, true, true, true, true, true, true, true, true, true, true, true, false, false, false, false, false, false, false, false, false, false, false, false, false, false, false, false, false, false, false, false, false, false, false, false, false, false, false, false, false, false, false, false, false] rfl rfl (any_of HT_.out (by kernel_rfl)) (fun _ _ _ h => h) (Or.inl ⟨by rfl, ?_⟩) ?_ ?_
        rotate_left
        · intro w'
          go_simp
          with_reducible rfl
        rotate_left
        · simp only [Act.put, List.setIfInBounds_toArray, List.set_cons_zero, List.set_cons_succ, i64_w, i32_w]
          rfl
        refine pure_ (i := 15) (N := some 107) (v := ?_) (a' := ?_) #[true, true, true, true, true, true, true, true, true, true, true, true, true, true, true, true, false, false, false, false, false, false, false, false, false, false, false, false, false, false, false, false, false, false, false, false, false, false, false, false, false, false, false, false, false, false, false, false] rfl rfl (any_of HT_.out (by kernel_rfl)) (fun _ _ _ h => h) (Or.inl ⟨by rfl, ?_⟩) ?_ ?_
        rotate_left
        · intro w'
          go_simp
          with_reducible rfl
        rotate_left
        · simp only [Act.put, List.setIfInBounds_toArray, List.set_cons_zero, List.set_cons_succ, i64_w, i32_w]
          rfl
        refine pure_ (i := 18) (N := some 110) (v := ?_) (a' := ?_) #[true, true, true, true, true, true, true, true, true, true, true, true, true, true, true, true, false, false, true, false, false, false, false, false, false, false, false, false, false, false, false, false, false, false, false, false, false, false, false, false, false, false, false, false, false, false, false, false] rfl rfl (any_of HT_.out (by kernel_rfl)) (fun _ _ _ h => h) (Or.inl ⟨by rfl, ?_⟩) ?_ ?_
        rotate_left
        · intro w'
          go_simp
          with_reducible rfl
        rotate_left
        · simp only [Act.put, List.setIfInBounds_toArray, List.set_cons_zero, List.set_cons_succ, i64_w, i32_w]
          rfl
        refine take_ (i := 16) (N := some 108) (v := ?_) (a' := ?_) #[true, true, true, true, true, true, true, true, true, true, true, true, true, true, true, true, true, false, true, false, false, false, false, false, false, false, false, false, false, false, false, false, false, false, false, false, false, false, false, false, false, false, false, false, false, false, false, false] rfl rfl (take_ofW HT_.out HW_.out (by kernel_rfl)) (fun _ _ _ h => h) (Or.inl ⟨by rfl, ?_⟩) hHeld ?_ ?_
        rotate_left
        · rintro w' ⟨s0, s1, s2, s3⟩
          go_simp
          with_reducible rfl
        rotate_left
        · simp only [Act.put, List.setIfInBounds_toArray, List.set_cons_zero, List.set_cons_succ, i64_w, i32_w]
          rfl
        refine one_ (i := 17) (N := some 109) #[true, true, true, true, true, true, true, true, true, true, true, true, true, true, true, true, true, true, true, false, false, false, false, false, false, false, false, false, false, false, false, false, false, false, false, false, false, false, false, false, false, false, false, false, false, false, false, false] rfl rfl (one_of HT_.out (by kernel_rfl)) (by decide) (fun K hK => ?_)
        refine goes_ Try.func17 (by kernel_rfl) rfl #[.slice A8 LL.length c8, .int .i64 a1_3] (by rfl) rfl rfl (by simp only [List.map_toArray, List.map_cons, List.map_nil]; rfl) ?_
        with_reducible refine (bulletin_Current.calls kL _ _ LL a1_3 n _ HL.out.2 HL.out.1 hCL).mono ?_
        rintro e wz ⟨rfl, hb⟩
        refine ⟨_, rfl, ?_⟩
        have nL_ := Aside0.mk (And.intro HL.out.1 (Kd.C_below HL.out.2 hb))
        have nG_ := Aside0.mk (And.intro HG.out.1 (Kd.C_below HG.out.2 hb))
        have nP_ := Aside0.mk (blk_below BP.out hb)
        have nB_ := Aside0.mk (below_step HB.out hb)
        clear HL HG BP HB hb
        have HL := nL_
        have HG := nG_
        have BP := nP_
        have HB := nB_
        clear nL_ nG_ nP_ nB_
        refine hK.out _ _ ⟨((blk_cell BP.out 0).trans rfl), ((blk_cell BP.out 1).trans rfl), ((blk_cell BP.out 2).trans rfl), ((blk_cell BP.out 3).trans rfl)⟩ (fun hHeld => ?_)
        clear hK K
        refine norm_ (a' := ?_) ?_ ?_
        rotate_left
        · show Act.put _ (some 109) _ = _
          simp only [Act.put, List.setIfInBounds_toArray, List.set_cons_zero, List.set_cons_succ, i64_w, i32_w]
          rfl
        refine pure_ (i := 19) (N := some 111) (v := ?_) (a' := ?_) #[true, true, true, true, true, true, true, true, true, true, true, true, true, true, true, true, true, true, true, true, false, false, false, false, false, false, false, false, false, false, false, false, false, false, false, false, false, false, false, false, false, false, false, false, false, false, false, false] rfl rfl (any_of HT_.out (by kernel_rfl)) (fun _ _ _ h => h) (Or.inl ⟨by rfl, ?_⟩) ?_ ?_
        rotate_left
        · intro w'
          go_simp
          with_reducible rfl
        rotate_left
        · simp only [Act.put, List.setIfInBounds_toArray, List.set_cons_zero, List.set_cons_succ, i64_w, i32_w]
          rfl
        refine pure_ (i := 20) (N := some 112) (v := ?_) (a' := ?_) #[true, true, true, true, true, true, true, true, true, true, true, true, true, true, true, true, true, true, true, true, true, false, false, false, false, false, false, false, false, false, false, false, false, false, false, false, false, false, false, false, false, false, false, false, false, false, false, false] rfl rfl (any_of HT_.out (by kernel_rfl)) (fun _ _ _ h => h) (Or.inl ⟨by rfl, ?_⟩) ?_ ?_
        rotate_left
        · intro w'
          go_simp
          with_reducible rfl
        rotate_left
        · simp only [Act.put, List.setIfInBounds_toArray, List.set_cons_zero, List.set_cons_succ, i64_w, i32_w]
          rfl
        refine pure_ (i := 21) (N := some 113) (v := ?_) (a' := ?_) #[true, true, true, true, true, true, true, true, true, true, true, true, true, true, true, true, true, true, true, true, true, true, false, false, false, false, false, false, false, false, false, false, false, false, false, false, false, false, false, false, false, false, false, false, false, false, false, false] rfl rfl (any_of HT_.out (by kernel_rfl)) (fun _ _ _ h => h) (Or.inl ⟨by rfl, ?_⟩) ?_ ?_
        rotate_left
        · intro w'
          go_simp
          with_reducible rfl
        rotate_left
        · simp only [Act.put, List.setIfInBounds_toArray, List.set_cons_zero, List.set_cons_succ, i64_w, i32_w]
          rfl
        refine pure_ (i := 22) (N := some 114) (v := ?_) (a' := ?_) #[true, true, true, true, true, true, true, true, true, true, true, true, true, true, true, true, true, true, true, true, true, true, true, false, false, false, false, false, false, false, false, false, false, false, false, false, false, false, false, false, false, false, false, false, false, false, false, false] rfl rfl (any_of HT_.out (by kernel_rfl)) (fun _ _ _ h => h) (Or.inl ⟨by rfl, ?_⟩) ?_ ?_
        rotate_left
        · intro w'
          go_simp
          with_reducible rfl
        rotate_left
        · simp only [Act.put, List.setIfInBounds_toArray, List.set_cons_zero, List.set_cons_succ, i64_w, i32_w]
          rfl
        refine pure_ (i := 25) (N := some 117) (v := ?_) (a' := ?_) #[true, true, true, true, true, true, true, true, true, true, true, true, true, true, true, true, true, true, true, true, true, true, true, false, false, true, false, false, false, false, false, false, false, false, false, false, false, false, false, false, false, false, false, false, false, false, false, false] rfl rfl (any_of HT_.out (by kernel_rfl)) (fun _ _ _ h => h) (Or.inl ⟨by rfl, ?_⟩) ?_ ?_
        rotate_left
        · intro w'
          go_simp
          with_reducible rfl
        rotate_left
        · simp only [Act.put, List.setIfInBounds_toArray, List.set_cons_zero, List.set_cons_succ, i64_w, i32_w]
          rfl
        refine take_ (i := 23) (N := some 115) (v := ?_) (a' := ?_) #[true, true, true, true, true, true, true, true, true, true, true, true, true, true, true, true, true, true, true, true, true, true, true, true, false, true, false, false, false, false, false, false, false, false, false, false, false, false, false, false, false, false, false, false, false, false, false, false] rfl rfl (take_ofW HT_.out HW_.out (by kernel_rfl)) (fun _ _ _ h => h) (Or.inl ⟨by rfl, ?_⟩) hHeld ?_ ?_
        rotate_left
        · rintro w' ⟨s0, s1, s2, s3⟩
          go_simp
          with_reducible rfl
        rotate_left
        · simp only [Act.put, List.setIfInBounds_toArray, List.set_cons_zero, List.set_cons_succ, i64_w, i32_w]
          rfl
        refine take_ (i := 26) (N := some 118) (v := ?_) (a' := ?_) #[true, true, true, true, true, true, true, true, true, true, true, true, true, true, true, true, true, true, true, true, true, true, true, true, false, true, true, false, false, false, false, false, false, false, false, false, false, false, false, false, false, false, false, false, false, false, false, false] rfl rfl (take_ofW HT_.out HW_.out (by kernel_rfl)) (fun _ _ _ h => h) (Or.inl ⟨by rfl, ?_⟩) hHeld ?_ ?_
        rotate_left
        · rintro w' ⟨s0, s1, s2, s3⟩
          go_simp
          with_reducible rfl
        rotate_left
        · simp only [Act.put, List.setIfInBounds_toArray, List.set_cons_zero, List.set_cons_succ, i64_w, i32_w]
          rfl
        refine one_ (i := 24) (N := some 116) #[true, true, true, true, true, true, true, true, true, true, true, true, true, true, true, true, true, true, true, true, true, true, true, true, true, true, true, false, false, false, false, false, false, false, false, false, false, false, false, false, false, false, false, false, false, false, false, false] rfl rfl (one_of HT_.out (by kernel_rfl)) (by decide) (fun K hK => ?_)
        refine goes_ Try.func19 (by kernel_rfl) rfl #[.slice A8 LL.length c8, .agg #[.int .i64 a1_0, .int .i64 a1_1, .int .i64 a1_2, .int .i64 a1_3]] (by rfl) rfl rfl (by simp only [List.map_toArray, List.map_cons, List.map_nil]; rfl) ?_
        with_reducible refine (skiarealaw49_level.calls _ _ LL a1_0 a1_1 a1_2 a1_3 u _ HL.out.2 HL.out.1 hLL).mono ?_
        rintro e wz ⟨rfl, hb⟩
        refine ⟨_, rfl, ?_⟩
        have nL_ := Aside0.mk (And.intro HL.out.1 (Kd.C_below HL.out.2 hb))
        have nG_ := Aside0.mk (And.intro HG.out.1 (Kd.C_below HG.out.2 hb))
        have nP_ := Aside0.mk (blk_below BP.out hb)
        have nB_ := Aside0.mk (below_step HB.out hb)
        clear HL HG BP HB hb
        have HL := nL_
        have HG := nG_
        have BP := nP_
        have HB := nB_
        clear nL_ nG_ nP_ nB_
        refine hK.out _ _ ⟨((blk_cell BP.out 0).trans rfl), ((blk_cell BP.out 1).trans rfl), ((blk_cell BP.out 2).trans rfl), ((blk_cell BP.out 3).trans rfl)⟩ (fun hHeld => ?_)
        clear hK K
        refine norm_ (a' := ?_) ?_ ?_
        rotate_left
        · show Act.put _ (some 116) _ = _
          simp only [Act.put, List.setIfInBounds_toArray, List.set_cons_zero, List.set_cons_succ, i64_w, i32_w]
          rfl
        refine one_ (i := 27) (N := some 119) #[true, true, true, true, true, true, true, true, true, true, true, true, true, true, true, true, true, true, true, true, true, true, true, true, true, true, true, true, false, false, false, false, false, false, false, false, false, false, false, false, false, false, false, false, false, false, false, false] rfl rfl (one_of HT_.out (by kernel_rfl)) (by decide) (fun K hK => ?_)
        refine goes_ Try.func19 (by kernel_rfl) rfl #[.slice A0 l0.length c0, .agg #[.int .i64 a1_0, .int .i64 a1_1, .int .i64 a1_2, .int .i64 a1_3]] (by rfl) rfl rfl (by simp only [List.map_toArray, List.map_cons, List.map_nil]; rfl) ?_
        with_reducible refine (skiarealaw49_level.calls _ _ l0 a1_0 a1_1 a1_2 a1_3 u _ (Kd.C_below HR.out HB.out) HC.out hLV).mono ?_
        rintro e wz ⟨rfl, hb⟩
        refine ⟨_, rfl, ?_⟩
        have nL_ := Aside0.mk (And.intro HL.out.1 (Kd.C_below HL.out.2 hb))
        have nG_ := Aside0.mk (And.intro HG.out.1 (Kd.C_below HG.out.2 hb))
        have nP_ := Aside0.mk (blk_below BP.out hb)
        have nB_ := Aside0.mk (below_step HB.out hb)
        clear HL HG BP HB hb
        have HL := nL_
        have HG := nG_
        have BP := nP_
        have HB := nB_
        clear nL_ nG_ nP_ nB_
        refine hK.out _ _ ⟨((blk_cell BP.out 0).trans rfl), ((blk_cell BP.out 1).trans rfl), ((blk_cell BP.out 2).trans rfl), ((blk_cell BP.out 3).trans rfl)⟩ (fun hHeld => ?_)
        clear hK K
        refine norm_ (a' := ?_) ?_ ?_
        rotate_left
        · show Act.put _ (some 119) _ = _
          simp only [Act.put, List.setIfInBounds_toArray, List.set_cons_zero, List.set_cons_succ, i64_w, i32_w]
          rfl
        refine pure_ (i := 28) (N := some 120) (v := ?_) (a' := ?_) #[true, true, true, true, true, true, true, true, true, true, true, true, true, true, true, true, true, true, true, true, true, true, true, true, true, true, true, true, true, false, false, false, false, false, false, false, false, false, false, false, false, false, false, false, false, false, false, false] rfl rfl (any_of HT_.out (by kernel_rfl)) (fun _ _ _ h => h) (Or.inl ⟨by rfl, ?_⟩) ?_ ?_
        rotate_left
        · intro w'
          go_simp
          with_reducible rfl
        rotate_left
        · simp only [Act.put, List.setIfInBounds_toArray, List.set_cons_zero, List.set_cons_succ, i64_w, i32_w]
          rfl
        refine pure_ (i := 29) (N := some 121) (v := ?_) (a' := ?_) #[true, true, true, true, true, true, true, true, true, true, true, true, true, true, true, true, true, true, true, true, true, true, true, true, true, true, true, true, true, true, false, false, false, false, false, false, false, false, false, false, false, false, false, false, false, false, false, false] rfl rfl (any_of HT_.out (by kernel_rfl)) (fun _ _ _ h => h) (Or.inl ⟨by rfl, ?_⟩) ?_ ?_
        rotate_left
        · intro w'
          go_simp
          with_reducible rfl
        rotate_left
        · simp only [Act.put, List.setIfInBounds_toArray, List.set_cons_zero, List.set_cons_succ, i64_w, i32_w]
          rfl
        refine pure_ (i := 30) (N := some 122) (v := ?_) (a' := ?_) #[true, true, true, true, true, true, true, true, true, true, true, true, true, true, true, true, true, true, true, true, true, true, true, true, true, true, true, true, true, true, true, false, false, false, false, false, false, false, false, false, false, false, false, false, false, false, false, false] rfl rfl (any_of HT_.out (by kernel_rfl)) (fun _ _ _ h => h) (Or.inl ⟨by rfl, ?_⟩) ?_ ?_
        rotate_left
        · intro w'
          go_simp
          with_reducible rfl
        rotate_left
        · simp only [Act.put, List.setIfInBounds_toArray, List.set_cons_zero, List.set_cons_succ, i64_w, i32_w]
          rfl
        refine pure_ (i := 31) (N := some 123) (v := ?_) (a' := ?_) #[true, true, true, true, true, true, true, true, true, true, true, true, true, true, true, true, true, true, true, true, true, true, true, true, true, true, true, true, true, true, true, true, false, false, false, false, false, false, false, false, false, false, false, false, false, false, false, false] rfl rfl (any_of HT_.out (by kernel_rfl)) (fun _ _ _ h => h) (Or.inl ⟨by rfl, ?_⟩) ?_ ?_
        rotate_left
        · intro w'
          go_simp
          with_reducible rfl
        rotate_left
        · simp only [Act.put, List.setIfInBounds_toArray, List.set_cons_zero, List.set_cons_succ, i64_w, i32_w]
          rfl
        refine pure_ (i := 34) (N := some 126) (v := ?_) (a' := ?_) #[true, true, true, true, true, true, true, true, true, true, true, true, true, true, true, true, true, true, true, true, true, true, true, true, true, true, true, true, true, true, true, true, false, false, true, false, false, false, false, false, false, false, false, false, false, false, false, false] rfl rfl (any_of HT_.out (by kernel_rfl)) (fun _ _ _ h => h) (Or.inl ⟨by rfl, ?_⟩) ?_ ?_
        rotate_left
        · intro w'
          go_simp
          with_reducible rfl
        rotate_left
        · simp only [Act.put, List.setIfInBounds_toArray, List.set_cons_zero, List.set_cons_succ, i64_w, i32_w]
          rfl
        refine take_ (i := 32) (N := some 124) (v := ?_) (a' := ?_) #[true, true, true, true, true, true, true, true, true, true, true, true, true, true, true, true, true, true, true, true, true, true, true, true, true, true, true, true, true, true, true, true, true, false, true, false, false, false, false, false, false, false, false, false, false, false, false, false] rfl rfl (take_ofW HT_.out HW_.out (by kernel_rfl)) (fun _ _ _ h => h) (Or.inl ⟨by rfl, ?_⟩) hHeld ?_ ?_
        rotate_left
        · rintro w' ⟨s0, s1, s2, s3⟩
          go_simp
          with_reducible rfl
        rotate_left
        · simp only [Act.put, List.setIfInBounds_toArray, List.set_cons_zero, List.set_cons_succ, i64_w, i32_w]
          rfl
        refine take_ (i := 35) (N := some 127) (v := ?_) (a' := ?_) #[true, true, true, true, true, true, true, true, true, true, true, true, true, true, true, true, true, true, true, true, true, true, true, true, true, true, true, true, true, true, true, true, true, false, true, true, false, false, false, false, false, false, false, false, false, false, false, false] rfl rfl (take_ofW HT_.out HW_.out (by kernel_rfl)) (fun _ _ _ h => h) (Or.inl ⟨by rfl, ?_⟩) hHeld ?_ ?_
        rotate_left
        · rintro w' ⟨s0, s1, s2, s3⟩
          go_simp
          with_reducible rfl
        rotate_left
        · simp only [Act.put, List.setIfInBounds_toArray, List.set_cons_zero, List.set_cons_succ, i64_w, i32_w]
          rfl
        refine one_ (i := 33) (N := some 125) #[true, true, true, true, true, true, true, true, true, true, true, true, true, true, true, true, true, true, true, true, true, true, true, true, true, true, true, true, true, true, true, true, true, true, true, true, false, false, false, false, false, false, false, false, false, false, false, false] rfl rfl (one_of HT_.out (by kernel_rfl)) (by decide) (fun K hK => ?_)
        refine goes_ Try.func19 (by kernel_rfl) rfl #[.slice A9 CC.length c9, .agg #[.int .i64 a1_0, .int .i64 a1_1, .int .i64 a1_2, .int .i64 a1_3]] (by rfl) rfl rfl (by simp only [List.map_toArray, List.map_cons, List.map_nil]; rfl) ?_
        with_reducible refine (skiarealaw49_level.calls _ _ CC a1_0 a1_1 a1_2 a1_3 u _ HG.out.2 HG.out.1 hLC).mono ?_
        rintro e wz ⟨rfl, hb⟩
        refine ⟨_, rfl, ?_⟩
        have nL_ := Aside0.mk (And.intro HL.out.1 (Kd.C_below HL.out.2 hb))
        have nG_ := Aside0.mk (And.intro HG.out.1 (Kd.C_below HG.out.2 hb))
        have nP_ := Aside0.mk (blk_below BP.out hb)
        have nB_ := Aside0.mk (below_step HB.out hb)
        clear HL HG BP HB hb
        have HL := nL_
        have HG := nG_
        have BP := nP_
        have HB := nB_
        clear nL_ nG_ nP_ nB_
        refine hK.out _ _ ⟨((blk_cell BP.out 0).trans rfl), ((blk_cell BP.out 1).trans rfl), ((blk_cell BP.out 2).trans rfl), ((blk_cell BP.out 3).trans rfl)⟩ (fun hHeld => ?_)
        clear hK K
        refine norm_ (a' := ?_) ?_ ?_
        rotate_left
        · show Act.put _ (some 125) _ = _
          simp only [Act.put, List.setIfInBounds_toArray, List.set_cons_zero, List.set_cons_succ, i64_w, i32_w]
          rfl
        refine one_ (i := 36) (N := some 128) #[true, true, true, true, true, true, true, true, true, true, true, true, true, true, true, true, true, true, true, true, true, true, true, true, true, true, true, true, true, true, true, true, true, true, true, true, true, false, false, false, false, false, false, false, false, false, false, false] rfl rfl (one_of HT_.out (by kernel_rfl)) (by decide) (fun K hK => ?_)
        refine goes_ Try.func19 (by kernel_rfl) rfl #[.slice A0 l0.length c0, .agg #[.int .i64 a1_0, .int .i64 a1_1, .int .i64 a1_2, .int .i64 a1_3]] (by rfl) rfl rfl (by simp only [List.map_toArray, List.map_cons, List.map_nil]; rfl) ?_
        with_reducible refine (skiarealaw49_level.calls _ _ l0 a1_0 a1_1 a1_2 a1_3 u _ (Kd.C_below HR.out HB.out) HC.out hLV).mono ?_
        rintro e wz ⟨rfl, hb⟩
        refine ⟨_, rfl, ?_⟩
        have nL_ := Aside0.mk (And.intro HL.out.1 (Kd.C_below HL.out.2 hb))
        have nG_ := Aside0.mk (And.intro HG.out.1 (Kd.C_below HG.out.2 hb))
        have nP_ := Aside0.mk (blk_below BP.out hb)
        have nB_ := Aside0.mk (below_step HB.out hb)
        clear HL HG BP HB hb
        have HL := nL_
        have HG := nG_
        have BP := nP_
        have HB := nB_
        clear nL_ nG_ nP_ nB_
        refine hK.out _ _ ⟨((blk_cell BP.out 0).trans rfl), ((blk_cell BP.out 1).trans rfl), ((blk_cell BP.out 2).trans rfl), ((blk_cell BP.out 3).trans rfl)⟩ (fun hHeld => ?_)
        clear hK K
        refine norm_ (a' := ?_) ?_ ?_
        rotate_left
        · show Act.put _ (some 128) _ = _
          simp only [Act.put, List.setIfInBounds_toArray, List.set_cons_zero, List.set_cons_succ, i64_w, i32_w]
          rfl
        refine pure_ (i := 37) (N := some 129) (v := ?_) (a' := ?_) #[true, true, true, true, true, true, true, true, true, true, true, true, true, true, true, true, true, true, true, true, true, true, true, true, true, true, true, true, true, true, true, true, true, true, true, true, true, true, false, false, false, false, false, false, false, false, false, false] rfl rfl (any_of HT_.out (by kernel_rfl)) (fun _ _ _ h => h) (Or.inl ⟨by rfl, ?_⟩) ?_ ?_
        rotate_left
        · intro w'
          go_simp
          with_reducible rfl
        rotate_left
        · simp only [Act.put, List.setIfInBounds_toArray, List.set_cons_zero, List.set_cons_succ, i64_w, i32_w]
          rfl
        refine pure_ (i := 38) (N := some 130) (v := ?_) (a' := ?_) #[true, true, true, true, true, true, true, true, true, true, true, true, true, true, true, true, true, true, true, true, true, true, true, true, true, true, true, true, true, true, true, true, true, true, true, true, true, true, true, false, false, false, false, false, false, false, false, false] rfl rfl (any_of HT_.out (by kernel_rfl)) (fun _ _ _ h => h) (Or.inl ⟨by rfl, ?_⟩) ?_ ?_
        rotate_left
        · intro w'
          go_simp
          with_reducible rfl
        rotate_left
        · simp only [Act.put, List.setIfInBounds_toArray, List.set_cons_zero, List.set_cons_succ, i64_w, i32_w]
          rfl
        refine pure_ (i := 39) (N := some 131) (v := ?_) (a' := ?_) #[true, true, true, true, true, true, true, true, true, true, true, true, true, true, true, true, true, true, true, true, true, true, true, true, true, true, true, true, true, true, true, true, true, true, true, true, true, true, true, true, false, false, false, false, false, false, false, false] rfl rfl (any_of HT_.out (by kernel_rfl)) (fun _ _ _ h => h) (Or.inl ⟨by rfl, ?_⟩) ?_ ?_
        rotate_left
        · intro w'
          go_simp
          with_reducible rfl
        rotate_left
        · simp only [Act.put, List.setIfInBounds_toArray, List.set_cons_zero, List.set_cons_succ, i64_w, i32_w]
          rfl
        refine pure_ (i := 40) (N := some 132) (v := ?_) (a' := ?_) #[true, true, true, true, true, true, true, true, true, true, true, true, true, true, true, true, true, true, true, true, true, true, true, true, true, true, true, true, true, true, true, true, true, true, true, true, true, true, true, true, true, false, false, false, false, false, false, false] rfl rfl (any_of HT_.out (by kernel_rfl)) (fun _ _ _ h => h) (Or.inl ⟨by rfl, ?_⟩) ?_ ?_
        rotate_left
        · intro w'
          go_simp
          with_reducible rfl
        rotate_left
        · simp only [Act.put, List.setIfInBounds_toArray, List.set_cons_zero, List.set_cons_succ, i64_w, i32_w]
          rfl
        refine pure_ (i := 41) (N := some 133) (v := ?_) (a' := ?_) #[true, true, true, true, true, true, true, true, true, true, true, true, true, true, true, true, true, true, true, true, true, true, true, true, true, true, true, true, true, true, true, true, true, true, true, true, true, true, true, true, true, true, false, false, false, false, false, false] rfl rfl (any_of HT_.out (by kernel_rfl)) (fun _ _ _ h => h) (Or.inl ⟨by rfl, ?_⟩) ?_ ?_
        rotate_left
        · intro w'
          go_simp
          with_reducible rfl
        rotate_left
        · simp only [Act.put, List.setIfInBounds_toArray, List.set_cons_zero, List.set_cons_succ, i64_w, i32_w]
          rfl
        refine pure_ (i := 44) (N := some 136) (v := ?_) (a' := ?_) #[true, true, true, true, true, true, true, true, true, true, true, true, true, true, true, true, true, true, true, true, true, true, true, true, true, true, true, true, true, true, true, true, true, true, true, true, true, true, true, true, true, true, false, false, true, false, false, false] rfl rfl (any_of HT_.out (by kernel_rfl)) (fun _ _ _ h => h) (Or.inl ⟨by rfl, ?_⟩) ?_ ?_
        rotate_left
        · intro w'
          go_simp
          with_reducible rfl
        rotate_left
        · simp only [Act.put, List.setIfInBounds_toArray, List.set_cons_zero, List.set_cons_succ, i64_w, i32_w]
          rfl
        refine take_ (i := 42) (N := some 134) (v := ?_) (a' := ?_) #[true, true, true, true, true, true, true, true, true, true, true, true, true, true, true, true, true, true, true, true, true, true, true, true, true, true, true, true, true, true, true, true, true, true, true, true, true, true, true, true, true, true, true, false, true, false, false, false] rfl rfl (take_ofW HT_.out HW_.out (by kernel_rfl)) (fun _ _ _ h => h) (Or.inl ⟨by rfl, ?_⟩) hHeld ?_ ?_
        rotate_left
        · rintro w' ⟨s0, s1, s2, s3⟩
          go_simp
          with_reducible rfl
        rotate_left
        · simp only [Act.put, List.setIfInBounds_toArray, List.set_cons_zero, List.set_cons_succ, i64_w, i32_w]
          rfl
        refine one_ (i := 43) (N := some 135) #[true, true, true, true, true, true, true, true, true, true, true, true, true, true, true, true, true, true, true, true, true, true, true, true, true, true, true, true, true, true, true, true, true, true, true, true, true, true, true, true, true, true, true, true, true, false, false, false] rfl rfl (one_of HT_.out (by kernel_rfl)) (by decide) (fun K hK => ?_)
        refine goes_ Try.func21 (by kernel_rfl) rfl #[.slice A9 CC.length c9, .int .i64 a1_3] (by rfl) rfl rfl (by simp only [List.map_toArray, List.map_cons, List.map_nil]; rfl) ?_
        with_reducible refine (bulletin_Worst.calls _ _ CC a1_3 g _ HG.out.2 HG.out.1 hWC).mono ?_
        rintro e wz ⟨rfl, hb⟩
        refine ⟨_, rfl, ?_⟩
        have nL_ := Aside0.mk (And.intro HL.out.1 (Kd.C_below HL.out.2 hb))
        have nG_ := Aside0.mk (And.intro HG.out.1 (Kd.C_below HG.out.2 hb))
        have nP_ := Aside0.mk (blk_below BP.out hb)
        have nB_ := Aside0.mk (below_step HB.out hb)
        clear HL HG BP HB hb
        have HL := nL_
        have HG := nG_
        have BP := nP_
        have HB := nB_
        clear nL_ nG_ nP_ nB_
        refine hK.out _ _ ⟨((blk_cell BP.out 0).trans rfl), ((blk_cell BP.out 1).trans rfl), ((blk_cell BP.out 2).trans rfl), ((blk_cell BP.out 3).trans rfl)⟩ (fun hHeld => ?_)
        clear hK K
        refine norm_ (a' := ?_) ?_ ?_
        rotate_left
        · show Act.put _ (some 135) _ = _
          simp only [Act.put, List.setIfInBounds_toArray, List.set_cons_zero, List.set_cons_succ, i64_w, i32_w]
          rfl
        refine pure_ (i := 45) (N := some 137) (v := ?_) (a' := ?_) #[true, true, true, true, true, true, true, true, true, true, true, true, true, true, true, true, true, true, true, true, true, true, true, true, true, true, true, true, true, true, true, true, true, true, true, true, true, true, true, true, true, true, true, true, true, true, false, false] rfl rfl (any_of HT_.out (by kernel_rfl)) (fun _ _ _ h => h) (Or.inl ⟨by rfl, ?_⟩) ?_ ?_
        rotate_left
        · intro w'
          go_simp
          with_reducible rfl
        rotate_left
        · simp only [Act.put, List.setIfInBounds_toArray, List.set_cons_zero, List.set_cons_succ, i64_w, i32_w]
          rfl
        refine pure_ (i := 46) (N := some 138) (v := ?_) (a' := ?_) #[true, true, true, true, true, true, true, true, true, true, true, true, true, true, true, true, true, true, true, true, true, true, true, true, true, true, true, true, true, true, true, true, true, true, true, true, true, true, true, true, true, true, true, true, true, true, true, false] rfl rfl (any_of HT_.out (by kernel_rfl)) (fun _ _ _ h => h) (Or.inl ⟨by rfl, ?_⟩) ?_ ?_
        rotate_left
        · intro w'
          go_simp
          with_reducible rfl
        rotate_left
        · simp only [Act.put, List.setIfInBounds_toArray, List.set_cons_zero, List.set_cons_succ, i64_w, i32_w]
          rfl
        refine pure_ (i := 47) (N := some 6) (v := ?_) (a' := ?_) #[true, true, true, true, true, true, true, true, true, true, true, true, true, true, true, true, true, true, true, true, true, true, true, true, true, true, true, true, true, true, true, true, true, true, true, true, true, true, true, true, true, true, true, true, true, true, true, true] rfl rfl (any_of HT_.out (by kernel_rfl)) (fun _ _ _ h => h) (Or.inl ⟨by rfl, ?_⟩) ?_ ?_
        rotate_left
        · intro w'
          go_simp
          with_reducible rfl
        rotate_left
        · simp only [Act.put, List.setIfInBounds_toArray, List.set_cons_zero, List.set_cons_succ, i64_w, i32_w]
          rfl
        refine done_ (done_of HT_.out (by kernel_rfl)) ?_
        try go_wp2
        go_ret
        exact ⟨by first | rfl | (simp; done), HB.out⟩
      · have p1 : decide (n > 0) = false := decide_eq_false hp
        have p2 : decide (0 < n) = false := decide_eq_false hp
        have p3 : decide (g > 0) = false := decide_eq_false (fun h => hp (hpos.2 h))
        have p4 : decide (0 < g) = false := decide_eq_false (fun h => hp (hpos.2 h))
        clear hpos hp
        go_wp2
        have nL_ := Aside0.mk (And.intro HL.out.1 (Kd.C_drew HL.out.2))
        have nG_ := Aside0.mk (And.intro HG.out.1 (Kd.C_drew HG.out.2))
        have nP_ := Aside0.mk (blk_drew BP.out)
        have nB_ := Aside0.mk (below_drew1 HB.out)
        clear HL HG BP HB
        have HL := nL_
        have HG := nG_
        have BP := nP_
        have HB := nB_
        clear nL_ nG_ nP_ nB_
        refine start_ (n := 48) (S := fun w' => w'.cell? ⟨w.heap.size, 0, none⟩ = some (.int .i64 a1_0) ∧ w'.cell? ⟨w.heap.size, 1, none⟩ = some (.int .i64 a1_1) ∧ w'.cell? ⟨w.heap.size, 2, none⟩ = some (.int .i64 a1_2) ∧ w'.cell? ⟨w.heap.size, 3, none⟩ = some (.int .i64 a1_3)) (ds := []) #[false, false, false, false, false, false, false, false, false, false, false, false, false, false, false, false, false, false, false, false, false, false, false, false, false, false, false, false, false, false, false, false, false, false, false, false, false, false, false, false, false, false, false, false, false, false, false, false] (by kernel_rfl) rfl rfl ⟨((blk_cell BP.out 0).trans rfl), ((blk_cell BP.out 1).trans rfl), ((blk_cell BP.out 2).trans rfl), ((blk_cell BP.out 3).trans rfl)⟩ (fun hHeld => ?_)
        refine with_tabW X6.tab20 X6.bits20 (fun HT_ HW_ => ?_)
        generalize wr.drew = wd2 at HL HG BP HB hHeld ⊢
        refine pure_ (i := 0) (N := some 92) (v := ?_) (a' := ?_) #[true, false, false, false, false, false, false, false, false, false, false, false, false, false, false, false, false, false, false, false, false, false, false, false, false, false, false, false, false, false, false, false, false, false, false, false, false, false, false, false, false, false, false, false, false, false, false, false] rfl rfl (any_of HT_.out (by kernel_rfl)) (fun _ _ _ h => h) (Or.inl ⟨by rfl, ?_⟩) ?_ ?_
        rotate_left
        · intro w'
          go_simp
          with_reducible rfl
        rotate_left
        · simp only [Act.put, List.setIfInBounds_toArray, List.set_cons_zero, List.set_cons_succ, i64_w, i32_w]
          rfl
        refine pure_ (i := 1) (N := some 93) (v := ?_) (a' := ?_) #[true, true, false, false, false, false, false, false, false, false, false, false, false, false, false, false, false, false, false, false, false, false, false, false, false, false, false, false, false, false, false, false, false, false, false, false, false, false, false, false, false, false, false, false, false, false, false, false] rfl rfl (any_of HT_.out (by kernel_rfl)) (fun _ _ _ h => h) (Or.inl ⟨by rfl, ?_⟩) ?_ ?_
        rotate_left
        · intro w'
          go_simp
          with_reducible rfl
        rotate_left
        · simp only [Act.put, List.setIfInBounds_toArray, List.set_cons_zero, List.set_cons_succ, i64_w, i32_w]
          rfl
        refine pure_ (i := 4) (N := some 96) (v := ?_) (a' := ?_) #[true, true, false, false, true, false, false, false, false, false, false, false, false, false, false, false, false, false, false, false, false, false, false, false, false, false, false, false, false, false, false, false, false, false, false, false, false, false, false, false, false, false, false, false, false, false, false, false] rfl rfl (any_of HT_.out (by kernel_rfl)) (fun _ _ _ h => h) (Or.inl ⟨by rfl, ?_⟩) ?_ ?_
        rotate_left
        · intro w'
          go_simp
          with_reducible rfl
        rotate_left
        · simp only [Act.put, List.setIfInBounds_toArray, List.set_cons_zero, List.set_cons_succ, i64_w, i32_w]
          rfl
        refine take_ (i := 2) (N := some 94) (v := ?_) (a' := ?_) #[true, true, true, false, true, false, false, false, false, false, false, false, false, false, false, false, false, false, false, false, false, false, false, false, false, false, false, false, false, false, false, false, false, false, false, false, false, false, false, false, false, false, false, false, false, false, false, false] rfl rfl (take_ofW HT_.out HW_.out (by kernel_rfl)) (fun _ _ _ h => h) (Or.inl ⟨by rfl, ?_⟩) hHeld ?_ ?_
        rotate_left
        · rintro w' ⟨s0, s1, s2, s3⟩
          go_simp
          with_reducible rfl
        rotate_left
        · simp only [Act.put, List.setIfInBounds_toArray, List.set_cons_zero, List.set_cons_succ, i64_w, i32_w]
          rfl
        refine one_ (i := 3) (N := some 95) #[true, true, true, true, true, false, false, false, false, false, false, false, false, false, false, false, false, false, false, false, false, false, false, false, false, false, false, false, false, false, false, false, false, false, false, false, false, false, false, false, false, false, false, false, false, false, false, false] rfl rfl (one_of HT_.out (by kernel_rfl)) (by decide) (fun K hK => ?_)
        refine goes_ Try.func21 (by kernel_rfl) rfl #[.slice A0 l0.length c0, .int .i64 a1_3] (by rfl) rfl rfl (by simp only [List.map_toArray, List.map_cons, List.map_nil]; rfl) ?_
        with_reducible refine (bulletin_Worst.calls _ _ l0 a1_3 g _ (Kd.C_below HR.out HB.out) HC.out hW).mono ?_
        rintro e wz ⟨rfl, hb⟩
        refine ⟨_, rfl, ?_⟩
        have nL_ := Aside0.mk (And.intro HL.out.1 (Kd.C_below HL.out.2 hb))
        have nG_ := Aside0.mk (And.intro HG.out.1 (Kd.C_below HG.out.2 hb))
        have nP_ := Aside0.mk (blk_below BP.out hb)
        have nB_ := Aside0.mk (below_step HB.out hb)
        clear HL HG BP HB hb
        have HL := nL_
        have HG := nG_
        have BP := nP_
        have HB := nB_
        clear nL_ nG_ nP_ nB_
        refine hK.out _ _ ⟨((blk_cell BP.out 0).trans rfl), ((blk_cell BP.out 1).trans rfl), ((blk_cell BP.out 2).trans rfl), ((blk_cell BP.out 3).trans rfl)⟩ (fun hHeld => ?_)
        clear hK K
        refine norm_ (a' := ?_) ?_ ?_
        rotate_left
        · show Act.put _ (some 95) _ = _
          simp only [Act.put, List.setIfInBounds_toArray, List.set_cons_zero, List.set_cons_succ, i64_w, i32_w]
          rfl
        refine pure_ (i := 5) (N := some 97) (v := ?_) (a' := ?_) #[true, true, true, true, true, true, false, false, false, false, false, false, false, false, false, false, false, false, false, false, false, false, false, false, false, false, false, false, false, false, false, false, false, false, false, false, false, false, false, false, false, false, false, false, false, false, false, false] rfl rfl (any_of HT_.out (by kernel_rfl)) (fun _ _ _ h => h) (Or.inl ⟨by rfl, ?_⟩) ?_ ?_
        rotate_left
        · intro w'
          go_simp
          with_reducible rfl
        rotate_left
        · simp only [Act.put, List.setIfInBounds_toArray, List.set_cons_zero, List.set_cons_succ, i64_w, i32_w]
          rfl
        refine pure_ (i := 6) (N := some 98) (v := ?_) (a' := ?_) #[true, true, true, true, true, true, true, false, false, false, false, false, false, false, false, false, false, false, false, false, false, false, false, false, false, false, false, false, false, false, false, false, false, false, false, false, false, false, false, false, false, false, false, false, false, false, false, false] rfl rfl (any_of HT_.out (by kernel_rfl)) (fun _ _ _ h => h) (Or.inl ⟨by rfl, ?_⟩) ?_ ?_
        rotate_left
        · intro w'
          go_simp
          with_reducible rfl
        rotate_left
        · simp only [Act.put, List.setIfInBounds_toArray, List.set_cons_zero, List.set_cons_succ, i64_w, i32_w]
          rfl
        refine pure_ (i := 7) (N := some 99) (v := ?_) (a' := ?_) #[true, true, true, true, true, true, true, true, false, false, false, false, false, false, false, false, false, false, false, false, false, false, false, false, false, false, false, false, false, false, false, false, false, false, false, false, false, false, false, false, false, false, false, false, false, false, false, false] rfl rfl (any_of HT_.out (by kernel_rfl)) (fun _ _ _ h => h) (Or.inl ⟨by rfl, ?_⟩) ?_ ?_
        rotate_left
        · intro w'
          go_simp
          with_reducible rfl
        rotate_left
        · simp only [Act.put, List.setIfInBounds_toArray, List.set_cons_zero, List.set_cons_succ, i64_w, i32_w]
          rfl
        refine pure_ (i := 8) (N := some 100) (v := ?_) (a' := ?_) #[true, true, true, true, true, true, true, true, true, false, false, false, false, false, false, false, false, false, false, false, false, false, false, false, false, false, false, false, false, false, false, false, false, false, false, false, false, false, false, false, false, false, false, false, false, false, false, false] rfl rfl (any_of HT_.out (by kernel_rfl)) (fun _ _ _ h => h) (Or.inl ⟨by rfl, ?_⟩) ?_ ?_
        rotate_left
        · intro w'
          go_simp
          with_reducible rfl
        rotate_left
        · simp only [Act.put, List.setIfInBounds_toArray, List.set_cons_zero, List.set_cons_succ, i64_w, i32_w]
          rfl
        refine pure_ (i := 9) (N := some 101) (v := ?_) (a' := ?_) #[true, true, true, true, true, true, true, true, true, true, false, false, false, false, false, false, false, false, false, false, false, false, false, false, false, false, false, false, false, false, false, false, false, false, false, false, false, false, false, false, false, false, false, false, false, false, false, false] rfl rfl (any_of HT_.out (by kernel_rfl)) (fun _ _ _ h => h) (Or.inl ⟨by rfl, ?_⟩) ?_ ?_
        rotate_left
        · intro w'
          go_simp
          with_reducible rfl
        rotate_left
        · simp only [Act.put, List.setIfInBounds_toArray, List.set_cons_zero, List.set_cons_succ, i64_w, i32_w]
          rfl
        refine pure_ (i := 10) (N := some 102) (v := ?_) (a' := ?_) #[true, true, true, true, true, true, true, true, true, true, true, false, false, false, false, false, false, false, false, false, false, false, false, false, false, false, false, false, false, false, false, false, false, false, false, false, false, false, false, false, false, false, false, false, false, false, false, false] rfl rfl (any_of HT_.out (by kernel_rfl)) (fun _ _ _ h => h) (Or.inl ⟨by rfl, ?_⟩) ?_ ?_
        rotate_left
        · intro w'
          go_simp
          with_reducible rfl
        rotate_left
        · simp only [Act.put, List.setIfInBounds_toArray, List.set_cons_zero, List.set_cons_succ, i64_w, i32_w]
          rfl
        refine pure_ (i := 11) (N := some 103) (v := ?_) (a' := ?_) #[true, true, true, true, true, true, true, true, true, true, true, true, false, false, false, false, false, false, false, false, false, false, false, false, false, false, false, false, false, false, false, false, false, false, false, false, false, false, false, false, false, false, false, false, false, false, false, false] rfl rfl (any_of HT_.out (by kernel_rfl)) (fun _ _ _ h => h) (Or.inl ⟨by rfl, ?_⟩) ?_ ?_
        rotate_left
        · intro w'
          go_simp
          with_reducible rfl
        rotate_left
        · simp only [Act.put, List.setIfInBounds_toArray, List.set_cons_zero, List.set_cons_succ, i64_w, i32_w]
          rfl
        refine pure_ (i := 12) (N := some 104) (v := ?_) (a' := ?_) #[true, true, true, true, true, true, true, true, true, true, true, true, true, false, false, false, false, false, false, false, false, false, false, false, false, false, false, false, false, false, false, false, false, false, false, false, false, false, false, false, false, false, false, false, false, false, false, false] rfl rfl (any_of HT_.out (by kernel_rfl)) (fun _ _ _ h => h) (Or.inl ⟨by rfl, ?_⟩) ?_ ?_
        rotate_left
        · intro w'
          go_simp
          with_reducible rfl
        rotate_left
        · simp only [Act.put, List.setIfInBounds_toArray, List.set_cons_zero, List.set_cons_succ, i64_w, i32_w]
          rfl
        refine pure_ (i := 13) (N := some 105) (v := ?_) (a' := ?_) #[true, true, true, true, true, true, true, true, true, true, true, true, true, true, false, false, false, false, false, false, false, false, false, false, false, false, false, false, false, false, false, false, false, false, false, false, false, false, false, false, false, false, false, false, false, false, false, false] rfl rfl (any_of HT_.out (by kernel_rfl)) (fun _ _ _ h => h) (Or.inl ⟨by rfl, ?_⟩) ?_ ?_
        rotate_left
        · intro w'
          go_simp
          with_reducible rfl
        rotate_left
        · simp only [Act.put, List.setIfInBounds_toArray, List.set_cons_zero, List.set_cons_succ, i64_w, i32_w]
          rfl
        refine pure_ (i := 14) (N := some 106) (v := ?_) (a' := ?_) #[true, true, true, true, true, true, true, true, true, true, true, true, true, true, true, false, false, false, false, false, false, false, false, false, false, false, false, false, false, false, false, false, false, false, false, false, false, false, false, false, false, false, false, false, false, false, false, false] rfl rfl (any_of HT_.out (by kernel_rfl)) (fun _ _ _ h => h) (Or.inl ⟨by rfl, ?_⟩) ?_ ?_
        rotate_left
        · intro w'
          go_simp
          with_reducible rfl
        rotate_left
        · simp only [Act.put, List.setIfInBounds_toArray, List.set_cons_zero, List.set_cons_succ, i64_w, i32_w]
          rfl
        refine pure_ (i := 15) (N := some 107) (v := ?_) (a' := ?_) #[true, true, true, true, true, true, true, true, true, true, true, true, true, true, true, true, false, false, false, false, false, false, false, false, false, false, false, false, false, false, false, false, false, false, false, false, false, false, false, false, false, false, false, false, false, false, false, false] rfl rfl (any_of HT_.out (by kernel_rfl)) (fun _ _ _ h => h) (Or.inl ⟨by rfl, ?_⟩) ?_ ?_
        rotate_left
        · intro w'
          go_simp
          with_reducible rfl
        rotate_left
        · simp only [Act.put, List.setIfInBounds_toArray, List.set_cons_zero, List.set_cons_succ, i64_w, i32_w]
          rfl
        refine pure_ (i := 18) (N := some 110) (v := ?_) (a' := ?_) #[true, true, true, true, true, true, true, true, true, true, true, true, true, true, true, true, false, false, true, false, false, false, false, false, false, false, false, false, false, false, false, false, false, false, false, false, false, false, false, false, false, false, false, false, false, false, false, false] rfl rfl (any_of HT_.out (by kernel_rfl)) (fun _ _ _ h => h) (Or.inl ⟨by rfl, ?_⟩) ?_ ?_
        rotate_left
        · intro w'
          go_simp
          with_reducible rfl
        rotate_left
        · simp only [Act.put, List.setIfInBounds_toArray, List.set_cons_zero, List.set_cons_succ, i64_w, i32_w]
          rfl
        refine take_ (i := 16) (N := some 108) (v := ?_) (a' := ?_) #[true, true, true, true, true, true, true, true, true, true, true, true, true, true, true, true, true, false, true, false, false, false, false, false, false, false, false, false, false, false, false, false, false, false, false, false, false, false, false, false, false, false, false, false, false, false, false, false] rfl rfl (take_ofW HT_.out HW_.out (by kernel_rfl)) (fun _ _ _ h => h) (Or.inl ⟨by rfl, ?_⟩) hHeld ?_ ?_
        rotate_left
        · rintro w' ⟨s0, s1, s2, s3⟩
          go_simp
          with_reducible rfl
        rotate_left
        · simp only [Act.put, List.setIfInBounds_toArray, List.set_cons_zero, List.set_cons_succ, i64_w, i32_w]
          rfl
        refine one_ (i := 17) (N := some 109) #[true, true, true, true, true, true, true, true, true, true, true, true, true, true, true, true, true, true, true, false, false, false, false, false, false, false, false, false, false, false, false, false, false, false, false, false, false, false, false, false, false, false, false, false, false, false, false, false] rfl rfl (one_of HT_.out (by kernel_rfl)) (by decide) (fun K hK => ?_)
        refine goes_ Try.func17 (by kernel_rfl) rfl #[.slice A8 LL.length c8, .int .i64 a1_3] (by rfl) rfl rfl (by simp only [List.map_toArray, List.map_cons, List.map_nil]; rfl) ?_
        with_reducible refine (bulletin_Current.calls kL _ _ LL a1_3 n _ HL.out.2 HL.out.1 hCL).mono ?_
        rintro e wz ⟨rfl, hb⟩
        refine ⟨_, rfl, ?_⟩
        have nL_ := Aside0.mk (And.intro HL.out.1 (Kd.C_below HL.out.2 hb))
        have nG_ := Aside0.mk (And.intro HG.out.1 (Kd.C_below HG.out.2 hb))
        have nP_ := Aside0.mk (blk_below BP.out hb)
        have nB_ := Aside0.mk (below_step HB.out hb)
        clear HL HG BP HB hb
        have HL := nL_
        have HG := nG_
        have BP := nP_
        have HB := nB_
        clear nL_ nG_ nP_ nB_
        refine hK.out _ _ ⟨((blk_cell BP.out 0).trans rfl), ((blk_cell BP.out 1).trans rfl), ((blk_cell BP.out 2).trans rfl), ((blk_cell BP.out 3).trans rfl)⟩ (fun hHeld => ?_)
        clear hK K
        refine norm_ (a' := ?_) ?_ ?_
        rotate_left
        · show Act.put _ (some 109) _ = _
          simp only [Act.put, List.setIfInBounds_toArray, List.set_cons_zero, List.set_cons_succ, i64_w, i32_w]
          rfl
        refine pure_ (i := 19) (N := some 111) (v := ?_) (a' := ?_) #[true, true, true, true, true, true, true, true, true, true, true, true, true, true, true, true, true, true, true, true, false, false, false, false, false, false, false, false, false, false, false, false, false, false, false, false, false, false, false, false, false, false, false, false, false, false, false, false] rfl rfl (any_of HT_.out (by kernel_rfl)) (fun _ _ _ h => h) (Or.inl ⟨by rfl, ?_⟩) ?_ ?_
        rotate_left
        · intro w'
          go_simp
          with_reducible rfl
        rotate_left
        · simp only [Act.put, List.setIfInBounds_toArray, List.set_cons_zero, List.set_cons_succ, i64_w, i32_w]
          rfl
        refine pure_ (i := 20) (N := some 112) (v := ?_) (a' := ?_) #[true, true, true, true, true, true, true, true, true, true, true, true, true, true, true, true, true, true, true, true, true, false, false, false, false, false, false, false, false, false, false, false, false, false, false, false, false, false, false, false, false, false, false, false, false, false, false, false] rfl rfl (any_of HT_.out (by kernel_rfl)) (fun _ _ _ h => h) (Or.inl ⟨by rfl, ?_⟩) ?_ ?_
        rotate_left
        · intro w'
          go_simp
          with_reducible rfl
        rotate_left
        · simp only [Act.put, List.setIfInBounds_toArray, List.set_cons_zero, List.set_cons_succ, i64_w, i32_w]
          rfl
        refine pure_ (i := 21) (N := some 113) (v := ?_) (a' := ?_) #[true, true, true, true, true, true, true, true, true, true, true, true, true, true, true, true, true, true, true, true, true, true, false, false, false, false, false, false, false, false, false, false, false, false, false, false, false, false, false, false, false, false, false, false, false, false, false, false] rfl rfl (any_of HT_.out (by kernel_rfl)) (fun _ _ _ h => h) (Or.inl ⟨by rfl, ?_⟩) ?_ ?_
        rotate_left
        · intro w'
          go_simp
          with_reducible rfl
        rotate_left
        · simp only [Act.put, List.setIfInBounds_toArray, List.set_cons_zero, List.set_cons_succ, i64_w, i32_w]
          rfl
        refine pure_ (i := 22) (N := some 114) (v := ?_) (a' := ?_) #[true, true, true, true, true, true, true, true, true, true, true, true, true, true, true, true, true, true, true, true, true, true, true, false, false, false, false, false, false, false, false, false, false, false, false, false, false, false, false, false, false, false, false, false, false, false, false, false] rfl rfl (any_of HT_.out (by kernel_rfl)) (fun _ _ _ h => h) (Or.inl ⟨by rfl, ?_⟩) ?_ ?_
        rotate_left
        · intro w'
          go_simp
          with_reducible rfl
        rotate_left
        · simp only [Act.put, List.setIfInBounds_toArray, List.set_cons_zero, List.set_cons_succ, i64_w, i32_w]
          rfl
        refine pure_ (i := 25) (N := some 117) (v := ?_) (a' := ?_) #[true, true, true, true, true, true, true, true, true, true, true, true, true, true, true, true, true, true, true, true, true, true, true, false, false, true, false, false, false, false, false, false, false, false, false, false, false, false, false, false, false, false, false, false, false, false, false, false] rfl rfl (any_of HT_.out (by kernel_rfl)) (fun _ _ _ h => h) (Or.inl ⟨by rfl, ?_⟩) ?_ ?_
        rotate_left
        · intro w'
          go_simp
          with_reducible rfl
        rotate_left
        · simp only [Act.put, List.setIfInBounds_toArray, List.set_cons_zero, List.set_cons_succ, i64_w, i32_w]
          rfl
        refine take_ (i := 23) (N := some 115) (v := ?_) (a' := ?_) #[true, true, true, true, true, true, true, true, true, true, true, true, true, true, true, true, true, true, true, true, true, true, true, true, false, true, false, false, false, false, false, false, false, false, false, false, false, false, false, false, false, false, false, false, false, false, false, false] rfl rfl (take_ofW HT_.out HW_.out (by kernel_rfl)) (fun _ _ _ h => h) (Or.inl ⟨by rfl, ?_⟩) hHeld ?_ ?_
        rotate_left
        · rintro w' ⟨s0, s1, s2, s3⟩
          go_simp
          with_reducible rfl
        rotate_left
        · simp only [Act.put, List.setIfInBounds_toArray, List.set_cons_zero, List.set_cons_succ, i64_w, i32_w]
          rfl
        refine take_ (i := 26) (N := some 118) (v := ?_) (a' := ?_) #[true, true, true, true, true, true, true, true, true, true, true, true, true, true, true, true, true, true, true, true, true, true, true, true, false, true, true, false, false, false, false, false, false, false, false, false, false, false, false, false, false, false, false, false, false, false, false, false] rfl rfl (take_ofW HT_.out HW_.out (by kernel_rfl)) (fun _ _ _ h => h) (Or.inl ⟨by rfl, ?_⟩) hHeld ?_ ?_
        rotate_left
        · rintro w' ⟨s0, s1, s2, s3⟩
          go_simp
          with_reducible rfl
        rotate_left
        · simp only [Act.put, List.setIfInBounds_toArray, List.set_cons_zero, List.set_cons_succ, i64_w, i32_w]
          rfl
        refine one_ (i := 24) (N := some 116) #[true, true, true, true, true, true, true, true, true, true, true, true, true, true, true, true, true, true, true, true, true, true, true, true, true, true, true, false, false, false, false, false, false, false, false, false, false, false, false, false, false, false, false, false, false, false, false, false] rfl rfl (one_of HT_.out (by kernel_rfl)) (by decide) (fun K hK => ?_)
        refine goes_ Try.func19 (by kernel_rfl) rfl #[.slice A8 LL.length c8, .agg #[.int .i64 a1_0, .int .i64 a1_1, .int .i64 a1_2, .int .i64 a1_3]] (by rfl) rfl rfl (by simp only [List.map_toArray, List.map_cons, List.map_nil]; rfl) ?_
        with_reducible refine (skiarealaw49_level.calls _ _ LL a1_0 a1_1 a1_2 a1_3 u _ HL.out.2 HL.out.1 hLL).mono ?_
        rintro e wz ⟨rfl, hb⟩
        refine ⟨_, rfl, ?_⟩
        have nL_ := Aside0.mk (And.intro HL.out.1 (Kd.C_below HL.out.2 hb))
        have nG_ := Aside0.mk (And.intro HG.out.1 (Kd.C_below HG.out.2 hb))
        have nP_ := Aside0.mk (blk_below BP.out hb)
        have nB_ := Aside0.mk (below_step HB.out hb)
        clear HL HG BP HB hb
        have HL := nL_
        have HG := nG_
        have BP := nP_
        have HB := nB_
        clear nL_ nG_ nP_ nB_
        refine hK.out _ _ ⟨((blk_cell BP.out 0).trans rfl), ((blk_cell BP.out 1).trans rfl), ((blk_cell BP.out 2).trans rfl), ((blk_cell BP.out 3).trans rfl)⟩ (fun hHeld => ?_)
        clear hK K
        refine norm_ (a' := ?_) ?_ ?_
        rotate_left
        · show Act.put _ (some 116) _ = _
          simp only [Act.put, List.setIfInBounds_toArray, List.set_cons_zero, List.set_cons_succ, i64_w, i32_w]
          rfl
        refine one_ (i := 27) (N := some 119) #[true, true, true, true, true, true, true, true, true, true, true, true, true, true, true, true, true, true, true, true, true, true, true, true, true, true, true, true, false, false, false, false, false, false, false, false, false, false, false, false, false, false, false, false, false, false, false, false] rfl rfl (one_of HT_.out (by kernel_rfl)) (by decide) (fun K hK => ?_)
        refine goes_ Try.func19 (by kernel_rfl) rfl #[.slice A0 l0.length c0, .agg #[.int .i64 a1_0, .int .i64 a1_1, .int .i64 a1_2, .int .i64 a1_3]] (by rfl) rfl rfl (by simp only [List.map_toArray, List.map_cons, List.map_nil]; rfl) ?_
        with_reducible refine (skiarealaw49_level.calls _ _ l0 a1_0 a1_1 a1_2 a1_3 u _ (Kd.C_below HR.out HB.out) HC.out hLV).mono ?_
        rintro e wz ⟨rfl, hb⟩
        refine ⟨_, rfl, ?_⟩
        have nL_ := Aside0.mk (And.intro HL.out.1 (Kd.C_below HL.out.2 hb))
        have nG_ := Aside0.mk (And.intro HG.out.1 (Kd.C_below HG.out.2 hb))
        have nP_ := Aside0.mk (blk_below BP.out hb)
        have nB_ := Aside0.mk (below_step HB.out hb)
        clear HL HG BP HB hb
        have HL := nL_
        have HG := nG_
        have BP := nP_
        have HB := nB_
        clear nL_ nG_ nP_ nB_
        refine hK.out _ _ ⟨((blk_cell BP.out 0).trans rfl), ((blk_cell BP.out 1).trans rfl), ((blk_cell BP.out 2).trans rfl), ((blk_cell BP.out 3).trans rfl)⟩ (fun hHeld => ?_)
        clear hK K
        refine norm_ (a' := ?_) ?_ ?_
        rotate_left
        · show Act.put _ (some 119) _ = _
          simp only [Act.put, List.setIfInBounds_toArray, List.set_cons_zero, List.set_cons_succ, i64_w, i32_w]
          rfl
        refine pure_ (i := 28) (N := some 120) (v := ?_) (a' := ?_) #[true, true, true, true, true, true, true, true, true, true, true, true, true, true, true, true, true, true, true, true, true, true, true, true, true, true, true, true, true, false, false, false, false, false, false, false, false, false, false, false, false, false, false, false, false, false, false, false] rfl rfl (any_of HT_.out (by kernel_rfl)) (fun _ _ _ h => h) (Or.inl ⟨by rfl, ?_⟩) ?_ ?_
        rotate_left
        · intro w'
          go_simp
          with_reducible rfl
        rotate_left
        · simp only [Act.put, List.setIfInBounds_toArray, List.set_cons_zero, List.set_cons_succ, i64_w, i32_w]
          rfl
        refine pure_ (i := 29) (N := some 121) (v := ?_) (a' := ?_) #[true, true, true, true, true, true, true, true, true, true, true, true, true, true, true, true, true, true, true, true, true, true, true, true, true, true, true, true, true, true, false, false, false, false, false, false, false, false, false, false, false, false, false, false, false, false, false, false] rfl rfl (any_of HT_.out (by kernel_rfl)) (fun _ _ _ h => h) (Or.inl ⟨by rfl, ?_⟩) ?_ ?_
        rotate_left
        · intro w'
          go_simp
          with_reducible rfl
        rotate_left
        · simp only [Act.put, List.setIfInBounds_toArray, List.set_cons_zero, List.set_cons_succ, i64_w, i32_w]
          rfl
        refine pure_ (i := 30) (N := some 122) (v := ?_) (a' := ?_) #[true, true, true, true, true, true, true, true, true, true, true, true, true, true, true, true, true, true, true, true, true, true, true, true, true, true, true, true, true, true, true, false, false, false, false, false, false, false, false, false, false, false, false, false, false, false, false, false] rfl rfl (any_of HT_.out (by kernel_rfl)) (fun _ _ _ h => h) (Or.inl ⟨by rfl, ?_⟩) ?_ ?_
        rotate_left
        · intro w'
          go_simp
          with_reducible rfl
        rotate_left
        · simp only [Act.put, List.setIfInBounds_toArray, List.set_cons_zero, List.set_cons_succ, i64_w, i32_w]
          rfl
        refine pure_ (i := 31) (N := some 123) (v := ?_) (a' := ?_) #[true, true, true, true, true, true, true, true, true, true, true, true, true, true, true, true, true, true, true, true, true, true, true, true, true, true, true, true, true, true, true, true, false, false, false, false, false, false, false, false, false, false, false, false, false, false, false, false] rfl rfl (any_of HT_.out (by kernel_rfl)) (fun _ _ _ h => h) (Or.inl ⟨by rfl, ?_⟩) ?_ ?_
        rotate_left
        · intro w'
          go_simp
          with_reducible rfl
        rotate_left
        · simp only [Act.put, List.setIfInBounds_toArray, List.set_cons_zero, List.set_cons_succ, i64_w, i32_w]
          rfl
        refine pure_ (i := 34) (N := some 126) (v := ?_) (a' := ?_) #[true, true, true, true, true, true, true, true, true, true, true, true, true, true, true, true, true, true, true, true, true, true, true, true, true, true, true, true, true, true, true, true, false, false, true, false, false, false, false, false, false, false, false, false, false, false, false, false] rfl rfl (any_of HT_.out (by kernel_rfl)) (fun _ _ _ h => h) (Or.inl ⟨by rfl, ?_⟩) ?_ ?_
        rotate_left
        · intro w'
          go_simp
          with_reducible rfl
        rotate_left
        · simp only [Act.put, List.setIfInBounds_toArray, List.set_cons_zero, List.set_cons_succ, i64_w, i32_w]
          rfl
        refine take_ (i := 32) (N := some 124) (v := ?_) (a' := ?_) #[true, true, true, true, true, true, true, true, true, true, true, true, true, true, true, true, true, true, true, true, true, true, true, true, true, true, true, true, true, true, true, true, true, false, true, false, false, false, false, false, false, false, false, false, false, false, false, false] rfl rfl (take_ofW HT_.out HW_.out (by kernel_rfl)) (fun _ _ _ h => h) (Or.inl ⟨by rfl, ?_⟩) hHeld ?_ ?_
        rotate_left
        · rintro w' ⟨s0, s1, s2, s3⟩
          go_simp
          with_reducible rfl
        rotate_left
        · simp only [Act.put, List.setIfInBounds_toArray, List.set_cons_zero, List.set_cons_succ, i64_w, i32_w]
          rfl
        refine take_ (i := 35) (N := some 127) (v := ?_) (a' := ?_) #[true, true, true, true, true, true, true, true, true, true, true, true, true, true, true, true, true, true, true, true, true, true, true, true, true, true, true, true, true, true, true, true, true, false, true, true, false, false, false, false, false, false, false, false, false, false, false, false] rfl rfl (take_ofW HT_.out HW_.out (by kernel_rfl)) (fun _ _ _ h => h) (Or.inl ⟨by rfl, ?_⟩) hHeld ?_ ?_
        rotate_left
        · rintro w' ⟨s0, s1, s2, s3⟩
          go_simp
          with_reducible rfl
        rotate_left
        · simp only [Act.put, List.setIfInBounds_toArray, List.set_cons_zero, List.set_cons_succ, i64_w, i32_w]
          rfl
        refine one_ (i := 33) (N := some 125) #[true, true, true, true, true, true, true, true, true, true, true, true, true, true, true, true, true, true, true, true, true, true, true, true, true, true, true, true, true, true, true, true, true, true, true, true, false, false, false, false, false, false, false, false, false, false, false, false] rfl rfl (one_of HT_.out (by kernel_rfl)) (by decide) (fun K hK => ?_)
        refine goes_ Try.func19 (by kernel_rfl) rfl #[.slice A9 CC.length c9, .agg #[.int .i64 a1_0, .int .i64 a1_1, .int .i64 a1_2, .int .i64 a1_3]] (by rfl) rfl rfl (by simp only [List.map_toArray, List.map_cons, List.map_nil]; rfl) ?_
        with_reducible refine (skiarealaw49_level.calls _ _ CC a1_0 a1_1 a1_2 a1_3 u _ HG.out.2 HG.out.1 hLC).mono ?_
        rintro e wz ⟨rfl, hb⟩
        refine ⟨_, rfl, ?_⟩
        have nL_ := Aside0.mk (And.intro HL.out.1 (Kd.C_below HL.out.2 hb))
        have nG_ := Aside0.mk (And.intro HG.out.1 (Kd.C_below HG.out.2 hb))
        have nP_ := Aside0.mk (blk_below BP.out hb)
        have nB_ := Aside0.mk (below_step HB.out hb)
        clear HL HG BP HB hb
        have HL := nL_
        have HG := nG_
        have BP := nP_
        have HB := nB_
        clear nL_ nG_ nP_ nB_
        refine hK.out _ _ ⟨((blk_cell BP.out 0).trans rfl), ((blk_cell BP.out 1).trans rfl), ((blk_cell BP.out 2).trans rfl), ((blk_cell BP.out 3).trans rfl)⟩ (fun hHeld => ?_)
        clear hK K
        refine norm_ (a' := ?_) ?_ ?_
        rotate_left
        · show Act.put _ (some 125) _ = _
          simp only [Act.put, List.setIfInBounds_toArray, List.set_cons_zero, List.set_cons_succ, i64_w, i32_w]
          rfl
        refine one_ (i := 36) (N := some 128) #[true, true, true, true, true, true, true, true, true, true, true, true, true, true, true, true, true, true, true, true, true, true, true, true, true, true, true, true, true, true, true, true, true, true, true, true, true, false, false, false, false, false, false, false, false, false, false, false] rfl rfl (one_of HT_.out (by kernel_rfl)) (by decide) (fun K hK => ?_)
        refine goes_ Try.func19 (by kernel_rfl) rfl #[.slice A0 l0.length c0, .agg #[.int .i64 a1_0, .int .i64 a1_1, .int .i64 a1_2, .int .i64 a1_3]] (by rfl) rfl rfl (by simp only [List.map_toArray, List.map_cons, List.map_nil]; rfl) ?_
        with_reducible refine (skiarealaw49_level.calls _ _ l0 a1_0 a1_1 a1_2 a1_3 u _ (Kd.C_below HR.out HB.out) HC.out hLV).mono ?_
        rintro e wz ⟨rfl, hb⟩
        refine ⟨_, rfl, ?_⟩
        have nL_ := Aside0.mk (And.intro HL.out.1 (Kd.C_below HL.out.2 hb))
        have nG_ := Aside0.mk (And.intro HG.out.1 (Kd.C_below HG.out.2 hb))
        have nP_ := Aside0.mk (blk_below BP.out hb)
        have nB_ := Aside0.mk (below_step HB.out hb)
        clear HL HG BP HB hb
        have HL := nL_
        have HG := nG_
        have BP := nP_
        have HB := nB_
        clear nL_ nG_ nP_ nB_
        refine hK.out _ _ ⟨((blk_cell BP.out 0).trans rfl), ((blk_cell BP.out 1).trans rfl), ((blk_cell BP.out 2).trans rfl), ((blk_cell BP.out 3).trans rfl)⟩ (fun hHeld => ?_)
        clear hK K
        refine norm_ (a' := ?_) ?_ ?_
        rotate_left
        · show Act.put _ (some 128) _ = _
          simp only [Act.put, List.setIfInBounds_toArray, List.set_cons_zero, List.set_cons_succ, i64_w, i32_w]
          rfl
        refine pure_ (i := 37) (N := some 129) (v := ?_) (a' := ?_) #[true, true, true, true, true, true, true, true, true, true, true, true, true, true, true, true, true, true, true, true, true, true, true, true, true, true, true, true, true, true, true, true, true, true, true, true, true, true, false, false, false, false, false, false, false, false, false, false] rfl rfl (any_of HT_.out (by kernel_rfl)) (fun _ _ _ h => h) (Or.inl ⟨by rfl, ?_⟩) ?_ ?_
        rotate_left
        · intro w'
          go_simp
          with_reducible rfl
        rotate_left
        · simp only [Act.put, List.setIfInBounds_toArray, List.set_cons_zero, List.set_cons_succ, i64_w, i32_w]
          rfl
        refine pure_ (i := 38) (N := some 130) (v := ?_) (a' := ?_) #[true, true, true, true, true, true, true, true, true, true, true, true, true, true, true, true, true, true, true, true, true, true, true, true, true, true, true, true, true, true, true, true, true, true, true, true, true, true, true, false, false, false, false, false, false, false, false, false] rfl rfl (any_of HT_.out (by kernel_rfl)) (fun _ _ _ h => h) (Or.inl ⟨by rfl, ?_⟩) ?_ ?_
        rotate_left
        · intro w'
          go_simp
          with_reducible rfl
        rotate_left
        · simp only [Act.put, List.setIfInBounds_toArray, List.set_cons_zero, List.set_cons_succ, i64_w, i32_w]
          rfl
        refine pure_ (i := 39) (N := some 131) (v := ?_) (a' := ?_) #[true, true, true, true, true, true, true, true, true, true, true, true, true, true, true, true, true, true, true, true, true, true, true, true, true, true, true, true, true, true, true, true, true, true, true, true, true, true, true, true, false, false, false, false, false, false, false, false] rfl rfl (any_of HT_.out (by kernel_rfl)) (fun _ _ _ h => h) (Or.inl ⟨by rfl, ?_⟩) ?_ ?_
        rotate_left
        · intro w'
          go_simp
          with_reducible rfl
        rotate_left
        · simp only [Act.put, List.setIfInBounds_toArray, List.set_cons_zero, List.set_cons_succ, i64_w, i32_w]
          rfl
        refine pure_ (i := 40) (N := some 132) (v := ?_) (a' := ?_) #[true, true, true, true, true, true, true, true, true, true, true, true, true, true, true, true, true, true, true, true, true, true, true, true, true, true, true, true, true, true, true, true, true, true, true, true, true, true, true, true, true, false, false, false, false, false, false, false] rfl rfl (any_of HT_.out (by kernel_rfl)) (fun _ _ _ h => h) (Or.inl ⟨by rfl, ?_⟩) ?_ ?_
        rotate_left
        · intro w'
          go_simp
          with_reducible rfl
        rotate_left
        · simp only [Act.put, List.setIfInBounds_toArray, List.set_cons_zero, List.set_cons_succ, i64_w, i32_w]
          rfl
        refine pure_ (i := 41) (N := some 133) (v := ?_) (a' := ?_) #[true, true, true, true, true, true, true, true, true, true, true, true, true, true, true, true, true, true, true, true, true, true, true, true, true, true, true, true, true, true, true, true, true, true, true, true, true, true, true, true, true, true, false, false, false, false, false, false] rfl rfl (any_of HT_.out (by kernel_rfl)) (fun _ _ _ h => h) (Or.inl ⟨by rfl, ?_⟩) ?_ ?_
        rotate_left
        · intro w'
          go_simp
          with_reducible rfl
        rotate_left
        · simp only [Act.put, List.setIfInBounds_toArray, List.set_cons_zero, List.set_cons_succ, i64_w, i32_w]
          rfl
        refine pure_ (i := 44) (N := some 136) (v := ?_) (a' := ?_) #[true, true, true, true, true, true, true, true, true, true, true, true, true, true, true, true, true, true, true, true, true, true, true, true, true, true, true, true, true, true, true, true, true, true, true, true, true, true, true, true, true, true, false, false, true, false, false, false] rfl rfl (any_of HT_.out (by kernel_rfl)) (fun _ _ _ h => h) (Or.inl ⟨by rfl, ?_⟩) ?_ ?_
        rotate_left
        · intro w'
          go_simp
          with_reducible rfl
        rotate_left
        · simp only [Act.put, List.setIfInBounds_toArray, List.set_cons_zero, List.set_cons_succ, i64_w, i32_w]
          rfl
        refine take_ (i := 42) (N := some 134) (v := ?_) (a' := ?_) #[true, true, true, true, true, true, true, true, true, true, true, true, true, true, true, true, true, true, true, true, true, true, true, true, true, true, true, true, true, true, true, true, true, true, true, true, true, true, true, true, true, true, true, false, true, false, false, false] rfl rfl (take_ofW HT_.out HW_.out (by kernel_rfl)) (fun _ _ _ h => h) (Or.inl ⟨by rfl, ?_⟩) hHeld ?_ ?_
        rotate_left
        · rintro w' ⟨s0, s1, s2, s3⟩
          go_simp
          with_reducible rfl
        rotate_left
        · simp only [Act.put, List.setIfInBounds_toArray, List.set_cons_zero, List.set_cons_succ, i64_w, i32_w]
          rfl
        refine one_ (i := 43) (N := some 135) #[true, true, true, true, true, true, true, true, true, true, true, true, true, true, true, true, true, true, true, true, true, true, true, true, true, true, true, true, true, true, true, true, true, true, true, true, true, true, true, true, true, true, true, true, true, false, false, false] rfl rfl (one_of HT_.out (by kernel_rfl)) (by decide) (fun K hK => ?_)
        refine goes_ Try.func21 (by kernel_rfl) rfl #[.slice A9 CC.length c9, .int .i64 a1_3] (by rfl) rfl rfl (by simp only [List.map_toArray, List.map_cons, List.map_nil]; rfl) ?_
        with_reducible refine (bulletin_Worst.calls _ _ CC a1_3 g _ HG.out.2 HG.out.1 hWC).mono ?_
        rintro e wz ⟨rfl, hb⟩
        refine ⟨_, rfl, ?_⟩
        have nL_ := Aside0.mk (And.intro HL.out.1 (Kd.C_below HL.out.2 hb))
        have nG_ := Aside0.mk (And.intro HG.out.1 (Kd.C_below HG.out.2 hb))
        have nP_ := Aside0.mk (blk_below BP.out hb)
        have nB_ := Aside0.mk (below_step HB.out hb)
        clear HL HG BP HB hb
        have HL := nL_
        have HG := nG_
        have BP := nP_
        have HB := nB_
        clear nL_ nG_ nP_ nB_
        refine hK.out _ _ ⟨((blk_cell BP.out 0).trans rfl), ((blk_cell BP.out 1).trans rfl), ((blk_cell BP.out 2).trans rfl), ((blk_cell BP.out 3).trans rfl)⟩ (fun hHeld => ?_)
        clear hK K
        refine norm_ (a' := ?_) ?_ ?_
        rotate_left
        · show Act.put _ (some 135) _ = _
          simp only [Act.put, List.setIfInBounds_toArray, List.set_cons_zero, List.set_cons_succ, i64_w, i32_w]
          rfl
        refine pure_ (i := 45) (N := some 137) (v := ?_) (a' := ?_) #[true, true, true, true, true, true, true, true, true, true, true, true, true, true, true, true, true, true, true, true, true, true, true, true, true, true, true, true, true, true, true, true, true, true, true, true, true, true, true, true, true, true, true, true, true, true, false, false] rfl rfl (any_of HT_.out (by kernel_rfl)) (fun _ _ _ h => h) (Or.inl ⟨by rfl, ?_⟩) ?_ ?_
        rotate_left
        · intro w'
          go_simp
          with_reducible rfl
        rotate_left
        · simp only [Act.put, List.setIfInBounds_toArray, List.set_cons_zero, List.set_cons_succ, i64_w, i32_w]
          rfl
        refine pure_ (i := 46) (N := some 138) (v := ?_) (a' := ?_) #[true, true, true, true, true, true, true, true, true, true, true, true, true, true, true, true, true, true, true, true, true, true, true, true, true, true, true, true, true, true, true, true, true, true, true, true, true, true, true, true, true, true, true, true, true, true, true, false] rfl rfl (any_of HT_.out (by kernel_rfl)) (fun _ _ _ h => h) (Or.inl ⟨by rfl, ?_⟩) ?_ ?_
        rotate_left
        · intro w'
          go_simp
          with_reducible rfl
        rotate_left
        · simp only [Act.put, List.setIfInBounds_toArray, List.set_cons_zero, List.set_cons_succ, i64_w, i32_w]
          rfl
        refine pure_ (i := 47) (N := some 6) (v := ?_) (a' := ?_) #[true, true, true, true, true, true, true, true, true, true, true, true, true, true, true, true, true, true, true, true, true, true, true, true, true, true, true, true, true, true, true, true, true, true, true, true, true, true, true, true, true, true, true, true, true, true, true, true] rfl rfl (any_of HT_.out (by kernel_rfl)) (fun _ _ _ h => h) (Or.inl ⟨by rfl, ?_⟩) ?_ ?_
        rotate_left
        · intro w'
          go_simp
          with_reducible rfl
        rotate_left
        · simp only [Act.put, List.setIfInBounds_toArray, List.set_cons_zero, List.set_cons_succ, i64_w, i32_w]
          rfl
        refine done_ (done_of HT_.out (by kernel_rfl)) ?_
        try go_wp2
        go_ret
        exact ⟨by first | rfl | (simp; done), HB.out⟩
theorem ownLatest.all (A0 : Option Addr) (c0 : Nat) (l0 : List S31) (a1_0 a1_1 a1_2 a1_3 a2 : Int) (w : World) (hr0 : Kd.C k31 w A0 l0.length l0) (hc0 : l0.length ≤ c0) : Calls Try.prog 6 #[.slice A0 l0.length c0, .agg #[.int .i64 a1_0, .int .i64 a1_1, .int .i64 a1_2, .int .i64 a1_3], .int .i64 a2] w fun e w' => e = .returned (.bool true) ∧ Below w.heap.size w w' := by
  obtain ⟨b, hbE, hb2⟩ := rightL_ev l0
  obtain ⟨kR, hR⟩ := hbE.rounds
  cases b with
  | false => exact latest_no A0 c0 l0 a1_0 a1_1 a1_2 a1_3 a2 w hr0 hc0 kR hR
  | true =>
    have hr := hb2.1 rfl
    by_cases h1 : a2 < 1
    · exact latest_lo A0 c0 l0 a1_0 a1_1 a1_2 a1_3 a2 w hr0 hc0 kR hR h1
    · by_cases h2 : 5 < a2
      · exact latest_hi A0 c0 l0 a1_0 a1_1 a1_2 a1_3 a2 w hr0 hc0 kR hR h1 h2
      · have hm := hr.2.1
        obtain ⟨kC, hC⟩ := (cur_ev l0 a1_3 (by omega)).rounds
        obtain ⟨kL, hL⟩ := (cur_ev (latTo l0 (curV l0 a1_3) l0.length) a1_3 (by have := lat_len l0 (curV l0 a1_3) l0.length; omega)).rounds
        rw [lat_cur] at hL
        exact latest_main A0 c0 l0 a1_0 a1_1 a1_2 a1_3 a2 w hr0 hc0 kR hR h1 h2 hr kC hC kL (grV (lvlB a1_0 a1_1 a1_2) l0 a1_3) hL (by rw [level_f, lat_gr]) (level_f _ _ _ _ _) (by rw [level_f, chg_gr]) (by rw [bulletin_Worst.f, chg_gr]; rfl) (wor_cur hr).symm
def ownLatest.f (l0 : List S31) (a1_0 a1_1 a1_2 a1_3 a2 : Int) : Option Bool := some true
theorem ownLatest.calls (A0 : Option Addr) (c0 : Nat) (l0 : List S31) (a1_0 a1_1 a1_2 a1_3 a2 : Int) (r : Bool) (w : World) (hr0 : Kd.C k31 w A0 l0.length l0) (hc0 : l0.length ≤ c0) (h : ownLatest.f l0 a1_0 a1_1 a1_2 a1_3 a2 = some r) :
    Calls Try.prog 6 #[.slice A0 l0.length c0, .agg #[.int .i64 a1_0, .int .i64 a1_1, .int .i64 a1_2, .int .i64 a1_3], .int .i64 a2] w fun e w' => e = .returned (.bool r) ∧ Below w.heap.size w w' := by
  obtain rfl := Option.some.inj h
  exact ownLatest.all A0 c0 l0 a1_0 a1_1 a1_2 a1_3 a2 w hr0 hc0
end Go.Proofs.Ytibmbffhlicpaaa.A
