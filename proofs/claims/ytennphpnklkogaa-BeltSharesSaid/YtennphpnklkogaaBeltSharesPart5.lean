/- BeltShares: for every input the law answers true and its arguments read as before; no condition. Part 5 of 5: W47, BRef, W48, W49, W51, W52, SepO, W50, W53, SharesEnd. -/
import Derived.Test.YtennphpnklkogaaBeltSharesPart4
set_option linter.unusedSimpArgs false
set_option linter.unusedVariables false
/- The reference: which belts are right. -/
namespace Go.Sx
open Go.Proofs
set_option maxRecDepth 100000
theorem allI_no {n i : Nat} {p : Nat → Bool} (hi : i < n) (h : p i = false) : allI n p = false := by
  simp only [allI, List.all_eq_false, List.mem_range]; exact ⟨i, hi, by simp [h]⟩
theorem allI_yes {n : Nat} {p : Nat → Bool} (h : ∀ i, i < n → p i = true) : allI n p = true := allI_iff.2 h
attribute [local irreducible] Code.wpIn wpListIn Exit.then Exit.inBlock BQ Again Hd St En OpT box blk RQ BQ0 fmap own Desk Chute
theorem piecesR_ct (h : Heap) (t : Nat → Int) : CT Try.prog 45 [.agg (trayL t).toArray] h [] (DetW (.bool (piecesD t)) []) := by
  refine ct_intro Try.func45 rfl rfl rfl rfl fun Φ => ?_
  refine en_seq <| en_region <| en_box rfl rfl rfl fun b1 => en_det (opT_assign rfl) rfl <| en_nil <| en_then <| en_seq <| en_seq <| en_region <| en_det (opT_assign rfl) rfl <| en_nil <| en_then <| en_block <| ?_
  refine en_loop (fun k : Nat => k ≤ 5 ∧ ∀ m, m < k → inD (t m) 0 60 = true) (fun k => [(1, pt b1), (3, .int .i64 k)]) (fun _ => h) (fun _ => [box b1 70 (trayL t)]) (fun k => 5 - k) 0 ⟨by omega, fun m hm => by omega⟩ ⟨rfl, rfl, trivial⟩ (.refl _) (tkAll _) fun k ⟨hk, hb⟩ => ?_
  refine en_seq <| en_seq <| en_region <| en_det (opT_move rfl) rfl <| ?_
  first | refine en_det (opT_lss_t rfl rfl (by omega)) rfl ?_ | refine en_det (opT_lss_f rfl rfl (by omega)) rfl ?_ | refine en_det (opT_lss rfl rfl) rfl ?_
  refine en_nil <| en_then <| ?_
  refine en_if rfl (fun hlt => ?_) (fun hlt => ?_)
  · skip
    have hk5 : k < 5 := by omega
    have hg : (trayL t)[k]? = some (.int .i64 (t k)) := row_get hk5
    have cO := off_ct (t k) 0 60 h
    skip
    cases hx : inD (t k) 0 60 with
    | true =>
      rw [hx] at cO
      refine en_skip <| en_then <| en_seq <| en_block <| en_seq <| en_region <| en_det (opT_move rfl) rfl <| en_det (opT_idxArr rfl rfl (by omega) (by omega)) rfl <| en_det (opT_load_own rfl hg) rfl <| en_calld (cO) rfl rfl rfl rfl <| en_nil <| en_then <| en_cond_f rfl <| en_skip <| en_blk <| en_then <| en_region <| en_det (opT_move rfl) rfl <| en_det (opT_add rfl rfl (by constructor <;> omega)) rfl <| en_det (opT_assign rfl) rfl <| en_nil <| en_then <| ?_
      refine en_again (k + 1) ⟨by omega, fun m h1 => ?_⟩ (by omega) ⟨rfl, gi rfl (by simp), trivial⟩ (.refl _) inferInstance
      rcases Nat.lt_succ_iff_lt_or_eq.1 h1 with h2 | rfl
      · exact hb m h2
      · exact hx
    | false =>
      rw [hx] at cO
      have e : piecesD t = false := allI_no hk5 hx
      refine en_skip <| en_then <| en_seq <| en_block <| en_seq <| en_region <| en_det (opT_move rfl) rfl <| en_det (opT_idxArr rfl rfl (by omega) (by omega)) rfl <| en_det (opT_load_own rfl hg) rfl <| en_calld (cO) rfl rfl rfl rfl <| en_nil <| en_then <| en_cond_t rfl <| en_seq <| en_region <| en_det (opT_assign rfl) rfl <| en_nil <| en_then <| en_ret <| en_blk_ret <| en_then_ret <| en_then_ret <| en_blk_ret <| en_then_ret <| ?_
      refine en_return (rs := [.tmp 2]) rfl (.cons (.tmp rfl) .nil) (.refl _) (Γ1 := []) ⟨by rw [e]; rfl, rfl⟩
  · skip
    obtain rfl : k = 5 := by omega
    have e : piecesD t = true := allI_yes hb
    refine en_exit <| en_then_exit <| en_then_exit <| en_blk_hit <| en_then <| en_seq <| en_region <| en_det (opT_assign rfl) rfl <| en_nil <| en_then <| en_ret <| ?_
    refine en_return (rs := [.tmp 2]) rfl (.cons (.tmp rfl) .nil) (.refl _) (Γ1 := []) ⟨by rw [e]; rfl, rfl⟩
theorem checkR_ct (h : Heap) (v : Value) (b : BeltD) (hb : IsBelt h v b) : CT Try.prog 26 [v] h [] (DetW (.int .i64 (checkD b)) []) := by
  obtain ⟨tv, hv, rfl, ⟨_, tad, tcp, rfl, tm1, tc1, tp1⟩, rv, ⟨_, had, hcp, rfl, hm1, hc1, hp1⟩, hr⟩ := hb
  refine ct_intro Try.func26 rfl rfl rfl rfl fun Φ => ?_
  skip
  by_cases hn1 : b.nt < 1
  · have hz : checkD b = 3 := by unfold checkD; rw [if_pos]; simp [inD]; omega
    refine en_seq <| en_region <| en_box rfl rfl rfl fun b1 => en_det (opT_assign rfl) rfl <| en_nil <| en_then <| en_seq <| en_seq <| en_region <| en_det (opT_fieldAddr rfl) rfl <| en_det (opT_load_own rfl rfl) rfl <| en_det (opT_len rfl) rfl <| en_det (opT_lss_t rfl rfl (by omega)) rfl <| en_det (opT_move rfl) rfl <| en_g_no rfl rfl rfl <| en_g_no rfl rfl rfl <| en_g_no rfl rfl rfl <| en_g_no rfl rfl rfl <| ?_
    first | refine en_det (opT_pick_t rfl rfl) rfl ?_ | refine en_det (opT_pick_f rfl rfl) rfl ?_
    refine en_det (opT_move rfl) rfl <| en_g_no rfl rfl rfl <| en_g_no rfl rfl rfl <| en_g_no rfl rfl rfl <| en_g_no rfl rfl rfl <| ?_
    first | refine en_det (opT_pick_t rfl rfl) rfl ?_ | refine en_det (opT_pick_f rfl rfl) rfl ?_
    refine en_nil <| en_then <| en_cond_t rfl <| en_seq <| en_region <| en_det (opT_assign rfl) rfl <| en_nil <| en_then <| en_ret <| en_then_ret <| ?_
    refine en_return (rs := [.tmp 2]) rfl (.cons (.tmp rfl) .nil) (.refl _) (Γ1 := []) ⟨by rw [hz]; rfl, rfl⟩
  by_cases hn8 : 8 < b.nt
  · have hz : checkD b = 3 := by unfold checkD; rw [if_pos]; simp [inD]; omega
    refine en_seq <| en_region <| en_box rfl rfl rfl fun b1 => en_det (opT_assign rfl) rfl <| en_nil <| en_then <| en_seq <| en_seq <| en_region <| en_det (opT_fieldAddr rfl) rfl <| en_det (opT_load_own rfl rfl) rfl <| en_det (opT_len rfl) rfl <| en_det (opT_lss_f rfl rfl (by omega)) rfl <| en_det (opT_move rfl) rfl <| en_g_yes rfl rfl <| en_det (opT_fieldAddr rfl) rfl <| en_g_yes rfl rfl <| en_det (opT_load_own rfl rfl) rfl <| en_g_yes rfl rfl <| en_det (opT_len rfl) rfl <| en_g_yes rfl rfl <| en_det (opT_gtr_t rfl rfl (by omega)) rfl <| ?_
    first | refine en_det (opT_pick_t rfl rfl) rfl ?_ | refine en_det (opT_pick_f rfl rfl) rfl ?_
    refine en_det (opT_move rfl) rfl <| en_g_no rfl rfl rfl <| en_g_no rfl rfl rfl <| en_g_no rfl rfl rfl <| en_g_no rfl rfl rfl <| ?_
    first | refine en_det (opT_pick_t rfl rfl) rfl ?_ | refine en_det (opT_pick_f rfl rfl) rfl ?_
    refine en_nil <| en_then <| en_cond_t rfl <| en_seq <| en_region <| en_det (opT_assign rfl) rfl <| en_nil <| en_then <| en_ret <| en_then_ret <| ?_
    refine en_return (rs := [.tmp 2]) rfl (.cons (.tmp rfl) .nil) (.refl _) (Γ1 := []) ⟨by rw [hz]; rfl, rfl⟩
  by_cases hh5 : 5 < b.nh
  · have hz : checkD b = 3 := by unfold checkD; rw [if_pos]; simp [inD]; omega
    refine en_seq <| en_region <| en_box rfl rfl rfl fun b1 => en_det (opT_assign rfl) rfl <| en_nil <| en_then <| en_seq <| en_seq <| en_region <| en_det (opT_fieldAddr rfl) rfl <| en_det (opT_load_own rfl rfl) rfl <| en_det (opT_len rfl) rfl <| en_det (opT_lss_f rfl rfl (by omega)) rfl <| en_det (opT_move rfl) rfl <| en_g_yes rfl rfl <| en_det (opT_fieldAddr rfl) rfl <| en_g_yes rfl rfl <| en_det (opT_load_own rfl rfl) rfl <| en_g_yes rfl rfl <| en_det (opT_len rfl) rfl <| en_g_yes rfl rfl <| en_det (opT_gtr_f rfl rfl (by omega)) rfl <| ?_
    first | refine en_det (opT_pick_t rfl rfl) rfl ?_ | refine en_det (opT_pick_f rfl rfl) rfl ?_
    refine en_det (opT_move rfl) rfl <| en_g_yes rfl rfl <| en_det (opT_fieldAddr rfl) rfl <| en_g_yes rfl rfl <| en_det (opT_load_own rfl rfl) rfl <| en_g_yes rfl rfl <| en_det (opT_len rfl) rfl <| en_g_yes rfl rfl <| en_det (opT_gtr_t rfl rfl (by omega)) rfl <| ?_
    first | refine en_det (opT_pick_t rfl rfl) rfl ?_ | refine en_det (opT_pick_f rfl rfl) rfl ?_
    refine en_nil <| en_then <| en_cond_t rfl <| en_seq <| en_region <| en_det (opT_assign rfl) rfl <| en_nil <| en_then <| en_ret <| en_then_ret <| ?_
    refine en_return (rs := [.tmp 2]) rfl (.cons (.tmp rfl) .nil) (.refl _) (Γ1 := []) ⟨by rw [hz]; rfl, rfl⟩
  have z1 : (!(inD b.nt 1 8) || decide (b.nh > 5)) = false := by simp [inD]; omega
  refine en_seq <| en_region <| en_box rfl rfl rfl fun b1 => en_det (opT_assign rfl) rfl <| en_nil <| en_then <| en_seq <| en_seq <| en_region <| en_det (opT_fieldAddr rfl) rfl <| en_det (opT_load_own rfl rfl) rfl <| en_det (opT_len rfl) rfl <| en_det (opT_lss_f rfl rfl (by omega)) rfl <| en_det (opT_move rfl) rfl <| en_g_yes rfl rfl <| en_det (opT_fieldAddr rfl) rfl <| en_g_yes rfl rfl <| en_det (opT_load_own rfl rfl) rfl <| en_g_yes rfl rfl <| en_det (opT_len rfl) rfl <| en_g_yes rfl rfl <| en_det (opT_gtr_f rfl rfl (by omega)) rfl <| ?_
  first | refine en_det (opT_pick_t rfl rfl) rfl ?_ | refine en_det (opT_pick_f rfl rfl) rfl ?_
  refine en_det (opT_move rfl) rfl <| en_g_yes rfl rfl <| en_det (opT_fieldAddr rfl) rfl <| en_g_yes rfl rfl <| en_det (opT_load_own rfl rfl) rfl <| en_g_yes rfl rfl <| en_det (opT_len rfl) rfl <| en_g_yes rfl rfl <| en_det (opT_gtr_f rfl rfl (by omega)) rfl <| ?_
  first | refine en_det (opT_pick_t rfl rfl) rfl ?_ | refine en_det (opT_pick_f rfl rfl) rfl ?_
  refine en_nil <| en_then <| en_cond_f rfl <| en_skip <| en_then <| en_seq <| en_seq <| en_region <| en_det (opT_assign rfl) rfl <| en_nil <| en_then <| en_block <| ?_
  refine en_loop (fun k : Nat => k ≤ b.nt ∧ ∀ i, i < k → piecesD (b.tray i) = true) (fun k => [(1, pt b1), (3, .int .i64 k)]) (fun _ => h) (fun _ => [box b1 59 [.slice tad b.nt tcp, .slice had b.nh hcp]]) (fun k => b.nt - k) 0 ⟨by omega, fun m hm => by omega⟩ ⟨rfl, rfl, trivial⟩ (.refl _) (tkAll _) fun k ⟨hk, hb⟩ => ?_
  refine en_seq <| en_seq <| en_region <| en_det (opT_move rfl) rfl <| en_det (opT_fieldAddr rfl) rfl <| en_det (opT_load_own rfl rfl) rfl <| en_det (opT_len rfl) rfl <| ?_
  first | refine en_det (opT_lss_t rfl rfl (by omega)) rfl ?_ | refine en_det (opT_lss_f rfl rfl (by omega)) rfl ?_ | refine en_det (opT_lss rfl rfl) rfl ?_
  refine en_nil <| en_then <| ?_
  refine en_if rfl (fun hlt => ?_) (fun hlt => ?_)
  · skip
    have hkl : k < b.nt := by omega
    obtain ⟨tq, toff, rfl, tcells⟩ := tp1 (by omega)
    have hrow : CellsH h tq (toff + k * 5) (trayL (b.tray k)) := tcells.row hkl
    have cO := piecesR_ct h (b.tray k)
    skip
    cases hx : piecesD (b.tray k) with
    | true =>
      rw [hx] at cO
      refine en_skip <| en_then <| en_seq <| en_block <| en_seq <| en_region <| en_det (opT_fieldAddr rfl) rfl <| en_det (opT_load_own rfl rfl) rfl <| en_det (opT_move rfl) rfl <| ?_
      first | refine en_det (opT_idx1 rfl rfl (by omega) (by omega)) rfl ?_ | refine en_det (opT_idx (ks := 0) rfl rfl (by omega) (by omega)) rfl ?_
      refine en_det (opT_loadA_h rfl hrow (row_length _ _)) rfl <| en_calld (cO) rfl rfl rfl rfl <| ?_
      first | refine en_det (opT_not_t rfl) rfl ?_ | refine en_det (opT_not_f rfl) rfl ?_ | refine en_det (opT_not rfl) rfl ?_
      refine en_nil <| en_then <| en_cond_f rfl <| en_skip <| en_blk <| en_then <| en_region <| en_det (opT_move rfl) rfl <| en_det (opT_add rfl rfl (by constructor <;> omega)) rfl <| en_det (opT_assign rfl) rfl <| en_nil <| en_then <| ?_
      refine en_again (k + 1) ⟨by omega, fun m h1 => ?_⟩ (by omega) ⟨rfl, gi rfl (by simp), trivial⟩ (.refl _) inferInstance
      rcases Nat.lt_succ_iff_lt_or_eq.1 h1 with h2 | rfl
      · exact hb m h2
      · exact hx
    | false =>
      rw [hx] at cO
      have hz : checkD b = 4 := by unfold checkD; rw [if_neg (by simp [z1]), if_pos (by rw [allI_no hkl hx]; rfl)]
      refine en_skip <| en_then <| en_seq <| en_block <| en_seq <| en_region <| en_det (opT_fieldAddr rfl) rfl <| en_det (opT_load_own rfl rfl) rfl <| en_det (opT_move rfl) rfl <| ?_
      first | refine en_det (opT_idx1 rfl rfl (by omega) (by omega)) rfl ?_ | refine en_det (opT_idx (ks := 0) rfl rfl (by omega) (by omega)) rfl ?_
      refine en_det (opT_loadA_h rfl hrow (row_length _ _)) rfl <| en_calld (cO) rfl rfl rfl rfl <| ?_
      first | refine en_det (opT_not_t rfl) rfl ?_ | refine en_det (opT_not_f rfl) rfl ?_ | refine en_det (opT_not rfl) rfl ?_
      refine en_nil <| en_then <| en_cond_t rfl <| en_seq <| en_region <| en_det (opT_assign rfl) rfl <| en_nil <| en_then <| en_ret <| en_blk_ret <| en_then_ret <| en_then_ret <| en_blk_ret <| en_then_ret <| ?_
      refine en_return (rs := [.tmp 2]) rfl (.cons (.tmp rfl) .nil) (.refl _) (Γ1 := []) ⟨by rw [hz]; rfl, rfl⟩
  obtain rfl : k = b.nt := by omega
  have z2 : (allI b.nt fun i => piecesD (b.tray i)) = true := allI_yes hb
  clear hb hlt hk
  refine en_exit <| en_then_exit <| en_then_exit <| en_blk_hit <| en_then <| en_seq <| en_seq <| en_region <| en_det (opT_assign rfl) rfl <| en_nil <| en_then <| en_block <| ?_
  refine en_loop (fun k : Nat => k ≤ b.nh ∧ ∀ i, i < k → (inD (b.hand i).str 0 40 && inD (b.hand i).tire 0 10 && inD (b.hand i).slip 0 100) = true) (fun k => [(1, pt b1), (4, .int .i64 k)]) (fun _ => h) (fun _ => [box b1 59 [.slice tad b.nt tcp, .slice had b.nh hcp]]) (fun k => b.nh - k) 0 ⟨by omega, fun m hm => by omega⟩ ⟨rfl, rfl, trivial⟩ (.refl _) (tkAll _) fun k ⟨hk, hb⟩ => ?_
  refine en_seq <| en_seq <| en_region <| en_det (opT_move rfl) rfl <| en_det (opT_fieldAddr rfl) rfl <| en_det (opT_load_own rfl rfl) rfl <| en_det (opT_len rfl) rfl <| ?_
  first | refine en_det (opT_lss_t rfl rfl (by omega)) rfl ?_ | refine en_det (opT_lss_f rfl rfl (by omega)) rfl ?_ | refine en_det (opT_lss rfl rfl) rfl ?_
  refine en_nil <| en_then <| ?_
  refine en_if rfl (fun hlt => ?_) (fun hlt => ?_)
  · skip
    have hkl : k < b.nh := by omega
    obtain ⟨hq, hoff, rfl, hcells⟩ := hp1 (by omega)
    have hrow : CellsH h hq (hoff + k * 9) (handL (b.hand k) (rv k)) := hcells.row hkl
    have hone := List.all_eq_true.1 (one_handV (H := b.hand k) (hr k hkl).one)
    have cA := off_ct (b.hand k).str 0 40 h
    have cB := off_ct (b.hand k).tire 0 10 h
    have cC := off_ct (b.hand k).slip 0 100 h
    have hz0 : (inD (b.hand k).str 0 40 && inD (b.hand k).tire 0 10 && inD (b.hand k).slip 0 100) = false → checkD b = 4 := fun hx => by unfold checkD; rw [if_neg (by simp [z1]), if_neg (by simp [z2]), if_pos (by rw [allI_no hkl hx]; rfl)]
    have hby : inD (b.hand k).str 0 40 = true → inD (b.hand k).tire 0 10 = true → inD (b.hand k).slip 0 100 = true → ∀ i, i < k + 1 → (inD (b.hand i).str 0 40 && inD (b.hand i).tire 0 10 && inD (b.hand i).slip 0 100) = true := fun ha hb' hc i hi => by
      rcases Nat.lt_succ_iff_lt_or_eq.1 hi with h2 | rfl
      · exact hb i h2
      · rw [ha, hb', hc]; rfl
    generalize inD (b.hand k).str 0 40 = p1 at cA hz0 hby
    generalize inD (b.hand k).tire 0 10 = p2 at cB hz0 hby
    generalize inD (b.hand k).slip 0 100 = p3 at cC hz0 hby
    skip
    cases p1 with
    | false =>
      refine en_skip <| en_then <| en_seq <| en_block <| en_seq <| en_region <| en_det (opT_fieldAddr rfl) rfl <| en_det (opT_load_own rfl rfl) rfl <| en_det (opT_move rfl) rfl <| ?_
      first | refine en_det (opT_idx1 rfl rfl (by omega) (by omega)) rfl ?_ | refine en_det (opT_idx (ks := 0) rfl rfl (by omega) (by omega)) rfl ?_
      refine en_det (opT_loadA_h rfl hrow (row_length _ _)) rfl <| en_alloc rfl fun b5 => ?_
      refine en_det0 (opT_storeW rfl rfl (row_length _ _) rfl hone) <| en_nil <| en_then <| en_seq <| en_region <| en_det (opT_fieldAddr rfl) rfl <| en_det (opT_load_own rfl rfl) rfl <| en_calld (cA) rfl rfl rfl rfl <| en_det (opT_move rfl) rfl <| en_g_no rfl rfl rfl <| en_g_no rfl rfl rfl <| en_g_no rfl rfl rfl <| ?_
      first | refine en_det (opT_pick_t rfl rfl) rfl ?_ | refine en_det (opT_pick_f rfl rfl) rfl ?_
      refine en_det (opT_move rfl) rfl <| en_g_no rfl rfl rfl <| en_g_no rfl rfl rfl <| en_g_no rfl rfl rfl <| ?_
      first | refine en_det (opT_pick_t rfl rfl) rfl ?_ | refine en_det (opT_pick_f rfl rfl) rfl ?_
      refine en_nil <| en_then <| en_cond_t rfl <| en_seq <| en_region <| en_det (opT_assign rfl) rfl <| en_nil <| en_then <| en_ret <| en_blk_ret <| en_then_ret <| en_then_ret <| en_blk_ret <| en_then_ret <| ?_
      refine en_return (rs := [.tmp 2]) rfl (.cons (.tmp rfl) .nil) (.refl _) (Γ1 := []) ⟨by rw [hz0 rfl]; rfl, rfl⟩
    | true =>
      cases p2 with
      | false =>
        refine en_skip <| en_then <| en_seq <| en_block <| en_seq <| en_region <| en_det (opT_fieldAddr rfl) rfl <| en_det (opT_load_own rfl rfl) rfl <| en_det (opT_move rfl) rfl <| ?_
        first | refine en_det (opT_idx1 rfl rfl (by omega) (by omega)) rfl ?_ | refine en_det (opT_idx (ks := 0) rfl rfl (by omega) (by omega)) rfl ?_
        refine en_det (opT_loadA_h rfl hrow (row_length _ _)) rfl <| en_alloc rfl fun b5 => ?_
        refine en_det0 (opT_storeW rfl rfl (row_length _ _) rfl hone) <| en_nil <| en_then <| en_seq <| en_region <| en_det (opT_fieldAddr rfl) rfl <| en_det (opT_load_own rfl rfl) rfl <| en_calld (cA) rfl rfl rfl rfl <| en_det (opT_move rfl) rfl <| en_g_yes rfl rfl <| en_det (opT_fieldAddr rfl) rfl <| en_g_yes rfl rfl <| en_det (opT_load_own rfl rfl) rfl <| en_g_yes rfl rfl <| en_calld (cB) rfl rfl rfl rfl <| ?_
        first | refine en_det (opT_pick_t rfl rfl) rfl ?_ | refine en_det (opT_pick_f rfl rfl) rfl ?_
        refine en_det (opT_move rfl) rfl <| en_g_no rfl rfl rfl <| en_g_no rfl rfl rfl <| en_g_no rfl rfl rfl <| ?_
        first | refine en_det (opT_pick_t rfl rfl) rfl ?_ | refine en_det (opT_pick_f rfl rfl) rfl ?_
        refine en_nil <| en_then <| en_cond_t rfl <| en_seq <| en_region <| en_det (opT_assign rfl) rfl <| en_nil <| en_then <| en_ret <| en_blk_ret <| en_then_ret <| en_then_ret <| en_blk_ret <| en_then_ret <| ?_
        refine en_return (rs := [.tmp 2]) rfl (.cons (.tmp rfl) .nil) (.refl _) (Γ1 := []) ⟨by rw [hz0 rfl]; rfl, rfl⟩
      | true =>
        cases p3 with
        | false =>
          refine en_skip <| en_then <| en_seq <| en_block <| en_seq <| en_region <| en_det (opT_fieldAddr rfl) rfl <| en_det (opT_load_own rfl rfl) rfl <| en_det (opT_move rfl) rfl <| ?_
          first | refine en_det (opT_idx1 rfl rfl (by omega) (by omega)) rfl ?_ | refine en_det (opT_idx (ks := 0) rfl rfl (by omega) (by omega)) rfl ?_
          refine en_det (opT_loadA_h rfl hrow (row_length _ _)) rfl <| en_alloc rfl fun b5 => ?_
          refine en_det0 (opT_storeW rfl rfl (row_length _ _) rfl hone) <| en_nil <| en_then <| en_seq <| en_region <| en_det (opT_fieldAddr rfl) rfl <| en_det (opT_load_own rfl rfl) rfl <| en_calld (cA) rfl rfl rfl rfl <| en_det (opT_move rfl) rfl <| en_g_yes rfl rfl <| en_det (opT_fieldAddr rfl) rfl <| en_g_yes rfl rfl <| en_det (opT_load_own rfl rfl) rfl <| en_g_yes rfl rfl <| en_calld (cB) rfl rfl rfl rfl <| ?_
          first | refine en_det (opT_pick_t rfl rfl) rfl ?_ | refine en_det (opT_pick_f rfl rfl) rfl ?_
          refine en_det (opT_move rfl) rfl <| en_g_yes rfl rfl <| en_det (opT_fieldAddr rfl) rfl <| en_g_yes rfl rfl <| en_det (opT_load_own rfl rfl) rfl <| en_g_yes rfl rfl <| en_calld (cC) rfl rfl rfl rfl <| ?_
          first | refine en_det (opT_pick_t rfl rfl) rfl ?_ | refine en_det (opT_pick_f rfl rfl) rfl ?_
          refine en_nil <| en_then <| en_cond_t rfl <| en_seq <| en_region <| en_det (opT_assign rfl) rfl <| en_nil <| en_then <| en_ret <| en_blk_ret <| en_then_ret <| en_then_ret <| en_blk_ret <| en_then_ret <| ?_
          refine en_return (rs := [.tmp 2]) rfl (.cons (.tmp rfl) .nil) (.refl _) (Γ1 := []) ⟨by rw [hz0 rfl]; rfl, rfl⟩
        | true =>
          refine en_skip <| en_then <| en_seq <| en_block <| en_seq <| en_region <| en_det (opT_fieldAddr rfl) rfl <| en_det (opT_load_own rfl rfl) rfl <| en_det (opT_move rfl) rfl <| ?_
          first | refine en_det (opT_idx1 rfl rfl (by omega) (by omega)) rfl ?_ | refine en_det (opT_idx (ks := 0) rfl rfl (by omega) (by omega)) rfl ?_
          refine en_det (opT_loadA_h rfl hrow (row_length _ _)) rfl <| en_alloc rfl fun b5 => ?_
          refine en_det0 (opT_storeW rfl rfl (row_length _ _) rfl hone) <| en_nil <| en_then <| en_seq <| en_region <| en_det (opT_fieldAddr rfl) rfl <| en_det (opT_load_own rfl rfl) rfl <| en_calld (cA) rfl rfl rfl rfl <| en_det (opT_move rfl) rfl <| en_g_yes rfl rfl <| en_det (opT_fieldAddr rfl) rfl <| en_g_yes rfl rfl <| en_det (opT_load_own rfl rfl) rfl <| en_g_yes rfl rfl <| en_calld (cB) rfl rfl rfl rfl <| ?_
          first | refine en_det (opT_pick_t rfl rfl) rfl ?_ | refine en_det (opT_pick_f rfl rfl) rfl ?_
          refine en_det (opT_move rfl) rfl <| en_g_yes rfl rfl <| en_det (opT_fieldAddr rfl) rfl <| en_g_yes rfl rfl <| en_det (opT_load_own rfl rfl) rfl <| en_g_yes rfl rfl <| en_calld (cC) rfl rfl rfl rfl <| ?_
          first | refine en_det (opT_pick_t rfl rfl) rfl ?_ | refine en_det (opT_pick_f rfl rfl) rfl ?_
          refine en_nil <| en_then <| en_cond_f rfl <| en_skip <| en_blk <| en_then <| en_region <| en_det (opT_move rfl) rfl <| en_det (opT_add rfl rfl (by constructor <;> omega)) rfl <| en_det (opT_assign rfl) rfl <| en_nil <| en_then <| ?_
          exact en_again (k + 1) ⟨by omega, hby rfl rfl rfl⟩ (by omega) ⟨rfl, gi rfl (by simp), trivial⟩ (.refl _) inferInstance
  obtain rfl : k = b.nh := by omega
  have z3 : (allI b.nh fun i => inD (b.hand i).str 0 40 && inD (b.hand i).tire 0 10 && inD (b.hand i).slip 0 100) = true := allI_yes hb
  clear hb hlt hk
  refine en_exit <| en_then_exit <| en_then_exit <| en_blk_hit <| en_then <| en_seq <| en_seq <| en_region <| en_det (opT_assign rfl) rfl <| en_nil <| en_then <| en_block <| ?_
  refine en_loop (fun k : Nat => k ≤ b.nh ∧ ∀ i, i < k → (allI (b.hand i).rests.length fun j => inD ((b.hand i).rests.getD j 0) 0 (b.nt - 1)) = true) (fun k => [(1, pt b1), (6, .int .i64 k)]) (fun _ => h) (fun _ => [box b1 59 [.slice tad b.nt tcp, .slice had b.nh hcp]]) (fun k => b.nh - k) 0 ⟨by omega, fun m hm => by omega⟩ ⟨rfl, rfl, trivial⟩ (.refl _) (tkAll _) fun k ⟨hk, hb⟩ => ?_
  refine en_seq <| en_seq <| en_region <| en_det (opT_move rfl) rfl <| en_det (opT_fieldAddr rfl) rfl <| en_det (opT_load_own rfl rfl) rfl <| en_det (opT_len rfl) rfl <| ?_
  first | refine en_det (opT_lss_t rfl rfl (by omega)) rfl ?_ | refine en_det (opT_lss_f rfl rfl (by omega)) rfl ?_ | refine en_det (opT_lss rfl rfl) rfl ?_
  refine en_nil <| en_then <| ?_
  refine en_if rfl (fun hlt => ?_) (fun hlt => ?_)
  · skip
    have hkl : k < b.nh := by omega
    obtain ⟨hq, hoff, rfl, hcells⟩ := hp1 (by omega)
    obtain ⟨rad, rcp, hre, rl, rc, rp⟩ := (hr k hkl).shape
    have hcr : cellH h hq (hoff + k * 9 + 8) = some (.slice rad (b.hand k).rests.length rcp) := by
      have := hcells.cell hkl (show 8 < 9 by omega)
      rw [this, ← hre]; rfl
    refine en_skip <| en_then <| en_seq <| en_block <| en_seq <| en_region <| en_det (opT_assign rfl) rfl <| en_nil <| en_then <| en_block <| ?_
    refine en_loop (fun j : Nat => j ≤ (b.hand k).rests.length ∧ ∀ i, i < j → inD ((b.hand k).rests.getD i 0) 0 (b.nt - 1) = true) (fun j => [(1, pt b1), (6, .int .i64 k), (7, .int .i64 j)]) (fun _ => h) (fun _ => [box b1 59 [.slice tad b.nt tcp, .slice (some ⟨hq, hoff, none⟩) b.nh hcp]]) (fun j => (b.hand k).rests.length - j) 0 ⟨by omega, fun m hm => by omega⟩ ⟨rfl, rfl, rfl, trivial⟩ (.refl _) (tkAll _) fun j ⟨hj, hjb⟩ => ?_
    refine en_seq <| en_seq <| en_region <| en_det (opT_move rfl) rfl <| en_det (opT_fieldAddr rfl) rfl <| en_det (opT_load_own rfl rfl) rfl <| en_det (opT_move rfl) rfl <| ?_
    first | refine en_det (opT_idx1 rfl rfl (by omega) (by omega)) rfl ?_ | refine en_det (opT_idx (ks := 0) rfl rfl (by omega) (by omega)) rfl ?_
    refine en_det (opT_fieldAddr rfl) rfl <| ?_
    first | refine en_det (opT_load_h rfl (by assumption)) rfl ?_ | refine en_det (opT_load_own rfl rfl) rfl ?_
    refine en_det (opT_len rfl) rfl <| ?_
    first | refine en_det (opT_lss_t rfl rfl (by omega)) rfl ?_ | refine en_det (opT_lss_f rfl rfl (by omega)) rfl ?_ | refine en_det (opT_lss rfl rfl) rfl ?_
    refine en_nil <| en_then <| ?_
    refine en_if rfl (fun hlt2 => ?_) (fun hlt2 => ?_)
    · skip
      have hjl : j < (b.hand k).rests.length := by omega
      obtain ⟨rq, roff, rfl, rcc⟩ := rp (by omega)
      have hcj := rcc j hjl
      rw [← getD_lt hjl] at hcj
      have cO := off_ct ((b.hand k).rests.getD j 0) 0 (b.nt - 1) h
      skip
      cases hx : inD ((b.hand k).rests.getD j 0) 0 (b.nt - 1) with
      | true =>
        rw [hx] at cO
        refine en_skip <| en_then <| en_seq <| en_block <| en_seq <| en_draw0 [0, 1, 2, 3, 4, 5, 6, 7, 8, 9, 10, 11, 12, 13] (by kernel_rfl) (by decide +kernel) (by decide +kernel) (by decide) <| dp_p rfl (fun _ _ => opT_fieldAddr rfl) rfl rfl rfl <| dp_q rfl (opT_load_own rfl rfl) rfl rfl rfl <| dp_p rfl (fun _ _ => opT_move rfl) rfl rfl rfl <| ?_
        first | refine dp_p rfl (fun _ _ => opT_idx1 rfl rfl (by omega) (by omega)) rfl rfl rfl ?_ | refine dp_p rfl (fun _ _ => opT_idx (ks := 0) rfl rfl (by omega) (by omega)) rfl rfl rfl ?_
        refine dp_p rfl (fun _ _ => opT_fieldAddr rfl) rfl rfl rfl <| ?_
        first | refine dp_q rfl (opT_load_h rfl (by assumption)) rfl rfl rfl ?_ | refine dp_q rfl (opT_load_own rfl rfl) rfl rfl rfl ?_
        refine dp_p rfl (fun _ _ => opT_move rfl) rfl rfl rfl <| ?_
        first | refine dp_p rfl (fun _ _ => opT_idx1 rfl rfl (by omega) (by omega)) rfl rfl rfl ?_ | refine dp_p rfl (fun _ _ => opT_idx (ks := 0) rfl rfl (by omega) (by omega)) rfl rfl rfl ?_
        first | refine dp_q rfl (opT_load_h rfl (by assumption)) rfl rfl rfl ?_ | refine dp_q rfl (opT_load_own rfl rfl) rfl rfl rfl ?_
        refine dp_p rfl (fun _ _ => opT_fieldAddr rfl) rfl rfl rfl <| dp_q rfl (opT_load_own rfl rfl) rfl rfl rfl <| dp_p rfl (fun _ _ => opT_len rfl) rfl rfl rfl <| dp_p rfl (fun _ _ => opT_sub rfl rfl (by constructor <;> omega)) rfl rfl rfl <| dp_ed0 rfl (opT_callw (cO) rfl rfl rfl) rfl rfl rfl rfl <| dp_done0 <| en_then <| en_cond_f rfl <| en_skip <| en_blk <| en_then <| en_region <| en_det (opT_move rfl) rfl <| en_det (opT_add rfl rfl (by constructor <;> omega)) rfl <| en_det (opT_assign rfl) rfl <| en_nil <| en_then <| ?_
        refine en_again (j + 1) ⟨by omega, fun m h1 => ?_⟩ (by omega) ⟨rfl, rfl, gi rfl (by simp), trivial⟩ (.refl _) inferInstance
        rcases Nat.lt_succ_iff_lt_or_eq.1 h1 with h2 | rfl
        · exact hjb m h2
        · exact hx
      | false =>
        rw [hx] at cO
        have hz : checkD b = 2 := by unfold checkD; rw [if_neg (by simp [z1]), if_neg (by simp [z2]), if_neg (by simp [z3]), if_pos (by rw [allI_no hkl (allI_no hjl hx)]; rfl)]
        refine en_skip <| en_then <| en_seq <| en_block <| en_seq <| en_draw0 [0, 1, 2, 3, 4, 5, 6, 7, 8, 9, 10, 11, 12, 13] (by kernel_rfl) (by decide +kernel) (by decide +kernel) (by decide) <| dp_p rfl (fun _ _ => opT_fieldAddr rfl) rfl rfl rfl <| dp_q rfl (opT_load_own rfl rfl) rfl rfl rfl <| dp_p rfl (fun _ _ => opT_move rfl) rfl rfl rfl <| ?_
        first | refine dp_p rfl (fun _ _ => opT_idx1 rfl rfl (by omega) (by omega)) rfl rfl rfl ?_ | refine dp_p rfl (fun _ _ => opT_idx (ks := 0) rfl rfl (by omega) (by omega)) rfl rfl rfl ?_
        refine dp_p rfl (fun _ _ => opT_fieldAddr rfl) rfl rfl rfl <| ?_
        first | refine dp_q rfl (opT_load_h rfl (by assumption)) rfl rfl rfl ?_ | refine dp_q rfl (opT_load_own rfl rfl) rfl rfl rfl ?_
        refine dp_p rfl (fun _ _ => opT_move rfl) rfl rfl rfl <| ?_
        first | refine dp_p rfl (fun _ _ => opT_idx1 rfl rfl (by omega) (by omega)) rfl rfl rfl ?_ | refine dp_p rfl (fun _ _ => opT_idx (ks := 0) rfl rfl (by omega) (by omega)) rfl rfl rfl ?_
        first | refine dp_q rfl (opT_load_h rfl (by assumption)) rfl rfl rfl ?_ | refine dp_q rfl (opT_load_own rfl rfl) rfl rfl rfl ?_
        refine dp_p rfl (fun _ _ => opT_fieldAddr rfl) rfl rfl rfl <| dp_q rfl (opT_load_own rfl rfl) rfl rfl rfl <| dp_p rfl (fun _ _ => opT_len rfl) rfl rfl rfl <| dp_p rfl (fun _ _ => opT_sub rfl rfl (by constructor <;> omega)) rfl rfl rfl <| dp_ed0 rfl (opT_callw (cO) rfl rfl rfl) rfl rfl rfl rfl <| dp_done0 <| en_then <| en_cond_t rfl <| en_seq <| en_region <| en_det (opT_assign rfl) rfl <| en_nil <| en_then <| en_ret <| en_blk_ret <| en_then_ret <| en_then_ret <| en_blk_ret <| en_blk_ret <| en_then_ret <| en_then_ret <| en_blk_ret <| en_then_ret <| ?_
        refine en_return (rs := [.tmp 2]) rfl (.cons (.tmp rfl) .nil) (.refl _) (Γ1 := []) ⟨by rw [hz]; rfl, rfl⟩
    · skip
      obtain rfl : j = (b.hand k).rests.length := by omega
      refine en_exit <| en_then_exit <| en_then_exit <| en_blk_hit <| en_blk <| en_then <| en_region <| en_det (opT_move rfl) rfl <| en_det (opT_add rfl rfl (by constructor <;> omega)) rfl <| en_det (opT_assign rfl) rfl <| en_nil <| en_then <| ?_
      refine en_again (k + 1) ⟨by omega, fun m h1 => ?_⟩ (by omega) ⟨rfl, gi rfl (by simp), trivial⟩ (.refl _) inferInstance
      rcases Nat.lt_succ_iff_lt_or_eq.1 h1 with h2 | rfl
      · exact hb m h2
      · exact allI_yes hjb
  obtain rfl : k = b.nh := by omega
  have z4 : (allI b.nh fun i => allI (b.hand i).rests.length fun j => inD ((b.hand i).rests.getD j 0) 0 (b.nt - 1)) = true := allI_yes hb
  clear hb hlt hk
  refine en_exit <| en_then_exit <| en_then_exit <| en_blk_hit <| en_then <| en_seq <| en_seq <| en_region <| en_det (opT_assign rfl) rfl <| en_nil <| en_then <| en_block <| ?_
  refine en_loop (fun k : Nat => k ≤ b.nh ∧ ∀ i, i < k → risesD (b.hand i).rests = true) (fun k => [(1, pt b1), (8, .int .i64 k)]) (fun _ => h) (fun _ => [box b1 59 [.slice tad b.nt tcp, .slice had b.nh hcp]]) (fun k => b.nh - k) 0 ⟨by omega, fun m hm => by omega⟩ ⟨rfl, rfl, trivial⟩ (.refl _) (tkAll _) fun k ⟨hk, hb⟩ => ?_
  refine en_seq <| en_seq <| en_region <| en_det (opT_move rfl) rfl <| en_det (opT_fieldAddr rfl) rfl <| en_det (opT_load_own rfl rfl) rfl <| en_det (opT_len rfl) rfl <| ?_
  first | refine en_det (opT_lss_t rfl rfl (by omega)) rfl ?_ | refine en_det (opT_lss_f rfl rfl (by omega)) rfl ?_ | refine en_det (opT_lss rfl rfl) rfl ?_
  refine en_nil <| en_then <| ?_
  refine en_if rfl (fun hlt => ?_) (fun hlt => ?_)
  · skip
    have hkl : k < b.nh := by omega
    obtain ⟨hq, hoff, rfl, hcells⟩ := hp1 (by omega)
    obtain ⟨rad, rcp, hre, rl, rc, rp⟩ := (hr k hkl).shape
    have hcr : cellH h hq (hoff + k * 9 + 8) = some (.slice rad (b.hand k).rests.length rcp) := by
      have := hcells.cell hkl (show 8 < 9 by omega)
      rw [this, ← hre]; rfl
    refine en_skip <| en_then <| en_seq <| en_block <| en_seq <| en_region <| en_det (opT_assign rfl) rfl <| en_nil <| en_then <| en_block <| ?_
    refine en_loop (fun j : Nat => 1 ≤ j ∧ (j ≤ (b.hand k).rests.length ∨ j = 1) ∧ ∀ i, i + 1 < j → (b.hand k).rests.getD i 0 < (b.hand k).rests.getD (i + 1) 0) (fun j => [(1, pt b1), (8, .int .i64 k), (9, .int .i64 j)]) (fun _ => h) (fun _ => [box b1 59 [.slice tad b.nt tcp, .slice (some ⟨hq, hoff, none⟩) b.nh hcp]]) (fun j => (b.hand k).rests.length - j) 1 ⟨by omega, by omega, fun i hi => by omega⟩ ⟨rfl, rfl, rfl, trivial⟩ (.refl _) (tkAll _) fun j ⟨hj1, hj, hjb⟩ => ?_
    refine en_seq <| en_seq <| en_region <| en_det (opT_move rfl) rfl <| en_det (opT_fieldAddr rfl) rfl <| en_det (opT_load_own rfl rfl) rfl <| en_det (opT_move rfl) rfl <| ?_
    first | refine en_det (opT_idx1 rfl rfl (by omega) (by omega)) rfl ?_ | refine en_det (opT_idx (ks := 0) rfl rfl (by omega) (by omega)) rfl ?_
    refine en_det (opT_fieldAddr rfl) rfl <| ?_
    first | refine en_det (opT_load_h rfl (by assumption)) rfl ?_ | refine en_det (opT_load_own rfl rfl) rfl ?_
    refine en_det (opT_len rfl) rfl <| ?_
    first | refine en_det (opT_lss_t rfl rfl (by omega)) rfl ?_ | refine en_det (opT_lss_f rfl rfl (by omega)) rfl ?_ | refine en_det (opT_lss rfl rfl) rfl ?_
    refine en_nil <| en_then <| ?_
    refine en_if rfl (fun hlt2 => ?_) (fun hlt2 => ?_)
    · skip
      have hjl : j < (b.hand k).rests.length := by omega
      obtain ⟨rq, roff, rfl, rcc⟩ := rp (by omega)
      have hcj := rcc j hjl
      have hcj' := rcc (j - 1) (by omega)
      skip
      by_cases hx : (b.hand k).rests[j] ≤ (b.hand k).rests[j - 1]
      · have hnot : risesD (b.hand k).rests = false := risesD_not (i := j - 1) (by omega) (by
          rw [getD_lt (by omega : j - 1 < (b.hand k).rests.length)]
          have e : j - 1 + 1 = j := by omega
          simp only [e]
          rw [getD_lt hjl]; omega)
        have hz : checkD b = 6 := by unfold checkD; rw [if_neg (by simp [z1]), if_neg (by simp [z2]), if_neg (by simp [z3]), if_neg (by rw [z4]; simp), if_pos (by rw [allI_no hkl hnot]; rfl)]
        refine en_skip <| en_then <| en_seq <| en_block <| en_seq <| en_draw0 [0, 1, 2, 3, 4, 5, 6, 7, 8, 9, 10, 11, 12, 13, 14, 15, 16, 17, 18, 19] (by kernel_rfl) (by decide +kernel) (by decide +kernel) (by decide) <| dp_p rfl (fun _ _ => opT_fieldAddr rfl) rfl rfl rfl <| dp_q rfl (opT_load_own rfl rfl) rfl rfl rfl <| dp_p rfl (fun _ _ => opT_move rfl) rfl rfl rfl <| ?_
        first | refine dp_p rfl (fun _ _ => opT_idx1 rfl rfl (by omega) (by omega)) rfl rfl rfl ?_ | refine dp_p rfl (fun _ _ => opT_idx (ks := 0) rfl rfl (by omega) (by omega)) rfl rfl rfl ?_
        refine dp_p rfl (fun _ _ => opT_fieldAddr rfl) rfl rfl rfl <| ?_
        first | refine dp_q rfl (opT_load_h rfl (by assumption)) rfl rfl rfl ?_ | refine dp_q rfl (opT_load_own rfl rfl) rfl rfl rfl ?_
        refine dp_p rfl (fun _ _ => opT_move rfl) rfl rfl rfl <| ?_
        first | refine dp_p rfl (fun _ _ => opT_idx1 rfl rfl (by omega) (by omega)) rfl rfl rfl ?_ | refine dp_p rfl (fun _ _ => opT_idx (ks := 0) rfl rfl (by omega) (by omega)) rfl rfl rfl ?_
        first | refine dp_q rfl (opT_load_h rfl (by assumption)) rfl rfl rfl ?_ | refine dp_q rfl (opT_load_own rfl rfl) rfl rfl rfl ?_
        refine dp_p rfl (fun _ _ => opT_fieldAddr rfl) rfl rfl rfl <| dp_q rfl (opT_load_own rfl rfl) rfl rfl rfl <| dp_p rfl (fun _ _ => opT_move rfl) rfl rfl rfl <| ?_
        first | refine dp_p rfl (fun _ _ => opT_idx1 rfl rfl (by omega) (by omega)) rfl rfl rfl ?_ | refine dp_p rfl (fun _ _ => opT_idx (ks := 0) rfl rfl (by omega) (by omega)) rfl rfl rfl ?_
        refine dp_p rfl (fun _ _ => opT_fieldAddr rfl) rfl rfl rfl <| ?_
        first | refine dp_q rfl (opT_load_h rfl (by assumption)) rfl rfl rfl ?_ | refine dp_q rfl (opT_load_own rfl rfl) rfl rfl rfl ?_
        refine dp_p rfl (fun _ _ => opT_move rfl) rfl rfl rfl <| ?_
        refine dp_p rfl (fun _ _ => opT_sub_to (c := ((j - 1 : Nat) : Int)) rfl rfl (by constructor <;> omega) (by omega)) rfl rfl rfl ?_
        first | refine dp_p rfl (fun _ _ => opT_idx1 rfl rfl (by omega) (by omega)) rfl rfl rfl ?_ | refine dp_p rfl (fun _ _ => opT_idx (ks := 0) rfl rfl (by omega) (by omega)) rfl rfl rfl ?_
        first | refine dp_q rfl (opT_load_h rfl (by assumption)) rfl rfl rfl ?_ | refine dp_q rfl (opT_load_own rfl rfl) rfl rfl rfl ?_
        refine dp_p rfl (fun _ _ => opT_leq_t rfl rfl (by omega)) rfl rfl rfl <| dp_done0 <| en_then <| en_cond_t rfl <| en_seq <| en_region <| en_det (opT_assign rfl) rfl <| en_nil <| en_then <| en_ret <| en_blk_ret <| en_then_ret <| en_then_ret <| en_blk_ret <| en_blk_ret <| en_then_ret <| en_then_ret <| en_blk_ret <| en_then_ret <| ?_
        refine en_return (rs := [.tmp 2]) rfl (.cons (.tmp rfl) .nil) (.refl _) (Γ1 := []) ⟨by rw [hz]; rfl, rfl⟩
      · skip
        refine en_skip <| en_then <| en_seq <| en_block <| en_seq <| en_draw0 [0, 1, 2, 3, 4, 5, 6, 7, 8, 9, 10, 11, 12, 13, 14, 15, 16, 17, 18, 19] (by kernel_rfl) (by decide +kernel) (by decide +kernel) (by decide) <| dp_p rfl (fun _ _ => opT_fieldAddr rfl) rfl rfl rfl <| dp_q rfl (opT_load_own rfl rfl) rfl rfl rfl <| dp_p rfl (fun _ _ => opT_move rfl) rfl rfl rfl <| ?_
        first | refine dp_p rfl (fun _ _ => opT_idx1 rfl rfl (by omega) (by omega)) rfl rfl rfl ?_ | refine dp_p rfl (fun _ _ => opT_idx (ks := 0) rfl rfl (by omega) (by omega)) rfl rfl rfl ?_
        refine dp_p rfl (fun _ _ => opT_fieldAddr rfl) rfl rfl rfl <| ?_
        first | refine dp_q rfl (opT_load_h rfl (by assumption)) rfl rfl rfl ?_ | refine dp_q rfl (opT_load_own rfl rfl) rfl rfl rfl ?_
        refine dp_p rfl (fun _ _ => opT_move rfl) rfl rfl rfl <| ?_
        first | refine dp_p rfl (fun _ _ => opT_idx1 rfl rfl (by omega) (by omega)) rfl rfl rfl ?_ | refine dp_p rfl (fun _ _ => opT_idx (ks := 0) rfl rfl (by omega) (by omega)) rfl rfl rfl ?_
        first | refine dp_q rfl (opT_load_h rfl (by assumption)) rfl rfl rfl ?_ | refine dp_q rfl (opT_load_own rfl rfl) rfl rfl rfl ?_
        refine dp_p rfl (fun _ _ => opT_fieldAddr rfl) rfl rfl rfl <| dp_q rfl (opT_load_own rfl rfl) rfl rfl rfl <| dp_p rfl (fun _ _ => opT_move rfl) rfl rfl rfl <| ?_
        first | refine dp_p rfl (fun _ _ => opT_idx1 rfl rfl (by omega) (by omega)) rfl rfl rfl ?_ | refine dp_p rfl (fun _ _ => opT_idx (ks := 0) rfl rfl (by omega) (by omega)) rfl rfl rfl ?_
        refine dp_p rfl (fun _ _ => opT_fieldAddr rfl) rfl rfl rfl <| ?_
        first | refine dp_q rfl (opT_load_h rfl (by assumption)) rfl rfl rfl ?_ | refine dp_q rfl (opT_load_own rfl rfl) rfl rfl rfl ?_
        refine dp_p rfl (fun _ _ => opT_move rfl) rfl rfl rfl <| ?_
        refine dp_p rfl (fun _ _ => opT_sub_to (c := ((j - 1 : Nat) : Int)) rfl rfl (by constructor <;> omega) (by omega)) rfl rfl rfl ?_
        first | refine dp_p rfl (fun _ _ => opT_idx1 rfl rfl (by omega) (by omega)) rfl rfl rfl ?_ | refine dp_p rfl (fun _ _ => opT_idx (ks := 0) rfl rfl (by omega) (by omega)) rfl rfl rfl ?_
        first | refine dp_q rfl (opT_load_h rfl (by assumption)) rfl rfl rfl ?_ | refine dp_q rfl (opT_load_own rfl rfl) rfl rfl rfl ?_
        refine dp_p rfl (fun _ _ => opT_leq_f rfl rfl (by omega)) rfl rfl rfl <| dp_done0 <| en_then <| en_cond_f rfl <| en_skip <| en_blk <| en_then <| en_region <| en_det (opT_move rfl) rfl <| en_det (opT_add rfl rfl (by constructor <;> omega)) rfl <| en_det (opT_assign rfl) rfl <| en_nil <| en_then <| ?_
        refine en_again (j + 1) ⟨by omega, by omega, fun i hi => ?_⟩ (by omega) ⟨rfl, rfl, gi rfl (by simp), trivial⟩ (.refl _) inferInstance
        rcases Nat.lt_succ_iff_lt_or_eq.1 hi with h1 | h1
        · exact hjb i h1
        · have e : j - 1 = i := by omega
          subst h1
          rw [getD_lt (by omega : i < (b.hand k).rests.length), getD_lt hjl]
          simp only [e] at hx
          omega
    · skip
      refine en_exit <| en_then_exit <| en_then_exit <| en_blk_hit <| en_blk <| en_then <| en_region <| en_det (opT_move rfl) rfl <| en_det (opT_add rfl rfl (by constructor <;> omega)) rfl <| en_det (opT_assign rfl) rfl <| en_nil <| en_then <| ?_
      refine en_again (k + 1) ⟨by omega, fun m h1 => ?_⟩ (by omega) ⟨rfl, gi rfl (by simp), trivial⟩ (.refl _) inferInstance
      rcases Nat.lt_succ_iff_lt_or_eq.1 h1 with h2 | rfl
      · exact hb m h2
      · exact risesD_of fun i hi => hjb i (by omega)
  obtain rfl : k = b.nh := by omega
  have z5 : (allI b.nh fun i => risesD (b.hand i).rests) = true := allI_yes hb
  have hz : checkD b = 0 := by unfold checkD; rw [if_neg (by simp [z1]), if_neg (by simp [z2]), if_neg (by simp [z3]), if_neg (by rw [z4]; simp), if_neg (by simp [z5])]
  refine en_exit <| en_then_exit <| en_then_exit <| en_blk_hit <| en_then <| en_seq <| en_region <| en_det (opT_assign rfl) rfl <| en_nil <| en_then <| en_ret <| ?_
  refine en_return (rs := [.tmp 2]) rfl (.cons (.tmp rfl) .nil) (.refl _) (Γ1 := []) ⟨by rw [hz]; rfl, rfl⟩
end Go.Sx

/- Piece by piece, and at once: plain. -/
namespace Go.Sx
def avD (takes : Nat → Bool) (L : Nat → Int) (m : Nat) : Int := if takes m = true then L m else 0
def takD (takes : Nat → Bool) (L : Nat → Int) (f : Int) (m : Nat) : Int := min (max 0 (f - sumN m (avD takes L))) (avD takes L m)
def leftF (L0 : Nat → Nat → Int) (t : Nat) (x : Nat → Int) (k : Nat) : Nat → Nat → Int := fun a b => if a = t ∧ b < k then L0 a b - x b else L0 a b
def heapF (P0 : Nat → Nat → Int) (h : Nat) (x : Nat → Int) (k : Nat) : Nat → Nat → Int := fun a b => if a = h ∧ b < k then P0 a b + x b else P0 a b
theorem takD_bound {takes : Nat → Bool} {L : Nat → Int} {f : Int} {m : Nat} (hL : 0 ≤ L m) : 0 ≤ takD takes L f m ∧ takD takes L f m ≤ avD takes L m ∧ avD takes L m ≤ L m ∧ 0 ≤ avD takes L m := by
  unfold takD avD; split <;> omega
theorem takD_no {takes : Nat → Bool} {L : Nat → Int} {f : Int} {m : Nat} (h : takes m = false) : takD takes L f m = 0 := by
  unfold takD avD; rw [h]; simp; omega
theorem sumN_upto {f : Nat → Int} {m : Nat} : ∀ {n : Nat}, m ≤ n → (∀ i, i < n → 0 ≤ f i) → sumN m f ≤ sumN n f
  | 0, h, _ => by rw [show m = 0 by omega]; exact Int.le_refl _
  | n + 1, h, hn => by
    rcases Nat.lt_or_ge m (n + 1) with h1 | h1
    · have := sumN_upto (f := f) (show m ≤ n by omega) fun i hi => hn i (by omega)
      have := hn n (by omega)
      simp only [sumN]; omega
    · rw [show m = n + 1 by omega]; exact Int.le_refl _
section
variable {takes : Nat → Bool} {L : Nat → Int} {i : Nat} {m : Nat}
theorem taken_all (hL : ∀ j, j < 5 → 0 ≤ L j) (hno : ∀ j, j < m → ¬ (takes j = true ∧ 0 < L j - takD takes L i j)) : ∀ k, k ≤ m → k ≤ 5 → sumN k (avD takes L) ≤ i ∧ ∀ j, j < k → takD takes L i j = avD takes L j
  | 0, _, _ => ⟨by simp [sumN], fun j hj => by omega⟩
  | k + 1, h1, h2 => by
    obtain ⟨a, b⟩ := taken_all hL hno k (by omega) (by omega)
    have hb := takD_bound (takes := takes) (L := L) (f := i) (hL k (by omega))
    have hk := hno k (by omega)
    have e : takD takes L i k = avD takes L k := by
      cases ht : takes k with
      | false => rw [takD_no ht]; simp [avD, ht]
      | true =>
        have eA : avD takes L k = L k := by simp [avD, ht]
        have : ¬ 0 < L k - takD takes L i k := fun hh => hk ⟨ht, hh⟩
        omega
    refine ⟨?_, fun j hj => ?_⟩
    · simp only [sumN]
      unfold takD at e
      omega
    · rcases Nat.lt_succ_iff_lt_or_eq.1 hj with h3 | rfl
      · exact b j h3
      · exact e
theorem taken_next (hL : ∀ j, j < 5 → 0 ≤ L j) (hno : ∀ j, j < m → ¬ (takes j = true ∧ 0 < L j - takD takes L i j)) (hm : m < 5) (ht : takes m = true) (hp : 0 < L m - takD takes L i m) :
    ∀ j, j < 5 → takD takes L ((i + 1 : Nat) : Int) j = if j = m then takD takes L i j + 1 else takD takes L i j := fun j hj => by
  obtain ⟨hS, hA⟩ := taken_all hL hno m (Nat.le_refl _) (by omega)
  have hnn : ∀ k, k < 5 → 0 ≤ avD takes L k := fun k hk => (takD_bound (f := 0) (hL k hk)).2.2.2
  have eA : avD takes L m = L m := by simp [avD, ht]
  have hSm : sumN (m + 1) (avD takes L) = sumN m (avD takes L) + L m := by simp only [sumN]; rw [eA]
  rcases Nat.lt_trichotomy j m with h | h | h
  · have e1 := hA j h
    have h1 : sumN (j + 1) (avD takes L) ≤ sumN m (avD takes L) := sumN_upto (by omega) fun k hk => hnn k (by omega)
    simp only [sumN] at h1
    rw [if_neg (by omega), e1]
    have := hnn j hj
    unfold takD
    omega
  · subst h
    rw [if_pos rfl]
    unfold takD at hp ⊢
    rw [eA] at hp ⊢
    omega
  · have h1 : sumN (m + 1) (avD takes L) ≤ sumN j (avD takes L) := sumN_upto (by omega) fun k hk => hnn k (by omega)
    rw [if_neg (by omega)]
    have := hnn j hj
    unfold takD at hp ⊢
    rw [eA] at hp
    omega
theorem taken_none (hL : ∀ j, j < 5 → 0 ≤ L j) (hno : ∀ j, j < 5 → ¬ (takes j = true ∧ 0 < L j - takD takes L i j)) : ∀ j, j < 5 → takD takes L ((i + 1 : Nat) : Int) j = takD takes L i j := fun j hj => by
  obtain ⟨hS, hA⟩ := taken_all (m := 5) hL hno 5 (Nat.le_refl _) (Nat.le_refl _)
  have hnn : ∀ k, k < 5 → 0 ≤ avD takes L k := fun k hk => (takD_bound (f := 0) (hL k hk)).2.2.2
  have e1 := hA j hj
  have h1 : sumN (j + 1) (avD takes L) ≤ sumN 5 (avD takes L) := sumN_upto (by omega) fun k hk => hnn k (by omega)
  simp only [sumN] at h1
  have hS' : sumN 5 (avD takes L) ≤ i := hS
  simp only [sumN] at hS'
  rw [e1]
  have := hnn j hj
  unfold takD
  omega
end
end Go.Sx

/- The reference: the rule, piece by piece. -/
namespace Go.Sx
open Go.Proofs
set_option maxRecDepth 100000
theorem app_out_set {n i j : Nat} {f : Nat → Nat → Int} {v : Int} {tail : List Value} (hi : i < n) (hj : j < 5) : (rows n 5 (icell f) ++ tail).set (i * 5 + j) (.int .i64 v) = rows n 5 (icell (upd2 f i j v)) ++ tail := by
  rw [List.set_append_left _ _ (by rw [rows_length]; exact row_lt hi hj), out_set hj]
theorem left_next {L0 : Nat → Nat → Int} {t m n : Nat} {x y : Nat → Int} (hm : m < 5) (h : ∀ j, j < 5 → y j = if j = m then x j + 1 else x j) : rows n 5 (icell (upd2 (leftF L0 t x 5) t m (L0 t m - x m - 1))) = rows n 5 (icell (leftF L0 t y 5)) := by
  refine rows_congr fun a b _ hb => ?_
  unfold icell
  congr 1
  unfold upd2 leftF
  have := h b hb
  by_cases h1 : a = t
  · subst h1
    by_cases h2 : b = m
    · subst h2; rw [if_pos rfl] at this; simp [hb, this]; omega
    · rw [if_neg h2] at this; simp [hb, this, h2]
  · simp [h1]
theorem heap_next {P0 : Nat → Nat → Int} {h' m n : Nat} {x y : Nat → Int} (hm : m < 5) (h : ∀ j, j < 5 → y j = if j = m then x j + 1 else x j) : rows n 5 (icell (upd2 (heapF P0 h' x 5) h' m (P0 h' m + x m + 1))) = rows n 5 (icell (heapF P0 h' y 5)) := by
  refine rows_congr fun a b _ hb => ?_
  unfold icell
  congr 1
  unfold upd2 heapF
  have := h b hb
  by_cases h1 : a = h'
  · subst h1
    by_cases h2 : b = m
    · subst h2; rw [if_pos rfl] at this; simp [hb, this]; omega
    · rw [if_neg h2] at this; simp [hb, this, h2]
  · simp [h1]
theorem left_same {L0 : Nat → Nat → Int} {t n : Nat} {x y : Nat → Int} (h : ∀ j, j < 5 → y j = x j) : rows n 5 (icell (leftF L0 t x 5)) = rows n 5 (icell (leftF L0 t y 5)) := by
  refine rows_congr fun a b _ hb => ?_
  unfold icell leftF; rw [h b hb]
theorem heap_same {P0 : Nat → Nat → Int} {t n : Nat} {x y : Nat → Int} (h : ∀ j, j < 5 → y j = x j) : rows n 5 (icell (heapF P0 t x 5)) = rows n 5 (icell (heapF P0 t y 5)) := by
  refine rows_congr fun a b _ hb => ?_
  unfold icell heapF; rw [h b hb]
theorem takD_zero {takes : Nat → Bool} {L : Nat → Int} (hl : ∀ m, m < 5 → 0 ≤ L m) : ∀ j, j < 5 → takD takes L ((0 : Nat) : Int) j = 0 := fun j hj => by
  have h1 : 0 ≤ sumN j (avD takes L) := sumN_nn fun i hi => (takD_bound (f := 0) (hl i (by omega))).2.2.2
  have h2 := (takD_bound (takes := takes) (f := 0) (hl j hj)).2.2.2
  unfold takD; simp only [Int.ofNat_zero]; omega
attribute [local irreducible] Code.wpIn wpListIn Exit.then Exit.inBlock BQ Again Hd St En OpT box blk RQ BQ0 fmap own Desk Chute
end Go.Sx

/- The law's own helpers: which belts are big, the reference's belt, belts that are the same. -/
namespace Go.Sx
open Go.Proofs
set_option maxRecDepth 100000
def bigD (b : BeltD) : Bool := decide (10 < b.nt) || decide (7 < b.nh) || !(allI b.nh fun i => decide ((b.hand i).rests.length ≤ 10))
structure Tame (b : BeltD) : Prop where
  nt : b.nt ≤ 10
  nh : b.nh ≤ 7
  re : ∀ i, i < b.nh → (b.hand i).rests.length ≤ 10
theorem bigD_no {b : BeltD} (h : bigD b = false) : Tame b := by
  simp only [bigD, Bool.or_eq_false_iff, decide_eq_false_iff_not, Bool.not_eq_false', allI_iff, decide_eq_true_eq] at h
  exact ⟨by omega, by omega, h.2⟩
theorem Tame.small {b : BeltD} (h : Tame b) : Small b := ⟨by have := h.nt; omega, by have := h.nh; omega, fun i hi => by have := h.re i hi; omega⟩
theorem eg70 : Try.prog.eqGuardType Try.prog.depth 70 = false := by kernel_rfl
theorem tk5_take (H : HandD) (r : Value) : TakeAt (handL H r) 0 5 ((tk5 H).map Value.bool) := ⟨rfl, by rw [row_length]; omega⟩
attribute [local irreducible] Code.wpIn wpListIn Exit.then Exit.inBlock BQ Again Hd St En OpT box blk RQ BQ0 fmap own Desk Chute
theorem big_ct (h : Heap) (v : Value) (b : BeltD) (hb : IsBelt h v b) : CT Try.prog 24 [v] h [] (DetW (.bool (bigD b)) []) := by
  obtain ⟨tv, hv, rfl, ⟨_, tad, tcp, rfl, tm1, tc1, tp1⟩, rv, ⟨_, had, hcp, rfl, hm1, hc1, hp1⟩, hr⟩ := hb
  refine ct_intro Try.func24 rfl rfl rfl rfl fun Φ => ?_
  skip
  by_cases h1 : 10 < b.nt
  · have e : bigD b = true := by simp [bigD, h1]
    refine en_seq <| en_region <| en_box rfl rfl rfl fun b1 => en_det (opT_assign rfl) rfl <| en_nil <| en_then <| en_seq <| en_seq <| en_region <| en_det (opT_fieldAddr rfl) rfl <| en_det (opT_load_own rfl rfl) rfl <| en_det (opT_len rfl) rfl <| en_det (opT_gtr_t rfl rfl (by omega)) rfl <| en_det (opT_move rfl) rfl <| en_g_no rfl rfl rfl <| en_g_no rfl rfl rfl <| en_g_no rfl rfl rfl <| en_g_no rfl rfl rfl <| ?_
    first | refine en_det (opT_pick_t rfl rfl) rfl ?_ | refine en_det (opT_pick_f rfl rfl) rfl ?_
    refine en_nil <| en_then <| en_cond_t rfl <| en_seq <| en_region <| en_det (opT_assign rfl) rfl <| en_nil <| en_then <| en_ret <| en_then_ret <| ?_
    refine en_return (rs := [.tmp 2]) rfl (.cons (.tmp rfl) .nil) (.refl _) (Γ1 := []) ⟨by rw [e]; rfl, rfl⟩
  by_cases h2 : 7 < b.nh
  · have e : bigD b = true := by simp [bigD, h2]
    refine en_seq <| en_region <| en_box rfl rfl rfl fun b1 => en_det (opT_assign rfl) rfl <| en_nil <| en_then <| en_seq <| en_seq <| en_region <| en_det (opT_fieldAddr rfl) rfl <| en_det (opT_load_own rfl rfl) rfl <| en_det (opT_len rfl) rfl <| en_det (opT_gtr_f rfl rfl (by omega)) rfl <| en_det (opT_move rfl) rfl <| en_g_yes rfl rfl <| en_det (opT_fieldAddr rfl) rfl <| en_g_yes rfl rfl <| en_det (opT_load_own rfl rfl) rfl <| en_g_yes rfl rfl <| en_det (opT_len rfl) rfl <| en_g_yes rfl rfl <| en_det (opT_gtr_t rfl rfl (by omega)) rfl <| ?_
    first | refine en_det (opT_pick_t rfl rfl) rfl ?_ | refine en_det (opT_pick_f rfl rfl) rfl ?_
    refine en_nil <| en_then <| en_cond_t rfl <| en_seq <| en_region <| en_det (opT_assign rfl) rfl <| en_nil <| en_then <| en_ret <| en_then_ret <| ?_
    refine en_return (rs := [.tmp 2]) rfl (.cons (.tmp rfl) .nil) (.refl _) (Γ1 := []) ⟨by rw [e]; rfl, rfl⟩
  refine en_seq <| en_region <| en_box rfl rfl rfl fun b1 => en_det (opT_assign rfl) rfl <| en_nil <| en_then <| en_seq <| en_seq <| en_region <| en_det (opT_fieldAddr rfl) rfl <| en_det (opT_load_own rfl rfl) rfl <| en_det (opT_len rfl) rfl <| en_det (opT_gtr_f rfl rfl (by omega)) rfl <| en_det (opT_move rfl) rfl <| en_g_yes rfl rfl <| en_det (opT_fieldAddr rfl) rfl <| en_g_yes rfl rfl <| en_det (opT_load_own rfl rfl) rfl <| en_g_yes rfl rfl <| en_det (opT_len rfl) rfl <| en_g_yes rfl rfl <| en_det (opT_gtr_f rfl rfl (by omega)) rfl <| ?_
  first | refine en_det (opT_pick_t rfl rfl) rfl ?_ | refine en_det (opT_pick_f rfl rfl) rfl ?_
  refine en_nil <| en_then <| en_cond_f rfl <| en_skip <| en_then <| en_seq <| en_seq <| en_region <| en_det (opT_fieldAddr rfl) rfl <| en_det (opT_load_own rfl rfl) rfl <| en_det (opT_len rfl) rfl <| en_det (opT_move rfl) rfl <| en_nil <| en_then <| en_block <| ?_
  refine en_loop (fun k : Nat => k ≤ b.nh ∧ ∀ i, i < k → (b.hand i).rests.length ≤ 10) (fun k => [(1, pt b1), (16, .slice had b.nh hcp), (17, .int .i64 b.nh), (18, .int .i64 k)]) (fun _ => h) (fun _ => [box b1 26 [.slice tad b.nt tcp, .slice had b.nh hcp]]) (fun k => b.nh - k) 0 ⟨by omega, fun i hi => by omega⟩ ⟨rfl, rfl, rfl, rfl, trivial⟩ (.refl _) (tkAll _) fun k ⟨hk, hb⟩ => ?_
  refine en_seq <| en_region <| ?_
  first | refine en_det (opT_lss_t rfl rfl (by omega)) rfl ?_ | refine en_det (opT_lss_f rfl rfl (by omega)) rfl ?_ | refine en_det (opT_lss rfl rfl) rfl ?_
  refine en_nil <| en_then <| en_seq <| ?_
  refine en_if rfl (fun hlt => ?_) (fun hlt => ?_)
  · skip
    have hkl : k < b.nh := by omega
    obtain ⟨hq, hoff, rfl, hcells⟩ := hp1 (by omega)
    obtain ⟨rad, rcp, hre, rl, rc, rp⟩ := (hr k hkl).shape
    have hrow : CellsH h hq (hoff + k * 9) (handL (b.hand k) (rv k)) := hcells.row hkl
    rw [hre] at hrow
    skip
    by_cases hx : 10 < (b.hand k).rests.length
    · have e : bigD b = true := by
        have : (allI b.nh fun i => decide ((b.hand i).rests.length ≤ 10)) = false := allI_no hkl (by simpa using hx)
        simp [bigD, this]
      refine en_skip <| en_then <| en_seq <| en_block <| en_seq <| en_region <| ?_
      first | refine en_det (opT_idx1 rfl rfl (by omega) (by omega)) rfl ?_ | refine en_det (opT_idx (ks := 0) rfl rfl (by omega) (by omega)) rfl ?_
      refine en_det (opT_loadA_h rfl hrow (row_length _ _)) rfl <| en_alloc rfl fun b4 => ?_
      refine en_det0 (opT_storeW rfl rfl rfl rfl (one_handL _ _ _ _)) <| en_nil <| en_then <| en_seq <| en_region <| en_det (opT_fieldAddr rfl) rfl <| en_det (opT_load_own rfl rfl) rfl <| en_det (opT_len rfl) rfl <| en_det (opT_gtr_t rfl rfl (by omega)) rfl <| en_nil <| en_then <| en_cond_t rfl <| en_seq <| en_region <| en_det (opT_assign rfl) rfl <| en_nil <| en_then <| en_ret <| en_blk_ret <| en_then_ret <| en_then_ret <| en_blk_ret <| en_then_ret <| ?_
      refine en_return (rs := [.tmp 2]) rfl (.cons (.tmp rfl) .nil) (.refl _) (Γ1 := []) ⟨by rw [e]; rfl, rfl⟩
    · skip
      refine en_skip <| en_then <| en_seq <| en_block <| en_seq <| en_region <| ?_
      first | refine en_det (opT_idx1 rfl rfl (by omega) (by omega)) rfl ?_ | refine en_det (opT_idx (ks := 0) rfl rfl (by omega) (by omega)) rfl ?_
      refine en_det (opT_loadA_h rfl hrow (row_length _ _)) rfl <| en_alloc rfl fun b4 => ?_
      refine en_det0 (opT_storeW rfl rfl rfl rfl (one_handL _ _ _ _)) <| en_nil <| en_then <| en_seq <| en_region <| en_det (opT_fieldAddr rfl) rfl <| en_det (opT_load_own rfl rfl) rfl <| en_det (opT_len rfl) rfl <| en_det (opT_gtr_f rfl rfl (by omega)) rfl <| en_nil <| en_then <| en_cond_f rfl <| en_skip <| en_blk <| en_then <| en_region <| en_det (opT_add rfl rfl (by constructor <;> omega)) rfl <| en_det (opT_move rfl) rfl <| en_nil <| en_then <| ?_
      refine en_again (k + 1) ⟨by omega, fun i hi => ?_⟩ (by omega) ⟨rfl, rfl, rfl, gi rfl (by simp), trivial⟩ (.refl _) inferInstance
      rcases Nat.lt_succ_iff_lt_or_eq.1 hi with h3 | rfl
      · exact hb i h3
      · omega
  · skip
    obtain rfl : k = b.nh := by omega
    have e : bigD b = false := by
      have : (allI b.nh fun i => decide ((b.hand i).rests.length ≤ 10)) = true := allI_yes fun i hi => by simpa using hb i hi
      simp [bigD, this]; omega
    refine en_exit <| en_then_exit <| en_then_exit <| en_blk_hit <| en_then <| en_seq <| en_region <| en_det (opT_assign rfl) rfl <| en_nil <| en_then <| en_ret <| ?_
    refine en_return (rs := [.tmp 2]) rfl (.cons (.tmp rfl) .nil) (.refl _) (Γ1 := []) ⟨by rw [e]; rfl, rfl⟩
theorem trays34_ct (h : Heap) (v : Value) (n : Nat) (t : Nat → Nat → Int) (hv : IsTrays h v n t) (hn : n ≤ 1000) : CT Try.prog 34 [v] h [] (fun v' h' Γ' => IsTrays h' v' n t ∧ Γ' = []) := by
  obtain ⟨_, tad, tcp, rfl, tm1, tc1, tp1⟩ := hv
  refine ct_intro Try.func34 rfl rfl rfl rfl fun Φ => ?_
  refine en_seq <| en_region <| en_det (opT_assign rfl) rfl <| en_nil <| en_then <| en_seq <| en_region <| en_det (opT_assign rfl) rfl <| en_nil <| en_then <| en_seq <| en_seq <| en_region <| en_det (opT_move rfl) rfl <| en_det (opT_len rfl) rfl <| en_det (opT_move rfl) rfl <| en_nil <| en_then <| en_block <| ?_
  refine en_own_nil 70 5 ?_
  refine en_loop (fun x : Nat × Value => x.1 ≤ n) (fun x => [(3, x.2), (6, .slice tad n tcp), (7, .int .i64 n), (8, .int .i64 x.1)]) (fun _ => h) (fun x => [own 70 5 x.2 x.1 (rows x.1 5 (icell t))]) (fun x => n - x.1) (0, .slice none 0 0) (by simp) ⟨rfl, rfl, rfl, rfl, trivial⟩ (.refl _) (tkAll _) fun x hk => ?_
  obtain ⟨k, v⟩ := x
  change En _ _ _ [(3, v), (6, .slice tad n tcp), (7, .int .i64 n), (8, .int .i64 k)] h [own 70 5 v k (rows k 5 (icell t))]
  simp only at hk
  refine en_seq <| en_region <| ?_
  first | refine en_det (opT_lss_t rfl rfl (by omega)) rfl ?_ | refine en_det (opT_lss_f rfl rfl (by omega)) rfl ?_ | refine en_det (opT_lss rfl rfl) rfl ?_
  refine en_nil <| en_then <| en_seq <| ?_
  refine en_if rfl (fun hlt => ?_) (fun hlt => ?_)
  · skip
    have hkl : k < n := by omega
    obtain ⟨tq, toff, rfl, tcells⟩ := tp1 (by omega)
    have hrow : CellsH h tq (toff + k * 5) (trayL (t k)) := tcells.row hkl
    have e : rows k 5 (icell t) ++ trayL (t k) = rows (k + 1) 5 (icell t) := by rw [rows_succ]; rfl
    refine en_skip <| en_then <| en_seq <| en_block <| en_seq <| en_region <| ?_
    first | refine en_det (opT_idx1 rfl rfl (by omega) (by omega)) rfl ?_ | refine en_det (opT_idx (ks := 0) rfl rfl (by omega) (by omega)) rfl ?_
    refine en_det (opT_loadA_h rfl hrow (row_length _ _)) rfl <| en_alloc rfl fun b5 => ?_
    refine en_det0 (opT_storeW rfl rfl rfl rfl (one_trayL (t k))) <| en_nil <| en_then <| en_region <| en_det (opT_move rfl) rfl <| en_det (opT_loadW_own rfl (row_length _ _)) rfl <| ?_
    refine en_op (opT_buildSlice (cs := trayL (t k)) rfl rfl (by kernel_rfl)) rfl fun _ _ _ _ ⟨b14, e1, e2, e3⟩ => ?_
    subst e1 e3; replace e2 := e2.symm; subst e2
    refine en_app1 rfl rfl rfl rfl rfl rfl rfl (by omega) fun ad15 cp15 hm15 hc15 => ?_
    refine en_det (opT_assign rfl) rfl <| en_nil <| en_blk <| en_then <| en_region <| en_det (opT_add rfl rfl (by constructor <;> omega)) rfl <| en_det (opT_move rfl) rfl <| en_nil <| en_then <| ?_
    rw [e]
    exact en_again (k + 1, .slice ad15 (k + 1) cp15) (by simp only; omega) (by simp only; omega) ⟨rfl, rfl, rfl, gi rfl (by simp), trivial⟩ (.refl _) inferInstance
  · skip
    obtain rfl : k = n := by omega
    refine en_exit <| en_then_exit <| en_then_exit <| en_blk_hit <| en_then <| en_seq <| en_region <| en_det (opT_move rfl) rfl <| en_det (opT_assign rfl) rfl <| en_nil <| en_then <| en_ret <| ?_
    refine en_freeze_own fun h1 hs1 hsl _ => ?_
    refine en_return (rs := [.tmp 2]) rfl (.cons (.tmp rfl) .nil) hs1 (Γ1 := []) ⟨hsl, rfl⟩
theorem its_ct (h : Heap) (v : Value) (b : BeltD) (hb : IsBelt h v b) (hs : Small b) : CT Try.prog 25 [v] h [] (fun v' h' Γ' => IsBelt h' v' b ∧ Γ' = []) := by
  obtain ⟨tv, hv, rfl, hT, rv, ⟨_, had, hcp, rfl, hm1, hc1, hp1⟩, hr⟩ := hb
  have hT0 := hT
  obtain ⟨_, tad, tcp, rfl, tm1, tc1, tp1⟩ := hT
  have hnt := hs.nt
  have hnh := hs.nh
  refine ct_intro Try.func25 rfl rfl rfl rfl fun Φ => ?_
  refine en_seq <| en_region <| en_box rfl rfl rfl fun b1 => en_alloc rfl fun b2 => ?_
  refine en_nil <| en_then <| en_seq <| en_region <| en_det (opT_fieldAddr rfl) rfl <| en_det (opT_load_own rfl rfl) rfl <| ?_
  refine en_callq (trays34_ct h _ b.nt _ hT0 hnt) rfl rfl rfl rfl fun v8 h1 s1 hv8 => ?_
  have hv80 := hv8
  obtain ⟨_, ad8, cp8, rfl, _⟩ := hv8
  have o1 : ∀ q ∈ [.slice ad8 b.nt cp8, nilS], q.oneCell' = true := by simp [nilS, Value.oneCell']
  refine en_det (opT_build (cs := [(.slice ad8 b.nt cp8), nilS]) rfl (by kernel_rfl)) rfl <| en_alloc rfl fun b3 => ?_
  refine en_det0 (opT_storeW rfl rfl rfl rfl o1) <| en_nil <| en_then <| en_seq <| en_seq <| en_region <| en_det (opT_fieldAddr rfl) rfl <| en_det (opT_load_own rfl rfl) rfl <| en_det (opT_len rfl) rfl <| en_det (opT_move rfl) rfl <| en_nil <| en_then <| en_block <| ?_
  refine en_own_nil 127 9 ?_
  refine en_keep [own 127 9 (.slice none 0 0) 0 [], box b3 59 [(.slice ad8 b.nt cp8), nilS], box b2 59 [.slice none 0 0, .slice none 0 0]] ?_
  refine en_loop (fun x : Nat × Option Addr × Nat => x.1 ≤ b.nh ∧ x.1 ≤ x.2.2 ∧ x.2.2 ≤ 9223372036854775807) (fun x => [(2, pt b2), (3, pt b3), (11, .slice had b.nh hcp), (12, .int .i64 b.nh), (13, .int .i64 x.1)]) (fun _ => h1) (fun x => [own 127 9 (.slice x.2.1 x.1 x.2.2) x.1 (rows x.1 9 (fun i => hcell (b.hand i) (rv i))), box b3 59 [(.slice ad8 b.nt cp8), .slice x.2.1 x.1 x.2.2], box b2 59 [nilS, nilS]]) (fun x => b.nh - x.1) (0, none, 0) ⟨by simp, by simp, by simp⟩ ⟨rfl, rfl, rfl, rfl, rfl, trivial⟩ (.refl _) (tkAll _) fun x hx => ?_
  obtain ⟨k, ad, cp⟩ := x
  obtain ⟨hk, hc1', hc2'⟩ := hx
  simp only at hk hc1' hc2'
  change En _ _ _ [(2, pt b2), (3, pt b3), (11, .slice had b.nh hcp), (12, .int .i64 b.nh), (13, .int .i64 k)] h1 [own 127 9 (.slice ad k cp) k (rows k 9 (fun i => hcell (b.hand i) (rv i))), box b3 59 [(.slice ad8 b.nt cp8), .slice ad k cp], box b2 59 [nilS, nilS]]
  refine en_seq <| en_region <| ?_
  first | refine en_det (opT_lss_t rfl rfl (by omega)) rfl ?_ | refine en_det (opT_lss_f rfl rfl (by omega)) rfl ?_ | refine en_det (opT_lss rfl rfl) rfl ?_
  refine en_nil <| en_then <| en_seq <| ?_
  refine en_if rfl (fun hlt => ?_) (fun hlt => ?_)
  · skip
    have hkn : k < b.nh := by omega
    obtain ⟨hbb, hoff, rfl, hcells⟩ := hp1 (by omega)
    have hrow : CellsH h1 hbb (hoff + k * 9) (handL (b.hand k) (rv k)) := (hcells.row hkn).mono s1
    obtain ⟨rad, rcp, hre, _, _, _⟩ := (hr k hkn).shape
    have e : rows k 9 (fun i => hcell (b.hand i) (rv i)) ++ handL (b.hand k) (.slice rad (b.hand k).rests.length rcp) = rows (k + 1) 9 (fun i => hcell (b.hand i) (rv i)) := by rw [rows_succ, ← hre]
    rw [hre] at hrow
    refine en_skip <| en_then <| en_seq <| en_block <| en_seq <| en_region <| ?_
    first | refine en_det (opT_idx1 rfl rfl (by omega) (by omega)) rfl ?_ | refine en_det (opT_idx (ks := 0) rfl rfl (by omega) (by omega)) rfl ?_
    refine en_det (opT_loadA_h rfl hrow (row_length _ _)) rfl <| en_alloc rfl fun b5 => ?_
    refine en_det0 (opT_storeW rfl rfl rfl rfl (one_handL _ _ _ _)) <| en_nil <| en_then <| en_region <| en_det (opT_fieldAddr rfl) rfl <| en_det (opT_load_own (v := .slice ad k cp) rfl rfl) rfl <| en_det (opT_loadW_own rfl (row_length _ _)) rfl <| ?_
    refine en_op (opT_buildSlice (cs := handL (b.hand k) (.slice rad (b.hand k).rests.length rcp)) rfl rfl (by kernel_rfl)) rfl fun _ _ _ _ ⟨b20, e1, e2, e3⟩ => ?_
    subst e1 e3; replace e2 := e2.symm; subst e2
    refine en_app1 rfl rfl rfl rfl rfl rfl rfl (by omega) fun ad21 cp21 hm21 hc21 => ?_
    refine en_det (opT_fieldAddr rfl) rfl <| en_det0 (opT_store1 rfl rfl rfl) <| en_nil <| en_blk <| en_then <| en_region <| en_det (opT_add rfl rfl (by constructor <;> omega)) rfl <| en_det (opT_move rfl) rfl <| en_nil <| en_then <| ?_
    rw [e]
    exact en_again (k + 1, ad21, cp21) ⟨by simp only; omega, by simp only; omega, by simp only; omega⟩ (by simp only; omega) ⟨rfl, rfl, rfl, rfl, gi rfl (by simp), trivial⟩ (.refl _) inferInstance
  · skip
    obtain rfl : k = b.nh := by omega
    refine en_freeze_own fun h2 s2 hsl _ => ?_
    have o2 : ∀ q ∈ [(Value.slice ad8 b.nt cp8), .slice ad b.nh cp], q.oneCell' = true := by simp [Value.oneCell']
    refine en_exit <| en_then_exit <| en_then_exit <| en_blk_hit <| en_then <| en_seq <| en_region <| en_det (opT_loadW_own rfl rfl) rfl <| en_det0 (opT_storeW rfl rfl rfl rfl o2) <| en_nil <| en_then <| en_ret <| ?_
    refine en_return (rs := [.cell 2 59]) rfl (.cons (res_cellA rfl rfl) .nil) (s1.trans s2) (Γ1 := []) ⟨⟨_, _, rfl, hv80.mono s2, rv, hsl, fun i hi => (hr i hi).mono (s1.trans s2)⟩, rfl⟩
theorem alikeT_self (n : Nat) (t : Nat → Nat → Int) : alikeT n t n t = true := by
  simp [alikeT, allI_iff]
theorem same_ct (h : Heap) (v u : Value) (b : BeltD) (hv : IsBelt h v b) (hu : IsBelt h u b) : CT Try.prog 38 [v, u] h [] (DetW (.bool true) []) := by
  obtain ⟨tv, hv, rfl, hT, rv, ⟨_, had, hcp, rfl, hm1, hc1, hp1⟩, hr⟩ := hv
  obtain ⟨tv2, hv2, rfl, hT2, rv2, ⟨_, had2, hcp2, rfl, hm2, hc2, hp2⟩, hr2⟩ := hu
  have cT := alike65_ct h tv tv2 b.nt b.nt b.tray b.tray hT hT2
  rw [alikeT_self] at cT
  refine ct_intro Try.func38 rfl rfl rfl rfl fun Φ => ?_
  refine en_seq <| en_region <| en_box rfl rfl rfl fun b2 => en_box rfl rfl rfl fun b3 => en_det (opT_assign rfl) rfl <| en_nil <| en_then <| en_seq <| en_seq <| en_region <| en_det (opT_fieldAddr rfl) rfl <| en_det (opT_load_own rfl rfl) rfl <| en_det (opT_fieldAddr rfl) rfl <| en_det (opT_load_own rfl rfl) rfl <| en_calld (cT) rfl rfl rfl rfl <| ?_
  first | refine en_det (opT_not_t rfl) rfl ?_ | refine en_det (opT_not_f rfl) rfl ?_ | refine en_det (opT_not rfl) rfl ?_
  refine en_det (opT_move rfl) rfl <| en_g_yes rfl rfl <| en_det (opT_fieldAddr rfl) rfl <| en_g_yes rfl rfl <| en_det (opT_load_own rfl rfl) rfl <| en_g_yes rfl rfl <| en_det (opT_len rfl) rfl <| en_g_yes rfl rfl <| en_det (opT_fieldAddr rfl) rfl <| en_g_yes rfl rfl <| en_det (opT_load_own rfl rfl) rfl <| en_g_yes rfl rfl <| en_det (opT_len rfl) rfl <| en_g_yes rfl rfl <| en_det (opT_neq_f rfl rfl (by omega)) rfl <| ?_
  first | refine en_det (opT_pick_t rfl rfl) rfl ?_ | refine en_det (opT_pick_f rfl rfl) rfl ?_
  refine en_nil <| en_then <| en_cond_f rfl <| en_skip <| en_then <| en_seq <| en_seq <| en_region <| en_det (opT_fieldAddr rfl) rfl <| en_det (opT_load_own rfl rfl) rfl <| en_det (opT_len rfl) rfl <| en_det (opT_move rfl) rfl <| en_nil <| en_then <| en_block <| ?_
  refine en_loop (fun k : Nat => k ≤ b.nh) (fun k => [(3, pt b3), (24, .slice had b.nh hcp), (25, .int .i64 b.nh), (26, .int .i64 k)]) (fun _ => h) (fun _ => [box b3 26 [tv2, .slice had2 b.nh hcp2], box b2 26 [tv, .slice had b.nh hcp]]) (fun k => b.nh - k) 0 (by omega) ⟨rfl, rfl, rfl, rfl, trivial⟩ (.refl _) (tkAll _) fun k hk => ?_
  refine en_seq <| en_region <| ?_
  first | refine en_det (opT_lss_t rfl rfl (by omega)) rfl ?_ | refine en_det (opT_lss_f rfl rfl (by omega)) rfl ?_ | refine en_det (opT_lss rfl rfl) rfl ?_
  refine en_nil <| en_then <| en_seq <| ?_
  refine en_if rfl (fun hlt => ?_) (fun hlt => ?_)
  · skip
    have hkl : k < b.nh := by omega
    obtain ⟨hq, hoff, rfl, hcells⟩ := hp1 (by omega)
    have hrow : CellsH h hq (hoff + k * 9) (handL (b.hand k) (rv k)) := hcells.row hkl
    obtain ⟨hq2, hoff2, rfl, hcells2⟩ := hp2 (by omega)
    have hrow2 : CellsH h hq2 (hoff2 + k * 9) (handL (b.hand k) (rv2 k)) := hcells2.row hkl
    have hone := List.all_eq_true.1 (one_handV (H := b.hand k) (hr k hkl).one)
    have hone2 := List.all_eq_true.1 (one_handV (H := b.hand k) (hr2 k hkl).one)
    have cA := alike48_ct h (rv k) (rv2 k) (b.hand k).rests (b.hand k).rests (hr k hkl) (hr2 k hkl)
    rw [decide_eq_true rfl] at cA
    have hx : decide (tk5 (b.hand k) ≠ tk5 (b.hand k)) = false := by simp
    have tk1 := tk5_take (b.hand k) (rv k)
    have tk2 := tk5_take (b.hand k) (rv2 k)
    refine en_skip <| en_then <| en_seq <| en_block <| en_seq <| en_region <| en_det (opT_move rfl) rfl <| ?_
    first | refine en_det (opT_idx1 rfl rfl (by omega) (by omega)) rfl ?_ | refine en_det (opT_idx (ks := 0) rfl rfl (by omega) (by omega)) rfl ?_
    refine en_det (opT_loadA_h rfl hrow (row_length _ _)) rfl <| en_alloc rfl fun b6 => ?_
    refine en_det (opT_assign rfl) rfl <| en_det0 (opT_storeW rfl rfl (row_length _ _) rfl hone) <| en_nil <| en_then <| en_seq <| en_region <| en_det (opT_fieldAddr rfl) rfl <| en_det (opT_load_own rfl rfl) rfl <| en_det (opT_move rfl) rfl <| ?_
    first | refine en_det (opT_idx1 rfl rfl (by omega) (by omega)) rfl ?_ | refine en_det (opT_idx (ks := 0) rfl rfl (by omega) (by omega)) rfl ?_
    refine en_det (opT_loadA_h rfl hrow2 (row_length _ _)) rfl <| en_alloc rfl fun b7 => ?_
    refine en_det0 (opT_storeW rfl rfl (row_length _ _) rfl hone2) <| en_nil <| en_then <| en_seq <| en_region <| en_det (opT_fieldAddr rfl) rfl <| en_det (opT_loadA_own (t := tk1) rfl) rfl <| en_det (opT_fieldAddr rfl) rfl <| en_det (opT_loadA_own (t := tk2) rfl) rfl <| en_det ((hx ▸ opT_neArr (xs := tk5 (b.hand k)) (ys := tk5 (b.hand k)) (mk := Value.bool) (fun w dep a b => eq_bools (P := Try.prog) (e := 4) inferInstance w dep a b) eg39 rfl rfl rfl rfl)) rfl <| en_det (opT_move rfl) rfl <| en_g_yes rfl rfl <| en_det (opT_fieldAddr rfl) rfl <| en_g_yes rfl rfl <| en_det (opT_load_own rfl rfl) rfl <| en_g_yes rfl rfl <| en_det (opT_fieldAddr rfl) rfl <| en_g_yes rfl rfl <| en_det (opT_load_own rfl rfl) rfl <| en_g_yes rfl rfl <| en_det (opT_neq_f rfl rfl (by omega)) rfl <| ?_
    first | refine en_det (opT_pick_t rfl rfl) rfl ?_ | refine en_det (opT_pick_f rfl rfl) rfl ?_
    refine en_det (opT_move rfl) rfl <| en_g_yes rfl rfl <| en_det (opT_fieldAddr rfl) rfl <| en_g_yes rfl rfl <| en_det (opT_load_own rfl rfl) rfl <| en_g_yes rfl rfl <| en_det (opT_fieldAddr rfl) rfl <| en_g_yes rfl rfl <| en_det (opT_load_own rfl rfl) rfl <| en_g_yes rfl rfl <| en_det (opT_neq_f rfl rfl (by omega)) rfl <| ?_
    first | refine en_det (opT_pick_t rfl rfl) rfl ?_ | refine en_det (opT_pick_f rfl rfl) rfl ?_
    refine en_det (opT_move rfl) rfl <| en_g_yes rfl rfl <| en_det (opT_fieldAddr rfl) rfl <| en_g_yes rfl rfl <| en_det (opT_load_own rfl rfl) rfl <| en_g_yes rfl rfl <| en_det (opT_fieldAddr rfl) rfl <| en_g_yes rfl rfl <| en_det (opT_load_own rfl rfl) rfl <| en_g_yes rfl rfl <| en_det (opT_neq_f rfl rfl (by omega)) rfl <| ?_
    first | refine en_det (opT_pick_t rfl rfl) rfl ?_ | refine en_det (opT_pick_f rfl rfl) rfl ?_
    refine en_det (opT_move rfl) rfl <| en_g_yes rfl rfl <| en_det (opT_fieldAddr rfl) rfl <| en_g_yes rfl rfl <| en_det (opT_load_own rfl rfl) rfl <| en_g_yes rfl rfl <| en_det (opT_fieldAddr rfl) rfl <| en_g_yes rfl rfl <| en_det (opT_load_own rfl rfl) rfl <| en_g_yes rfl rfl <| en_calld (cA) rfl rfl rfl rfl <| en_g_yes rfl rfl <| ?_
    first | refine en_det (opT_not_t rfl) rfl ?_ | refine en_det (opT_not_f rfl) rfl ?_ | refine en_det (opT_not rfl) rfl ?_
    first | refine en_det (opT_pick_t rfl rfl) rfl ?_ | refine en_det (opT_pick_f rfl rfl) rfl ?_
    refine en_nil <| en_then <| en_cond_f rfl <| en_skip <| en_blk <| en_then <| en_region <| en_det (opT_add rfl rfl (by constructor <;> omega)) rfl <| en_det (opT_move rfl) rfl <| en_nil <| en_then <| ?_
    exact en_again (k + 1) (by omega) (by omega) ⟨rfl, rfl, rfl, gi rfl (by simp), trivial⟩ (.refl _) inferInstance
  · skip
    refine en_exit <| en_then_exit <| en_then_exit <| en_blk_hit <| en_then <| en_seq <| en_region <| en_det (opT_assign rfl) rfl <| en_nil <| en_then <| en_ret <| ?_
    refine en_return (rs := [.tmp 4]) rfl (.cons (.tmp rfl) .nil) (.refl _) (Γ1 := []) ⟨rfl, rfl⟩
end Go.Sx

/- The reference: sets, forces behind a set, bounds, the most. -/
namespace Go.Sx
open Go.Proofs
set_option maxRecDepth 100000
def behS (b : BeltD) (l : List Nat) (t s : Nat) : Int := sumL l fun i => if anyT (takesB b i) s = true then forceB b t i else 0
theorem behS_all (b : BeltD) (t s : Nat) : behS b (allH b) t s = behL b.nh (takesB b) (forceB b t) (allH b) s := (behL_sum List.nodup_range (allH_lt b) s).symm
def anyK (tk : Nat → Bool) (s k : Nat) : Bool := (List.range k).any fun m => s.testBit m && tk m
theorem anyK_succ (tk : Nat → Bool) (s k : Nat) : anyK tk s (k + 1) = (anyK tk s k || (s.testBit k && tk k)) := by simp [anyK, List.range_succ]
theorem anyK_five (tk : Nat → Bool) (s : Nat) : anyK tk s 5 = anyT tk s := by
  rw [Bool.eq_iff_iff, anyT_iff]
  simp [anyK]
theorem sumL_bounds {l : List Nat} {f : Nat → Int} {B : Int} (h : ∀ i, i ∈ l → 0 ≤ f i ∧ f i ≤ B) : 0 ≤ sumL l f ∧ sumL l f ≤ B * l.length := by
  induction l with
  | nil => simp [sumL]
  | cons x l ih =>
    have h1 := ih fun i hi => h i (by simp [hi])
    have h2 := h x (by simp)
    have e : sumL (x :: l) f = f x + sumL l f := by simp [sumL]
    have e2 : B * (((x :: l).length : Nat) : Int) = B * l.length + B := by rw [List.length_cons, Int.natCast_add, Int.mul_add]; simp
    rw [e, e2]; omega
theorem sumL_next {l : List Nat} {i : Nat} (hi : i < l.length) (f : Nat → Int) : sumL (l.take (i + 1)) f = sumL (l.take i) f + f l[i] := by
  rw [List.take_succ_eq_append_getElem hi, sumL_append]
def bdK (b : BeltD) (t s k : Nat) : Int := behS b (allH b) t s + sumN k fun m => if s.testBit m = true then 0 else b.tray t m
theorem bdK_five (b : BeltD) (t s : Nat) : bdK b t s 5 = cutB b t s := by unfold bdK cutB exS; rw [behS_all]
def minK (b : BeltD) (t : Nat) : Nat → Int
  | 0 => sum5 (b.tray t)
  | k + 1 => min (minK b t k) (cutB b t k)
theorem minK_most {b : BeltD} (hk : BOK b) {t : Nat} (ht : t < b.nt) : minK b t 32 = mostT b t := by
  have lo : ∀ k, mostT b t ≤ minK b t k := fun k => by
    induction k with
    | zero => exact most_tray hk ht
    | succ k ih => have := most_le hk ht k; simp only [minK]; omega
  have hi : ∀ k s, s < k → minK b t k ≤ cutB b t s := fun k => by
    induction k with
    | zero => intro s h; omega
    | succ k ih =>
      intro s h
      simp only [minK]
      by_cases e : s = k
      · subst e; omega
      · have := ih s (by omega); omega
  have h1 := lo 32
  have h2 := hi 32 _ (heldB_lt b wholeD t (allH b))
  rw [← most_eq hk ht] at h2
  omega
attribute [local irreducible] Code.wpIn wpListIn Exit.then Exit.inBlock BQ Again Hd St En OpT box blk RQ BQ0 fmap own Desk Chute
theorem has_ct (h : Heap) (s m : Nat) (hs : s < 32) (hm : m ≤ 1000) : CT Try.prog 99 [.int .i64 s, .int .i64 m] h [] (DetW (.bool (s.testBit m)) []) := by
  refine ct_intro Try.func99 rfl rfl rfl rfl fun Φ => ?_
  refine en_seq <| en_region <| en_det (opT_assign rfl) rfl <| en_nil <| en_then <| en_seq <| en_seq <| en_region <| en_det (opT_assign rfl) rfl <| en_nil <| en_then <| en_block <| ?_
  refine en_loop (fun k : Nat => k ≤ m) (fun k => [(0, .int .i64 ((s / 2 ^ k : Nat) : Int)), (1, .int .i64 m), (5, .int .i64 k)]) (fun _ => h) (fun _ => []) (fun k => m - k) 0 (by omega) ⟨gi rfl (by simp), rfl, rfl, trivial⟩ (.refl _) inferInstance fun k hk => ?_
  refine en_seq <| en_seq <| en_region <| en_det (opT_move rfl) rfl <| en_det (opT_move rfl) rfl <| ?_
  first | refine en_det (opT_lss_t rfl rfl (by omega)) rfl ?_ | refine en_det (opT_lss_f rfl rfl (by omega)) rfl ?_ | refine en_det (opT_lss rfl rfl) rfl ?_
  refine en_nil <| en_then <| ?_
  have hq : s / 2 ^ k < 32 := Nat.lt_of_le_of_lt (Nat.div_le_self _ _) hs
  refine en_if rfl (fun hlt => ?_) (fun hlt => ?_)
  · skip
    have e : (((s / 2 ^ k : Nat) : Int)) / 2 = ((s / 2 ^ (k + 1) : Nat) : Int) := by
      rw [Nat.pow_succ, ← Nat.div_div_eq_div_mul]; simp
    generalize s / 2 ^ k = q at hq e ⊢
    refine en_skip <| en_then <| en_seq <| en_block <| en_region <| en_det (opT_move rfl) rfl <| en_det (opT_quo rfl rfl (by omega) (by omega) (by omega)) rfl <| en_det (opT_assign rfl) rfl <| en_nil <| en_blk <| en_then <| en_region <| en_det (opT_move rfl) rfl <| en_det (opT_add rfl rfl (by constructor <;> omega)) rfl <| en_det (opT_assign rfl) rfl <| en_nil <| en_then <| ?_
    exact en_again (k + 1) (by omega) (by omega) ⟨gi rfl e, rfl, gi rfl (by simp), trivial⟩ (.refl _) inferInstance
  · skip
    obtain rfl : k = m := by omega
    have e : s.testBit k = decide (s / 2 ^ k % 2 = 1) := Nat.testBit_eq_decide_div_mod_eq
    rw [e]
    generalize s / 2 ^ k = q at hq ⊢
    skip
    by_cases hx : q % 2 = 1
    · refine en_exit <| en_then_exit <| en_then_exit <| en_blk_hit <| en_then <| en_seq <| en_region <| en_det (opT_move rfl) rfl <| en_det (opT_rem rfl rfl (by omega) (by omega)) rfl <| en_det (opT_eql_t rfl rfl (by omega)) rfl <| en_det (opT_assign rfl) rfl <| en_nil <| en_then <| en_ret <| ?_
      refine en_return (rs := [.tmp 4]) rfl (.cons (.tmp rfl) .nil) (.refl _) (Γ1 := []) ⟨by simp [resVal, hx], rfl⟩
    · skip
      refine en_exit <| en_then_exit <| en_then_exit <| en_blk_hit <| en_then <| en_seq <| en_region <| en_det (opT_move rfl) rfl <| en_det (opT_rem rfl rfl (by omega) (by omega)) rfl <| en_det (opT_eql_f rfl rfl (by omega)) rfl <| en_det (opT_assign rfl) rfl <| en_nil <| en_then <| en_ret <| ?_
      refine en_return (rs := [.tmp 4]) rfl (.cons (.tmp rfl) .nil) (.refl _) (Γ1 := []) ⟨by simp [resVal, hx], rfl⟩
theorem behindR_ct (h : Heap) (tv hv ov : Value) (b : BeltD) (hands : List Nat) (t s : Nat) (hH : IsHands h hv b.nh b.hand) (ok : ∀ i, i < b.nh → OKH (b.hand i)) (hlt : ∀ x ∈ hands, x < b.nh) (hlen : hands.length ≤ 1000) (ho : IsInts h ov (natsI hands)) (ht : t < 1000) (hs : s < 32) :
    CT Try.prog 52 [.agg #[tv, hv], ov, .int .i64 t, .int .i64 s] h [] (DetW (.int .i64 (behS b hands t s)) []) := by
  have hH0 := hH
  obtain ⟨rv, ⟨_, had, hcp, rfl, hm1, hc1, hp1⟩, hr⟩ := hH
  obtain ⟨iad, icp, rfl, hm2, hc2, hp2⟩ := ho.shape
  have hlenI : (natsI hands).length = hands.length := by simp [natsI]
  simp only [hlenI] at hm2 hp2
  have hfb : ∀ i, i ∈ hands → 0 ≤ (if anyT (takesB b i) s = true then forceB b t i else 0) ∧ (if anyT (takesB b i) s = true then forceB b t i else 0) ≤ 40 := fun i hi => by
    have := forceD_bound (ok i (hlt i hi)) t
    unfold forceB; split <;> omega
  refine ct_intro Try.func52 rfl rfl rfl rfl fun Φ => ?_
  refine en_seq <| en_region <| en_box rfl rfl rfl fun b4 => en_det (opT_assign rfl) rfl <| en_nil <| en_then <| en_seq <| en_region <| en_det (opT_assign rfl) rfl <| en_nil <| en_then <| en_seq <| en_seq <| en_region <| en_det (opT_assign rfl) rfl <| en_nil <| en_then <| en_block <| ?_
  refine en_loop (fun i : Nat => i ≤ hands.length) (fun i => [(1, .slice iad hands.length icp), (2, .int .i64 t), (3, .int .i64 s), (4, pt b4), (9, .int .i64 (behS b (hands.take i) t s)), (10, .int .i64 i)]) (fun _ => h) (fun _ => [box b4 59 [tv, .slice had b.nh hcp]]) (fun i => hands.length - i) 0 (by omega) ⟨by rw [← hlenI]; rfl, rfl, rfl, rfl, rfl, rfl, trivial⟩ (.refl _) (tkAll _) fun i hi => ?_
  have hsb := sumL_bounds (l := hands.take i) fun x hx => hfb x (List.mem_of_mem_take hx)
  have htl : (hands.take i).length ≤ 1000 := by rw [List.length_take]; omega
  change 0 ≤ behS b (hands.take i) t s ∧ behS b (hands.take i) t s ≤ 40 * ((hands.take i).length : Int) at hsb
  refine en_seq <| en_seq <| en_region <| en_det (opT_move rfl) rfl <| en_det (opT_move rfl) rfl <| en_det (opT_len rfl) rfl <| ?_
  first | refine en_det (opT_lss_t rfl rfl (by omega)) rfl ?_ | refine en_det (opT_lss_f rfl rfl (by omega)) rfl ?_ | refine en_det (opT_lss rfl rfl) rfl ?_
  refine en_nil <| en_then <| ?_
  refine en_if rfl (fun hlt1 => ?_) (fun hlt1 => ?_)
  · skip
    have hil : i < hands.length := by omega
    have hhn : hands[i] < b.nh := hlt _ (List.getElem_mem hil)
    obtain ⟨hb, hoff, rfl, hcells⟩ := hp1 (by omega)
    obtain ⟨ib, ioff, rfl, hints⟩ := hp2 (by omega)
    have hgi := hints i hil
    have e1 : (natsI hands)[i]'(by rw [hlenI]; exact hil) = ((hands[i] : Nat) : Int) := by simp [natsI]
    rw [e1] at hgi
    have hnext : behS b (hands.take (i + 1)) t s = behS b (hands.take i) t s + (if anyT (takesB b hands[i]) s = true then forceB b t hands[i] else 0) := sumL_next hil _
    generalize hands[i] = hd at hhn hgi hnext
    generalize behS b (hands.take i) t s = N at hsb hnext ⊢
    refine en_skip <| en_then <| en_seq <| en_block <| en_seq <| en_region <| en_det (opT_assign rfl) rfl <| en_nil <| en_then <| en_seq <| en_seq <| en_region <| en_det (opT_assign rfl) rfl <| en_nil <| en_then <| en_block <| ?_
    refine en_loop (fun m : Nat => m ≤ 5) (fun m => [(1, .slice (some ⟨ib, ioff, none⟩) hands.length icp), (2, .int .i64 t), (3, .int .i64 s), (4, pt b4), (9, .int .i64 N), (10, .int .i64 i), (11, .bool (anyK (takesB b hd) s m)), (12, .int .i64 m)]) (fun _ => h) (fun _ => [box b4 59 [tv, .slice (some ⟨hb, hoff, none⟩) b.nh hcp]]) (fun m => 5 - m) 0 (by omega) ⟨rfl, rfl, rfl, rfl, rfl, rfl, rfl, rfl, trivial⟩ (.refl _) (tkAll _) fun m hm => ?_
    refine en_seq <| en_seq <| en_region <| en_det (opT_move rfl) rfl <| ?_
    first | refine en_det (opT_lss_t rfl rfl (by omega)) rfl ?_ | refine en_det (opT_lss_f rfl rfl (by omega)) rfl ?_ | refine en_det (opT_lss rfl rfl) rfl ?_
    refine en_nil <| en_then <| ?_
    refine en_if rfl (fun hlt2 => ?_) (fun hlt2 => ?_)
    · skip
      have hm5 : m < 5 := by omega
      have hce := hcells.cell hhn (by omega : m < 9)
      have hcv : hcell (b.hand hd) (rv hd) m = .bool ((b.hand hd).takes m) := by simp [hcell, hm5]
      rw [hcv] at hce
      have hstep := anyK_succ (takesB b hd) s m
      have eT : takesB b hd m = (b.hand hd).takes m := rfl
      rw [eT] at hstep
      have cH := has_ct h s m hs (by omega)
      generalize anyK (takesB b hd) s m = A at hstep ⊢
      generalize (b.hand hd).takes m = K at hce hstep
      generalize s.testBit m = B at cH hstep
      skip
      cases A with
      | true =>
        refine en_skip <| en_then <| en_seq <| en_block <| en_draw0 [0, 1, 2, 3, 4, 5, 6, 7, 8, 9, 10, 11, 12, 13, 14, 15, 16, 17, 18, 19] (by kernel_rfl) (by decide +kernel) (by decide +kernel) (by decide) <| dp_p rfl (fun _ _ => opT_move rfl) rfl rfl rfl <| dp_p rfl (fun _ _ => opT_move rfl) rfl rfl rfl <| dp_q_no rfl rfl rfl rfl rfl <| dp_q_no rfl rfl rfl rfl rfl <| dp_q_no rfl rfl rfl rfl rfl <| dp_q_no rfl rfl rfl rfl rfl <| dp_q_no rfl rfl rfl rfl rfl <| dp_q_no rfl rfl rfl rfl rfl <| dp_q_no rfl rfl rfl rfl rfl <| dp_q_no rfl rfl rfl rfl rfl <| dp_q_no rfl rfl rfl rfl rfl <| dp_q_no rfl rfl rfl rfl rfl <| dp_q_no rfl rfl rfl rfl rfl <| dp_q_no rfl rfl rfl rfl rfl <| dp_q_no rfl rfl rfl rfl rfl <| dp_q_no rfl rfl rfl rfl rfl <| dp_q_no rfl rfl rfl rfl rfl <| dp_q_no rfl rfl rfl rfl rfl <| ?_
        first | refine dp_p rfl (fun _ _ => opT_pick_t rfl rfl) rfl rfl rfl ?_ | refine dp_p rfl (fun _ _ => opT_pick_f rfl rfl) rfl rfl rfl ?_
        refine dp_p rfl (fun _ _ => opT_assign rfl) rfl rfl rfl <| dp_done0 <| en_blk <| en_then <| en_region <| en_det (opT_move rfl) rfl <| en_det (opT_add rfl rfl (by constructor <;> omega)) rfl <| en_det (opT_assign rfl) rfl <| en_nil <| en_then <| ?_
        exact en_again (m + 1) (by omega) (by omega) ⟨rfl, rfl, rfl, rfl, rfl, rfl, gb rfl (by rw [hstep]; rfl), gi rfl (by simp), trivial⟩ (.refl _) inferInstance
      | false =>
        cases B with
        | false =>
          refine en_skip <| en_then <| en_seq <| en_block <| en_draw0 [0, 1, 2, 3, 4, 5, 6, 7, 8, 9, 10, 11, 12, 13, 14, 15, 16, 17, 18, 19] (by kernel_rfl) (by decide +kernel) (by decide +kernel) (by decide) <| dp_p rfl (fun _ _ => opT_move rfl) rfl rfl rfl <| dp_p rfl (fun _ _ => opT_move rfl) rfl rfl rfl <| dp_q_yes rfl rfl rfl (opT_move rfl) rfl rfl rfl <| dp_q_yes rfl rfl rfl (opT_move rfl) rfl rfl rfl <| dp_q_yes rfl rfl rfl (opT_callw (cH) rfl rfl rfl) rfl rfl rfl <| dp_q_yes rfl rfl rfl (opT_move rfl) rfl rfl rfl <| dp_q_no rfl rfl rfl rfl rfl <| dp_q_no rfl rfl rfl rfl rfl <| dp_q_no rfl rfl rfl rfl rfl <| dp_q_no rfl rfl rfl rfl rfl <| dp_q_no rfl rfl rfl rfl rfl <| dp_q_no rfl rfl rfl rfl rfl <| dp_q_no rfl rfl rfl rfl rfl <| dp_q_no rfl rfl rfl rfl rfl <| dp_q_no rfl rfl rfl rfl rfl <| dp_q_no rfl rfl rfl rfl rfl <| dp_q_no rfl rfl rfl rfl rfl <| ?_
          first | refine dp_q_yes rfl rfl rfl (opT_pick_t rfl rfl) rfl rfl rfl ?_ | refine dp_q_yes rfl rfl rfl (opT_pick_f rfl rfl) rfl rfl rfl ?_
          first | refine dp_p rfl (fun _ _ => opT_pick_t rfl rfl) rfl rfl rfl ?_ | refine dp_p rfl (fun _ _ => opT_pick_f rfl rfl) rfl rfl rfl ?_
          refine dp_p rfl (fun _ _ => opT_assign rfl) rfl rfl rfl <| dp_done0 <| en_blk <| en_then <| en_region <| en_det (opT_move rfl) rfl <| en_det (opT_add rfl rfl (by constructor <;> omega)) rfl <| en_det (opT_assign rfl) rfl <| en_nil <| en_then <| ?_
          exact en_again (m + 1) (by omega) (by omega) ⟨rfl, rfl, rfl, rfl, rfl, rfl, gb rfl (by rw [hstep]; rfl), gi rfl (by simp), trivial⟩ (.refl _) inferInstance
        | true =>
          cases K with
          | false =>
            refine en_skip <| en_then <| en_seq <| en_block <| en_draw0 [0, 1, 2, 3, 4, 5, 6, 7, 8, 9, 10, 11, 12, 13, 14, 15, 16, 17, 18, 19] (by kernel_rfl) (by decide +kernel) (by decide +kernel) (by decide) <| dp_p rfl (fun _ _ => opT_move rfl) rfl rfl rfl <| dp_p rfl (fun _ _ => opT_move rfl) rfl rfl rfl <| dp_q_yes rfl rfl rfl (opT_move rfl) rfl rfl rfl <| dp_q_yes rfl rfl rfl (opT_move rfl) rfl rfl rfl <| dp_q_yes rfl rfl rfl (opT_callw (cH) rfl rfl rfl) rfl rfl rfl <| dp_q_yes rfl rfl rfl (opT_move rfl) rfl rfl rfl <| dp_q_yes rfl rfl rfl (opT_fieldAddr rfl) rfl rfl rfl <| dp_q_yes rfl rfl rfl (opT_load_own rfl rfl) rfl rfl rfl <| dp_q_yes rfl rfl rfl (opT_move rfl) rfl rfl rfl <| dp_q_yes rfl rfl rfl (opT_move rfl) rfl rfl rfl <| ?_
            first | refine dp_q_yes rfl rfl rfl (opT_idx1 rfl rfl (by omega) (by omega)) rfl rfl rfl ?_ | refine dp_q_yes rfl rfl rfl (opT_idx (ks := 0) rfl rfl (by omega) (by omega)) rfl rfl rfl ?_
            first | refine dp_q_yes rfl rfl rfl (opT_load_h rfl (by assumption)) rfl rfl rfl ?_ | refine dp_q_yes rfl rfl rfl (opT_load_own rfl rfl) rfl rfl rfl ?_
            refine dp_q_yes rfl rfl rfl (opT_move rfl) rfl rfl rfl <| ?_
            first | refine dp_q_yes rfl rfl rfl (opT_idx1 rfl rfl (by omega) (by omega)) rfl rfl rfl ?_ | refine dp_q_yes rfl rfl rfl (opT_idx (ks := 0) rfl rfl (by omega) (by omega)) rfl rfl rfl ?_
            refine dp_q_yes rfl rfl rfl (opT_fieldAddr rfl) rfl rfl rfl <| dp_q_yes rfl rfl rfl (opT_idxArr rfl rfl (by omega) (by omega)) rfl rfl rfl <| ?_
            first | refine dp_q_yes rfl rfl rfl (opT_load_h rfl (by assumption)) rfl rfl rfl ?_ | refine dp_q_yes rfl rfl rfl (opT_load_own rfl rfl) rfl rfl rfl ?_
            first | refine dp_q_yes rfl rfl rfl (opT_pick_t rfl rfl) rfl rfl rfl ?_ | refine dp_q_yes rfl rfl rfl (opT_pick_f rfl rfl) rfl rfl rfl ?_
            first | refine dp_p rfl (fun _ _ => opT_pick_t rfl rfl) rfl rfl rfl ?_ | refine dp_p rfl (fun _ _ => opT_pick_f rfl rfl) rfl rfl rfl ?_
            refine dp_p rfl (fun _ _ => opT_assign rfl) rfl rfl rfl <| dp_done0 <| en_blk <| en_then <| en_region <| en_det (opT_move rfl) rfl <| en_det (opT_add rfl rfl (by constructor <;> omega)) rfl <| en_det (opT_assign rfl) rfl <| en_nil <| en_then <| ?_
            exact en_again (m + 1) (by omega) (by omega) ⟨rfl, rfl, rfl, rfl, rfl, rfl, gb rfl (by rw [hstep]; rfl), gi rfl (by simp), trivial⟩ (.refl _) inferInstance
          | true =>
            refine en_skip <| en_then <| en_seq <| en_block <| en_draw0 [0, 1, 2, 3, 4, 5, 6, 7, 8, 9, 10, 11, 12, 13, 14, 15, 16, 17, 18, 19] (by kernel_rfl) (by decide +kernel) (by decide +kernel) (by decide) <| dp_p rfl (fun _ _ => opT_move rfl) rfl rfl rfl <| dp_p rfl (fun _ _ => opT_move rfl) rfl rfl rfl <| dp_q_yes rfl rfl rfl (opT_move rfl) rfl rfl rfl <| dp_q_yes rfl rfl rfl (opT_move rfl) rfl rfl rfl <| dp_q_yes rfl rfl rfl (opT_callw (cH) rfl rfl rfl) rfl rfl rfl <| dp_q_yes rfl rfl rfl (opT_move rfl) rfl rfl rfl <| dp_q_yes rfl rfl rfl (opT_fieldAddr rfl) rfl rfl rfl <| dp_q_yes rfl rfl rfl (opT_load_own rfl rfl) rfl rfl rfl <| dp_q_yes rfl rfl rfl (opT_move rfl) rfl rfl rfl <| dp_q_yes rfl rfl rfl (opT_move rfl) rfl rfl rfl <| ?_
            first | refine dp_q_yes rfl rfl rfl (opT_idx1 rfl rfl (by omega) (by omega)) rfl rfl rfl ?_ | refine dp_q_yes rfl rfl rfl (opT_idx (ks := 0) rfl rfl (by omega) (by omega)) rfl rfl rfl ?_
            first | refine dp_q_yes rfl rfl rfl (opT_load_h rfl (by assumption)) rfl rfl rfl ?_ | refine dp_q_yes rfl rfl rfl (opT_load_own rfl rfl) rfl rfl rfl ?_
            refine dp_q_yes rfl rfl rfl (opT_move rfl) rfl rfl rfl <| ?_
            first | refine dp_q_yes rfl rfl rfl (opT_idx1 rfl rfl (by omega) (by omega)) rfl rfl rfl ?_ | refine dp_q_yes rfl rfl rfl (opT_idx (ks := 0) rfl rfl (by omega) (by omega)) rfl rfl rfl ?_
            refine dp_q_yes rfl rfl rfl (opT_fieldAddr rfl) rfl rfl rfl <| dp_q_yes rfl rfl rfl (opT_idxArr rfl rfl (by omega) (by omega)) rfl rfl rfl <| ?_
            first | refine dp_q_yes rfl rfl rfl (opT_load_h rfl (by assumption)) rfl rfl rfl ?_ | refine dp_q_yes rfl rfl rfl (opT_load_own rfl rfl) rfl rfl rfl ?_
            first | refine dp_q_yes rfl rfl rfl (opT_pick_t rfl rfl) rfl rfl rfl ?_ | refine dp_q_yes rfl rfl rfl (opT_pick_f rfl rfl) rfl rfl rfl ?_
            first | refine dp_p rfl (fun _ _ => opT_pick_t rfl rfl) rfl rfl rfl ?_ | refine dp_p rfl (fun _ _ => opT_pick_f rfl rfl) rfl rfl rfl ?_
            refine dp_p rfl (fun _ _ => opT_assign rfl) rfl rfl rfl <| dp_done0 <| en_blk <| en_then <| en_region <| en_det (opT_move rfl) rfl <| en_det (opT_add rfl rfl (by constructor <;> omega)) rfl <| en_det (opT_assign rfl) rfl <| en_nil <| en_then <| ?_
            exact en_again (m + 1) (by omega) (by omega) ⟨rfl, rfl, rfl, rfl, rfl, rfl, gb rfl (by rw [hstep]; rfl), gi rfl (by simp), trivial⟩ (.refl _) inferInstance
    · skip
      obtain rfl : m = 5 := by omega
      rw [anyK_five]
      have cF := forceR_ct h tv (.slice (some ⟨hb, hoff, none⟩) b.nh hcp) b.hand b.nh hd t hH0 hhn (ok hd hhn) ht
      have hfd := forceD_bound (ok hd hhn) t
      have eF : forceB b t hd = forceD (b.hand hd) t := rfl
      rw [eF] at hnext
      refine en_exit <| en_then_exit <| en_then_exit <| en_blk_hit <| en_then <| en_seq <| en_region <| en_det (opT_move rfl) rfl <| en_nil <| en_then <| ?_
      cases hA : anyT (takesB b hd) s with
      | true =>
        rw [hA, if_pos rfl] at hnext
        skip
        refine en_cond_t rfl <| en_draw0 [0, 1, 2, 3, 4, 5, 6, 7, 8, 9] (by kernel_rfl) (by decide +kernel) (by decide +kernel) (by decide) <| dp_p rfl (fun _ _ => opT_move rfl) rfl rfl rfl <| dp_q rfl (opT_loadW_own rfl rfl) rfl rfl rfl <| dp_p rfl (fun _ _ => opT_move rfl) rfl rfl rfl <| dp_p rfl (fun _ _ => opT_move rfl) rfl rfl rfl <| ?_
        first | refine dp_p rfl (fun _ _ => opT_idx1 rfl rfl (by omega) (by omega)) rfl rfl rfl ?_ | refine dp_p rfl (fun _ _ => opT_idx (ks := 0) rfl rfl (by omega) (by omega)) rfl rfl rfl ?_
        first | refine dp_q rfl (opT_load_h rfl (by assumption)) rfl rfl rfl ?_ | refine dp_q rfl (opT_load_own rfl rfl) rfl rfl rfl ?_
        refine dp_p rfl (fun _ _ => opT_move rfl) rfl rfl rfl <| dp_ed0 rfl (opT_callw (cF) rfl rfl rfl) rfl rfl rfl rfl <| dp_p rfl (fun _ _ => opT_add rfl rfl (by constructor <;> omega)) rfl rfl rfl <| dp_p rfl (fun _ _ => opT_assign rfl) rfl rfl rfl <| dp_done0 <| en_blk <| en_then <| en_region <| en_det (opT_move rfl) rfl <| en_det (opT_add rfl rfl (by constructor <;> omega)) rfl <| en_det (opT_assign rfl) rfl <| en_nil <| en_then <| ?_
        exact en_again (i + 1) (by omega) (by omega) ⟨rfl, rfl, rfl, rfl, gi rfl hnext.symm, gi rfl (by simp), trivial⟩ (.refl _) inferInstance
      | false =>
        rw [hA, if_neg (by simp), Int.add_zero] at hnext
        refine en_cond_f rfl <| en_skip <| en_blk <| en_then <| en_region <| en_det (opT_move rfl) rfl <| en_det (opT_add rfl rfl (by constructor <;> omega)) rfl <| en_det (opT_assign rfl) rfl <| en_nil <| en_then <| ?_
        exact en_again (i + 1) (by omega) (by omega) ⟨rfl, rfl, rfl, rfl, gi rfl hnext.symm, gi rfl (by simp), trivial⟩ (.refl _) inferInstance
  · skip
    obtain rfl : i = hands.length := by omega
    rw [List.take_length]
    refine en_exit <| en_then_exit <| en_then_exit <| en_blk_hit <| en_then <| en_seq <| en_region <| en_det (opT_move rfl) rfl <| en_det (opT_assign rfl) rfl <| en_nil <| en_then <| en_ret <| ?_
    refine en_return (rs := [.tmp 8]) rfl (.cons (.tmp rfl) .nil) (.refl _) (Γ1 := []) ⟨rfl, rfl⟩
theorem boundsR_ct (h : Heap) (xv hv : Value) (b : BeltD) (t s : Nat) (hX : IsBelt h (.agg #[xv, hv]) b) (hk : BOK b) (ht : t < b.nt) (hs : s < 32) :
    CT Try.prog 54 [.agg #[xv, hv], .int .i64 t, .int .i64 s] h [] (DetW (.int .i64 (cutB b t s)) []) := by
  obtain ⟨hT, hH⟩ := belt_parts hX
  have hT0 := hT
  have hn8 := hk.n8
  have hh5 := hk.h5
  obtain ⟨_, tad, tcp, rfl, tm1, tc1, tp1⟩ := hT
  obtain ⟨tq, toff, rfl, tcells⟩ := tp1 (by omega)
  have hbb := behind_bound hk t s
  rw [beh_eq, ← behS_all] at hbb
  refine ct_intro Try.func54 rfl rfl rfl rfl fun Φ => ?_
  refine en_seq <| en_region <| en_box rfl rfl rfl fun b3 => en_det (opT_assign rfl) rfl <| en_nil <| en_then <| en_seq <| en_draw0 [0, 1, 3, 4, 2, 5, 6] (by kernel_rfl) (by decide +kernel) (by decide +kernel) (by decide) <| dp_q rfl (opT_loadW_own rfl rfl) rfl rfl rfl <| dp_q rfl (opT_loadW_own rfl rfl) rfl rfl rfl <| dp_p rfl (fun _ _ => opT_move rfl) rfl rfl rfl <| dp_p rfl (fun _ _ => opT_move rfl) rfl rfl rfl <| ?_
  refine dp_callq (handsR_ct h _ hv b.hand b.nh hH (by omega)) rfl rfl rfl rfl rfl rfl rfl fun vh h1 s1 hho => ?_
  refine dp_ed0 rfl (opT_callw (behindR_ct h1 (.slice (some ⟨tq, toff, none⟩) b.nt tcp) hv vh b (allH b) t s (hH.mono s1) hk.ok (allH_lt b) (by rw [allH_len]; omega) hho (by omega) hs) rfl rfl rfl) rfl rfl rfl rfl ?_
  refine dp_p rfl (fun _ _ => opT_assign rfl) rfl rfl rfl <| dp_done0 <| en_then <| en_seq <| en_seq <| en_region <| en_det (opT_assign rfl) rfl <| en_nil <| en_then <| en_block <| ?_
  have e0 : behS b (allH b) t s = bdK b t s 0 := by simp [bdK, sumN]
  rw [e0]
  refine en_loop (fun k : Nat => k ≤ 5) (fun k => [(1, .int .i64 t), (2, .int .i64 s), (3, pt b3), (7, .int .i64 (bdK b t s k)), (8, .int .i64 k)]) (fun _ => h1) (fun _ => [box b3 59 [.slice (some ⟨tq, toff, none⟩) b.nt tcp, hv]]) (fun k => 5 - k) 0 (by omega) ⟨rfl, rfl, rfl, rfl, rfl, trivial⟩ (.refl _) inferInstance fun k hk' => ?_
  refine en_seq <| en_seq <| en_region <| en_det (opT_move rfl) rfl <| ?_
  first | refine en_det (opT_lss_t rfl rfl (by omega)) rfl ?_ | refine en_det (opT_lss_f rfl rfl (by omega)) rfl ?_ | refine en_det (opT_lss rfl rfl) rfl ?_
  refine en_nil <| en_then <| ?_
  refine en_if rfl (fun hlt => ?_) (fun hlt => ?_)
  · skip
    have hk5 : k < 5 := by omega
    have hcell : cellH h1 tq (toff + t * 5 + k) = some (.int .i64 (b.tray t k)) := cellH_sub s1 (tcells.cell ht hk5)
    have htr := hk.tr t k ht hk5
    have cH := has_ct h1 s k hs (by omega)
    have hsb := sumN_bound (n := k) (f := fun m => if s.testBit m = true then 0 else b.tray t m) (B := 60) fun m hm => by
      have := hk.tr t m ht (by omega)
      split <;> omega
    have hbd : 0 ≤ bdK b t s k ∧ bdK b t s k ≤ 1000 := by unfold bdK; omega
    have hnext : bdK b t s (k + 1) = bdK b t s k + (if s.testBit k = true then 0 else b.tray t k) := by unfold bdK; simp only [sumN]; omega
    generalize bdK b t s k = N at hnext hbd ⊢
    skip
    cases hB : s.testBit k with
    | true =>
      rw [hB] at cH
      rw [hB, if_pos rfl, Int.add_zero] at hnext
      refine en_skip <| en_then <| en_seq <| en_block <| en_seq <| en_region <| en_det (opT_move rfl) rfl <| en_det (opT_move rfl) rfl <| en_calld (cH) rfl rfl rfl rfl <| ?_
      first | refine en_det (opT_not_t rfl) rfl ?_ | refine en_det (opT_not_f rfl) rfl ?_ | refine en_det (opT_not rfl) rfl ?_
      refine en_nil <| en_then <| en_cond_f rfl <| en_skip <| en_blk <| en_then <| en_region <| en_det (opT_move rfl) rfl <| en_det (opT_add rfl rfl (by constructor <;> omega)) rfl <| en_det (opT_assign rfl) rfl <| en_nil <| en_then <| ?_
      exact en_again (k + 1) (by omega) (by omega) ⟨rfl, rfl, rfl, gi rfl hnext.symm, gi rfl (by simp), trivial⟩ (.refl _) inferInstance
    | false =>
      rw [hB] at cH
      rw [hB, if_neg (by simp)] at hnext
      refine en_skip <| en_then <| en_seq <| en_block <| en_seq <| en_region <| en_det (opT_move rfl) rfl <| en_det (opT_move rfl) rfl <| en_calld (cH) rfl rfl rfl rfl <| ?_
      first | refine en_det (opT_not_t rfl) rfl ?_ | refine en_det (opT_not_f rfl) rfl ?_ | refine en_det (opT_not rfl) rfl ?_
      refine en_nil <| en_then <| en_cond_t rfl <| en_region <| en_det (opT_move rfl) rfl <| en_det (opT_fieldAddr rfl) rfl <| en_det (opT_load_own rfl rfl) rfl <| en_det (opT_move rfl) rfl <| en_det (opT_move rfl) rfl <| ?_
      first | refine en_det (opT_idx1 rfl rfl (by omega) (by omega)) rfl ?_ | refine en_det (opT_idx (ks := 0) rfl rfl (by omega) (by omega)) rfl ?_
      refine en_det (opT_idxArr rfl rfl (by omega) (by omega)) rfl <| ?_
      first | refine en_det (opT_load_h rfl (by assumption)) rfl ?_ | refine en_det (opT_load_own rfl rfl) rfl ?_
      refine en_det (opT_add rfl rfl (by constructor <;> omega)) rfl <| en_det (opT_assign rfl) rfl <| en_nil <| en_blk <| en_then <| en_region <| en_det (opT_move rfl) rfl <| en_det (opT_add rfl rfl (by constructor <;> omega)) rfl <| en_det (opT_assign rfl) rfl <| en_nil <| en_then <| ?_
      exact en_again (k + 1) (by omega) (by omega) ⟨rfl, rfl, rfl, gi rfl hnext.symm, gi rfl (by simp), trivial⟩ (.refl _) inferInstance
  · skip
    obtain rfl : k = 5 := by omega
    rw [bdK_five]
    refine en_exit <| en_then_exit <| en_then_exit <| en_blk_hit <| en_then <| en_seq <| en_region <| en_det (opT_move rfl) rfl <| en_det (opT_assign rfl) rfl <| en_nil <| en_then <| en_ret <| ?_
    refine en_return (rs := [.tmp 6]) rfl (.cons (.tmp rfl) .nil) s1 (Γ1 := []) ⟨rfl, rfl⟩
theorem mostR_ct (h : Heap) (xv hv : Value) (b : BeltD) (t : Nat) (hX : IsBelt h (.agg #[xv, hv]) b) (hk : BOK b) (ht : t < b.nt) :
    CT Try.prog 55 [.agg #[xv, hv], .int .i64 t] h [] (DetW (.int .i64 (mostT b t)) []) := by
  obtain ⟨hT, hH⟩ := belt_parts hX
  have hX0 := hX
  obtain ⟨_, tad, tcp, rfl, tm1, tc1, tp1⟩ := hT
  obtain ⟨tq, toff, rfl, tcells⟩ := tp1 (by omega)
  have hrow : CellsH h tq (toff + t * 5) (trayL (b.tray t)) := tcells.row ht
  have cS := sumR_ct h (b.tray t) fun m hm => by have := hk.tr t m ht hm; omega
  refine ct_intro Try.func55 rfl rfl rfl rfl fun Φ => ?_
  refine en_seq <| en_region <| en_box rfl rfl rfl fun b2 => en_det (opT_assign rfl) rfl <| en_nil <| en_then <| en_seq <| en_region <| en_det (opT_fieldAddr rfl) rfl <| en_det (opT_load_own rfl rfl) rfl <| en_det (opT_move rfl) rfl <| ?_
  first | refine en_det (opT_idx1 rfl rfl (by omega) (by omega)) rfl ?_ | refine en_det (opT_idx (ks := 0) rfl rfl (by omega) (by omega)) rfl ?_
  refine en_det (opT_loadA_h rfl hrow (row_length _ _)) rfl <| en_calld (cS) rfl rfl rfl rfl <| en_det (opT_assign rfl) rfl <| en_nil <| en_then <| en_seq <| en_seq <| en_region <| en_det (opT_assign rfl) rfl <| en_nil <| en_then <| en_block <| ?_
  refine en_loop (fun k : Nat => k ≤ 32) (fun k => [(1, .int .i64 t), (2, pt b2), (5, .int .i64 (minK b t k)), (6, .int .i64 k)]) (fun _ => h) (fun _ => [box b2 59 [.slice (some ⟨tq, toff, none⟩) b.nt tcp, hv]]) (fun k => 32 - k) 0 (by omega) ⟨rfl, rfl, rfl, rfl, trivial⟩ (.refl _) (tkAll _) fun k hk' => ?_
  refine en_seq <| en_seq <| en_region <| en_det (opT_move rfl) rfl <| ?_
  first | refine en_det (opT_lss_t rfl rfl (by omega)) rfl ?_ | refine en_det (opT_lss_f rfl rfl (by omega)) rfl ?_ | refine en_det (opT_lss rfl rfl) rfl ?_
  refine en_nil <| en_then <| ?_
  refine en_if rfl (fun hlt => ?_) (fun hlt => ?_)
  · skip
    have cB := boundsR_ct h _ hv b t k hX0 hk ht (by omega)
    refine en_skip <| en_then <| en_seq <| en_block <| en_region <| en_det (opT_move rfl) rfl <| en_det (opT_loadW_own rfl rfl) rfl <| en_det (opT_move rfl) rfl <| en_det (opT_move rfl) rfl <| en_calld (cB) rfl rfl rfl rfl <| en_det (opT_min2 rfl rfl) rfl <| en_det (opT_assign rfl) rfl <| en_nil <| en_blk <| en_then <| en_region <| en_det (opT_move rfl) rfl <| en_det (opT_add rfl rfl (by constructor <;> omega)) rfl <| en_det (opT_assign rfl) rfl <| en_nil <| en_then <| ?_
    exact en_again (k + 1) (by omega) (by omega) ⟨rfl, rfl, rfl, gi rfl (by simp), trivial⟩ (.refl _) inferInstance
  · skip
    obtain rfl : k = 32 := by omega
    rw [minK_most hk ht]
    refine en_exit <| en_then_exit <| en_then_exit <| en_blk_hit <| en_then <| en_seq <| en_region <| en_det (opT_move rfl) rfl <| en_det (opT_assign rfl) rfl <| en_nil <| en_then <| en_ret <| ?_
    refine en_return (rs := [.tmp 4]) rfl (.cons (.tmp rfl) .nil) (.refl _) (Γ1 := []) ⟨rfl, rfl⟩
theorem allR_ct (h : Heap) (xv hv : Value) (b : BeltD) (hX : IsBelt h (.agg #[xv, hv]) b) (hk : BOK b) :
    CT Try.prog 61 [.agg #[xv, hv]] h [] (DetW (.int .i64 (mostA b)) []) := by
  obtain ⟨hT, hH⟩ := belt_parts hX
  have hX0 := hX
  have hn8 := hk.n8
  obtain ⟨_, tad, tcp, rfl, tm1, tc1, tp1⟩ := hT
  refine ct_intro Try.func61 rfl rfl rfl rfl fun Φ => ?_
  refine en_seq <| en_region <| en_box rfl rfl rfl fun b1 => en_det (opT_assign rfl) rfl <| en_nil <| en_then <| en_seq <| en_region <| en_det (opT_assign rfl) rfl <| en_nil <| en_then <| en_seq <| en_seq <| en_region <| en_det (opT_assign rfl) rfl <| en_nil <| en_then <| en_block <| ?_
  refine en_loop (fun k : Nat => k ≤ b.nt) (fun k => [(1, pt b1), (3, .int .i64 (sumN k (mostT b))), (4, .int .i64 k)]) (fun _ => h) (fun _ => [box b1 59 [.slice tad b.nt tcp, hv]]) (fun k => b.nt - k) 0 (by omega) ⟨rfl, rfl, rfl, trivial⟩ (.refl _) (tkAll _) fun k hk' => ?_
  have hsb := sumN_bound (n := k) (f := mostT b) (B := 200) fun i _ => mostT_bound hk i
  refine en_seq <| en_seq <| en_region <| en_det (opT_move rfl) rfl <| en_det (opT_fieldAddr rfl) rfl <| en_det (opT_load_own rfl rfl) rfl <| en_det (opT_len rfl) rfl <| ?_
  first | refine en_det (opT_lss_t rfl rfl (by omega)) rfl ?_ | refine en_det (opT_lss_f rfl rfl (by omega)) rfl ?_ | refine en_det (opT_lss rfl rfl) rfl ?_
  refine en_nil <| en_then <| ?_
  refine en_if rfl (fun hlt => ?_) (fun hlt => ?_)
  · skip
    have cM := mostR_ct h _ hv b k hX0 hk (by omega)
    have hmb := mostT_bound hk k
    have hnext : sumN (k + 1) (mostT b) = sumN k (mostT b) + mostT b k := rfl
    refine en_skip <| en_then <| en_seq <| en_block <| en_region <| en_det (opT_move rfl) rfl <| en_det (opT_loadW_own rfl rfl) rfl <| en_det (opT_move rfl) rfl <| en_calld (cM) rfl rfl rfl rfl <| en_det (opT_add rfl rfl (by constructor <;> omega)) rfl <| en_det (opT_assign rfl) rfl <| en_nil <| en_blk <| en_then <| en_region <| en_det (opT_move rfl) rfl <| en_det (opT_add rfl rfl (by constructor <;> omega)) rfl <| en_det (opT_assign rfl) rfl <| en_nil <| en_then <| ?_
    exact en_again (k + 1) (by omega) (by omega) ⟨rfl, gi rfl hnext.symm, gi rfl (by simp), trivial⟩ (.refl _) inferInstance
  · skip
    obtain rfl : k = b.nt := by omega
    refine en_exit <| en_then_exit <| en_then_exit <| en_blk_hit <| en_then <| en_seq <| en_region <| en_det (opT_move rfl) rfl <| en_det (opT_assign rfl) rfl <| en_nil <| en_then <| en_ret <| ?_
    refine en_return (rs := [.tmp 2]) rfl (.cons (.tmp rfl) .nil) (.refl _) (Γ1 := []) ⟨rfl, rfl⟩
end Go.Sx

/- The reference: sharings. -/
namespace Go.Sx
open Go.Proofs
set_option maxRecDepth 100000
theorem shV_rows (b : BeltD) (X : Nat → Nat → Int) : sumN b.nh (fun h => sum5 (X h)) = shV b X := by unfold shV sum5 tot; rw [sumN_swap]
def shR (b : BeltD) (t : Nat) (X : Nat → Nat → Int) : Int := if shOK b t X = true then shV b X else -1
theorem shR_hand {b : BeltD} {t h : Nat} {X : Nat → Nat → Int} (hh : h < b.nh) (e : shH b t X h = false) : shR b t X = -1 := by
  unfold shR shOK; rw [allI_false hh e]; simp
theorem shH_m {b : BeltD} {t h m : Nat} {X : Nat → Nat → Int} (hm : m < 5) (e : shM b X h m = false) : shH b t X h = false := by
  unfold shH; rw [allI_false hm e]; rfl
attribute [local irreducible] Code.wpIn wpListIn Exit.then Exit.inBlock BQ Again Hd St En OpT box blk RQ BQ0 fmap own Desk Chute
theorem sharedR_ct (h0 : Heap) (xv hv sv : Value) (b : BeltD) (t : Nat) (X : Nat → Nat → Int) (hX : IsBelt h0 (.agg #[xv, hv]) b) (hk : BOK b) (ht : t < b.nt) (hs : IsTrays h0 sv b.nh X) :
    CT Try.prog 63 [.agg #[xv, hv], .int .i64 t, sv] h0 [] (DetW (.int .i64 (shR b t X)) []) := by
  obtain ⟨hT, hH⟩ := belt_parts hX
  have hH0 := hH
  have hn8 := hk.n8
  have hh5 := hk.h5
  obtain ⟨_, tad, tcp, rfl, tm1, tc1, tp1⟩ := hT
  obtain ⟨tq, toff, rfl, tcells⟩ := tp1 (by omega)
  obtain ⟨rv, ⟨_, had, hcp, rfl, hm1, hc1, hp1⟩, hr⟩ := hH
  obtain ⟨_, sad, scp, rfl, sm1, sc1, sp1⟩ := hs
  refine ct_intro Try.func63 rfl rfl rfl rfl fun Φ => ?_
  refine en_seq <| en_region <| en_box rfl rfl rfl fun b3 => en_det (opT_assign rfl) rfl <| en_nil <| en_then <| en_seq <| en_region <| en_det (opT_assign rfl) rfl <| en_nil <| en_then <| en_seq <| en_seq <| en_region <| en_det (opT_assign rfl) rfl <| en_nil <| en_then <| en_block <| ?_
  refine en_loop (fun k : Nat => k ≤ b.nh ∧ (∀ i, i < k → shH b t X i = true) ∧ 0 ≤ sumN k (fun i => sum5 (X i)) ∧ sumN k (fun i => sum5 (X i)) ≤ 40 * k) (fun k => [(1, .int .i64 t), (2, .slice sad b.nh scp), (3, pt b3), (7, .int .i64 (sumN k fun i => sum5 (X i))), (8, .int .i64 k)]) (fun _ => h0) (fun _ => [box b3 59 [.slice (some ⟨tq, toff, none⟩) b.nt tcp, .slice had b.nh hcp]]) (fun k => b.nh - k) 0 ⟨by omega, fun i hi => by omega, by simp [sumN], by simp [sumN]⟩ ⟨rfl, rfl, rfl, rfl, rfl, trivial⟩ (.refl _) (tkAll _) fun k ⟨hkn, hok, hs0, hs1⟩ => ?_
  refine en_seq <| en_seq <| en_region <| en_det (opT_move rfl) rfl <| en_det (opT_move rfl) rfl <| en_det (opT_len rfl) rfl <| ?_
  first | refine en_det (opT_lss_t rfl rfl (by omega)) rfl ?_ | refine en_det (opT_lss_f rfl rfl (by omega)) rfl ?_ | refine en_det (opT_lss rfl rfl) rfl ?_
  refine en_nil <| en_then <| ?_
  refine en_if rfl (fun hlt1 => ?_) (fun hlt1 => ?_)
  · skip
    have hkl : k < b.nh := by omega
    obtain ⟨hb, hoff, rfl, hcells⟩ := hp1 (by omega)
    obtain ⟨sb, soff, rfl, scells⟩ := sp1 (by omega)
    have cF := forceR_ct h0 (.slice (some ⟨tq, toff, none⟩) b.nt tcp) (.slice (some ⟨hb, hoff, none⟩) b.nh hcp) b.hand b.nh k t hH0 hkl (hk.ok k hkl) (by omega)
    have hfb := forceD_bound (hk.ok k hkl) t
    have hnext : sumN (k + 1) (fun i => sum5 (X i)) = sumN k (fun i => sum5 (X i)) + sum5 (X k) := rfl
    generalize hN : sumN k (fun i => sum5 (X i)) = N at hs0 hs1 hnext ⊢
    refine en_skip <| en_then <| en_seq <| en_block <| en_seq <| en_region <| en_det (opT_assign rfl) rfl <| en_nil <| en_then <| en_seq <| en_seq <| en_region <| en_det (opT_assign rfl) rfl <| en_nil <| en_then <| en_block <| ?_
    refine en_loop (fun m : Nat => m ≤ 5 ∧ ∀ j, j < m → shM b X k j = true) (fun m => [(1, .int .i64 t), (2, .slice (some ⟨sb, soff, none⟩) b.nh scp), (3, pt b3), (7, .int .i64 N), (8, .int .i64 k), (9, .int .i64 (sumN m (X k))), (10, .int .i64 m)]) (fun _ => h0) (fun _ => [box b3 59 [.slice (some ⟨tq, toff, none⟩) b.nt tcp, .slice (some ⟨hb, hoff, none⟩) b.nh hcp]]) (fun m => 5 - m) 0 ⟨by omega, fun j hj => by omega⟩ ⟨rfl, rfl, rfl, rfl, rfl, rfl, rfl, trivial⟩ (.refl _) (tkAll _) fun m ⟨hm, hjm⟩ => ?_
    have hsm := sumN_bound (n := m) (f := X k) (B := 60) fun j hj => shM_rng (hjm j hj)
    refine en_seq <| en_seq <| en_region <| en_det (opT_move rfl) rfl <| ?_
    first | refine en_det (opT_lss_t rfl rfl (by omega)) rfl ?_ | refine en_det (opT_lss_f rfl rfl (by omega)) rfl ?_ | refine en_det (opT_lss rfl rfl) rfl ?_
    refine en_nil <| en_then <| ?_
    refine en_if rfl (fun hlt2 => ?_) (fun hlt2 => ?_)
    · skip
      have hm5 : m < 5 := by omega
      have hce := hcells.cell hkl (by omega : m < 9)
      have hcv : hcell (b.hand k) (rv k) m = .bool ((b.hand k).takes m) := by simp [hcell, hm5]
      rw [hcv] at hce
      have hcx : cellH h0 sb (soff + k * 5 + m) = some (.int .i64 (X k m)) := scells.cell hkl hm5
      have eM : shM b X k m = (inD (X k m) 0 60 && (!decide (0 < X k m) || (b.hand k).takes m)) := rfl
      have cO := off_ct (X k m) 0 60 h0
      have hstep : sumN (m + 1) (X k) = sumN m (X k) + X k m := rfl
      have hgo : shM b X k m = true → ∀ j, j < m + 1 → shM b X k j = true := fun e j hj => by
        rcases Nat.lt_succ_iff_lt_or_eq.1 hj with h1 | rfl
        · exact hjm j h1
        · exact e
      have hbad : shM b X k m = false → shR b t X = -1 := fun e => shR_hand hkl (shH_m hm5 e)
      have hrng : inD (X k m) 0 60 = true → 0 ≤ X k m ∧ X k m ≤ 60 := fun e => by simpa [inD] using e
      generalize hx : X k m = x at *
      skip
      cases hin : inD x 0 60 with
      | false =>
        rw [hin] at cO eM
        refine en_skip <| en_then <| en_seq <| en_block <| en_seq <| en_seq <| en_region <| en_det (opT_move rfl) rfl <| en_det (opT_move rfl) rfl <| en_det (opT_move rfl) rfl <| ?_
        first | refine en_det (opT_idx1 rfl rfl (by omega) (by omega)) rfl ?_ | refine en_det (opT_idx (ks := 0) rfl rfl (by omega) (by omega)) rfl ?_
        refine en_det (opT_idxArr rfl rfl (by omega) (by omega)) rfl <| ?_
        first | refine en_det (opT_load_h rfl (by assumption)) rfl ?_ | refine en_det (opT_load_own rfl rfl) rfl ?_
        refine en_calld (cO) rfl rfl rfl rfl <| en_det (opT_move rfl) rfl <| en_g_no rfl rfl rfl <| en_g_no rfl rfl rfl <| en_g_no rfl rfl rfl <| en_g_no rfl rfl rfl <| en_g_no rfl rfl rfl <| en_g_no rfl rfl rfl <| en_g_no rfl rfl rfl <| en_g_no rfl rfl rfl <| en_g_undef rfl rfl rfl <| en_g_undef rfl rfl rfl <| en_g_undef rfl rfl rfl <| en_g_undef rfl rfl rfl <| en_g_undef rfl rfl rfl <| en_g_undef rfl rfl rfl <| en_g_undef rfl rfl rfl <| en_g_undef rfl rfl rfl <| en_g_undef rfl rfl rfl <| en_g_no rfl rfl rfl <| ?_
        first | refine en_det (opT_pick_t rfl rfl) rfl ?_ | refine en_det (opT_pick_f rfl rfl) rfl ?_
        refine en_nil <| en_then <| en_cond_t rfl <| en_seq <| en_region <| en_det (opT_assign rfl) rfl <| en_nil <| en_then <| en_ret <| en_then_ret <| en_blk_ret <| en_then_ret <| en_then_ret <| en_blk_ret <| en_then_ret <| en_blk_ret <| en_then_ret <| en_then_ret <| en_blk_ret <| en_then_ret <| ?_
        refine en_return (rs := [.tmp 6]) rfl (.cons (.tmp rfl) .nil) (.refl _) (Γ1 := []) ⟨by rw [hbad (by rw [eM]; rfl)]; rfl, rfl⟩
      | true =>
        rw [hin] at cO eM
        have hr2 := hrng hin
        by_cases hpos : 0 < x
        · cases htk : (b.hand k).takes m with
          | false =>
            rw [htk] at hce eM
            refine en_skip <| en_then <| en_seq <| en_block <| en_seq <| en_seq <| en_region <| en_det (opT_move rfl) rfl <| en_det (opT_move rfl) rfl <| en_det (opT_move rfl) rfl <| ?_
            first | refine en_det (opT_idx1 rfl rfl (by omega) (by omega)) rfl ?_ | refine en_det (opT_idx (ks := 0) rfl rfl (by omega) (by omega)) rfl ?_
            refine en_det (opT_idxArr rfl rfl (by omega) (by omega)) rfl <| ?_
            first | refine en_det (opT_load_h rfl (by assumption)) rfl ?_ | refine en_det (opT_load_own rfl rfl) rfl ?_
            refine en_calld (cO) rfl rfl rfl rfl <| en_det (opT_move rfl) rfl <| en_g_yes rfl rfl <| en_det (opT_move rfl) rfl <| en_g_yes rfl rfl <| en_det (opT_move rfl) rfl <| en_g_yes rfl rfl <| en_det (opT_move rfl) rfl <| en_g_yes rfl rfl <| ?_
            first | refine en_det (opT_idx1 rfl rfl (by omega) (by omega)) rfl ?_ | refine en_det (opT_idx (ks := 0) rfl rfl (by omega) (by omega)) rfl ?_
            refine en_g_yes rfl rfl <| en_det (opT_idxArr rfl rfl (by omega) (by omega)) rfl <| en_g_yes rfl rfl <| ?_
            first | refine en_det (opT_load_h rfl (by assumption)) rfl ?_ | refine en_det (opT_load_own rfl rfl) rfl ?_
            refine en_g_yes rfl rfl <| en_det (opT_gtr_t rfl rfl (by omega)) rfl <| en_g_yes rfl rfl <| en_det (opT_move rfl) rfl <| en_g_yes rfl rfl <| en_det (opT_fieldAddr rfl) rfl <| en_g_yes rfl rfl <| en_det (opT_load_own rfl rfl) rfl <| en_g_yes rfl rfl <| en_det (opT_move rfl) rfl <| en_g_yes rfl rfl <| en_det (opT_move rfl) rfl <| en_g_yes rfl rfl <| ?_
            first | refine en_det (opT_idx1 rfl rfl (by omega) (by omega)) rfl ?_ | refine en_det (opT_idx (ks := 0) rfl rfl (by omega) (by omega)) rfl ?_
            refine en_g_yes rfl rfl <| en_det (opT_fieldAddr rfl) rfl <| en_g_yes rfl rfl <| en_det (opT_idxArr rfl rfl (by omega) (by omega)) rfl <| en_g_yes rfl rfl <| ?_
            first | refine en_det (opT_load_h rfl (by assumption)) rfl ?_ | refine en_det (opT_load_own rfl rfl) rfl ?_
            refine en_g_yes rfl rfl <| ?_
            first | refine en_det (opT_not_t rfl) rfl ?_ | refine en_det (opT_not_f rfl) rfl ?_ | refine en_det (opT_not rfl) rfl ?_
            refine en_g_yes rfl rfl <| ?_
            first | refine en_det (opT_pick_t rfl rfl) rfl ?_ | refine en_det (opT_pick_f rfl rfl) rfl ?_
            first | refine en_det (opT_pick_t rfl rfl) rfl ?_ | refine en_det (opT_pick_f rfl rfl) rfl ?_
            refine en_nil <| en_then <| en_cond_t rfl <| en_seq <| en_region <| en_det (opT_assign rfl) rfl <| en_nil <| en_then <| en_ret <| en_then_ret <| en_blk_ret <| en_then_ret <| en_then_ret <| en_blk_ret <| en_then_ret <| en_blk_ret <| en_then_ret <| en_then_ret <| en_blk_ret <| en_then_ret <| ?_
            refine en_return (rs := [.tmp 6]) rfl (.cons (.tmp rfl) .nil) (.refl _) (Γ1 := []) ⟨by rw [hbad (by rw [eM]; simp [hpos])]; rfl, rfl⟩
          | true =>
            rw [htk] at hce eM
            refine en_skip <| en_then <| en_seq <| en_block <| en_seq <| en_seq <| en_region <| en_det (opT_move rfl) rfl <| en_det (opT_move rfl) rfl <| en_det (opT_move rfl) rfl <| ?_
            first | refine en_det (opT_idx1 rfl rfl (by omega) (by omega)) rfl ?_ | refine en_det (opT_idx (ks := 0) rfl rfl (by omega) (by omega)) rfl ?_
            refine en_det (opT_idxArr rfl rfl (by omega) (by omega)) rfl <| ?_
            first | refine en_det (opT_load_h rfl (by assumption)) rfl ?_ | refine en_det (opT_load_own rfl rfl) rfl ?_
            refine en_calld (cO) rfl rfl rfl rfl <| en_det (opT_move rfl) rfl <| en_g_yes rfl rfl <| en_det (opT_move rfl) rfl <| en_g_yes rfl rfl <| en_det (opT_move rfl) rfl <| en_g_yes rfl rfl <| en_det (opT_move rfl) rfl <| en_g_yes rfl rfl <| ?_
            first | refine en_det (opT_idx1 rfl rfl (by omega) (by omega)) rfl ?_ | refine en_det (opT_idx (ks := 0) rfl rfl (by omega) (by omega)) rfl ?_
            refine en_g_yes rfl rfl <| en_det (opT_idxArr rfl rfl (by omega) (by omega)) rfl <| en_g_yes rfl rfl <| ?_
            first | refine en_det (opT_load_h rfl (by assumption)) rfl ?_ | refine en_det (opT_load_own rfl rfl) rfl ?_
            refine en_g_yes rfl rfl <| en_det (opT_gtr_t rfl rfl (by omega)) rfl <| en_g_yes rfl rfl <| en_det (opT_move rfl) rfl <| en_g_yes rfl rfl <| en_det (opT_fieldAddr rfl) rfl <| en_g_yes rfl rfl <| en_det (opT_load_own rfl rfl) rfl <| en_g_yes rfl rfl <| en_det (opT_move rfl) rfl <| en_g_yes rfl rfl <| en_det (opT_move rfl) rfl <| en_g_yes rfl rfl <| ?_
            first | refine en_det (opT_idx1 rfl rfl (by omega) (by omega)) rfl ?_ | refine en_det (opT_idx (ks := 0) rfl rfl (by omega) (by omega)) rfl ?_
            refine en_g_yes rfl rfl <| en_det (opT_fieldAddr rfl) rfl <| en_g_yes rfl rfl <| en_det (opT_idxArr rfl rfl (by omega) (by omega)) rfl <| en_g_yes rfl rfl <| ?_
            first | refine en_det (opT_load_h rfl (by assumption)) rfl ?_ | refine en_det (opT_load_own rfl rfl) rfl ?_
            refine en_g_yes rfl rfl <| ?_
            first | refine en_det (opT_not_t rfl) rfl ?_ | refine en_det (opT_not_f rfl) rfl ?_ | refine en_det (opT_not rfl) rfl ?_
            refine en_g_yes rfl rfl <| ?_
            first | refine en_det (opT_pick_t rfl rfl) rfl ?_ | refine en_det (opT_pick_f rfl rfl) rfl ?_
            first | refine en_det (opT_pick_t rfl rfl) rfl ?_ | refine en_det (opT_pick_f rfl rfl) rfl ?_
            refine en_nil <| en_then <| en_cond_f rfl <| en_skip <| en_then <| en_region <| en_det (opT_move rfl) rfl <| en_det (opT_move rfl) rfl <| en_det (opT_move rfl) rfl <| en_det (opT_move rfl) rfl <| ?_
            first | refine en_det (opT_idx1 rfl rfl (by omega) (by omega)) rfl ?_ | refine en_det (opT_idx (ks := 0) rfl rfl (by omega) (by omega)) rfl ?_
            refine en_det (opT_idxArr rfl rfl (by omega) (by omega)) rfl <| ?_
            first | refine en_det (opT_load_h rfl (by assumption)) rfl ?_ | refine en_det (opT_load_own rfl rfl) rfl ?_
            refine en_det (opT_add rfl rfl (by constructor <;> omega)) rfl <| en_det (opT_assign rfl) rfl <| en_nil <| en_blk <| en_then <| en_region <| en_det (opT_move rfl) rfl <| en_det (opT_add rfl rfl (by constructor <;> omega)) rfl <| en_det (opT_assign rfl) rfl <| en_nil <| en_then <| ?_
            exact en_again (m + 1) ⟨by omega, hgo (by rw [eM]; simp)⟩ (by omega) ⟨rfl, rfl, rfl, rfl, rfl, gi rfl hstep.symm, gi rfl (by simp), trivial⟩ (.refl _) (tkAll _)
        · skip
          refine en_skip <| en_then <| en_seq <| en_block <| en_seq <| en_seq <| en_region <| en_det (opT_move rfl) rfl <| en_det (opT_move rfl) rfl <| en_det (opT_move rfl) rfl <| ?_
          first | refine en_det (opT_idx1 rfl rfl (by omega) (by omega)) rfl ?_ | refine en_det (opT_idx (ks := 0) rfl rfl (by omega) (by omega)) rfl ?_
          refine en_det (opT_idxArr rfl rfl (by omega) (by omega)) rfl <| ?_
          first | refine en_det (opT_load_h rfl (by assumption)) rfl ?_ | refine en_det (opT_load_own rfl rfl) rfl ?_
          refine en_calld (cO) rfl rfl rfl rfl <| en_det (opT_move rfl) rfl <| en_g_yes rfl rfl <| en_det (opT_move rfl) rfl <| en_g_yes rfl rfl <| en_det (opT_move rfl) rfl <| en_g_yes rfl rfl <| en_det (opT_move rfl) rfl <| en_g_yes rfl rfl <| ?_
          first | refine en_det (opT_idx1 rfl rfl (by omega) (by omega)) rfl ?_ | refine en_det (opT_idx (ks := 0) rfl rfl (by omega) (by omega)) rfl ?_
          refine en_g_yes rfl rfl <| en_det (opT_idxArr rfl rfl (by omega) (by omega)) rfl <| en_g_yes rfl rfl <| ?_
          first | refine en_det (opT_load_h rfl (by assumption)) rfl ?_ | refine en_det (opT_load_own rfl rfl) rfl ?_
          refine en_g_yes rfl rfl <| en_det (opT_gtr_f rfl rfl (by omega)) rfl <| en_g_yes rfl rfl <| en_det (opT_move rfl) rfl <| en_g_no rfl rfl rfl <| en_g_no rfl rfl rfl <| en_g_no rfl rfl rfl <| en_g_no rfl rfl rfl <| en_g_no rfl rfl rfl <| en_g_no rfl rfl rfl <| en_g_no rfl rfl rfl <| en_g_no rfl rfl rfl <| en_g_no rfl rfl rfl <| en_g_yes rfl rfl <| ?_
          first | refine en_det (opT_pick_t rfl rfl) rfl ?_ | refine en_det (opT_pick_f rfl rfl) rfl ?_
          first | refine en_det (opT_pick_t rfl rfl) rfl ?_ | refine en_det (opT_pick_f rfl rfl) rfl ?_
          refine en_nil <| en_then <| en_cond_f rfl <| en_skip <| en_then <| en_region <| en_det (opT_move rfl) rfl <| en_det (opT_move rfl) rfl <| en_det (opT_move rfl) rfl <| en_det (opT_move rfl) rfl <| ?_
          first | refine en_det (opT_idx1 rfl rfl (by omega) (by omega)) rfl ?_ | refine en_det (opT_idx (ks := 0) rfl rfl (by omega) (by omega)) rfl ?_
          refine en_det (opT_idxArr rfl rfl (by omega) (by omega)) rfl <| ?_
          first | refine en_det (opT_load_h rfl (by assumption)) rfl ?_ | refine en_det (opT_load_own rfl rfl) rfl ?_
          refine en_det (opT_add rfl rfl (by constructor <;> omega)) rfl <| en_det (opT_assign rfl) rfl <| en_nil <| en_blk <| en_then <| en_region <| en_det (opT_move rfl) rfl <| en_det (opT_add rfl rfl (by constructor <;> omega)) rfl <| en_det (opT_assign rfl) rfl <| en_nil <| en_then <| ?_
          exact en_again (m + 1) ⟨by omega, hgo (by rw [eM]; simp [hpos])⟩ (by omega) ⟨rfl, rfl, rfl, rfl, rfl, gi rfl hstep.symm, gi rfl (by simp), trivial⟩ (.refl _) (tkAll _)
    · skip
      obtain rfl : m = 5 := by omega
      have eS : sumN 5 (X k) = sum5 (X k) := rfl
      have eH : shH b t X k = (allI 5 (shM b X k) && decide (sum5 (X k) ≤ forceD (b.hand k) t)) := rfl
      rw [allI_yes hjm] at eH
      rw [eS] at hsm ⊢
      generalize sum5 (X k) = S at hsm hnext eH ⊢
      skip
      by_cases hle : S ≤ forceD (b.hand k) t
      · refine en_exit <| en_then_exit <| en_then_exit <| en_blk_hit <| en_then <| en_seq <| en_seq <| en_region <| en_det (opT_move rfl) rfl <| en_det (opT_loadW_own rfl rfl) rfl <| en_det (opT_move rfl) rfl <| en_det (opT_move rfl) rfl <| en_calld (cF) rfl rfl rfl rfl <| en_det (opT_gtr_f rfl rfl (by omega)) rfl <| en_nil <| en_then <| en_cond_f rfl <| en_skip <| en_then <| en_region <| en_det (opT_move rfl) rfl <| en_det (opT_move rfl) rfl <| en_det (opT_add rfl rfl (by constructor <;> omega)) rfl <| en_det (opT_assign rfl) rfl <| en_nil <| en_blk <| en_then <| en_region <| en_det (opT_move rfl) rfl <| en_det (opT_add rfl rfl (by constructor <;> omega)) rfl <| en_det (opT_assign rfl) rfl <| en_nil <| en_then <| ?_
        refine en_again (k + 1) ⟨by omega, fun i hi => ?_, by rw [hnext]; omega, by rw [hnext]; omega⟩ (by omega) ⟨rfl, rfl, rfl, gi rfl hnext.symm, gi rfl (by simp), trivial⟩ (.refl _) (tkAll _)
        rcases Nat.lt_succ_iff_lt_or_eq.1 hi with h1 | rfl
        · exact hok i h1
        · rw [eH]; simp [hle]
      · skip
        refine en_exit <| en_then_exit <| en_then_exit <| en_blk_hit <| en_then <| en_seq <| en_seq <| en_region <| en_det (opT_move rfl) rfl <| en_det (opT_loadW_own rfl rfl) rfl <| en_det (opT_move rfl) rfl <| en_det (opT_move rfl) rfl <| en_calld (cF) rfl rfl rfl rfl <| en_det (opT_gtr_t rfl rfl (by omega)) rfl <| en_nil <| en_then <| en_cond_t rfl <| en_seq <| en_region <| en_det (opT_assign rfl) rfl <| en_nil <| en_then <| en_ret <| en_then_ret <| en_blk_ret <| en_then_ret <| en_then_ret <| en_blk_ret <| en_then_ret <| ?_
        refine en_return (rs := [.tmp 6]) rfl (.cons (.tmp rfl) .nil) (.refl _) (Γ1 := []) ⟨by rw [shR_hand hkl (by rw [eH]; simp; omega)]; rfl, rfl⟩
  · skip
    obtain rfl : k = b.nh := by omega
    have hrow : ∀ i m, i < b.nh → m < 5 → 0 ≤ X i m ∧ X i m ≤ 60 := fun i m hi hm => by
      have h1 := hok i hi
      unfold shH at h1
      simp only [Bool.and_eq_true] at h1
      exact shM_rng (allI_iff.1 h1.1 m hm)
    have hall : allI b.nh (shH b t X) = true := allI_yes hok
    rw [shV_rows]
    have eR : shR b t X = if (allI 5 fun m => decide (tot b.nh X m ≤ b.tray t m)) = true then shV b X else -1 := by unfold shR shOK; rw [hall, Bool.true_and]
    refine en_exit <| en_then_exit <| en_then_exit <| en_blk_hit <| en_then <| en_seq <| en_seq <| en_region <| en_det (opT_assign rfl) rfl <| en_nil <| en_then <| en_block <| ?_
    refine en_loop (fun m : Nat => m ≤ 5 ∧ ∀ j, j < m → tot b.nh X j ≤ b.tray t j) (fun m => [(1, .int .i64 t), (2, .slice sad b.nh scp), (3, pt b3), (7, .int .i64 (shV b X)), (11, .int .i64 m)]) (fun _ => h0) (fun _ => [box b3 59 [.slice (some ⟨tq, toff, none⟩) b.nt tcp, .slice had b.nh hcp]]) (fun m => 5 - m) 0 ⟨by omega, fun j hj => by omega⟩ ⟨rfl, rfl, rfl, rfl, rfl, trivial⟩ (.refl _) (tkAll _) fun m ⟨hm, hjm⟩ => ?_
    refine en_seq <| en_seq <| en_region <| en_det (opT_move rfl) rfl <| ?_
    first | refine en_det (opT_lss_t rfl rfl (by omega)) rfl ?_ | refine en_det (opT_lss_f rfl rfl (by omega)) rfl ?_ | refine en_det (opT_lss rfl rfl) rfl ?_
    refine en_nil <| en_then <| ?_
    refine en_if rfl (fun hlt3 => ?_) (fun hlt3 => ?_)
    · skip
      have hm5 : m < 5 := by omega
      have hct : cellH h0 tq (toff + t * 5 + m) = some (.int .i64 (b.tray t m)) := tcells.cell ht hm5
      refine en_skip <| en_then <| en_seq <| en_block <| en_seq <| en_region <| en_det (opT_assign rfl) rfl <| en_nil <| en_then <| en_seq <| en_seq <| en_region <| en_det (opT_assign rfl) rfl <| en_nil <| en_then <| en_block <| ?_
      refine en_loop (fun k : Nat => k ≤ b.nh) (fun k => [(1, .int .i64 t), (2, .slice sad b.nh scp), (3, pt b3), (7, .int .i64 (shV b X)), (11, .int .i64 m), (12, .int .i64 (tot k X m)), (13, .int .i64 k)]) (fun _ => h0) (fun _ => [box b3 59 [.slice (some ⟨tq, toff, none⟩) b.nt tcp, .slice had b.nh hcp]]) (fun k => b.nh - k) 0 (by omega) ⟨rfl, rfl, rfl, rfl, rfl, rfl, rfl, trivial⟩ (.refl _) (tkAll _) fun k hkn' => ?_
      have htb := tot_bound (X := X) (m := m) (h := k) fun i hi => hrow i m (by omega) hm5
      refine en_seq <| en_seq <| en_region <| en_det (opT_move rfl) rfl <| en_det (opT_move rfl) rfl <| en_det (opT_len rfl) rfl <| ?_
      first | refine en_det (opT_lss_t rfl rfl (by omega)) rfl ?_ | refine en_det (opT_lss_f rfl rfl (by omega)) rfl ?_ | refine en_det (opT_lss rfl rfl) rfl ?_
      refine en_nil <| en_then <| ?_
      refine en_if rfl (fun hlt4 => ?_) (fun hlt4 => ?_)
      · skip
        have hkl : k < b.nh := by omega
        obtain ⟨sb, soff, rfl, scells⟩ := sp1 (by omega)
        have hcx : cellH h0 sb (soff + k * 5 + m) = some (.int .i64 (X k m)) := scells.cell hkl hm5
        have hxb := hrow k m hkl hm5
        have hnext := tot_succ X k m
        refine en_skip <| en_then <| en_seq <| en_block <| en_region <| en_det (opT_move rfl) rfl <| en_det (opT_move rfl) rfl <| en_det (opT_move rfl) rfl <| en_det (opT_move rfl) rfl <| ?_
        first | refine en_det (opT_idx1 rfl rfl (by omega) (by omega)) rfl ?_ | refine en_det (opT_idx (ks := 0) rfl rfl (by omega) (by omega)) rfl ?_
        refine en_det (opT_idxArr rfl rfl (by omega) (by omega)) rfl <| ?_
        first | refine en_det (opT_load_h rfl (by assumption)) rfl ?_ | refine en_det (opT_load_own rfl rfl) rfl ?_
        refine en_det (opT_add rfl rfl (by constructor <;> omega)) rfl <| en_det (opT_assign rfl) rfl <| en_nil <| en_blk <| en_then <| en_region <| en_det (opT_move rfl) rfl <| en_det (opT_add rfl rfl (by constructor <;> omega)) rfl <| en_det (opT_assign rfl) rfl <| en_nil <| en_then <| ?_
        exact en_again (k + 1) (by omega) (by omega) ⟨rfl, rfl, rfl, rfl, rfl, gi rfl hnext.symm, gi rfl (by simp), trivial⟩ (.refl _) (tkAll _)
      · skip
        obtain rfl : k = b.nh := by omega
        generalize hTt : tot b.nh X m = T at htb
        skip
        by_cases hle : T ≤ b.tray t m
        · refine en_exit <| en_then_exit <| en_then_exit <| en_blk_hit <| en_then <| en_seq <| en_region <| en_det (opT_move rfl) rfl <| en_det (opT_fieldAddr rfl) rfl <| en_det (opT_load_own rfl rfl) rfl <| en_det (opT_move rfl) rfl <| en_det (opT_move rfl) rfl <| ?_
          first | refine en_det (opT_idx1 rfl rfl (by omega) (by omega)) rfl ?_ | refine en_det (opT_idx (ks := 0) rfl rfl (by omega) (by omega)) rfl ?_
          refine en_det (opT_idxArr rfl rfl (by omega) (by omega)) rfl <| ?_
          first | refine en_det (opT_load_h rfl (by assumption)) rfl ?_ | refine en_det (opT_load_own rfl rfl) rfl ?_
          refine en_det (opT_gtr_f rfl rfl (by omega)) rfl <| en_nil <| en_then <| en_cond_f rfl <| en_skip <| en_blk <| en_then <| en_region <| en_det (opT_move rfl) rfl <| en_det (opT_add rfl rfl (by constructor <;> omega)) rfl <| en_det (opT_assign rfl) rfl <| en_nil <| en_then <| ?_
          refine en_again (m + 1) ⟨by omega, fun j hj => ?_⟩ (by omega) ⟨rfl, rfl, rfl, rfl, gi rfl (by simp), trivial⟩ (.refl _) (tkAll _)
          rcases Nat.lt_succ_iff_lt_or_eq.1 hj with h1 | rfl
          · exact hjm j h1
          · rw [hTt]; exact hle
        · skip
          refine en_exit <| en_then_exit <| en_then_exit <| en_blk_hit <| en_then <| en_seq <| en_region <| en_det (opT_move rfl) rfl <| en_det (opT_fieldAddr rfl) rfl <| en_det (opT_load_own rfl rfl) rfl <| en_det (opT_move rfl) rfl <| en_det (opT_move rfl) rfl <| ?_
          first | refine en_det (opT_idx1 rfl rfl (by omega) (by omega)) rfl ?_ | refine en_det (opT_idx (ks := 0) rfl rfl (by omega) (by omega)) rfl ?_
          refine en_det (opT_idxArr rfl rfl (by omega) (by omega)) rfl <| ?_
          first | refine en_det (opT_load_h rfl (by assumption)) rfl ?_ | refine en_det (opT_load_own rfl rfl) rfl ?_
          refine en_det (opT_gtr_t rfl rfl (by omega)) rfl <| en_nil <| en_then <| en_cond_t rfl <| en_seq <| en_region <| en_det (opT_assign rfl) rfl <| en_nil <| en_then <| en_ret <| en_blk_ret <| en_then_ret <| en_then_ret <| en_blk_ret <| en_then_ret <| ?_
          have hno : (allI 5 fun m => decide (tot b.nh X m ≤ b.tray t m)) = false := allI_no hm5 (by rw [hTt]; simpa using hle)
          rw [hno, if_neg (by simp)] at eR
          refine en_return (rs := [.tmp 6]) rfl (.cons (.tmp rfl) .nil) (.refl _) (Γ1 := []) ⟨by rw [eR]; rfl, rfl⟩
    · skip
      obtain rfl : m = 5 := by omega
      have hyes : (allI 5 fun m => decide (tot b.nh X m ≤ b.tray t m)) = true := allI_yes fun j hj => by simpa using hjm j hj
      rw [hyes, if_pos rfl] at eR
      refine en_exit <| en_then_exit <| en_then_exit <| en_blk_hit <| en_then <| en_seq <| en_region <| en_det (opT_move rfl) rfl <| en_det (opT_assign rfl) rfl <| en_nil <| en_then <| en_ret <| ?_
      refine en_return (rs := [.tmp 6]) rfl (.cons (.tmp rfl) .nil) (.refl _) (Γ1 := []) ⟨by rw [eR]; rfl, rfl⟩
end Go.Sx

/- Effects of a drawn region that are not ordered: each that is ready may be the next. -/
namespace Go.Sx
section
variable {l : List Oper} {P : Program} {n : Nat} {rd : Option Nat} {Q : Exit → Act → World → Prop} {Φ : Fr}
def Alt (l : List Oper) (P : Program) (n : Nat) (rd : Option Nat) (Q : Exit → Act → World → Prop) (Φ : Fr) (td np : List Nat) (σ : Env) (h0 hc : Heap) (Γx : List HP) (e : Nat) : Prop :=
  ∃ (d : Option Nat) (op : Op) (ty : TypeId) (pos : String) (af : Array Edge) (C : Value → Heap → List HP → Prop), l[e]? = some ⟨d, op, ty, pos, af, none⟩ ∧ tame op = true ∧ OpT P n ⟨d, op, ty, pos, af, none⟩ σ hc Γx C ∧
    ∀ v h' Γ', hc.sub h' → C v h' Γ' → DP l P n rd Q Φ (td.erase e) np (consO d v σ) h0 [] h' Γ'
theorem alt_op {td np r : List Nat} {σ : Env} {h0 hc : Heap} {Γx : List HP} {e : Nat} {d : Option Nat} {op : Op} {ty : TypeId} {pos : String} {af : Array Edge} {C : Value → Heap → List HP → Prop}
    (ho : l[e]? = some ⟨d, op, ty, pos, af, none⟩) (t : OpT P n ⟨d, op, ty, pos, af, none⟩ σ hc Γx C) (hs : tame op = true) (hr : td.erase e = r)
    (H : ∀ v h' Γ', hc.sub h' → C v h' Γ' → DP l P n rd Q Φ r np (consO d v σ) h0 [] h' Γ') : Alt l P n rd Q Φ td np σ h0 hc Γx e :=
  ⟨d, op, ty, pos, af, C, ho, hs, t, by rw [hr]; exact H⟩
def AltAll (p : Nat → Prop) : List Nat → Prop
  | [] => True
  | e :: r => p e ∧ AltAll p r
theorem AltAll.mem {p : Nat → Prop} : ∀ {es : List Nat}, AltAll p es → ∀ e ∈ es, p e
  | _ :: _, ⟨a, b⟩, e, he => by
    rcases List.mem_cons.1 he with rfl | he
    · exact a
    · exact b.mem e he
theorem dp_alts {td np : List Nat} {σ : Env} {h0 hc : Heap} {Γx : List HP} (es : List Nat) (hσ : (σ.all fun p => Nat.blt p.1 n) = true) (htd : td ≠ []) (hc1 : (td.all fun k => es.contains k || td.any fun m => dirB l k m) = true) (hc2 : (es.all fun e => td.all fun k => !dirB l e k) = true)
    (H : AltAll (Alt l P n rd Q Φ td np σ h0 hc Γx) es) : DP l P n rd Q Φ td np σ h0 [] hc Γx := by
  have key : ∀ e, ∃ C : Value → Heap → List HP → Prop, e ∈ es → EffAt l P n rd Q e σ hc ([] ++ Γx) C ∧ ∀ v h' Γ', hc.sub h' → C v h' Γ' → DP l P n rd Q Φ (td.erase e) np (consO (dstOf l e) v σ) h0 [] h' Γ' := fun e => by
    by_cases he : e ∈ es
    · obtain ⟨d, op, ty, pos, af, C, ho, hs, t, hk⟩ := H.mem e he
      have hd : dstOf l e = d := by simp [dstOf, ho]
      exact ⟨C, fun _ => ⟨eff_of ho hs hσ t, by rw [hd]; exact hk⟩⟩
    · exact ⟨fun _ _ _ => True, fun h => absurd h he⟩
  refine .eff es htd hc1 hc2 (fun e => (key e).choose) (fun _ _ _ Γ' => Γ') (fun e he => ((key e).choose_spec he).1) (fun _ _ _ _ _ _ _ => .refl _) (fun e v h' Γ' he hs hC => ((key e).choose_spec he).2 v h' Γ' hs hC)
theorem dp_effE {e : Nat} {rest np : List Nat} {σ : Env} {h0 hc : Heap} {Γ0 Γx : List HP} {d : Option Nat} {C : Value → Heap → List HP → Prop} (hd : dstOf l e = d)
    (t : EffAt l P n rd Q e σ hc (Γ0 ++ Γx) C)
    (ho1 : (rest.all fun k => (e :: rest).any fun m => dirB l k m) = true) (ho2 : ((e :: rest).all fun k => !dirB l e k) = true)
    (H : ∀ v h' Γ', hc.sub h' → C v h' Γ' → ∃ Γx', Γ'.Perm (Γ0 ++ Γx') ∧ DP l P n rd Q Φ rest np (consO d v σ) h0 Γ0 h' Γx') : DP l P n rd Q Φ (e :: rest) np σ h0 Γ0 hc Γx := by
  classical
  refine .eff [e] (by simp) ?_ (by simpa using ho2) (fun _ => C) (fun _ v h' Γ' => if hx : hc.sub h' ∧ C v h' Γ' then Classical.choose (H v h' Γ' hx.1 hx.2) else []) (fun e' he' => ?_) (fun e' v h' Γ' he' hs hc' => ?_) (fun e' v h' Γ' he' hs hc' => ?_)
  · refine List.all_eq_true.2 fun k hk => ?_
    rcases List.mem_cons.1 hk with rfl | hk
    · simp
    · have := List.all_eq_true.1 ho1 k hk
      rw [this]; simp
  · simp only [List.mem_singleton] at he'; subst he'
    exact t
  · rw [dif_pos ⟨hs, hc'⟩]; exact (Classical.choose_spec (H v h' Γ' hs hc')).1
  · simp only [List.mem_singleton] at he'; subst he'
    rw [dif_pos ⟨hs, hc'⟩]
    rw [hd]
    have her : (e' :: rest).erase e' = rest := by simp
    rw [her]; exact (Classical.choose_spec (H v h' Γ' hs hc')).2
/-- A guarded call whose guard says yes, and what it returns is not known. -/
theorem dp_callq_yes {e : Nat} {rest np : List Nat} {σ : Env} {h0 hc : Heap} {Γ0 Γ1 Δ : List HP} {d : Option Nat} {g : Operand} {xs : Array Operand} {ts : Array TypeId} {ty : TypeId} {pos : String} {af : Array Edge} {f : FuncId} {first cap : Array Value} {vs args : List Value} {p : Value → Heap → Prop} {j tj : Nat} {want : Bool}
    (c : CT P f args hc Γ1 (fun v h' Γ' => p v h' ∧ Γ' = Γ1)) (ho : l[e]? = some ⟨d, .call { callee := .value g, args := xs, argTypes := ts }, ty, pos, af, some (j, want)⟩) (hj : dstOf l j = some tj) (hv : σ.get tj = some (.bool want))
    (hg : σ.ev g = some (.func (.func f) first cap)) (hx : σ.evs xs.toList = some vs) (ha : first.toList ++ vs ++ cap.toList = args) [t : Tk Γ0 Γ1 Δ] (hσ : (σ.all fun p => Nat.blt p.1 n) = true)
    (ho1 : (rest.all fun k => (e :: rest).any fun m => dirB l k m) = true) (ho2 : ((e :: rest).all fun k => !dirB l e k) = true)
    (H : ∀ v h', hc.sub h' → p v h' → DP l P n rd Q Φ rest np (consO d v σ) h0 Γ0 h' []) : DP l P n rd Q Φ (e :: rest) np σ h0 Γ0 hc [] := by
  have hd : dstOf l e = d := by simp [dstOf, ho]
  have te : EffAt l P n rd Q e σ hc (Γ0 ++ []) (fun v h' Γ' => ∃ Γ2, (p v h' ∧ Γ2 = Γ1) ∧ Γ' = Γ2 ++ Δ) := by rw [List.append_nil]; exact eff_of_yes ho hj hv rfl hσ (opT_call hg hx ha c)
  refine dp_effE hd te ho1 ho2 fun v h' Γ' hs hC => ?_
  obtain ⟨Γ2, ⟨hp, e1⟩, e2⟩ := hC
  subst e1 e2
  exact ⟨[], by rw [List.append_nil]; exact t.perm.symm, H v h' hs hp⟩
end
end Go.Sx

/- The law BeltRule: the walk. -/
namespace Go.Sx
open Go.Proofs
set_option maxRecDepth 100000
theorem belt_one {h : Heap} {tv hv : Value} {b : BeltD} (hb : IsBelt h (.agg #[tv, hv]) b) : ∀ q ∈ [tv, hv], q.oneCell' = true := by
  obtain ⟨⟨_, ad, cp, rfl, _⟩, ⟨rv, ⟨_, ad2, cp2, rfl, _⟩, _⟩⟩ := belt_parts hb
  simp [Value.oneCell']
theorem RunR.un {b : BeltD} {n : Nat} {T : Nat → Nat → Int} {v : Value} {h' : Heap} {Γ' : List HP} (r : RunR b n T v h' Γ') : Γ' = [] ∧ ∃ lv, v = .tuple #[lv, .int .i64 (checkD b)] ∧ (checkD b = 0 → IsTrays h' lv n T) ∧ (checkD b ≠ 0 → lv = nilS) := by
  obtain ⟨e, ⟨hz, lv, rfl, hl⟩ | ⟨hz, rfl⟩⟩ := r
  · exact ⟨e, lv, by rw [hz], fun _ => hl, fun h => absurd hz h⟩
  · exact ⟨e, _, rfl, fun h => absurd h hz, fun _ => rfl⟩
theorem WrongR.un {b : BeltD} {v : Value} {h' : Heap} {Γ' : List HP} (r : WrongR b v h' Γ') : Γ' = [] ∧ ∃ lv, v = .tuple #[lv, .int .i64 (checkD b)] ∧ (checkD b = 0 → IsInts h' lv (wrongL b)) ∧ (checkD b ≠ 0 → lv = nilS) := by
  obtain ⟨e, ⟨hz, lv, rfl, hl⟩ | ⟨hz, rfl⟩⟩ := r
  · exact ⟨e, lv, by rw [hz], fun _ => hl, fun h => absurd hz h⟩
  · exact ⟨e, _, rfl, fun h => absurd h hz, fun _ => rfl⟩
attribute [local irreducible] Code.wpIn wpListIn Exit.then Exit.inBlock BQ Again Hd St En OpT box blk RQ BQ0 fmap own Desk Chute
end Go.Sx

/- The law BeltShares: the walk. -/
namespace Go.Sx
open Go.Proofs
set_option maxRecDepth 100000
theorem copyT_ct (h : Heap) (v : Value) (n : Nat) (X : Nat → Nat → Int) (hv : IsTrays h v n X) (hn : n ≤ 1000) : CT Try.prog 60 [v] h [] (fun v' h' Γ' => IsTrays h' v' n X ∧ Γ' = []) := by
  have c := copy60_ct h v n _ hv (one_ints _ _ _) hn
  refine ⟨c.enters, fun Φ w s => (c.run Φ w s).mono fun e w' ⟨v', h', Γ', he, hsub, ⟨ad, cp, hv, hΓ⟩, s'⟩ => ?_⟩
  subst hv hΓ
  obtain ⟨h2, s2, hsl2, st2⟩ := s'.freeze_own
  exact ⟨_, h2, [], he, hsub.trans s2, ⟨hsl2, rfl⟩, st2⟩
theorem MostR.un {b : BeltD} {v : Value} {h' : Heap} {Γ' : List HP} (r : MostR b v h' Γ') : Γ' = [] ∧ ∃ lv mn, v = .tuple #[lv, .int .i64 mn, .int .i64 (checkD b)] ∧ (checkD b = 0 → IsInts h' lv (mostL b) ∧ mn = mostA b) ∧ (checkD b ≠ 0 → lv = nilS ∧ mn = 0) := by
  obtain ⟨e, ⟨hz, lv, rfl, hl⟩ | ⟨hz, rfl⟩⟩ := r
  · exact ⟨e, lv, _, by rw [hz], fun _ => ⟨hl, rfl⟩, fun h => absurd hz h⟩
  · exact ⟨e, _, _, rfl, fun h => absurd h hz, fun _ => ⟨rfl, rfl⟩⟩
theorem ShareR2.un {b : BeltD} {tray : Int} {v : Value} {h' : Heap} {Γ' : List HP} (r : ShareR2 b tray v h' Γ') : Γ' = [] ∧ ∃ sv, v = .tuple #[sv, .int .i64 (atD b tray)] ∧ (atD b tray = 0 → IsTrays h' sv b.nh (shB b wholeD tray.toNat (allH b)).1) ∧ (atD b tray ≠ 0 → sv = nilS) := by
  obtain ⟨e, ⟨hz, lv, rfl, hl⟩ | ⟨hz, rfl⟩⟩ := r
  · exact ⟨e, lv, by rw [hz], fun _ => hl, fun h => absurd hz h⟩
  · exact ⟨e, _, rfl, fun h => absurd h hz, fun _ => rfl⟩
theorem IsInts.fn {h : Heap} {v : Value} {l : List Int} (x : IsInts h v l) {n : Nat} (hn : l.length = n) (f : Nat → Int) (hf : ∀ i (hi : i < l.length), l[i] = f i) :
    ∃ ad cp, v = .slice ad n cp ∧ n ≤ cp ∧ cp ≤ 9223372036854775807 ∧ (0 < n → ∃ b off, ad = some ⟨b, off, none⟩ ∧ ∀ i, i < n → cellH h b (off + i) = some (.int .i64 (f i))) := by
  obtain ⟨ad, cp, rfl, h1, h2, h3⟩ := x.shape
  subst hn
  refine ⟨ad, cp, rfl, h1, h2, fun h0 => ?_⟩
  obtain ⟨b, off, e, hc⟩ := h3 h0
  exact ⟨b, off, e, fun i hi => by rw [hc i hi, hf i hi]⟩
theorem shOK_nn {b : BeltD} {t : Nat} {X : Nat → Nat → Int} (h : shOK b t X = true) : 0 ≤ shV b X := by
  rw [← shV_rows]
  refine sumN_nn fun i hi => ?_
  unfold shOK at h
  simp only [Bool.and_eq_true] at h
  have h1 := allI_iff.1 h.1 i hi
  unfold shH at h1
  simp only [Bool.and_eq_true] at h1
  exact sumN_nn fun m hm => (shM_rng (allI_iff.1 h1.1 m hm)).1
theorem at_zero {b : BeltD} {z : Int} (h : atD b z = 0) : checkD b = 0 ∧ inD z 0 (b.nt - 1) = true := by
  unfold atD at h
  by_cases hz : checkD b = 0
  · rw [if_pos hz] at h
    refine ⟨hz, ?_⟩
    by_cases hi : inD z 0 (b.nt - 1) = true
    · exact hi
    · rw [if_neg hi] at h; omega
  · rw [if_neg hz] at h; exact absurd h hz
attribute [local irreducible] Code.wpIn wpListIn Exit.then Exit.inBlock BQ Again Hd St En OpT box blk RQ BQ0 fmap own Desk Chute
theorem shareslaw_ct (h0 : Heap) (v sv : Value) (b : BeltD) (z : Int) (n : Nat) (X : Nat → Nat → Int) (hb0 : IsBelt h0 v b) (hs00 : IsTrays h0 sv n X) : CT Try.prog 10 [v, .int .i64 z, sv] h0 [] (DetW (.bool true) []) := by
  obtain ⟨tv, hv, rfl, ⟨_, tad, tcp, rfl, _, _, _⟩, rv0, ⟨_, had, hcp, rfl, _, _, _⟩, _⟩ := id hb0
  obtain ⟨_, sad, scp, rfl, _, hscp, _⟩ := id hs00
  refine ct_intro Try.func10 rfl rfl rfl rfl fun Φ => ?_
  refine en_seq <| en_region <| en_box rfl rfl rfl fun b3 => en_det (opT_assign rfl) rfl <| en_nil <| en_then <| ?_
  refine en_fzb fun h s0 hbx => ?_
  have kb := cellsH_box hbx
  have k0 : cellH h b3 0 = some (.slice tad b.nt tcp) := cellH_box hbx rfl
  have k1 : cellH h b3 1 = some (.slice had b.nh hcp) := cellH_box hbx rfl
  have hb := hb0.mono s0
  have hs := hs00.mono s0
  clear hb0 hs00
  have cB := big_ct h _ b hb
  skip
  cases hbig : bigD b with
  | true =>
    rw [hbig] at cB
    refine en_seq <| en_seq <| en_region <| en_det (opT_loadA_h rfl kb rfl) rfl <| en_calld (cB) rfl rfl rfl rfl <| en_det (opT_move rfl) rfl <| en_g_no rfl rfl rfl <| en_g_no rfl rfl rfl <| en_g_no rfl rfl rfl <| ?_
    first | refine en_det (opT_pick_t rfl rfl) rfl ?_ | refine en_det (opT_pick_f rfl rfl) rfl ?_
    refine en_nil <| en_then <| en_cond_t rfl <| en_seq <| en_region <| en_calld (awake_ct h) rfl rfl rfl rfl <| en_det (opT_assign rfl) rfl <| en_nil <| en_then <| en_ret <| en_then_ret <| ?_
    refine en_return (rs := [.tmp 6]) rfl (.cons (.tmp rfl) .nil) s0 (Γ1 := []) ⟨rfl, rfl⟩
  | false =>
    rw [hbig] at cB
    by_cases hn8 : 8 < n
    · skip
      refine en_seq <| en_seq <| en_region <| en_det (opT_loadA_h rfl kb rfl) rfl <| en_calld (cB) rfl rfl rfl rfl <| en_det (opT_move rfl) rfl <| en_g_yes rfl rfl <| en_det (opT_move rfl) rfl <| en_g_yes rfl rfl <| en_det (opT_len rfl) rfl <| en_g_yes rfl rfl <| en_det (opT_gtr_t rfl rfl (by omega)) rfl <| ?_
      first | refine en_det (opT_pick_t rfl rfl) rfl ?_ | refine en_det (opT_pick_f rfl rfl) rfl ?_
      refine en_nil <| en_then <| en_cond_t rfl <| en_seq <| en_region <| en_calld (awake_ct h) rfl rfl rfl rfl <| en_det (opT_assign rfl) rfl <| en_nil <| en_then <| en_ret <| en_then_ret <| ?_
      refine en_return (rs := [.tmp 6]) rfl (.cons (.tmp rfl) .nil) s0 (Γ1 := []) ⟨rfl, rfl⟩
    have htm := bigD_no hbig
    have hsm := htm.small
    have hnt := htm.nt
    have hnh := htm.nh
    refine en_seq <| en_seq <| en_region <| en_det (opT_loadA_h rfl kb rfl) rfl <| en_calld (cB) rfl rfl rfl rfl <| en_det (opT_move rfl) rfl <| en_g_yes rfl rfl <| en_det (opT_move rfl) rfl <| en_g_yes rfl rfl <| en_det (opT_len rfl) rfl <| en_g_yes rfl rfl <| en_det (opT_gtr_f rfl rfl (by omega)) rfl <| ?_
    first | refine en_det (opT_pick_t rfl rfl) rfl ?_ | refine en_det (opT_pick_f rfl rfl) rfl ?_
    refine en_nil <| en_then <| en_cond_f rfl <| en_skip <| en_then <| ?_
    refine en_meet (ι := Nat × Nat × Value × Value × Value × Value × Value × Heap) (fun x => h.sub x.2.2.2.2.2.2.2 ∧ IsBelt x.2.2.2.2.2.2.2 (.agg #[x.2.2.1, x.2.2.2.1]) b ∧ IsBelt x.2.2.2.2.2.2.2 (.agg #[x.2.2.2.2.1, x.2.2.2.2.2.1]) b ∧ IsTrays x.2.2.2.2.2.2.2 x.2.2.2.2.2.2.1 n X) (fun x => [(1, .int .i64 z), (2, .slice sad n scp), (3, pt b3), (7, pt x.1), (8, x.2.2.2.2.2.2.1), (9, pt x.2.1)]) (fun x => x.2.2.2.2.2.2.2) (fun x => [box x.1 26 [x.2.2.1, x.2.2.2.1], box x.2.1 59 [x.2.2.2.2.1, x.2.2.2.2.2.1]]) ?_ (fun x hx => ?_)
    · skip
      skip
      refine en_draw1 [0, 2, 4, 1, 3, 5, 6, 7, 8, 9, 10] (by kernel_rfl) (by decide +kernel) (by decide +kernel) (by decide) ?_
      refine dp_q rfl (opT_loadA_h rfl kb rfl) rfl rfl rfl <| dp_p rfl (fun _ _ => opT_move rfl) rfl rfl rfl <| dp_q rfl (opT_loadA_h rfl kb rfl) rfl rfl rfl <| ?_
      refine dp_alts [1, 6, 7] rfl (by simp) rfl rfl ⟨alt_op rfl (opT_call rfl rfl rfl (cloneF_ct h _ b (hb.mono (.refl _)) hsm)) rfl rfl fun vo hw1 _ sw1 hC => ?_, alt_op rfl opT_alloc rfl rfl fun _ _ _ _ hC => ?_, alt_op rfl opT_alloc rfl rfl fun _ _ _ _ hC => ?_, trivial⟩
      · skip
        obtain ⟨_, ⟨hO, rfl⟩, rfl⟩ := hC
        refine dp_norm1 ?_
        refine dp_alts [3, 6, 7] rfl (by simp) rfl rfl ⟨alt_op rfl (opT_call rfl rfl rfl (copyT_ct hw1 _ n X (hs.mono sw1) (by omega))) rfl rfl fun vm hw2 _ sw2 hC => ?_, alt_op rfl opT_alloc rfl rfl fun _ _ _ _ hC => ?_, alt_op rfl opT_alloc rfl rfl fun _ _ _ _ hC => ?_, trivial⟩
        · skip
          obtain ⟨_, ⟨hM, rfl⟩, rfl⟩ := hC
          refine dp_norm1 ?_
          refine dp_alts [5, 6, 7] rfl (by simp) rfl rfl ⟨alt_op rfl (opT_call rfl rfl rfl (its_ct hw2 _ b (hb.mono (sw1.trans sw2)) hsm)) rfl rfl fun vx hw3 _ sw3 hC => ?_, alt_op rfl opT_alloc rfl rfl fun _ _ _ _ hC => ?_, alt_op rfl opT_alloc rfl rfl fun _ _ _ _ hC => ?_, trivial⟩
          · skip
            obtain ⟨_, ⟨hX, rfl⟩, rfl⟩ := hC
            refine dp_norm1 ?_
            refine dp_alts [6, 7] rfl (by simp) rfl rfl ⟨alt_op rfl opT_alloc rfl rfl fun _ _ _ _ hC => ?_, alt_op rfl opT_alloc rfl rfl fun _ _ _ _ hC => ?_, trivial⟩
            · skip
              obtain ⟨b7, rfl, e2, rfl⟩ := hC
              replace e2 := e2.symm; subst e2
              refine dp_e1 rfl opT_alloc rfl rfl rfl rfl fun _ _ _ _ hC => ?_
              obtain ⟨b9, rfl, e2, rfl⟩ := hC
              replace e2 := e2.symm; subst e2
              have hO := hO.mono (sw2.trans sw3)
              have hM := hM.mono sw3
              obtain ⟨o1, o2, rfl, _, _⟩ := id hO
              obtain ⟨x1, x2, rfl, _, _⟩ := id hX
              refine dp_ed1 rfl (opT_storeW rfl rfl rfl rfl (belt_one hO)) rfl rfl rfl rfl <| dp_p rfl (fun _ _ => opT_assign rfl) rfl rfl rfl <| dp_ed1 rfl (opT_storeW rfl rfl rfl rfl (belt_one hX)) rfl rfl rfl rfl <| dp_done1 ?_
              refine en_then <| ?_
              exact en_met (b7, b9, o1, o2, x1, x2, vm, hw3) ⟨(sw1.trans (sw2.trans sw3)), hO, hX, hM⟩ ⟨rfl, rfl, rfl, rfl, rfl, rfl, trivial⟩ (.refl _) inferInstance
            · skip
              obtain ⟨b9, rfl, e2, rfl⟩ := hC
              replace e2 := e2.symm; subst e2
              refine dp_e1 rfl opT_alloc rfl rfl rfl rfl fun _ _ _ _ hC => ?_
              obtain ⟨b7, rfl, e2, rfl⟩ := hC
              replace e2 := e2.symm; subst e2
              have hO := hO.mono (sw2.trans sw3)
              have hM := hM.mono sw3
              obtain ⟨o1, o2, rfl, _, _⟩ := id hO
              obtain ⟨x1, x2, rfl, _, _⟩ := id hX
              refine dp_ed1 rfl (opT_storeW rfl rfl rfl rfl (belt_one hO)) rfl rfl rfl rfl <| dp_p rfl (fun _ _ => opT_assign rfl) rfl rfl rfl <| dp_ed1 rfl (opT_storeW rfl rfl rfl rfl (belt_one hX)) rfl rfl rfl rfl <| dp_done1 ?_
              refine en_then <| ?_
              exact en_met (b7, b9, o1, o2, x1, x2, vm, hw3) ⟨(sw1.trans (sw2.trans sw3)), hO, hX, hM⟩ ⟨rfl, rfl, rfl, rfl, rfl, rfl, trivial⟩ (.refl _) inferInstance
          · skip
            obtain ⟨b7, rfl, e2, rfl⟩ := hC
            replace e2 := e2.symm; subst e2
            refine dp_alts [5, 7] rfl (by simp) rfl rfl ⟨alt_op rfl (opT_call rfl rfl rfl (its_ct hw2 _ b (hb.mono (sw1.trans sw2)) hsm)) rfl rfl fun vx hw7 _ sw7 hC => ?_, alt_op rfl opT_alloc rfl rfl fun _ _ _ _ hC => ?_, trivial⟩
            · skip
              obtain ⟨_, ⟨hX, rfl⟩, rfl⟩ := hC
              refine dp_norm1 ?_
              refine dp_e1 rfl opT_alloc rfl rfl rfl rfl fun _ _ _ _ hC => ?_
              obtain ⟨b9, rfl, e2, rfl⟩ := hC
              replace e2 := e2.symm; subst e2
              have hO := hO.mono (sw2.trans sw7)
              have hM := hM.mono sw7
              obtain ⟨o1, o2, rfl, _, _⟩ := id hO
              obtain ⟨x1, x2, rfl, _, _⟩ := id hX
              refine dp_ed1 rfl (opT_storeW rfl rfl rfl rfl (belt_one hO)) rfl rfl rfl rfl <| dp_p rfl (fun _ _ => opT_assign rfl) rfl rfl rfl <| dp_ed1 rfl (opT_storeW rfl rfl rfl rfl (belt_one hX)) rfl rfl rfl rfl <| dp_done1 ?_
              refine en_then <| ?_
              exact en_met (b7, b9, o1, o2, x1, x2, vm, hw7) ⟨(sw1.trans (sw2.trans sw7)), hO, hX, hM⟩ ⟨rfl, rfl, rfl, rfl, rfl, rfl, trivial⟩ (.refl _) inferInstance
            · skip
              obtain ⟨b9, rfl, e2, rfl⟩ := hC
              replace e2 := e2.symm; subst e2
              refine dp_e1 rfl (opT_call rfl rfl rfl (its_ct hw2 _ b (hb.mono (sw1.trans sw2)) hsm)) rfl rfl rfl rfl fun vx hw9 _ sw9 hC => ?_
              obtain ⟨_, ⟨hX, rfl⟩, rfl⟩ := hC
              refine dp_norm1 ?_
              have hO := hO.mono (sw2.trans sw9)
              have hM := hM.mono sw9
              obtain ⟨o1, o2, rfl, _, _⟩ := id hO
              obtain ⟨x1, x2, rfl, _, _⟩ := id hX
              refine dp_ed1 rfl (opT_storeW rfl rfl rfl rfl (belt_one hO)) rfl rfl rfl rfl <| dp_p rfl (fun _ _ => opT_assign rfl) rfl rfl rfl <| dp_ed1 rfl (opT_storeW rfl rfl rfl rfl (belt_one hX)) rfl rfl rfl rfl <| dp_done1 ?_
              refine en_then <| ?_
              exact en_met (b7, b9, o1, o2, x1, x2, vm, hw9) ⟨(sw1.trans (sw2.trans sw9)), hO, hX, hM⟩ ⟨rfl, rfl, rfl, rfl, rfl, rfl, trivial⟩ (.refl _) inferInstance
          · skip
            obtain ⟨b9, rfl, e2, rfl⟩ := hC
            replace e2 := e2.symm; subst e2
            refine dp_alts [5, 6] rfl (by simp) rfl rfl ⟨alt_op rfl (opT_call rfl rfl rfl (its_ct hw2 _ b (hb.mono (sw1.trans sw2)) hsm)) rfl rfl fun vx hw10 _ sw10 hC => ?_, alt_op rfl opT_alloc rfl rfl fun _ _ _ _ hC => ?_, trivial⟩
            · skip
              obtain ⟨_, ⟨hX, rfl⟩, rfl⟩ := hC
              refine dp_norm1 ?_
              refine dp_e1 rfl opT_alloc rfl rfl rfl rfl fun _ _ _ _ hC => ?_
              obtain ⟨b7, rfl, e2, rfl⟩ := hC
              replace e2 := e2.symm; subst e2
              have hO := hO.mono (sw2.trans sw10)
              have hM := hM.mono sw10
              obtain ⟨o1, o2, rfl, _, _⟩ := id hO
              obtain ⟨x1, x2, rfl, _, _⟩ := id hX
              refine dp_ed1 rfl (opT_storeW rfl rfl rfl rfl (belt_one hO)) rfl rfl rfl rfl <| dp_p rfl (fun _ _ => opT_assign rfl) rfl rfl rfl <| dp_ed1 rfl (opT_storeW rfl rfl rfl rfl (belt_one hX)) rfl rfl rfl rfl <| dp_done1 ?_
              refine en_then <| ?_
              exact en_met (b7, b9, o1, o2, x1, x2, vm, hw10) ⟨(sw1.trans (sw2.trans sw10)), hO, hX, hM⟩ ⟨rfl, rfl, rfl, rfl, rfl, rfl, trivial⟩ (.refl _) inferInstance
            · skip
              obtain ⟨b7, rfl, e2, rfl⟩ := hC
              replace e2 := e2.symm; subst e2
              refine dp_e1 rfl (opT_call rfl rfl rfl (its_ct hw2 _ b (hb.mono (sw1.trans sw2)) hsm)) rfl rfl rfl rfl fun vx hw12 _ sw12 hC => ?_
              obtain ⟨_, ⟨hX, rfl⟩, rfl⟩ := hC
              refine dp_norm1 ?_
              have hO := hO.mono (sw2.trans sw12)
              have hM := hM.mono sw12
              obtain ⟨o1, o2, rfl, _, _⟩ := id hO
              obtain ⟨x1, x2, rfl, _, _⟩ := id hX
              refine dp_ed1 rfl (opT_storeW rfl rfl rfl rfl (belt_one hO)) rfl rfl rfl rfl <| dp_p rfl (fun _ _ => opT_assign rfl) rfl rfl rfl <| dp_ed1 rfl (opT_storeW rfl rfl rfl rfl (belt_one hX)) rfl rfl rfl rfl <| dp_done1 ?_
              refine en_then <| ?_
              exact en_met (b7, b9, o1, o2, x1, x2, vm, hw12) ⟨(sw1.trans (sw2.trans sw12)), hO, hX, hM⟩ ⟨rfl, rfl, rfl, rfl, rfl, rfl, trivial⟩ (.refl _) inferInstance
        · skip
          obtain ⟨b7, rfl, e2, rfl⟩ := hC
          replace e2 := e2.symm; subst e2
          refine dp_alts [3, 7] rfl (by simp) rfl rfl ⟨alt_op rfl (opT_call rfl rfl rfl (copyT_ct hw1 _ n X (hs.mono sw1) (by omega))) rfl rfl fun vm hw13 _ sw13 hC => ?_, alt_op rfl opT_alloc rfl rfl fun _ _ _ _ hC => ?_, trivial⟩
          · skip
            obtain ⟨_, ⟨hM, rfl⟩, rfl⟩ := hC
            refine dp_norm1 ?_
            refine dp_alts [5, 7] rfl (by simp) rfl rfl ⟨alt_op rfl (opT_call rfl rfl rfl (its_ct hw13 _ b (hb.mono (sw1.trans sw13)) hsm)) rfl rfl fun vx hw14 _ sw14 hC => ?_, alt_op rfl opT_alloc rfl rfl fun _ _ _ _ hC => ?_, trivial⟩
            · skip
              obtain ⟨_, ⟨hX, rfl⟩, rfl⟩ := hC
              refine dp_norm1 ?_
              refine dp_e1 rfl opT_alloc rfl rfl rfl rfl fun _ _ _ _ hC => ?_
              obtain ⟨b9, rfl, e2, rfl⟩ := hC
              replace e2 := e2.symm; subst e2
              have hO := hO.mono (sw13.trans sw14)
              have hM := hM.mono sw14
              obtain ⟨o1, o2, rfl, _, _⟩ := id hO
              obtain ⟨x1, x2, rfl, _, _⟩ := id hX
              refine dp_ed1 rfl (opT_storeW rfl rfl rfl rfl (belt_one hO)) rfl rfl rfl rfl <| dp_p rfl (fun _ _ => opT_assign rfl) rfl rfl rfl <| dp_ed1 rfl (opT_storeW rfl rfl rfl rfl (belt_one hX)) rfl rfl rfl rfl <| dp_done1 ?_
              refine en_then <| ?_
              exact en_met (b7, b9, o1, o2, x1, x2, vm, hw14) ⟨(sw1.trans (sw13.trans sw14)), hO, hX, hM⟩ ⟨rfl, rfl, rfl, rfl, rfl, rfl, trivial⟩ (.refl _) inferInstance
            · skip
              obtain ⟨b9, rfl, e2, rfl⟩ := hC
              replace e2 := e2.symm; subst e2
              refine dp_e1 rfl (opT_call rfl rfl rfl (its_ct hw13 _ b (hb.mono (sw1.trans sw13)) hsm)) rfl rfl rfl rfl fun vx hw16 _ sw16 hC => ?_
              obtain ⟨_, ⟨hX, rfl⟩, rfl⟩ := hC
              refine dp_norm1 ?_
              have hO := hO.mono (sw13.trans sw16)
              have hM := hM.mono sw16
              obtain ⟨o1, o2, rfl, _, _⟩ := id hO
              obtain ⟨x1, x2, rfl, _, _⟩ := id hX
              refine dp_ed1 rfl (opT_storeW rfl rfl rfl rfl (belt_one hO)) rfl rfl rfl rfl <| dp_p rfl (fun _ _ => opT_assign rfl) rfl rfl rfl <| dp_ed1 rfl (opT_storeW rfl rfl rfl rfl (belt_one hX)) rfl rfl rfl rfl <| dp_done1 ?_
              refine en_then <| ?_
              exact en_met (b7, b9, o1, o2, x1, x2, vm, hw16) ⟨(sw1.trans (sw13.trans sw16)), hO, hX, hM⟩ ⟨rfl, rfl, rfl, rfl, rfl, rfl, trivial⟩ (.refl _) inferInstance
          · skip
            obtain ⟨b9, rfl, e2, rfl⟩ := hC
            replace e2 := e2.symm; subst e2
            refine dp_e1 rfl (opT_call rfl rfl rfl (copyT_ct hw1 _ n X (hs.mono sw1) (by omega))) rfl rfl rfl rfl fun vm hw17 _ sw17 hC => ?_
            obtain ⟨_, ⟨hM, rfl⟩, rfl⟩ := hC
            refine dp_norm1 ?_
            refine dp_e1 rfl (opT_call rfl rfl rfl (its_ct hw17 _ b (hb.mono (sw1.trans sw17)) hsm)) rfl rfl rfl rfl fun vx hw18 _ sw18 hC => ?_
            obtain ⟨_, ⟨hX, rfl⟩, rfl⟩ := hC
            refine dp_norm1 ?_
            have hO := hO.mono (sw17.trans sw18)
            have hM := hM.mono sw18
            obtain ⟨o1, o2, rfl, _, _⟩ := id hO
            obtain ⟨x1, x2, rfl, _, _⟩ := id hX
            refine dp_ed1 rfl (opT_storeW rfl rfl rfl rfl (belt_one hO)) rfl rfl rfl rfl <| dp_p rfl (fun _ _ => opT_assign rfl) rfl rfl rfl <| dp_ed1 rfl (opT_storeW rfl rfl rfl rfl (belt_one hX)) rfl rfl rfl rfl <| dp_done1 ?_
            refine en_then <| ?_
            exact en_met (b7, b9, o1, o2, x1, x2, vm, hw18) ⟨(sw1.trans (sw17.trans sw18)), hO, hX, hM⟩ ⟨rfl, rfl, rfl, rfl, rfl, rfl, trivial⟩ (.refl _) inferInstance
        · skip
          obtain ⟨b9, rfl, e2, rfl⟩ := hC
          replace e2 := e2.symm; subst e2
          refine dp_alts [3, 6] rfl (by simp) rfl rfl ⟨alt_op rfl (opT_call rfl rfl rfl (copyT_ct hw1 _ n X (hs.mono sw1) (by omega))) rfl rfl fun vm hw19 _ sw19 hC => ?_, alt_op rfl opT_alloc rfl rfl fun _ _ _ _ hC => ?_, trivial⟩
          · skip
            obtain ⟨_, ⟨hM, rfl⟩, rfl⟩ := hC
            refine dp_norm1 ?_
            refine dp_alts [5, 6] rfl (by simp) rfl rfl ⟨alt_op rfl (opT_call rfl rfl rfl (its_ct hw19 _ b (hb.mono (sw1.trans sw19)) hsm)) rfl rfl fun vx hw20 _ sw20 hC => ?_, alt_op rfl opT_alloc rfl rfl fun _ _ _ _ hC => ?_, trivial⟩
            · skip
              obtain ⟨_, ⟨hX, rfl⟩, rfl⟩ := hC
              refine dp_norm1 ?_
              refine dp_e1 rfl opT_alloc rfl rfl rfl rfl fun _ _ _ _ hC => ?_
              obtain ⟨b7, rfl, e2, rfl⟩ := hC
              replace e2 := e2.symm; subst e2
              have hO := hO.mono (sw19.trans sw20)
              have hM := hM.mono sw20
              obtain ⟨o1, o2, rfl, _, _⟩ := id hO
              obtain ⟨x1, x2, rfl, _, _⟩ := id hX
              refine dp_ed1 rfl (opT_storeW rfl rfl rfl rfl (belt_one hO)) rfl rfl rfl rfl <| dp_p rfl (fun _ _ => opT_assign rfl) rfl rfl rfl <| dp_ed1 rfl (opT_storeW rfl rfl rfl rfl (belt_one hX)) rfl rfl rfl rfl <| dp_done1 ?_
              refine en_then <| ?_
              exact en_met (b7, b9, o1, o2, x1, x2, vm, hw20) ⟨(sw1.trans (sw19.trans sw20)), hO, hX, hM⟩ ⟨rfl, rfl, rfl, rfl, rfl, rfl, trivial⟩ (.refl _) inferInstance
            · skip
              obtain ⟨b7, rfl, e2, rfl⟩ := hC
              replace e2 := e2.symm; subst e2
              refine dp_e1 rfl (opT_call rfl rfl rfl (its_ct hw19 _ b (hb.mono (sw1.trans sw19)) hsm)) rfl rfl rfl rfl fun vx hw22 _ sw22 hC => ?_
              obtain ⟨_, ⟨hX, rfl⟩, rfl⟩ := hC
              refine dp_norm1 ?_
              have hO := hO.mono (sw19.trans sw22)
              have hM := hM.mono sw22
              obtain ⟨o1, o2, rfl, _, _⟩ := id hO
              obtain ⟨x1, x2, rfl, _, _⟩ := id hX
              refine dp_ed1 rfl (opT_storeW rfl rfl rfl rfl (belt_one hO)) rfl rfl rfl rfl <| dp_p rfl (fun _ _ => opT_assign rfl) rfl rfl rfl <| dp_ed1 rfl (opT_storeW rfl rfl rfl rfl (belt_one hX)) rfl rfl rfl rfl <| dp_done1 ?_
              refine en_then <| ?_
              exact en_met (b7, b9, o1, o2, x1, x2, vm, hw22) ⟨(sw1.trans (sw19.trans sw22)), hO, hX, hM⟩ ⟨rfl, rfl, rfl, rfl, rfl, rfl, trivial⟩ (.refl _) inferInstance
          · skip
            obtain ⟨b7, rfl, e2, rfl⟩ := hC
            replace e2 := e2.symm; subst e2
            refine dp_e1 rfl (opT_call rfl rfl rfl (copyT_ct hw1 _ n X (hs.mono sw1) (by omega))) rfl rfl rfl rfl fun vm hw23 _ sw23 hC => ?_
            obtain ⟨_, ⟨hM, rfl⟩, rfl⟩ := hC
            refine dp_norm1 ?_
            refine dp_e1 rfl (opT_call rfl rfl rfl (its_ct hw23 _ b (hb.mono (sw1.trans sw23)) hsm)) rfl rfl rfl rfl fun vx hw24 _ sw24 hC => ?_
            obtain ⟨_, ⟨hX, rfl⟩, rfl⟩ := hC
            refine dp_norm1 ?_
            have hO := hO.mono (sw23.trans sw24)
            have hM := hM.mono sw24
            obtain ⟨o1, o2, rfl, _, _⟩ := id hO
            obtain ⟨x1, x2, rfl, _, _⟩ := id hX
            refine dp_ed1 rfl (opT_storeW rfl rfl rfl rfl (belt_one hO)) rfl rfl rfl rfl <| dp_p rfl (fun _ _ => opT_assign rfl) rfl rfl rfl <| dp_ed1 rfl (opT_storeW rfl rfl rfl rfl (belt_one hX)) rfl rfl rfl rfl <| dp_done1 ?_
            refine en_then <| ?_
            exact en_met (b7, b9, o1, o2, x1, x2, vm, hw24) ⟨(sw1.trans (sw23.trans sw24)), hO, hX, hM⟩ ⟨rfl, rfl, rfl, rfl, rfl, rfl, trivial⟩ (.refl _) inferInstance
      · skip
        obtain ⟨b7, rfl, e2, rfl⟩ := hC
        replace e2 := e2.symm; subst e2
        refine dp_alts [1, 7] rfl (by simp) rfl rfl ⟨alt_op rfl (opT_call rfl rfl rfl (cloneF_ct h _ b (hb.mono (.refl _)) hsm)) rfl rfl fun vo hw25 _ sw25 hC => ?_, alt_op rfl opT_alloc rfl rfl fun _ _ _ _ hC => ?_, trivial⟩
        · skip
          obtain ⟨_, ⟨hO, rfl⟩, rfl⟩ := hC
          refine dp_norm1 ?_
          refine dp_alts [3, 7] rfl (by simp) rfl rfl ⟨alt_op rfl (opT_call rfl rfl rfl (copyT_ct hw25 _ n X (hs.mono sw25) (by omega))) rfl rfl fun vm hw26 _ sw26 hC => ?_, alt_op rfl opT_alloc rfl rfl fun _ _ _ _ hC => ?_, trivial⟩
          · skip
            obtain ⟨_, ⟨hM, rfl⟩, rfl⟩ := hC
            refine dp_norm1 ?_
            refine dp_alts [5, 7] rfl (by simp) rfl rfl ⟨alt_op rfl (opT_call rfl rfl rfl (its_ct hw26 _ b (hb.mono (sw25.trans sw26)) hsm)) rfl rfl fun vx hw27 _ sw27 hC => ?_, alt_op rfl opT_alloc rfl rfl fun _ _ _ _ hC => ?_, trivial⟩
            · skip
              obtain ⟨_, ⟨hX, rfl⟩, rfl⟩ := hC
              refine dp_norm1 ?_
              refine dp_e1 rfl opT_alloc rfl rfl rfl rfl fun _ _ _ _ hC => ?_
              obtain ⟨b9, rfl, e2, rfl⟩ := hC
              replace e2 := e2.symm; subst e2
              have hO := hO.mono (sw26.trans sw27)
              have hM := hM.mono sw27
              obtain ⟨o1, o2, rfl, _, _⟩ := id hO
              obtain ⟨x1, x2, rfl, _, _⟩ := id hX
              refine dp_ed1 rfl (opT_storeW rfl rfl rfl rfl (belt_one hO)) rfl rfl rfl rfl <| dp_p rfl (fun _ _ => opT_assign rfl) rfl rfl rfl <| dp_ed1 rfl (opT_storeW rfl rfl rfl rfl (belt_one hX)) rfl rfl rfl rfl <| dp_done1 ?_
              refine en_then <| ?_
              exact en_met (b7, b9, o1, o2, x1, x2, vm, hw27) ⟨(sw25.trans (sw26.trans sw27)), hO, hX, hM⟩ ⟨rfl, rfl, rfl, rfl, rfl, rfl, trivial⟩ (.refl _) inferInstance
            · skip
              obtain ⟨b9, rfl, e2, rfl⟩ := hC
              replace e2 := e2.symm; subst e2
              refine dp_e1 rfl (opT_call rfl rfl rfl (its_ct hw26 _ b (hb.mono (sw25.trans sw26)) hsm)) rfl rfl rfl rfl fun vx hw29 _ sw29 hC => ?_
              obtain ⟨_, ⟨hX, rfl⟩, rfl⟩ := hC
              refine dp_norm1 ?_
              have hO := hO.mono (sw26.trans sw29)
              have hM := hM.mono sw29
              obtain ⟨o1, o2, rfl, _, _⟩ := id hO
              obtain ⟨x1, x2, rfl, _, _⟩ := id hX
              refine dp_ed1 rfl (opT_storeW rfl rfl rfl rfl (belt_one hO)) rfl rfl rfl rfl <| dp_p rfl (fun _ _ => opT_assign rfl) rfl rfl rfl <| dp_ed1 rfl (opT_storeW rfl rfl rfl rfl (belt_one hX)) rfl rfl rfl rfl <| dp_done1 ?_
              refine en_then <| ?_
              exact en_met (b7, b9, o1, o2, x1, x2, vm, hw29) ⟨(sw25.trans (sw26.trans sw29)), hO, hX, hM⟩ ⟨rfl, rfl, rfl, rfl, rfl, rfl, trivial⟩ (.refl _) inferInstance
          · skip
            obtain ⟨b9, rfl, e2, rfl⟩ := hC
            replace e2 := e2.symm; subst e2
            refine dp_e1 rfl (opT_call rfl rfl rfl (copyT_ct hw25 _ n X (hs.mono sw25) (by omega))) rfl rfl rfl rfl fun vm hw30 _ sw30 hC => ?_
            obtain ⟨_, ⟨hM, rfl⟩, rfl⟩ := hC
            refine dp_norm1 ?_
            refine dp_e1 rfl (opT_call rfl rfl rfl (its_ct hw30 _ b (hb.mono (sw25.trans sw30)) hsm)) rfl rfl rfl rfl fun vx hw31 _ sw31 hC => ?_
            obtain ⟨_, ⟨hX, rfl⟩, rfl⟩ := hC
            refine dp_norm1 ?_
            have hO := hO.mono (sw30.trans sw31)
            have hM := hM.mono sw31
            obtain ⟨o1, o2, rfl, _, _⟩ := id hO
            obtain ⟨x1, x2, rfl, _, _⟩ := id hX
            refine dp_ed1 rfl (opT_storeW rfl rfl rfl rfl (belt_one hO)) rfl rfl rfl rfl <| dp_p rfl (fun _ _ => opT_assign rfl) rfl rfl rfl <| dp_ed1 rfl (opT_storeW rfl rfl rfl rfl (belt_one hX)) rfl rfl rfl rfl <| dp_done1 ?_
            refine en_then <| ?_
            exact en_met (b7, b9, o1, o2, x1, x2, vm, hw31) ⟨(sw25.trans (sw30.trans sw31)), hO, hX, hM⟩ ⟨rfl, rfl, rfl, rfl, rfl, rfl, trivial⟩ (.refl _) inferInstance
        · skip
          obtain ⟨b9, rfl, e2, rfl⟩ := hC
          replace e2 := e2.symm; subst e2
          refine dp_e1 rfl (opT_call rfl rfl rfl (cloneF_ct h _ b (hb.mono (.refl _)) hsm)) rfl rfl rfl rfl fun vo hw32 _ sw32 hC => ?_
          obtain ⟨_, ⟨hO, rfl⟩, rfl⟩ := hC
          refine dp_norm1 ?_
          refine dp_e1 rfl (opT_call rfl rfl rfl (copyT_ct hw32 _ n X (hs.mono sw32) (by omega))) rfl rfl rfl rfl fun vm hw33 _ sw33 hC => ?_
          obtain ⟨_, ⟨hM, rfl⟩, rfl⟩ := hC
          refine dp_norm1 ?_
          refine dp_e1 rfl (opT_call rfl rfl rfl (its_ct hw33 _ b (hb.mono (sw32.trans sw33)) hsm)) rfl rfl rfl rfl fun vx hw34 _ sw34 hC => ?_
          obtain ⟨_, ⟨hX, rfl⟩, rfl⟩ := hC
          refine dp_norm1 ?_
          have hO := hO.mono (sw33.trans sw34)
          have hM := hM.mono sw34
          obtain ⟨o1, o2, rfl, _, _⟩ := id hO
          obtain ⟨x1, x2, rfl, _, _⟩ := id hX
          refine dp_ed1 rfl (opT_storeW rfl rfl rfl rfl (belt_one hO)) rfl rfl rfl rfl <| dp_p rfl (fun _ _ => opT_assign rfl) rfl rfl rfl <| dp_ed1 rfl (opT_storeW rfl rfl rfl rfl (belt_one hX)) rfl rfl rfl rfl <| dp_done1 ?_
          refine en_then <| ?_
          exact en_met (b7, b9, o1, o2, x1, x2, vm, hw34) ⟨(sw32.trans (sw33.trans sw34)), hO, hX, hM⟩ ⟨rfl, rfl, rfl, rfl, rfl, rfl, trivial⟩ (.refl _) inferInstance
      · skip
        obtain ⟨b9, rfl, e2, rfl⟩ := hC
        replace e2 := e2.symm; subst e2
        refine dp_alts [1, 6] rfl (by simp) rfl rfl ⟨alt_op rfl (opT_call rfl rfl rfl (cloneF_ct h _ b (hb.mono (.refl _)) hsm)) rfl rfl fun vo hw35 _ sw35 hC => ?_, alt_op rfl opT_alloc rfl rfl fun _ _ _ _ hC => ?_, trivial⟩
        · skip
          obtain ⟨_, ⟨hO, rfl⟩, rfl⟩ := hC
          refine dp_norm1 ?_
          refine dp_alts [3, 6] rfl (by simp) rfl rfl ⟨alt_op rfl (opT_call rfl rfl rfl (copyT_ct hw35 _ n X (hs.mono sw35) (by omega))) rfl rfl fun vm hw36 _ sw36 hC => ?_, alt_op rfl opT_alloc rfl rfl fun _ _ _ _ hC => ?_, trivial⟩
          · skip
            obtain ⟨_, ⟨hM, rfl⟩, rfl⟩ := hC
            refine dp_norm1 ?_
            refine dp_alts [5, 6] rfl (by simp) rfl rfl ⟨alt_op rfl (opT_call rfl rfl rfl (its_ct hw36 _ b (hb.mono (sw35.trans sw36)) hsm)) rfl rfl fun vx hw37 _ sw37 hC => ?_, alt_op rfl opT_alloc rfl rfl fun _ _ _ _ hC => ?_, trivial⟩
            · skip
              obtain ⟨_, ⟨hX, rfl⟩, rfl⟩ := hC
              refine dp_norm1 ?_
              refine dp_e1 rfl opT_alloc rfl rfl rfl rfl fun _ _ _ _ hC => ?_
              obtain ⟨b7, rfl, e2, rfl⟩ := hC
              replace e2 := e2.symm; subst e2
              have hO := hO.mono (sw36.trans sw37)
              have hM := hM.mono sw37
              obtain ⟨o1, o2, rfl, _, _⟩ := id hO
              obtain ⟨x1, x2, rfl, _, _⟩ := id hX
              refine dp_ed1 rfl (opT_storeW rfl rfl rfl rfl (belt_one hO)) rfl rfl rfl rfl <| dp_p rfl (fun _ _ => opT_assign rfl) rfl rfl rfl <| dp_ed1 rfl (opT_storeW rfl rfl rfl rfl (belt_one hX)) rfl rfl rfl rfl <| dp_done1 ?_
              refine en_then <| ?_
              exact en_met (b7, b9, o1, o2, x1, x2, vm, hw37) ⟨(sw35.trans (sw36.trans sw37)), hO, hX, hM⟩ ⟨rfl, rfl, rfl, rfl, rfl, rfl, trivial⟩ (.refl _) inferInstance
            · skip
              obtain ⟨b7, rfl, e2, rfl⟩ := hC
              replace e2 := e2.symm; subst e2
              refine dp_e1 rfl (opT_call rfl rfl rfl (its_ct hw36 _ b (hb.mono (sw35.trans sw36)) hsm)) rfl rfl rfl rfl fun vx hw39 _ sw39 hC => ?_
              obtain ⟨_, ⟨hX, rfl⟩, rfl⟩ := hC
              refine dp_norm1 ?_
              have hO := hO.mono (sw36.trans sw39)
              have hM := hM.mono sw39
              obtain ⟨o1, o2, rfl, _, _⟩ := id hO
              obtain ⟨x1, x2, rfl, _, _⟩ := id hX
              refine dp_ed1 rfl (opT_storeW rfl rfl rfl rfl (belt_one hO)) rfl rfl rfl rfl <| dp_p rfl (fun _ _ => opT_assign rfl) rfl rfl rfl <| dp_ed1 rfl (opT_storeW rfl rfl rfl rfl (belt_one hX)) rfl rfl rfl rfl <| dp_done1 ?_
              refine en_then <| ?_
              exact en_met (b7, b9, o1, o2, x1, x2, vm, hw39) ⟨(sw35.trans (sw36.trans sw39)), hO, hX, hM⟩ ⟨rfl, rfl, rfl, rfl, rfl, rfl, trivial⟩ (.refl _) inferInstance
          · skip
            obtain ⟨b7, rfl, e2, rfl⟩ := hC
            replace e2 := e2.symm; subst e2
            refine dp_e1 rfl (opT_call rfl rfl rfl (copyT_ct hw35 _ n X (hs.mono sw35) (by omega))) rfl rfl rfl rfl fun vm hw40 _ sw40 hC => ?_
            obtain ⟨_, ⟨hM, rfl⟩, rfl⟩ := hC
            refine dp_norm1 ?_
            refine dp_e1 rfl (opT_call rfl rfl rfl (its_ct hw40 _ b (hb.mono (sw35.trans sw40)) hsm)) rfl rfl rfl rfl fun vx hw41 _ sw41 hC => ?_
            obtain ⟨_, ⟨hX, rfl⟩, rfl⟩ := hC
            refine dp_norm1 ?_
            have hO := hO.mono (sw40.trans sw41)
            have hM := hM.mono sw41
            obtain ⟨o1, o2, rfl, _, _⟩ := id hO
            obtain ⟨x1, x2, rfl, _, _⟩ := id hX
            refine dp_ed1 rfl (opT_storeW rfl rfl rfl rfl (belt_one hO)) rfl rfl rfl rfl <| dp_p rfl (fun _ _ => opT_assign rfl) rfl rfl rfl <| dp_ed1 rfl (opT_storeW rfl rfl rfl rfl (belt_one hX)) rfl rfl rfl rfl <| dp_done1 ?_
            refine en_then <| ?_
            exact en_met (b7, b9, o1, o2, x1, x2, vm, hw41) ⟨(sw35.trans (sw40.trans sw41)), hO, hX, hM⟩ ⟨rfl, rfl, rfl, rfl, rfl, rfl, trivial⟩ (.refl _) inferInstance
        · skip
          obtain ⟨b7, rfl, e2, rfl⟩ := hC
          replace e2 := e2.symm; subst e2
          refine dp_e1 rfl (opT_call rfl rfl rfl (cloneF_ct h _ b (hb.mono (.refl _)) hsm)) rfl rfl rfl rfl fun vo hw42 _ sw42 hC => ?_
          obtain ⟨_, ⟨hO, rfl⟩, rfl⟩ := hC
          refine dp_norm1 ?_
          refine dp_e1 rfl (opT_call rfl rfl rfl (copyT_ct hw42 _ n X (hs.mono sw42) (by omega))) rfl rfl rfl rfl fun vm hw43 _ sw43 hC => ?_
          obtain ⟨_, ⟨hM, rfl⟩, rfl⟩ := hC
          refine dp_norm1 ?_
          refine dp_e1 rfl (opT_call rfl rfl rfl (its_ct hw43 _ b (hb.mono (sw42.trans sw43)) hsm)) rfl rfl rfl rfl fun vx hw44 _ sw44 hC => ?_
          obtain ⟨_, ⟨hX, rfl⟩, rfl⟩ := hC
          refine dp_norm1 ?_
          have hO := hO.mono (sw43.trans sw44)
          have hM := hM.mono sw44
          obtain ⟨o1, o2, rfl, _, _⟩ := id hO
          obtain ⟨x1, x2, rfl, _, _⟩ := id hX
          refine dp_ed1 rfl (opT_storeW rfl rfl rfl rfl (belt_one hO)) rfl rfl rfl rfl <| dp_p rfl (fun _ _ => opT_assign rfl) rfl rfl rfl <| dp_ed1 rfl (opT_storeW rfl rfl rfl rfl (belt_one hX)) rfl rfl rfl rfl <| dp_done1 ?_
          refine en_then <| ?_
          exact en_met (b7, b9, o1, o2, x1, x2, vm, hw44) ⟨(sw42.trans (sw43.trans sw44)), hO, hX, hM⟩ ⟨rfl, rfl, rfl, rfl, rfl, rfl, trivial⟩ (.refl _) inferInstance
    · skip
      obtain ⟨b7, b9, o1, o2, x1, x2, mv, h1⟩ := x
      obtain ⟨s1, hO, hX, hM⟩ := hx
      simp only at s1 hO hX hM
      change En _ _ _ [(1, .int .i64 z), (2, .slice sad n scp), (3, pt b3), (7, pt b7), (8, mv), (9, pt b9)] h1 [box b7 26 [o1, o2], box b9 59 [x1, x2]]
      have cC := checkR_ct h1 _ b hX
      have eA : atD b z = if checkD b = 0 then (if inD z 0 (b.nt - 1) = true then 0 else 2) else checkD b := rfl
      refine en_seq <| en_region <| en_det (opT_loadW_own rfl rfl) rfl <| en_calld (cC) rfl rfl rfl rfl <| en_det (opT_assign rfl) rfl <| en_nil <| en_then <| en_seq <| en_region <| en_det (opT_loadW_own rfl rfl) rfl <| ?_
      refine en_call (most21_ct h1 o1 o2 b hO) rfl rfl rfl rfl fun v h2 Γ' s2 hv => ?_
      obtain ⟨rfl, lv1, mn, rfl, hl1, hn1⟩ := hv.un
      refine en_norm ?_
      refine en_det (opT_move rfl) rfl <| en_det (opT_extract rfl rfl) rfl <| en_det (opT_extract rfl rfl) rfl <| en_det (opT_extract rfl rfl) rfl <| en_det (opT_assign rfl) rfl <| en_det (opT_assign rfl) rfl <| en_det (opT_assign rfl) rfl <| en_nil <| en_then <| ?_
      refine en_meet (ι := Unit) (fun _ => True) (fun _ => [(1, .int .i64 z), (2, .slice sad n scp), (3, pt b3), (7, pt b7), (8, mv), (9, pt b9), (10, .int .i64 (checkD b)), (11, lv1), (12, .int .i64 mn), (13, .int .i64 (checkD b))]) (fun _ => h2) (fun _ => [box b7 26 [o1, o2], box b9 59 [x1, x2]]) ?_ (fun _ _ => ?_)
      · skip
        skip
        by_cases hz : checkD b = 0
        · obtain ⟨hli, rfl⟩ := hl1 hz
          refine en_seq <| en_region <| en_det (opT_move rfl) rfl <| en_det (opT_move rfl) rfl <| en_det (opT_neq_f rfl rfl (by omega)) rfl <| en_det (opT_move rfl) rfl <| en_g_yes rfl rfl <| en_det (opT_move rfl) rfl <| en_g_yes rfl rfl <| en_det (opT_neq_f rfl rfl (by omega)) rfl <| en_g_yes rfl rfl <| en_det (opT_move rfl) rfl <| en_g_no rfl rfl rfl <| en_g_no rfl rfl rfl <| en_g_no rfl rfl rfl <| en_g_no rfl rfl rfl <| en_g_undef rfl rfl rfl <| en_g_undef rfl rfl rfl <| en_g_no rfl rfl rfl <| en_g_yes rfl rfl <| ?_
          first | refine en_det (opT_pick_t rfl rfl) rfl ?_ | refine en_det (opT_pick_f rfl rfl) rfl ?_
          first | refine en_det (opT_pick_t rfl rfl) rfl ?_ | refine en_det (opT_pick_f rfl rfl) rfl ?_
          refine en_nil <| en_then <| en_cond_f rfl <| en_skip <| en_then <| ?_
          exact en_met () trivial ⟨rfl, rfl, rfl, rfl, rfl, rfl, rfl, rfl, rfl, rfl, trivial⟩ (.refl _) inferInstance
        · obtain ⟨rfl, rfl⟩ := hn1 hz
          refine en_seq <| en_region <| en_det (opT_move rfl) rfl <| en_det (opT_move rfl) rfl <| en_det (opT_neq_f rfl rfl (by omega)) rfl <| en_det (opT_move rfl) rfl <| en_g_yes rfl rfl <| en_det (opT_move rfl) rfl <| en_g_yes rfl rfl <| en_det (opT_neq_t rfl rfl (by omega)) rfl <| en_g_yes rfl rfl <| en_det (opT_move rfl) rfl <| en_g_yes rfl rfl <| en_det (opT_move rfl) rfl <| en_g_yes rfl rfl <| en_det (opT_len rfl) rfl <| en_g_yes rfl rfl <| en_det (opT_gtr_f rfl rfl (by omega)) rfl <| en_g_yes rfl rfl <| en_det (opT_move rfl) rfl <| en_g_yes rfl rfl <| en_det (opT_move rfl) rfl <| en_g_yes rfl rfl <| en_det (opT_neq_f rfl rfl (by omega)) rfl <| en_g_yes rfl rfl <| ?_
          first | refine en_det (opT_pick_t rfl rfl) rfl ?_ | refine en_det (opT_pick_f rfl rfl) rfl ?_
          refine en_g_yes rfl rfl <| ?_
          first | refine en_det (opT_pick_t rfl rfl) rfl ?_ | refine en_det (opT_pick_f rfl rfl) rfl ?_
          first | refine en_det (opT_pick_t rfl rfl) rfl ?_ | refine en_det (opT_pick_f rfl rfl) rfl ?_
          refine en_nil <| en_then <| en_cond_f rfl <| en_skip <| en_then <| ?_
          exact en_met () trivial ⟨rfl, rfl, rfl, rfl, rfl, rfl, rfl, rfl, rfl, rfl, trivial⟩ (.refl _) inferInstance
      · skip
        refine en_meet (ι := Heap) (fun x => h2.sub x) (fun _ => [(1, .int .i64 z), (2, .slice sad n scp), (3, pt b3), (7, pt b7), (8, mv), (9, pt b9), (10, .int .i64 (atD b z))]) (fun x => x) (fun _ => [box b7 26 [o1, o2], box b9 59 [x1, x2]]) ?_ (fun h3 s3 => ?_)
        · skip
          by_cases hz : checkD b = 0
          · obtain ⟨hli, rfl⟩ := hl1 hz
            have hk := check_ok.1 hz
            obtain ⟨lad, lcp, rfl, hll, hlc, hlp⟩ := hli.fn (mostL_length b) (mostT b) (fun i hi => mostL_get hi)
            replace k0 := cellH_sub (s1.trans s2) k0
            have cAll := allR_ct h2 x1 x2 b (hX.mono s2) hk
            rw [if_pos hz] at eA
            refine en_seq <| en_region <| en_det (opT_move rfl) rfl <| en_det (opT_eql_t rfl rfl (by omega)) rfl <| en_nil <| en_then <| en_cond_t rfl <| en_seq <| en_seq <| en_region <| en_det (opT_move rfl) rfl <| en_det (opT_len rfl) rfl <| en_det (opT_fieldAddr rfl) rfl <| ?_
            first | refine en_det (opT_load_h rfl (by assumption)) rfl ?_ | refine en_det (opT_load_own rfl rfl) rfl ?_
            refine en_det (opT_len rfl) rfl <| en_det (opT_neq_f rfl rfl (by omega)) rfl <| en_det (opT_move rfl) rfl <| en_g_yes rfl rfl <| en_det (opT_move rfl) rfl <| en_g_yes rfl rfl <| en_det (opT_loadW_own rfl rfl) rfl <| en_g_yes rfl rfl <| en_calld (cAll) rfl rfl rfl rfl <| en_g_yes rfl rfl <| en_det (opT_neq_f rfl rfl (by omega)) rfl <| ?_
            first | refine en_det (opT_pick_t rfl rfl) rfl ?_ | refine en_det (opT_pick_f rfl rfl) rfl ?_
            refine en_nil <| en_then <| en_cond_f rfl <| en_skip <| en_then <| en_seq <| en_seq <| en_region <| en_det (opT_move rfl) rfl <| en_det (opT_len rfl) rfl <| en_det (opT_move rfl) rfl <| en_nil <| en_then <| en_block <| ?_
            refine en_loop (fun k : Nat => k ≤ b.nt) (fun k => [(1, .int .i64 z), (2, .slice sad n scp), (3, pt b3), (7, pt b7), (8, mv), (9, pt b9), (10, .int .i64 (checkD b)), (11, .slice lad b.nt lcp), (70, .int .i64 b.nt), (71, .int .i64 k)]) (fun _ => h2) (fun _ => [box b7 26 [o1, o2], box b9 59 [x1, x2]]) (fun k => b.nt - k) 0 (by omega) ⟨rfl, rfl, rfl, rfl, rfl, rfl, rfl, rfl, rfl, rfl, trivial⟩ (.refl _) (tkAll _) fun k hkn => ?_
            refine en_seq <| en_region <| ?_
            first | refine en_det (opT_lss_t rfl rfl (by omega)) rfl ?_ | refine en_det (opT_lss_f rfl rfl (by omega)) rfl ?_ | refine en_det (opT_lss rfl rfl) rfl ?_
            refine en_nil <| en_then <| en_seq <| ?_
            refine en_if rfl (fun hlt => ?_) (fun hlt => ?_)
            · skip
              have hkl : k < b.nt := by omega
              obtain ⟨lq, loff, rfl, lcells⟩ := hlp (by omega)
              have hck := lcells k hkl
              have cM := mostR_ct h2 x1 x2 b k (hX.mono s2) hk hkl
              refine en_skip <| en_then <| en_seq <| en_block <| en_seq <| en_region <| en_det (opT_move rfl) rfl <| en_det (opT_assign rfl) rfl <| en_nil <| en_then <| en_seq <| en_draw0 [0, 1, 2, 3, 4, 5, 6, 7] (by kernel_rfl) (by decide +kernel) (by decide +kernel) (by decide) <| dp_p rfl (fun _ _ => opT_move rfl) rfl rfl rfl <| dp_p rfl (fun _ _ => opT_move rfl) rfl rfl rfl <| ?_
              first | refine dp_p rfl (fun _ _ => opT_idx1 rfl rfl (by omega) (by omega)) rfl rfl rfl ?_ | refine dp_p rfl (fun _ _ => opT_idx (ks := 0) rfl rfl (by omega) (by omega)) rfl rfl rfl ?_
              first | refine dp_q rfl (opT_load_h rfl (by assumption)) rfl rfl rfl ?_ | refine dp_q rfl (opT_load_own rfl rfl) rfl rfl rfl ?_
              refine dp_q rfl (opT_loadW_own rfl rfl) rfl rfl rfl <| dp_p rfl (fun _ _ => opT_move rfl) rfl rfl rfl <| dp_ed0 rfl (opT_callw (cM) rfl rfl rfl) rfl rfl rfl rfl <| dp_p rfl (fun _ _ => opT_neq_f rfl rfl (by omega)) rfl rfl rfl <| dp_done0 <| en_then <| en_cond_f rfl <| en_skip <| en_blk <| en_then <| en_region <| en_det (opT_add rfl rfl (by constructor <;> omega)) rfl <| en_det (opT_move rfl) rfl <| en_nil <| en_then <| ?_
              exact en_again (k + 1) (by omega) (by omega) ⟨rfl, rfl, rfl, rfl, rfl, rfl, rfl, rfl, rfl, gi rfl (by simp), trivial⟩ (.refl _) inferInstance
            · skip
              refine en_exit <| en_then_exit <| en_then_exit <| en_blk_hit <| en_then <| ?_
              skip
              by_cases i3 : z < 0
              · have e2 : atD b z = 2 := by rw [eA, if_neg]; simp [inD]; omega
                refine en_seq <| en_region <| en_det (opT_move rfl) rfl <| en_det (opT_lss_t rfl rfl (by omega)) rfl <| en_det (opT_move rfl) rfl <| en_g_no rfl rfl rfl <| en_g_no rfl rfl rfl <| en_g_no rfl rfl rfl <| en_g_no rfl rfl rfl <| en_g_no rfl rfl rfl <| ?_
                first | refine en_det (opT_pick_t rfl rfl) rfl ?_ | refine en_det (opT_pick_f rfl rfl) rfl ?_
                refine en_nil <| en_then <| en_cond_t rfl <| en_region <| en_det (opT_assign rfl) rfl <| en_nil <| en_then <| ?_
                exact en_met h2 (.refl _) ⟨rfl, rfl, rfl, rfl, rfl, rfl, gi rfl e2.symm, trivial⟩ (.refl _) inferInstance
              by_cases i4 : (b.nt : Int) ≤ z
              · have e2 : atD b z = 2 := by rw [eA, if_neg]; simp [inD]; omega
                refine en_seq <| en_region <| en_det (opT_move rfl) rfl <| en_det (opT_lss_f rfl rfl (by omega)) rfl <| en_det (opT_move rfl) rfl <| en_g_yes rfl rfl <| en_det (opT_move rfl) rfl <| en_g_yes rfl rfl <| en_det (opT_fieldAddr rfl) rfl <| en_g_yes rfl rfl <| ?_
                first | refine en_det (opT_load_h rfl (by assumption)) rfl ?_ | refine en_det (opT_load_own rfl rfl) rfl ?_
                refine en_g_yes rfl rfl <| en_det (opT_len rfl) rfl <| en_g_yes rfl rfl <| en_det (opT_geq_t rfl rfl (by omega)) rfl <| ?_
                first | refine en_det (opT_pick_t rfl rfl) rfl ?_ | refine en_det (opT_pick_f rfl rfl) rfl ?_
                refine en_nil <| en_then <| en_cond_t rfl <| en_region <| en_det (opT_assign rfl) rfl <| en_nil <| en_then <| ?_
                exact en_met h2 (.refl _) ⟨rfl, rfl, rfl, rfl, rfl, rfl, gi rfl e2.symm, trivial⟩ (.refl _) inferInstance
              have e0 : atD b z = 0 := by rw [eA, if_pos]; simp [inD]; omega
              refine en_seq <| en_region <| en_det (opT_move rfl) rfl <| en_det (opT_lss_f rfl rfl (by omega)) rfl <| en_det (opT_move rfl) rfl <| en_g_yes rfl rfl <| en_det (opT_move rfl) rfl <| en_g_yes rfl rfl <| en_det (opT_fieldAddr rfl) rfl <| en_g_yes rfl rfl <| ?_
              first | refine en_det (opT_load_h rfl (by assumption)) rfl ?_ | refine en_det (opT_load_own rfl rfl) rfl ?_
              refine en_g_yes rfl rfl <| en_det (opT_len rfl) rfl <| en_g_yes rfl rfl <| en_det (opT_geq_f rfl rfl (by omega)) rfl <| ?_
              first | refine en_det (opT_pick_t rfl rfl) rfl ?_ | refine en_det (opT_pick_f rfl rfl) rfl ?_
              refine en_nil <| en_then <| en_cond_f rfl <| en_skip <| en_then <| ?_
              exact en_met h2 (.refl _) ⟨rfl, rfl, rfl, rfl, rfl, rfl, gi rfl (by rw [e0, hz]), trivial⟩ (.refl _) inferInstance
          · rw [if_neg hz] at eA
            refine en_seq <| en_region <| en_det (opT_move rfl) rfl <| en_det (opT_eql_f rfl rfl (by omega)) rfl <| en_nil <| en_then <| en_cond_f rfl <| en_skip <| en_then <| ?_
            exact en_met h2 (.refl _) ⟨rfl, rfl, rfl, rfl, rfl, rfl, gi rfl eA.symm, trivial⟩ (.refl _) inferInstance
        · skip
          clear eA hl1 hn1 cC
          have eS : shE b z n X = if atD b z = 0 then (if n = b.nh then (if shOK b z.toNat X = true then 0 else 8) else 3) else atD b z := rfl
          have s13 := s2.trans s3
          refine en_seq <| en_region <| en_det (opT_loadW_own rfl rfl) rfl <| en_det (opT_move rfl) rfl <| ?_
          refine en_call (share62_ct h3 o1 o2 b z (hO.mono s13)) rfl rfl rfl rfl fun v h4 Γ' s4 hv => ?_
          obtain ⟨rfl, sv1, rfl, hs1, hs0⟩ := hv.un
          refine en_norm ?_
          have s14 := s13.trans s4
          refine en_det (opT_move rfl) rfl <| en_det (opT_extract rfl rfl) rfl <| en_det (opT_extract rfl rfl) rfl <| en_det (opT_assign rfl) rfl <| en_det (opT_assign rfl) rfl <| en_nil <| en_then <| en_seq <| en_seq <| en_region <| en_det (opT_move rfl) rfl <| en_det (opT_move rfl) rfl <| en_det (opT_neq_f rfl rfl (by omega)) rfl <| en_nil <| en_then <| en_cond_f rfl <| en_skip <| en_then <| en_seq <| en_region <| en_det (opT_assign rfl) rfl <| en_nil <| en_then <| ?_
          refine en_meet (ι := Heap) (fun x => h4.sub x) (fun _ => [(1, .int .i64 z), (2, .slice sad n scp), (3, pt b3), (7, pt b7), (8, mv), (10, .int .i64 (shE b z n X)), (16, .int .i64 (if shE b z n X = 0 then shV b X else 0))]) (fun x => x) (fun _ => [box b7 26 [o1, o2], box b9 59 [x1, x2]]) ?_ (fun h5 s5 => ?_)
          · skip
            by_cases ha : atD b z = 0
            · obtain ⟨hz, hin⟩ := at_zero ha
              have hk := check_ok.1 hz
              obtain ⟨t, rfl, ht⟩ := at_nat hin
              have hsv := hs1 ha
              rw [Int.toNat_natCast] at hsv eS
              rw [if_pos ha] at eS
              rw [ha]
              obtain ⟨_, vad, vcp, rfl, _, _, _⟩ := id hsv
              replace k1 := cellH_sub (s1.trans s14) k1
              have hX4 := hX.mono s14
              have cM := mostR_ct h4 x1 x2 b t hX4 hk ht
              have eR : shR b t (shB b wholeD t (allH b)).1 = mostT b t := by unfold shR; rw [if_pos ((share_feas hk ht).sh hk), share_val]
              refine en_seq <| en_region <| en_det (opT_move rfl) rfl <| en_det (opT_neq_f rfl rfl (by omega)) rfl <| en_nil <| en_then <| en_cond_f rfl <| en_seq <| en_seq <| en_draw0 [0, 1, 2, 3, 4, 5, 6, 7, 8, 9, 12, 13, 10, 11, 14, 15, 16] (by kernel_rfl) (by decide +kernel) (by decide +kernel) (by decide) <| dp_p rfl (fun _ _ => opT_move rfl) rfl rfl rfl <| dp_p rfl (fun _ _ => opT_len rfl) rfl rfl rfl <| dp_p rfl (fun _ _ => opT_fieldAddr rfl) rfl rfl rfl <| ?_
              first | refine dp_q rfl (opT_load_h rfl (by assumption)) rfl rfl rfl ?_ | refine dp_q rfl (opT_load_own rfl rfl) rfl rfl rfl ?_
              refine dp_p rfl (fun _ _ => opT_len rfl) rfl rfl rfl <| dp_p rfl (fun _ _ => opT_neq_f rfl rfl (by omega)) rfl rfl rfl <| dp_p rfl (fun _ _ => opT_move rfl) rfl rfl rfl <| dp_q_yes rfl rfl rfl (opT_loadW_own rfl rfl) rfl rfl rfl <| dp_q_yes rfl rfl rfl (opT_move rfl) rfl rfl rfl <| dp_q_yes rfl rfl rfl (opT_move rfl) rfl rfl rfl <| dp_q_yes rfl rfl rfl (opT_loadW_own rfl rfl) rfl rfl rfl <| dp_q_yes rfl rfl rfl (opT_move rfl) rfl rfl rfl <| ?_
              refine dp_callq_yes (trays34_ct h4 _ b.nh _ hsv (by omega)) rfl rfl rfl rfl rfl rfl rfl rfl rfl fun v116 h5 s5 hv116 => ?_; have cS := sharedR_ct h5 x1 x2 v116 b t _ (hX4.mono s5) hk ht hv116; rw [eR] at cS
              refine dp_callq_yes (p := fun v' _ => v' = .int .i64 (mostT b t)) cS rfl rfl rfl rfl rfl rfl rfl rfl rfl fun v117 h6 s6 hv117 => ?_; subst hv117
              refine dp_q_yes rfl rfl rfl (opT_callw (cM) rfl rfl rfl) rfl rfl rfl <| dp_q_yes rfl rfl rfl (opT_neq_f rfl rfl (by omega)) rfl rfl rfl <| ?_
              first | refine dp_p rfl (fun _ _ => opT_pick_t rfl rfl) rfl rfl rfl ?_ | refine dp_p rfl (fun _ _ => opT_pick_f rfl rfl) rfl rfl rfl ?_
              refine dp_done0 <| ?_
              replace k1 := cellH_sub (s5.trans s6) k1
              have s46 := s5.trans s6
              have hX6 := hX4.mono s46
              have hs6 := hs.mono (s1.trans (s14.trans s46))
              refine en_then <| en_cond_f rfl <| en_skip <| en_then <| ?_
              skip
              by_cases hnn : n = b.nh
              · subst hnn
                rw [if_pos rfl] at eS
                cases hsh : shOK b t X with
                | true =>
                  have hnn := shOK_nn hsh
                  have eQ : shR b t X = shV b X := by unfold shR; rw [if_pos hsh]
                  rw [hsh, if_pos rfl] at eS
                  generalize shV b X = V at hnn eQ ⊢
                  refine en_seq <| en_region <| en_det (opT_move rfl) rfl <| en_det (opT_len rfl) rfl <| en_det (opT_fieldAddr rfl) rfl <| ?_
                  first | refine en_det (opT_load_h rfl (by assumption)) rfl ?_ | refine en_det (opT_load_own rfl rfl) rfl ?_
                  refine en_det (opT_len rfl) rfl <| en_det (opT_neq_f rfl rfl (by omega)) rfl <| en_nil <| en_then <| en_cond_f rfl <| en_seq <| en_draw0 [0, 1, 2, 3, 4, 5] (by kernel_rfl) (by decide +kernel) (by decide +kernel) (by decide) <| dp_q rfl (opT_loadW_own rfl rfl) rfl rfl rfl <| dp_p rfl (fun _ _ => opT_move rfl) rfl rfl rfl <| dp_p rfl (fun _ _ => opT_move rfl) rfl rfl rfl <| ?_
                  refine dp_callq (trays34_ct h6 _ b.nh _ hs6 (by omega)) rfl rfl rfl rfl rfl rfl rfl fun v132 h7 s7 hv132 => ?_; have cS2 := sharedR_ct h7 x1 x2 v132 b t X (hX6.mono s7) hk ht hv132; rw [eQ] at cS2
                  refine dp_callq (p := fun v' _ => v' = .int .i64 V) cS2 rfl rfl rfl rfl rfl rfl rfl fun v133 h8 s8 hv133 => ?_; subst hv133
                  refine dp_p rfl (fun _ _ => opT_assign rfl) rfl rfl rfl <| dp_done0 <| en_then <| en_seq <| en_region <| en_det (opT_move rfl) rfl <| en_det (opT_lss_f rfl rfl (by omega)) rfl <| en_nil <| en_then <| en_cond_f rfl <| en_skip <| en_then <| ?_
                  exact en_met h8 (s46.trans (s7.trans s8)) ⟨rfl, rfl, rfl, rfl, rfl, gi rfl eS.symm, gi rfl (by rw [eS]; simp), trivial⟩ (.refl _) inferInstance
                | false =>
                  have eQ : shR b t X = -1 := by unfold shR; rw [if_neg (by rw [hsh]; simp)]
                  rw [hsh, if_neg (by simp)] at eS
                  refine en_seq <| en_region <| en_det (opT_move rfl) rfl <| en_det (opT_len rfl) rfl <| en_det (opT_fieldAddr rfl) rfl <| ?_
                  first | refine en_det (opT_load_h rfl (by assumption)) rfl ?_ | refine en_det (opT_load_own rfl rfl) rfl ?_
                  refine en_det (opT_len rfl) rfl <| en_det (opT_neq_f rfl rfl (by omega)) rfl <| en_nil <| en_then <| en_cond_f rfl <| en_seq <| en_draw0 [0, 1, 2, 3, 4, 5] (by kernel_rfl) (by decide +kernel) (by decide +kernel) (by decide) <| dp_q rfl (opT_loadW_own rfl rfl) rfl rfl rfl <| dp_p rfl (fun _ _ => opT_move rfl) rfl rfl rfl <| dp_p rfl (fun _ _ => opT_move rfl) rfl rfl rfl <| ?_
                  refine dp_callq (trays34_ct h6 _ b.nh _ hs6 (by omega)) rfl rfl rfl rfl rfl rfl rfl fun v132 h7 s7 hv132 => ?_; have cS2 := sharedR_ct h7 x1 x2 v132 b t X (hX6.mono s7) hk ht hv132; rw [eQ] at cS2
                  refine dp_callq (p := fun v' _ => v' = .int .i64 (-1)) cS2 rfl rfl rfl rfl rfl rfl rfl fun v133 h8 s8 hv133 => ?_; subst hv133
                  refine dp_p rfl (fun _ _ => opT_assign rfl) rfl rfl rfl <| dp_done0 <| en_then <| en_seq <| en_region <| en_det (opT_move rfl) rfl <| en_det (opT_lss_t rfl rfl (by omega)) rfl <| en_nil <| en_then <| en_cond_t rfl <| en_region <| en_det (opT_assign rfl) rfl <| en_det (opT_assign rfl) rfl <| en_nil <| en_then <| ?_
                  exact en_met h8 (s46.trans (s7.trans s8)) ⟨rfl, rfl, rfl, rfl, rfl, gi rfl eS.symm, gi rfl (by rw [eS]; simp), trivial⟩ (.refl _) inferInstance
              · rw [if_neg hnn] at eS
                refine en_seq <| en_region <| en_det (opT_move rfl) rfl <| en_det (opT_len rfl) rfl <| en_det (opT_fieldAddr rfl) rfl <| ?_
                first | refine en_det (opT_load_h rfl (by assumption)) rfl ?_ | refine en_det (opT_load_own rfl rfl) rfl ?_
                refine en_det (opT_len rfl) rfl <| en_det (opT_neq_t rfl rfl (by omega)) rfl <| en_nil <| en_then <| en_cond_t rfl <| en_region <| en_det (opT_assign rfl) rfl <| en_nil <| en_then <| ?_
                exact en_met h6 s46 ⟨rfl, rfl, rfl, rfl, rfl, gi rfl eS.symm, gi rfl (by rw [eS]; simp), trivial⟩ (.refl _) inferInstance
            · have e1 := hs0 ha
              subst e1
              rw [if_neg ha] at eS
              refine en_seq <| en_region <| en_det (opT_move rfl) rfl <| en_det (opT_neq_t rfl rfl (by omega)) rfl <| en_nil <| en_then <| en_cond_t rfl <| en_seq <| en_region <| en_det (opT_move rfl) rfl <| en_det (opT_len rfl) rfl <| en_det (opT_gtr_f rfl rfl (by omega)) rfl <| en_nil <| en_then <| en_cond_f rfl <| en_skip <| en_then <| ?_
              exact en_met h4 (.refl _) ⟨rfl, rfl, rfl, rfl, rfl, gi rfl eS.symm, gi rfl (by rw [eS, if_neg ha]), trivial⟩ (.refl _) inferInstance
          · skip
            have s15 := s14.trans s5
            have cF := shared_ct h5 (.agg #[o1, o2]) mv b z n X (hO.mono s15) (hM.mono s15) (by omega)
            clear eS
            generalize (if shE b z n X = 0 then shV b X else 0) = K at cF ⊢
            generalize shE b z n X = E at cF ⊢
            refine en_seq <| en_region <| en_det (opT_loadW_own rfl rfl) rfl <| en_det (opT_move rfl) rfl <| en_det (opT_move rfl) rfl <| ?_
            refine en_call cF rfl rfl rfl rfl fun v h6 Γ' s6 hv => ?_
            obtain ⟨rfl, rfl⟩ := hv
            refine en_norm ?_
            have s16 := s15.trans s6
            have kb' := kb.mono (s1.trans s16)
            have cE := same_ct h6 _ _ b (hO.mono s16) (hb.mono (s1.trans s16))
            have cA := alike65_ct h6 mv (.slice sad n scp) n n X X (hM.mono s16) (hs.mono (s1.trans s16))
            rw [alikeT_self] at cA
            refine en_det (opT_move rfl) rfl <| en_det (opT_extract rfl rfl) rfl <| en_det (opT_extract rfl rfl) rfl <| en_det (opT_assign rfl) rfl <| en_det (opT_assign rfl) rfl <| en_nil <| en_then <| en_seq <| en_region <| en_det (opT_move rfl) rfl <| en_det (opT_move rfl) rfl <| en_det (opT_eql_t rfl rfl (by omega)) rfl <| en_det (opT_move rfl) rfl <| en_g_yes rfl rfl <| en_det (opT_move rfl) rfl <| en_g_yes rfl rfl <| en_det (opT_move rfl) rfl <| en_g_yes rfl rfl <| en_det (opT_eql_t rfl rfl (by omega)) rfl <| ?_
            first | refine en_det (opT_pick_t rfl rfl) rfl ?_ | refine en_det (opT_pick_f rfl rfl) rfl ?_
            refine en_det (opT_move rfl) rfl <| en_g_yes rfl rfl <| en_det (opT_loadW_own rfl rfl) rfl <| en_g_yes rfl rfl <| en_det (opT_loadA_h rfl kb' rfl) rfl <| en_g_yes rfl rfl <| en_calld (cE) rfl rfl rfl rfl <| ?_
            first | refine en_det (opT_pick_t rfl rfl) rfl ?_ | refine en_det (opT_pick_f rfl rfl) rfl ?_
            refine en_det (opT_move rfl) rfl <| en_g_yes rfl rfl <| en_det (opT_move rfl) rfl <| en_g_yes rfl rfl <| en_det (opT_move rfl) rfl <| en_g_yes rfl rfl <| en_calld (cA) rfl rfl rfl rfl <| ?_
            first | refine en_det (opT_pick_t rfl rfl) rfl ?_ | refine en_det (opT_pick_f rfl rfl) rfl ?_
            refine en_det (opT_move rfl) rfl <| en_g_yes rfl rfl <| en_calld (awake_ct h6) rfl rfl rfl rfl <| ?_
            first | refine en_det (opT_pick_t rfl rfl) rfl ?_ | refine en_det (opT_pick_f rfl rfl) rfl ?_
            refine en_det (opT_assign rfl) rfl <| en_nil <| en_then <| en_ret <| ?_
            refine en_return (rs := [.tmp 6]) rfl (.cons (.tmp rfl) .nil) (s0.trans (s1.trans s16)) (Γ1 := []) ⟨rfl, rfl⟩
end Go.Sx

/- BeltShares: whatever the input, the law answers true; no condition. -/
namespace Go.Proofs.Ytennphpnklkogaa
open Go.Sx Go.ChangeShapes Go.WideShapes Go.ChangeAt Go.RowKit
set_option maxRecDepth 100000
theorem own_none : ownKnob Try.prog.godebug = none := by kernel_rfl
theorem laid_out : laidOutB Try.prog = true := by kernel_rfl
theorem cells_u8 : Try.prog.cellsOf 5 = 1 := by kernel_rfl
theorem bytes_u8 : Try.prog.bytesOf 5 = 1 := by kernel_rfl
theorem law_lifted (os : Os) (started : os.Started) (H : Type) (enc : TypeId × Value → H) :
    ReturnsInHanded {} Try.checked os 10 .any (Rows.beltSharesSpec.pre6 enc Try.prog Try.f10 Rows.beltSharesRow.domain false) (Rows.beltSharesSpec.post enc Try.prog Try.f10 false true false false) := by
  refine returnsInHanded_of_change_sized (C := Try.checked) own_none started (by kernel_rfl) Try.func10
    (ChangeSpec.witness6 (enc := enc) (C := Try.checked) false ⟨#[], #[.agg #[.slice none 0 0, .slice none 0 0], .int .i64 0, .slice none 0 0], []⟩ 8 (by kernel_rfl) (by kernel_rfl) (by kernel_rfl) (by kernel_rfl)) ?_
  intro W base args ds gs before hval0 hW _ hsz0 _
  have hsz : (DataW.weightsEach Try.prog (Try.f10.params.toList ++ Rows.beltSharesSpec.plain.varTypes Try.prog) (ds ++ gs)).all (· ≤ reachBytes) = true := hsz0
  have hval : ∀ (j : Nat) t v, Try.f10.params[j]? = some t → args[j]? = some v → Value.okWide Try.prog W .any base t v := hval0
  clear hsz0 hval0
  have hW' := hW
  obtain ⟨p, q, hA0, hV, rfl, _, _⟩ := hW
  have hA : DataW.TrodAll enc Try.prog W 0 (fun _ => true) true Try.f10.params.toList args.toList ds p := hA0
  rw [Try.params10] at hA hval hsz
  obtain ⟨v1, vs1, d1, ds1, p1, q1, e1, rfl, rfl, h1, r1⟩ := trodAll_cons hA
  obtain ⟨v2, vs2, d2, ds2, p2, q2, rfl, rfl, rfl, h2, r2⟩ := trodAll_cons r1
  obtain ⟨v3, vs3, d3, ds3, p3, q3, rfl, rfl, rfl, h3, r3⟩ := trodAll_cons r2
  obtain ⟨rfl, rfl, rfl⟩ := trodAll_nil r3
  obtain rfl : args = #[v1, v2, v3] := by cases args; simp_all
  obtain ⟨b1, hy1⟩ := open_belt (hval 0 26 v1 rfl rfl) h1
  obtain ⟨z2, rfl, rfl, rfl, _⟩ := open_int Try.underlying3 (hval 1 3 v2 rfl rfl) h2
  obtain ⟨n3, t3, hy3⟩ := open_trays Try.underlying23 Try.underlying31 Try.underlying3 (by kernel_rfl) (by kernel_rfl) (hval 2 23 v3 rfl rfl) h3
  exact law_calls laid_out (by kernel_rfl) rfl ⟨4, rfl, Try.underlying4⟩ rfl hW' (Go.Sx.shareslaw_ct _ v1 v3 b1 z2 n3 t3 hy1 hy3)
theorem beltShares_holds : Rows.BeltSharesSaid :=
  OpenClaim.holds_of_wide 10 Try.f10 rfl rfl rfl rfl rfl rfl rfl ⟨rfl, rfl, rfl, rfl, rfl⟩ rfl rfl rfl rfl rfl (by kernel_rfl) Try.func10 (by kernel_rfl)
    (of_decide_eq_true (by kernel_rfl)) (by unfold Func.isWrapper; first | (rw [if_pos (by decide +kernel)]; kernel_rfl) | (rw [if_neg (by decide +kernel)]; exact ⟨rfl, rfl⟩))
    (fun os started H enc _ => law_lifted os started H enc)
end Go.Proofs.Ytennphpnklkogaa
