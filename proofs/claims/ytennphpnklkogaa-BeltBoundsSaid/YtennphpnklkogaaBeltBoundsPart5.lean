/- BeltBounds: for every input the law answers true and its arguments read as before; no condition. Part 5 of 6: W47, BRef, W48, W49, W51, W52, SepO, W50, W53, W54, BLists, W55, SepP. -/
import Derived.Test.YtennphpnklkogaaBeltBoundsPart4
set_option linter.unusedSimpArgs false
set_option linter.unusedVariables false
/- The reference: which belts are right. -/
namespace Go.Sx
open Go.Proofs
set_option maxRecDepth 100000
theorem allI_no {n i : Nat} {p : Nat → Bool} (hi : i < n) (h : p i = false) : allI n p = false := by
  simp only [allI, List.all_eq_false, List.mem_range]; exact ⟨i, hi, by simp [h]⟩
theorem allI_yes {n : Nat} {p : Nat → Bool} (h : ∀ i, i < n → p i = true) : allI n p = true := allI_iff.2 h
attribute [local irreducible] Code.wpIn wpListIn Exit.then Exit.inBlock BQ Again Hd St En OpT box blk RQ BQ0 fmap own Desk Chute
theorem piecesR_ct (h : Heap) (t : Nat → Int) : CT Try.prog 45 [.agg (trayL t).toArray] h [] (DetW (.bool (piecesD t)) []) := by
  refine ct_intro Try.func45 rfl rfl rfl rfl fun Φ => ?_
  refine en_seq <| en_region <| en_box rfl rfl rfl fun b1 => en_det (opT_assign rfl) rfl <| en_nil <| en_then <| en_seq <| en_seq <| en_region <| en_det (opT_assign rfl) rfl <| en_nil <| en_then <| en_block <| ?_
  refine en_loop (fun k : Nat => k ≤ 5 ∧ ∀ m, m < k → inD (t m) 0 60 = true) (fun k => [(1, pt b1), (3, .int .i64 k)]) (fun _ => h) (fun _ => [box b1 70 (trayL t)]) (fun k => 5 - k) 0 ⟨by omega, fun m hm => by omega⟩ ⟨rfl, rfl, trivial⟩ (.refl _) (tkAll _) fun k ⟨hk, hb⟩ => ?_
  refine en_seq <| en_seq <| en_region <| en_det (opT_move rfl) rfl <| ?_
  first | refine en_det (opT_lss_t rfl rfl (by omega)) rfl ?_ | refine en_det (opT_lss_f rfl rfl (by omega)) rfl ?_ | refine en_det (opT_lss rfl rfl) rfl ?_
  refine en_nil <| en_then <| ?_
  refine en_if rfl (fun hlt => ?_) (fun hlt => ?_)
  · skip
    have hk5 : k < 5 := by omega
    have hg : (trayL t)[k]? = some (.int .i64 (t k)) := row_get hk5
    have cO := off_ct (t k) 0 60 h
    skip
    cases hx : inD (t k) 0 60 with
    | true =>
      rw [hx] at cO
      refine en_skip <| en_then <| en_seq <| en_block <| en_seq <| en_region <| en_det (opT_move rfl) rfl <| en_det (opT_idxArr rfl rfl (by omega) (by omega)) rfl <| en_det (opT_load_own rfl hg) rfl <| en_calld (cO) rfl rfl rfl rfl <| en_nil <| en_then <| en_cond_f rfl <| en_skip <| en_blk <| en_then <| en_region <| en_det (opT_move rfl) rfl <| en_det (opT_add rfl rfl (by constructor <;> omega)) rfl <| en_det (opT_assign rfl) rfl <| en_nil <| en_then <| ?_
      refine en_again (k + 1) ⟨by omega, fun m h1 => ?_⟩ (by omega) ⟨rfl, gi rfl (by simp), trivial⟩ (.refl _) inferInstance
      rcases Nat.lt_succ_iff_lt_or_eq.1 h1 with h2 | rfl
      · exact hb m h2
      · exact hx
    | false =>
      rw [hx] at cO
      have e : piecesD t = false := allI_no hk5 hx
      refine en_skip <| en_then <| en_seq <| en_block <| en_seq <| en_region <| en_det (opT_move rfl) rfl <| en_det (opT_idxArr rfl rfl (by omega) (by omega)) rfl <| en_det (opT_load_own rfl hg) rfl <| en_calld (cO) rfl rfl rfl rfl <| en_nil <| en_then <| en_cond_t rfl <| en_seq <| en_region <| en_det (opT_assign rfl) rfl <| en_nil <| en_then <| en_ret <| en_blk_ret <| en_then_ret <| en_then_ret <| en_blk_ret <| en_then_ret <| ?_
      refine en_return (rs := [.tmp 2]) rfl (.cons (.tmp rfl) .nil) (.refl _) (Γ1 := []) ⟨by rw [e]; rfl, rfl⟩
  · skip
    obtain rfl : k = 5 := by omega
    have e : piecesD t = true := allI_yes hb
    refine en_exit <| en_then_exit <| en_then_exit <| en_blk_hit <| en_then <| en_seq <| en_region <| en_det (opT_assign rfl) rfl <| en_nil <| en_then <| en_ret <| ?_
    refine en_return (rs := [.tmp 2]) rfl (.cons (.tmp rfl) .nil) (.refl _) (Γ1 := []) ⟨by rw [e]; rfl, rfl⟩
theorem checkR_ct (h : Heap) (v : Value) (b : BeltD) (hb : IsBelt h v b) : CT Try.prog 26 [v] h [] (DetW (.int .i64 (checkD b)) []) := by
  obtain ⟨tv, hv, rfl, ⟨_, tad, tcp, rfl, tm1, tc1, tp1⟩, rv, ⟨_, had, hcp, rfl, hm1, hc1, hp1⟩, hr⟩ := hb
  refine ct_intro Try.func26 rfl rfl rfl rfl fun Φ => ?_
  skip
  by_cases hn1 : b.nt < 1
  · have hz : checkD b = 3 := by unfold checkD; rw [if_pos]; simp [inD]; omega
    refine en_seq <| en_region <| en_box rfl rfl rfl fun b1 => en_det (opT_assign rfl) rfl <| en_nil <| en_then <| en_seq <| en_seq <| en_region <| en_det (opT_fieldAddr rfl) rfl <| en_det (opT_load_own rfl rfl) rfl <| en_det (opT_len rfl) rfl <| en_det (opT_lss_t rfl rfl (by omega)) rfl <| en_det (opT_move rfl) rfl <| en_g_no rfl rfl rfl <| en_g_no rfl rfl rfl <| en_g_no rfl rfl rfl <| en_g_no rfl rfl rfl <| ?_
    first | refine en_det (opT_pick_t rfl rfl) rfl ?_ | refine en_det (opT_pick_f rfl rfl) rfl ?_
    refine en_det (opT_move rfl) rfl <| en_g_no rfl rfl rfl <| en_g_no rfl rfl rfl <| en_g_no rfl rfl rfl <| en_g_no rfl rfl rfl <| ?_
    first | refine en_det (opT_pick_t rfl rfl) rfl ?_ | refine en_det (opT_pick_f rfl rfl) rfl ?_
    refine en_nil <| en_then <| en_cond_t rfl <| en_seq <| en_region <| en_det (opT_assign rfl) rfl <| en_nil <| en_then <| en_ret <| en_then_ret <| ?_
    refine en_return (rs := [.tmp 2]) rfl (.cons (.tmp rfl) .nil) (.refl _) (Γ1 := []) ⟨by rw [hz]; rfl, rfl⟩
  by_cases hn8 : 8 < b.nt
  · have hz : checkD b = 3 := by unfold checkD; rw [if_pos]; simp [inD]; omega
    refine en_seq <| en_region <| en_box rfl rfl rfl fun b1 => en_det (opT_assign rfl) rfl <| en_nil <| en_then <| en_seq <| en_seq <| en_region <| en_det (opT_fieldAddr rfl) rfl <| en_det (opT_load_own rfl rfl) rfl <| en_det (opT_len rfl) rfl <| en_det (opT_lss_f rfl rfl (by omega)) rfl <| en_det (opT_move rfl) rfl <| en_g_yes rfl rfl <| en_det (opT_fieldAddr rfl) rfl <| en_g_yes rfl rfl <| en_det (opT_load_own rfl rfl) rfl <| en_g_yes rfl rfl <| en_det (opT_len rfl) rfl <| en_g_yes rfl rfl <| en_det (opT_gtr_t rfl rfl (by omega)) rfl <| ?_
    first | refine en_det (opT_pick_t rfl rfl) rfl ?_ | refine en_det (opT_pick_f rfl rfl) rfl ?_
    refine en_det (opT_move rfl) rfl <| en_g_no rfl rfl rfl <| en_g_no rfl rfl rfl <| en_g_no rfl rfl rfl <| en_g_no rfl rfl rfl <| ?_
    first | refine en_det (opT_pick_t rfl rfl) rfl ?_ | refine en_det (opT_pick_f rfl rfl) rfl ?_
    refine en_nil <| en_then <| en_cond_t rfl <| en_seq <| en_region <| en_det (opT_assign rfl) rfl <| en_nil <| en_then <| en_ret <| en_then_ret <| ?_
    refine en_return (rs := [.tmp 2]) rfl (.cons (.tmp rfl) .nil) (.refl _) (Γ1 := []) ⟨by rw [hz]; rfl, rfl⟩
  by_cases hh5 : 5 < b.nh
  · have hz : checkD b = 3 := by unfold checkD; rw [if_pos]; simp [inD]; omega
    refine en_seq <| en_region <| en_box rfl rfl rfl fun b1 => en_det (opT_assign rfl) rfl <| en_nil <| en_then <| en_seq <| en_seq <| en_region <| en_det (opT_fieldAddr rfl) rfl <| en_det (opT_load_own rfl rfl) rfl <| en_det (opT_len rfl) rfl <| en_det (opT_lss_f rfl rfl (by omega)) rfl <| en_det (opT_move rfl) rfl <| en_g_yes rfl rfl <| en_det (opT_fieldAddr rfl) rfl <| en_g_yes rfl rfl <| en_det (opT_load_own rfl rfl) rfl <| en_g_yes rfl rfl <| en_det (opT_len rfl) rfl <| en_g_yes rfl rfl <| en_det (opT_gtr_f rfl rfl (by omega)) rfl <| ?_
    first | refine en_det (opT_pick_t rfl rfl) rfl ?_ | refine en_det (opT_pick_f rfl rfl) rfl ?_
    refine en_det (opT_move rfl) rfl <| en_g_yes rfl rfl <| en_det (opT_fieldAddr rfl) rfl <| en_g_yes rfl rfl <| en_det (opT_load_own rfl rfl) rfl <| en_g_yes rfl rfl <| en_det (opT_len rfl) rfl <| en_g_yes rfl rfl <| en_det (opT_gtr_t rfl rfl (by omega)) rfl <| ?_
    first | refine en_det (opT_pick_t rfl rfl) rfl ?_ | refine en_det (opT_pick_f rfl rfl) rfl ?_
    refine en_nil <| en_then <| en_cond_t rfl <| en_seq <| en_region <| en_det (opT_assign rfl) rfl <| en_nil <| en_then <| en_ret <| en_then_ret <| ?_
    refine en_return (rs := [.tmp 2]) rfl (.cons (.tmp rfl) .nil) (.refl _) (Γ1 := []) ⟨by rw [hz]; rfl, rfl⟩
  have z1 : (!(inD b.nt 1 8) || decide (b.nh > 5)) = false := by simp [inD]; omega
  refine en_seq <| en_region <| en_box rfl rfl rfl fun b1 => en_det (opT_assign rfl) rfl <| en_nil <| en_then <| en_seq <| en_seq <| en_region <| en_det (opT_fieldAddr rfl) rfl <| en_det (opT_load_own rfl rfl) rfl <| en_det (opT_len rfl) rfl <| en_det (opT_lss_f rfl rfl (by omega)) rfl <| en_det (opT_move rfl) rfl <| en_g_yes rfl rfl <| en_det (opT_fieldAddr rfl) rfl <| en_g_yes rfl rfl <| en_det (opT_load_own rfl rfl) rfl <| en_g_yes rfl rfl <| en_det (opT_len rfl) rfl <| en_g_yes rfl rfl <| en_det (opT_gtr_f rfl rfl (by omega)) rfl <| ?_
  first | refine en_det (opT_pick_t rfl rfl) rfl ?_ | refine en_det (opT_pick_f rfl rfl) rfl ?_
  refine en_det (opT_move rfl) rfl <| en_g_yes rfl rfl <| en_det (opT_fieldAddr rfl) rfl <| en_g_yes rfl rfl <| en_det (opT_load_own rfl rfl) rfl <| en_g_yes rfl rfl <| en_det (opT_len rfl) rfl <| en_g_yes rfl rfl <| en_det (opT_gtr_f rfl rfl (by omega)) rfl <| ?_
  first | refine en_det (opT_pick_t rfl rfl) rfl ?_ | refine en_det (opT_pick_f rfl rfl) rfl ?_
  refine en_nil <| en_then <| en_cond_f rfl <| en_skip <| en_then <| en_seq <| en_seq <| en_region <| en_det (opT_assign rfl) rfl <| en_nil <| en_then <| en_block <| ?_
  refine en_loop (fun k : Nat => k ≤ b.nt ∧ ∀ i, i < k → piecesD (b.tray i) = true) (fun k => [(1, pt b1), (3, .int .i64 k)]) (fun _ => h) (fun _ => [box b1 59 [.slice tad b.nt tcp, .slice had b.nh hcp]]) (fun k => b.nt - k) 0 ⟨by omega, fun m hm => by omega⟩ ⟨rfl, rfl, trivial⟩ (.refl _) (tkAll _) fun k ⟨hk, hb⟩ => ?_
  refine en_seq <| en_seq <| en_region <| en_det (opT_move rfl) rfl <| en_det (opT_fieldAddr rfl) rfl <| en_det (opT_load_own rfl rfl) rfl <| en_det (opT_len rfl) rfl <| ?_
  first | refine en_det (opT_lss_t rfl rfl (by omega)) rfl ?_ | refine en_det (opT_lss_f rfl rfl (by omega)) rfl ?_ | refine en_det (opT_lss rfl rfl) rfl ?_
  refine en_nil <| en_then <| ?_
  refine en_if rfl (fun hlt => ?_) (fun hlt => ?_)
  · skip
    have hkl : k < b.nt := by omega
    obtain ⟨tq, toff, rfl, tcells⟩ := tp1 (by omega)
    have hrow : CellsH h tq (toff + k * 5) (trayL (b.tray k)) := tcells.row hkl
    have cO := piecesR_ct h (b.tray k)
    skip
    cases hx : piecesD (b.tray k) with
    | true =>
      rw [hx] at cO
      refine en_skip <| en_then <| en_seq <| en_block <| en_seq <| en_region <| en_det (opT_fieldAddr rfl) rfl <| en_det (opT_load_own rfl rfl) rfl <| en_det (opT_move rfl) rfl <| ?_
      first | refine en_det (opT_idx1 rfl rfl (by omega) (by omega)) rfl ?_ | refine en_det (opT_idx (ks := 0) rfl rfl (by omega) (by omega)) rfl ?_
      refine en_det (opT_loadA_h rfl hrow (row_length _ _)) rfl <| en_calld (cO) rfl rfl rfl rfl <| ?_
      first | refine en_det (opT_not_t rfl) rfl ?_ | refine en_det (opT_not_f rfl) rfl ?_ | refine en_det (opT_not rfl) rfl ?_
      refine en_nil <| en_then <| en_cond_f rfl <| en_skip <| en_blk <| en_then <| en_region <| en_det (opT_move rfl) rfl <| en_det (opT_add rfl rfl (by constructor <;> omega)) rfl <| en_det (opT_assign rfl) rfl <| en_nil <| en_then <| ?_
      refine en_again (k + 1) ⟨by omega, fun m h1 => ?_⟩ (by omega) ⟨rfl, gi rfl (by simp), trivial⟩ (.refl _) inferInstance
      rcases Nat.lt_succ_iff_lt_or_eq.1 h1 with h2 | rfl
      · exact hb m h2
      · exact hx
    | false =>
      rw [hx] at cO
      have hz : checkD b = 4 := by unfold checkD; rw [if_neg (by simp [z1]), if_pos (by rw [allI_no hkl hx]; rfl)]
      refine en_skip <| en_then <| en_seq <| en_block <| en_seq <| en_region <| en_det (opT_fieldAddr rfl) rfl <| en_det (opT_load_own rfl rfl) rfl <| en_det (opT_move rfl) rfl <| ?_
      first | refine en_det (opT_idx1 rfl rfl (by omega) (by omega)) rfl ?_ | refine en_det (opT_idx (ks := 0) rfl rfl (by omega) (by omega)) rfl ?_
      refine en_det (opT_loadA_h rfl hrow (row_length _ _)) rfl <| en_calld (cO) rfl rfl rfl rfl <| ?_
      first | refine en_det (opT_not_t rfl) rfl ?_ | refine en_det (opT_not_f rfl) rfl ?_ | refine en_det (opT_not rfl) rfl ?_
      refine en_nil <| en_then <| en_cond_t rfl <| en_seq <| en_region <| en_det (opT_assign rfl) rfl <| en_nil <| en_then <| en_ret <| en_blk_ret <| en_then_ret <| en_then_ret <| en_blk_ret <| en_then_ret <| ?_
      refine en_return (rs := [.tmp 2]) rfl (.cons (.tmp rfl) .nil) (.refl _) (Γ1 := []) ⟨by rw [hz]; rfl, rfl⟩
  obtain rfl : k = b.nt := by omega
  have z2 : (allI b.nt fun i => piecesD (b.tray i)) = true := allI_yes hb
  clear hb hlt hk
  refine en_exit <| en_then_exit <| en_then_exit <| en_blk_hit <| en_then <| en_seq <| en_seq <| en_region <| en_det (opT_assign rfl) rfl <| en_nil <| en_then <| en_block <| ?_
  refine en_loop (fun k : Nat => k ≤ b.nh ∧ ∀ i, i < k → (inD (b.hand i).str 0 40 && inD (b.hand i).tire 0 10 && inD (b.hand i).slip 0 100) = true) (fun k => [(1, pt b1), (4, .int .i64 k)]) (fun _ => h) (fun _ => [box b1 59 [.slice tad b.nt tcp, .slice had b.nh hcp]]) (fun k => b.nh - k) 0 ⟨by omega, fun m hm => by omega⟩ ⟨rfl, rfl, trivial⟩ (.refl _) (tkAll _) fun k ⟨hk, hb⟩ => ?_
  refine en_seq <| en_seq <| en_region <| en_det (opT_move rfl) rfl <| en_det (opT_fieldAddr rfl) rfl <| en_det (opT_load_own rfl rfl) rfl <| en_det (opT_len rfl) rfl <| ?_
  first | refine en_det (opT_lss_t rfl rfl (by omega)) rfl ?_ | refine en_det (opT_lss_f rfl rfl (by omega)) rfl ?_ | refine en_det (opT_lss rfl rfl) rfl ?_
  refine en_nil <| en_then <| ?_
  refine en_if rfl (fun hlt => ?_) (fun hlt => ?_)
  · skip
    have hkl : k < b.nh := by omega
    obtain ⟨hq, hoff, rfl, hcells⟩ := hp1 (by omega)
    have hrow : CellsH h hq (hoff + k * 9) (handL (b.hand k) (rv k)) := hcells.row hkl
    have hone := List.all_eq_true.1 (one_handV (H := b.hand k) (hr k hkl).one)
    have cA := off_ct (b.hand k).str 0 40 h
    have cB := off_ct (b.hand k).tire 0 10 h
    have cC := off_ct (b.hand k).slip 0 100 h
    have hz0 : (inD (b.hand k).str 0 40 && inD (b.hand k).tire 0 10 && inD (b.hand k).slip 0 100) = false → checkD b = 4 := fun hx => by unfold checkD; rw [if_neg (by simp [z1]), if_neg (by simp [z2]), if_pos (by rw [allI_no hkl hx]; rfl)]
    have hby : inD (b.hand k).str 0 40 = true → inD (b.hand k).tire 0 10 = true → inD (b.hand k).slip 0 100 = true → ∀ i, i < k + 1 → (inD (b.hand i).str 0 40 && inD (b.hand i).tire 0 10 && inD (b.hand i).slip 0 100) = true := fun ha hb' hc i hi => by
      rcases Nat.lt_succ_iff_lt_or_eq.1 hi with h2 | rfl
      · exact hb i h2
      · rw [ha, hb', hc]; rfl
    generalize inD (b.hand k).str 0 40 = p1 at cA hz0 hby
    generalize inD (b.hand k).tire 0 10 = p2 at cB hz0 hby
    generalize inD (b.hand k).slip 0 100 = p3 at cC hz0 hby
    skip
    cases p1 with
    | false =>
      refine en_skip <| en_then <| en_seq <| en_block <| en_seq <| en_region <| en_det (opT_fieldAddr rfl) rfl <| en_det (opT_load_own rfl rfl) rfl <| en_det (opT_move rfl) rfl <| ?_
      first | refine en_det (opT_idx1 rfl rfl (by omega) (by omega)) rfl ?_ | refine en_det (opT_idx (ks := 0) rfl rfl (by omega) (by omega)) rfl ?_
      refine en_det (opT_loadA_h rfl hrow (row_length _ _)) rfl <| en_alloc rfl fun b5 => ?_
      refine en_det0 (opT_storeW rfl rfl (row_length _ _) rfl hone) <| en_nil <| en_then <| en_seq <| en_region <| en_det (opT_fieldAddr rfl) rfl <| en_det (opT_load_own rfl rfl) rfl <| en_calld (cA) rfl rfl rfl rfl <| en_det (opT_move rfl) rfl <| en_g_no rfl rfl rfl <| en_g_no rfl rfl rfl <| en_g_no rfl rfl rfl <| ?_
      first | refine en_det (opT_pick_t rfl rfl) rfl ?_ | refine en_det (opT_pick_f rfl rfl) rfl ?_
      refine en_det (opT_move rfl) rfl <| en_g_no rfl rfl rfl <| en_g_no rfl rfl rfl <| en_g_no rfl rfl rfl <| ?_
      first | refine en_det (opT_pick_t rfl rfl) rfl ?_ | refine en_det (opT_pick_f rfl rfl) rfl ?_
      refine en_nil <| en_then <| en_cond_t rfl <| en_seq <| en_region <| en_det (opT_assign rfl) rfl <| en_nil <| en_then <| en_ret <| en_blk_ret <| en_then_ret <| en_then_ret <| en_blk_ret <| en_then_ret <| ?_
      refine en_return (rs := [.tmp 2]) rfl (.cons (.tmp rfl) .nil) (.refl _) (Γ1 := []) ⟨by rw [hz0 rfl]; rfl, rfl⟩
    | true =>
      cases p2 with
      | false =>
        refine en_skip <| en_then <| en_seq <| en_block <| en_seq <| en_region <| en_det (opT_fieldAddr rfl) rfl <| en_det (opT_load_own rfl rfl) rfl <| en_det (opT_move rfl) rfl <| ?_
        first | refine en_det (opT_idx1 rfl rfl (by omega) (by omega)) rfl ?_ | refine en_det (opT_idx (ks := 0) rfl rfl (by omega) (by omega)) rfl ?_
        refine en_det (opT_loadA_h rfl hrow (row_length _ _)) rfl <| en_alloc rfl fun b5 => ?_
        refine en_det0 (opT_storeW rfl rfl (row_length _ _) rfl hone) <| en_nil <| en_then <| en_seq <| en_region <| en_det (opT_fieldAddr rfl) rfl <| en_det (opT_load_own rfl rfl) rfl <| en_calld (cA) rfl rfl rfl rfl <| en_det (opT_move rfl) rfl <| en_g_yes rfl rfl <| en_det (opT_fieldAddr rfl) rfl <| en_g_yes rfl rfl <| en_det (opT_load_own rfl rfl) rfl <| en_g_yes rfl rfl <| en_calld (cB) rfl rfl rfl rfl <| ?_
        first | refine en_det (opT_pick_t rfl rfl) rfl ?_ | refine en_det (opT_pick_f rfl rfl) rfl ?_
        refine en_det (opT_move rfl) rfl <| en_g_no rfl rfl rfl <| en_g_no rfl rfl rfl <| en_g_no rfl rfl rfl <| ?_
        first | refine en_det (opT_pick_t rfl rfl) rfl ?_ | refine en_det (opT_pick_f rfl rfl) rfl ?_
        refine en_nil <| en_then <| en_cond_t rfl <| en_seq <| en_region <| en_det (opT_assign rfl) rfl <| en_nil <| en_then <| en_ret <| en_blk_ret <| en_then_ret <| en_then_ret <| en_blk_ret <| en_then_ret <| ?_
        refine en_return (rs := [.tmp 2]) rfl (.cons (.tmp rfl) .nil) (.refl _) (Γ1 := []) ⟨by rw [hz0 rfl]; rfl, rfl⟩
      | true =>
        cases p3 with
        | false =>
          refine en_skip <| en_then <| en_seq <| en_block <| en_seq <| en_region <| en_det (opT_fieldAddr rfl) rfl <| en_det (opT_load_own rfl rfl) rfl <| en_det (opT_move rfl) rfl <| ?_
          first | refine en_det (opT_idx1 rfl rfl (by omega) (by omega)) rfl ?_ | refine en_det (opT_idx (ks := 0) rfl rfl (by omega) (by omega)) rfl ?_
          refine en_det (opT_loadA_h rfl hrow (row_length _ _)) rfl <| en_alloc rfl fun b5 => ?_
          refine en_det0 (opT_storeW rfl rfl (row_length _ _) rfl hone) <| en_nil <| en_then <| en_seq <| en_region <| en_det (opT_fieldAddr rfl) rfl <| en_det (opT_load_own rfl rfl) rfl <| en_calld (cA) rfl rfl rfl rfl <| en_det (opT_move rfl) rfl <| en_g_yes rfl rfl <| en_det (opT_fieldAddr rfl) rfl <| en_g_yes rfl rfl <| en_det (opT_load_own rfl rfl) rfl <| en_g_yes rfl rfl <| en_calld (cB) rfl rfl rfl rfl <| ?_
          first | refine en_det (opT_pick_t rfl rfl) rfl ?_ | refine en_det (opT_pick_f rfl rfl) rfl ?_
          refine en_det (opT_move rfl) rfl <| en_g_yes rfl rfl <| en_det (opT_fieldAddr rfl) rfl <| en_g_yes rfl rfl <| en_det (opT_load_own rfl rfl) rfl <| en_g_yes rfl rfl <| en_calld (cC) rfl rfl rfl rfl <| ?_
          first | refine en_det (opT_pick_t rfl rfl) rfl ?_ | refine en_det (opT_pick_f rfl rfl) rfl ?_
          refine en_nil <| en_then <| en_cond_t rfl <| en_seq <| en_region <| en_det (opT_assign rfl) rfl <| en_nil <| en_then <| en_ret <| en_blk_ret <| en_then_ret <| en_then_ret <| en_blk_ret <| en_then_ret <| ?_
          refine en_return (rs := [.tmp 2]) rfl (.cons (.tmp rfl) .nil) (.refl _) (Γ1 := []) ⟨by rw [hz0 rfl]; rfl, rfl⟩
        | true =>
          refine en_skip <| en_then <| en_seq <| en_block <| en_seq <| en_region <| en_det (opT_fieldAddr rfl) rfl <| en_det (opT_load_own rfl rfl) rfl <| en_det (opT_move rfl) rfl <| ?_
          first | refine en_det (opT_idx1 rfl rfl (by omega) (by omega)) rfl ?_ | refine en_det (opT_idx (ks := 0) rfl rfl (by omega) (by omega)) rfl ?_
          refine en_det (opT_loadA_h rfl hrow (row_length _ _)) rfl <| en_alloc rfl fun b5 => ?_
          refine en_det0 (opT_storeW rfl rfl (row_length _ _) rfl hone) <| en_nil <| en_then <| en_seq <| en_region <| en_det (opT_fieldAddr rfl) rfl <| en_det (opT_load_own rfl rfl) rfl <| en_calld (cA) rfl rfl rfl rfl <| en_det (opT_move rfl) rfl <| en_g_yes rfl rfl <| en_det (opT_fieldAddr rfl) rfl <| en_g_yes rfl rfl <| en_det (opT_load_own rfl rfl) rfl <| en_g_yes rfl rfl <| en_calld (cB) rfl rfl rfl rfl <| ?_
          first | refine en_det (opT_pick_t rfl rfl) rfl ?_ | refine en_det (opT_pick_f rfl rfl) rfl ?_
          refine en_det (opT_move rfl) rfl <| en_g_yes rfl rfl <| en_det (opT_fieldAddr rfl) rfl <| en_g_yes rfl rfl <| en_det (opT_load_own rfl rfl) rfl <| en_g_yes rfl rfl <| en_calld (cC) rfl rfl rfl rfl <| ?_
          first | refine en_det (opT_pick_t rfl rfl) rfl ?_ | refine en_det (opT_pick_f rfl rfl) rfl ?_
          refine en_nil <| en_then <| en_cond_f rfl <| en_skip <| en_blk <| en_then <| en_region <| en_det (opT_move rfl) rfl <| en_det (opT_add rfl rfl (by constructor <;> omega)) rfl <| en_det (opT_assign rfl) rfl <| en_nil <| en_then <| ?_
          exact en_again (k + 1) ⟨by omega, hby rfl rfl rfl⟩ (by omega) ⟨rfl, gi rfl (by simp), trivial⟩ (.refl _) inferInstance
  obtain rfl : k = b.nh := by omega
  have z3 : (allI b.nh fun i => inD (b.hand i).str 0 40 && inD (b.hand i).tire 0 10 && inD (b.hand i).slip 0 100) = true := allI_yes hb
  clear hb hlt hk
  refine en_exit <| en_then_exit <| en_then_exit <| en_blk_hit <| en_then <| en_seq <| en_seq <| en_region <| en_det (opT_assign rfl) rfl <| en_nil <| en_then <| en_block <| ?_
  refine en_loop (fun k : Nat => k ≤ b.nh ∧ ∀ i, i < k → (allI (b.hand i).rests.length fun j => inD ((b.hand i).rests.getD j 0) 0 (b.nt - 1)) = true) (fun k => [(1, pt b1), (6, .int .i64 k)]) (fun _ => h) (fun _ => [box b1 59 [.slice tad b.nt tcp, .slice had b.nh hcp]]) (fun k => b.nh - k) 0 ⟨by omega, fun m hm => by omega⟩ ⟨rfl, rfl, trivial⟩ (.refl _) (tkAll _) fun k ⟨hk, hb⟩ => ?_
  refine en_seq <| en_seq <| en_region <| en_det (opT_move rfl) rfl <| en_det (opT_fieldAddr rfl) rfl <| en_det (opT_load_own rfl rfl) rfl <| en_det (opT_len rfl) rfl <| ?_
  first | refine en_det (opT_lss_t rfl rfl (by omega)) rfl ?_ | refine en_det (opT_lss_f rfl rfl (by omega)) rfl ?_ | refine en_det (opT_lss rfl rfl) rfl ?_
  refine en_nil <| en_then <| ?_
  refine en_if rfl (fun hlt => ?_) (fun hlt => ?_)
  · skip
    have hkl : k < b.nh := by omega
    obtain ⟨hq, hoff, rfl, hcells⟩ := hp1 (by omega)
    obtain ⟨rad, rcp, hre, rl, rc, rp⟩ := (hr k hkl).shape
    have hcr : cellH h hq (hoff + k * 9 + 8) = some (.slice rad (b.hand k).rests.length rcp) := by
      have := hcells.cell hkl (show 8 < 9 by omega)
      rw [this, ← hre]; rfl
    refine en_skip <| en_then <| en_seq <| en_block <| en_seq <| en_region <| en_det (opT_assign rfl) rfl <| en_nil <| en_then <| en_block <| ?_
    refine en_loop (fun j : Nat => j ≤ (b.hand k).rests.length ∧ ∀ i, i < j → inD ((b.hand k).rests.getD i 0) 0 (b.nt - 1) = true) (fun j => [(1, pt b1), (6, .int .i64 k), (7, .int .i64 j)]) (fun _ => h) (fun _ => [box b1 59 [.slice tad b.nt tcp, .slice (some ⟨hq, hoff, none⟩) b.nh hcp]]) (fun j => (b.hand k).rests.length - j) 0 ⟨by omega, fun m hm => by omega⟩ ⟨rfl, rfl, rfl, trivial⟩ (.refl _) (tkAll _) fun j ⟨hj, hjb⟩ => ?_
    refine en_seq <| en_seq <| en_region <| en_det (opT_move rfl) rfl <| en_det (opT_fieldAddr rfl) rfl <| en_det (opT_load_own rfl rfl) rfl <| en_det (opT_move rfl) rfl <| ?_
    first | refine en_det (opT_idx1 rfl rfl (by omega) (by omega)) rfl ?_ | refine en_det (opT_idx (ks := 0) rfl rfl (by omega) (by omega)) rfl ?_
    refine en_det (opT_fieldAddr rfl) rfl <| ?_
    first | refine en_det (opT_load_h rfl (by assumption)) rfl ?_ | refine en_det (opT_load_own rfl rfl) rfl ?_
    refine en_det (opT_len rfl) rfl <| ?_
    first | refine en_det (opT_lss_t rfl rfl (by omega)) rfl ?_ | refine en_det (opT_lss_f rfl rfl (by omega)) rfl ?_ | refine en_det (opT_lss rfl rfl) rfl ?_
    refine en_nil <| en_then <| ?_
    refine en_if rfl (fun hlt2 => ?_) (fun hlt2 => ?_)
    · skip
      have hjl : j < (b.hand k).rests.length := by omega
      obtain ⟨rq, roff, rfl, rcc⟩ := rp (by omega)
      have hcj := rcc j hjl
      rw [← getD_lt hjl] at hcj
      have cO := off_ct ((b.hand k).rests.getD j 0) 0 (b.nt - 1) h
      skip
      cases hx : inD ((b.hand k).rests.getD j 0) 0 (b.nt - 1) with
      | true =>
        rw [hx] at cO
        refine en_skip <| en_then <| en_seq <| en_block <| en_seq <| en_draw0 [0, 1, 2, 3, 4, 5, 6, 7, 8, 9, 10, 11, 12, 13] (by kernel_rfl) (by decide +kernel) (by decide +kernel) (by decide) <| dp_p rfl (fun _ _ => opT_fieldAddr rfl) rfl rfl rfl <| dp_q rfl (opT_load_own rfl rfl) rfl rfl rfl <| dp_p rfl (fun _ _ => opT_move rfl) rfl rfl rfl <| ?_
        first | refine dp_p rfl (fun _ _ => opT_idx1 rfl rfl (by omega) (by omega)) rfl rfl rfl ?_ | refine dp_p rfl (fun _ _ => opT_idx (ks := 0) rfl rfl (by omega) (by omega)) rfl rfl rfl ?_
        refine dp_p rfl (fun _ _ => opT_fieldAddr rfl) rfl rfl rfl <| ?_
        first | refine dp_q rfl (opT_load_h rfl (by assumption)) rfl rfl rfl ?_ | refine dp_q rfl (opT_load_own rfl rfl) rfl rfl rfl ?_
        refine dp_p rfl (fun _ _ => opT_move rfl) rfl rfl rfl <| ?_
        first | refine dp_p rfl (fun _ _ => opT_idx1 rfl rfl (by omega) (by omega)) rfl rfl rfl ?_ | refine dp_p rfl (fun _ _ => opT_idx (ks := 0) rfl rfl (by omega) (by omega)) rfl rfl rfl ?_
        first | refine dp_q rfl (opT_load_h rfl (by assumption)) rfl rfl rfl ?_ | refine dp_q rfl (opT_load_own rfl rfl) rfl rfl rfl ?_
        refine dp_p rfl (fun _ _ => opT_fieldAddr rfl) rfl rfl rfl <| dp_q rfl (opT_load_own rfl rfl) rfl rfl rfl <| dp_p rfl (fun _ _ => opT_len rfl) rfl rfl rfl <| dp_p rfl (fun _ _ => opT_sub rfl rfl (by constructor <;> omega)) rfl rfl rfl <| dp_ed0 rfl (opT_callw (cO) rfl rfl rfl) rfl rfl rfl rfl <| dp_done0 <| en_then <| en_cond_f rfl <| en_skip <| en_blk <| en_then <| en_region <| en_det (opT_move rfl) rfl <| en_det (opT_add rfl rfl (by constructor <;> omega)) rfl <| en_det (opT_assign rfl) rfl <| en_nil <| en_then <| ?_
        refine en_again (j + 1) ⟨by omega, fun m h1 => ?_⟩ (by omega) ⟨rfl, rfl, gi rfl (by simp), trivial⟩ (.refl _) inferInstance
        rcases Nat.lt_succ_iff_lt_or_eq.1 h1 with h2 | rfl
        · exact hjb m h2
        · exact hx
      | false =>
        rw [hx] at cO
        have hz : checkD b = 2 := by unfold checkD; rw [if_neg (by simp [z1]), if_neg (by simp [z2]), if_neg (by simp [z3]), if_pos (by rw [allI_no hkl (allI_no hjl hx)]; rfl)]
        refine en_skip <| en_then <| en_seq <| en_block <| en_seq <| en_draw0 [0, 1, 2, 3, 4, 5, 6, 7, 8, 9, 10, 11, 12, 13] (by kernel_rfl) (by decide +kernel) (by decide +kernel) (by decide) <| dp_p rfl (fun _ _ => opT_fieldAddr rfl) rfl rfl rfl <| dp_q rfl (opT_load_own rfl rfl) rfl rfl rfl <| dp_p rfl (fun _ _ => opT_move rfl) rfl rfl rfl <| ?_
        first | refine dp_p rfl (fun _ _ => opT_idx1 rfl rfl (by omega) (by omega)) rfl rfl rfl ?_ | refine dp_p rfl (fun _ _ => opT_idx (ks := 0) rfl rfl (by omega) (by omega)) rfl rfl rfl ?_
        refine dp_p rfl (fun _ _ => opT_fieldAddr rfl) rfl rfl rfl <| ?_
        first | refine dp_q rfl (opT_load_h rfl (by assumption)) rfl rfl rfl ?_ | refine dp_q rfl (opT_load_own rfl rfl) rfl rfl rfl ?_
        refine dp_p rfl (fun _ _ => opT_move rfl) rfl rfl rfl <| ?_
        first | refine dp_p rfl (fun _ _ => opT_idx1 rfl rfl (by omega) (by omega)) rfl rfl rfl ?_ | refine dp_p rfl (fun _ _ => opT_idx (ks := 0) rfl rfl (by omega) (by omega)) rfl rfl rfl ?_
        first | refine dp_q rfl (opT_load_h rfl (by assumption)) rfl rfl rfl ?_ | refine dp_q rfl (opT_load_own rfl rfl) rfl rfl rfl ?_
        refine dp_p rfl (fun _ _ => opT_fieldAddr rfl) rfl rfl rfl <| dp_q rfl (opT_load_own rfl rfl) rfl rfl rfl <| dp_p rfl (fun _ _ => opT_len rfl) rfl rfl rfl <| dp_p rfl (fun _ _ => opT_sub rfl rfl (by constructor <;> omega)) rfl rfl rfl <| dp_ed0 rfl (opT_callw (cO) rfl rfl rfl) rfl rfl rfl rfl <| dp_done0 <| en_then <| en_cond_t rfl <| en_seq <| en_region <| en_det (opT_assign rfl) rfl <| en_nil <| en_then <| en_ret <| en_blk_ret <| en_then_ret <| en_then_ret <| en_blk_ret <| en_blk_ret <| en_then_ret <| en_then_ret <| en_blk_ret <| en_then_ret <| ?_
        refine en_return (rs := [.tmp 2]) rfl (.cons (.tmp rfl) .nil) (.refl _) (Γ1 := []) ⟨by rw [hz]; rfl, rfl⟩
    · skip
      obtain rfl : j = (b.hand k).rests.length := by omega
      refine en_exit <| en_then_exit <| en_then_exit <| en_blk_hit <| en_blk <| en_then <| en_region <| en_det (opT_move rfl) rfl <| en_det (opT_add rfl rfl (by constructor <;> omega)) rfl <| en_det (opT_assign rfl) rfl <| en_nil <| en_then <| ?_
      refine en_again (k + 1) ⟨by omega, fun m h1 => ?_⟩ (by omega) ⟨rfl, gi rfl (by simp), trivial⟩ (.refl _) inferInstance
      rcases Nat.lt_succ_iff_lt_or_eq.1 h1 with h2 | rfl
      · exact hb m h2
      · exact allI_yes hjb
  obtain rfl : k = b.nh := by omega
  have z4 : (allI b.nh fun i => allI (b.hand i).rests.length fun j => inD ((b.hand i).rests.getD j 0) 0 (b.nt - 1)) = true := allI_yes hb
  clear hb hlt hk
  refine en_exit <| en_then_exit <| en_then_exit <| en_blk_hit <| en_then <| en_seq <| en_seq <| en_region <| en_det (opT_assign rfl) rfl <| en_nil <| en_then <| en_block <| ?_
  refine en_loop (fun k : Nat => k ≤ b.nh ∧ ∀ i, i < k → risesD (b.hand i).rests = true) (fun k => [(1, pt b1), (8, .int .i64 k)]) (fun _ => h) (fun _ => [box b1 59 [.slice tad b.nt tcp, .slice had b.nh hcp]]) (fun k => b.nh - k) 0 ⟨by omega, fun m hm => by omega⟩ ⟨rfl, rfl, trivial⟩ (.refl _) (tkAll _) fun k ⟨hk, hb⟩ => ?_
  refine en_seq <| en_seq <| en_region <| en_det (opT_move rfl) rfl <| en_det (opT_fieldAddr rfl) rfl <| en_det (opT_load_own rfl rfl) rfl <| en_det (opT_len rfl) rfl <| ?_
  first | refine en_det (opT_lss_t rfl rfl (by omega)) rfl ?_ | refine en_det (opT_lss_f rfl rfl (by omega)) rfl ?_ | refine en_det (opT_lss rfl rfl) rfl ?_
  refine en_nil <| en_then <| ?_
  refine en_if rfl (fun hlt => ?_) (fun hlt => ?_)
  · skip
    have hkl : k < b.nh := by omega
    obtain ⟨hq, hoff, rfl, hcells⟩ := hp1 (by omega)
    obtain ⟨rad, rcp, hre, rl, rc, rp⟩ := (hr k hkl).shape
    have hcr : cellH h hq (hoff + k * 9 + 8) = some (.slice rad (b.hand k).rests.length rcp) := by
      have := hcells.cell hkl (show 8 < 9 by omega)
      rw [this, ← hre]; rfl
    refine en_skip <| en_then <| en_seq <| en_block <| en_seq <| en_region <| en_det (opT_assign rfl) rfl <| en_nil <| en_then <| en_block <| ?_
    refine en_loop (fun j : Nat => 1 ≤ j ∧ (j ≤ (b.hand k).rests.length ∨ j = 1) ∧ ∀ i, i + 1 < j → (b.hand k).rests.getD i 0 < (b.hand k).rests.getD (i + 1) 0) (fun j => [(1, pt b1), (8, .int .i64 k), (9, .int .i64 j)]) (fun _ => h) (fun _ => [box b1 59 [.slice tad b.nt tcp, .slice (some ⟨hq, hoff, none⟩) b.nh hcp]]) (fun j => (b.hand k).rests.length - j) 1 ⟨by omega, by omega, fun i hi => by omega⟩ ⟨rfl, rfl, rfl, trivial⟩ (.refl _) (tkAll _) fun j ⟨hj1, hj, hjb⟩ => ?_
    refine en_seq <| en_seq <| en_region <| en_det (opT_move rfl) rfl <| en_det (opT_fieldAddr rfl) rfl <| en_det (opT_load_own rfl rfl) rfl <| en_det (opT_move rfl) rfl <| ?_
    first | refine en_det (opT_idx1 rfl rfl (by omega) (by omega)) rfl ?_ | refine en_det (opT_idx (ks := 0) rfl rfl (by omega) (by omega)) rfl ?_
    refine en_det (opT_fieldAddr rfl) rfl <| ?_
    first | refine en_det (opT_load_h rfl (by assumption)) rfl ?_ | refine en_det (opT_load_own rfl rfl) rfl ?_
    refine en_det (opT_len rfl) rfl <| ?_
    first | refine en_det (opT_lss_t rfl rfl (by omega)) rfl ?_ | refine en_det (opT_lss_f rfl rfl (by omega)) rfl ?_ | refine en_det (opT_lss rfl rfl) rfl ?_
    refine en_nil <| en_then <| ?_
    refine en_if rfl (fun hlt2 => ?_) (fun hlt2 => ?_)
    · skip
      have hjl : j < (b.hand k).rests.length := by omega
      obtain ⟨rq, roff, rfl, rcc⟩ := rp (by omega)
      have hcj := rcc j hjl
      have hcj' := rcc (j - 1) (by omega)
      skip
      by_cases hx : (b.hand k).rests[j] ≤ (b.hand k).rests[j - 1]
      · have hnot : risesD (b.hand k).rests = false := risesD_not (i := j - 1) (by omega) (by
          rw [getD_lt (by omega : j - 1 < (b.hand k).rests.length)]
          have e : j - 1 + 1 = j := by omega
          simp only [e]
          rw [getD_lt hjl]; omega)
        have hz : checkD b = 6 := by unfold checkD; rw [if_neg (by simp [z1]), if_neg (by simp [z2]), if_neg (by simp [z3]), if_neg (by rw [z4]; simp), if_pos (by rw [allI_no hkl hnot]; rfl)]
        refine en_skip <| en_then <| en_seq <| en_block <| en_seq <| en_draw0 [0, 1, 2, 3, 4, 5, 6, 7, 8, 9, 10, 11, 12, 13, 14, 15, 16, 17, 18, 19] (by kernel_rfl) (by decide +kernel) (by decide +kernel) (by decide) <| dp_p rfl (fun _ _ => opT_fieldAddr rfl) rfl rfl rfl <| dp_q rfl (opT_load_own rfl rfl) rfl rfl rfl <| dp_p rfl (fun _ _ => opT_move rfl) rfl rfl rfl <| ?_
        first | refine dp_p rfl (fun _ _ => opT_idx1 rfl rfl (by omega) (by omega)) rfl rfl rfl ?_ | refine dp_p rfl (fun _ _ => opT_idx (ks := 0) rfl rfl (by omega) (by omega)) rfl rfl rfl ?_
        refine dp_p rfl (fun _ _ => opT_fieldAddr rfl) rfl rfl rfl <| ?_
        first | refine dp_q rfl (opT_load_h rfl (by assumption)) rfl rfl rfl ?_ | refine dp_q rfl (opT_load_own rfl rfl) rfl rfl rfl ?_
        refine dp_p rfl (fun _ _ => opT_move rfl) rfl rfl rfl <| ?_
        first | refine dp_p rfl (fun _ _ => opT_idx1 rfl rfl (by omega) (by omega)) rfl rfl rfl ?_ | refine dp_p rfl (fun _ _ => opT_idx (ks := 0) rfl rfl (by omega) (by omega)) rfl rfl rfl ?_
        first | refine dp_q rfl (opT_load_h rfl (by assumption)) rfl rfl rfl ?_ | refine dp_q rfl (opT_load_own rfl rfl) rfl rfl rfl ?_
        refine dp_p rfl (fun _ _ => opT_fieldAddr rfl) rfl rfl rfl <| dp_q rfl (opT_load_own rfl rfl) rfl rfl rfl <| dp_p rfl (fun _ _ => opT_move rfl) rfl rfl rfl <| ?_
        first | refine dp_p rfl (fun _ _ => opT_idx1 rfl rfl (by omega) (by omega)) rfl rfl rfl ?_ | refine dp_p rfl (fun _ _ => opT_idx (ks := 0) rfl rfl (by omega) (by omega)) rfl rfl rfl ?_
        refine dp_p rfl (fun _ _ => opT_fieldAddr rfl) rfl rfl rfl <| ?_
        first | refine dp_q rfl (opT_load_h rfl (by assumption)) rfl rfl rfl ?_ | refine dp_q rfl (opT_load_own rfl rfl) rfl rfl rfl ?_
        refine dp_p rfl (fun _ _ => opT_move rfl) rfl rfl rfl <| ?_
        refine dp_p rfl (fun _ _ => opT_sub_to (c := ((j - 1 : Nat) : Int)) rfl rfl (by constructor <;> omega) (by omega)) rfl rfl rfl ?_
        first | refine dp_p rfl (fun _ _ => opT_idx1 rfl rfl (by omega) (by omega)) rfl rfl rfl ?_ | refine dp_p rfl (fun _ _ => opT_idx (ks := 0) rfl rfl (by omega) (by omega)) rfl rfl rfl ?_
        first | refine dp_q rfl (opT_load_h rfl (by assumption)) rfl rfl rfl ?_ | refine dp_q rfl (opT_load_own rfl rfl) rfl rfl rfl ?_
        refine dp_p rfl (fun _ _ => opT_leq_t rfl rfl (by omega)) rfl rfl rfl <| dp_done0 <| en_then <| en_cond_t rfl <| en_seq <| en_region <| en_det (opT_assign rfl) rfl <| en_nil <| en_then <| en_ret <| en_blk_ret <| en_then_ret <| en_then_ret <| en_blk_ret <| en_blk_ret <| en_then_ret <| en_then_ret <| en_blk_ret <| en_then_ret <| ?_
        refine en_return (rs := [.tmp 2]) rfl (.cons (.tmp rfl) .nil) (.refl _) (Γ1 := []) ⟨by rw [hz]; rfl, rfl⟩
      · skip
        refine en_skip <| en_then <| en_seq <| en_block <| en_seq <| en_draw0 [0, 1, 2, 3, 4, 5, 6, 7, 8, 9, 10, 11, 12, 13, 14, 15, 16, 17, 18, 19] (by kernel_rfl) (by decide +kernel) (by decide +kernel) (by decide) <| dp_p rfl (fun _ _ => opT_fieldAddr rfl) rfl rfl rfl <| dp_q rfl (opT_load_own rfl rfl) rfl rfl rfl <| dp_p rfl (fun _ _ => opT_move rfl) rfl rfl rfl <| ?_
        first | refine dp_p rfl (fun _ _ => opT_idx1 rfl rfl (by omega) (by omega)) rfl rfl rfl ?_ | refine dp_p rfl (fun _ _ => opT_idx (ks := 0) rfl rfl (by omega) (by omega)) rfl rfl rfl ?_
        refine dp_p rfl (fun _ _ => opT_fieldAddr rfl) rfl rfl rfl <| ?_
        first | refine dp_q rfl (opT_load_h rfl (by assumption)) rfl rfl rfl ?_ | refine dp_q rfl (opT_load_own rfl rfl) rfl rfl rfl ?_
        refine dp_p rfl (fun _ _ => opT_move rfl) rfl rfl rfl <| ?_
        first | refine dp_p rfl (fun _ _ => opT_idx1 rfl rfl (by omega) (by omega)) rfl rfl rfl ?_ | refine dp_p rfl (fun _ _ => opT_idx (ks := 0) rfl rfl (by omega) (by omega)) rfl rfl rfl ?_
        first | refine dp_q rfl (opT_load_h rfl (by assumption)) rfl rfl rfl ?_ | refine dp_q rfl (opT_load_own rfl rfl) rfl rfl rfl ?_
        refine dp_p rfl (fun _ _ => opT_fieldAddr rfl) rfl rfl rfl <| dp_q rfl (opT_load_own rfl rfl) rfl rfl rfl <| dp_p rfl (fun _ _ => opT_move rfl) rfl rfl rfl <| ?_
        first | refine dp_p rfl (fun _ _ => opT_idx1 rfl rfl (by omega) (by omega)) rfl rfl rfl ?_ | refine dp_p rfl (fun _ _ => opT_idx (ks := 0) rfl rfl (by omega) (by omega)) rfl rfl rfl ?_
        refine dp_p rfl (fun _ _ => opT_fieldAddr rfl) rfl rfl rfl <| ?_
        first | refine dp_q rfl (opT_load_h rfl (by assumption)) rfl rfl rfl ?_ | refine dp_q rfl (opT_load_own rfl rfl) rfl rfl rfl ?_
        refine dp_p rfl (fun _ _ => opT_move rfl) rfl rfl rfl <| ?_
        refine dp_p rfl (fun _ _ => opT_sub_to (c := ((j - 1 : Nat) : Int)) rfl rfl (by constructor <;> omega) (by omega)) rfl rfl rfl ?_
        first | refine dp_p rfl (fun _ _ => opT_idx1 rfl rfl (by omega) (by omega)) rfl rfl rfl ?_ | refine dp_p rfl (fun _ _ => opT_idx (ks := 0) rfl rfl (by omega) (by omega)) rfl rfl rfl ?_
        first | refine dp_q rfl (opT_load_h rfl (by assumption)) rfl rfl rfl ?_ | refine dp_q rfl (opT_load_own rfl rfl) rfl rfl rfl ?_
        refine dp_p rfl (fun _ _ => opT_leq_f rfl rfl (by omega)) rfl rfl rfl <| dp_done0 <| en_then <| en_cond_f rfl <| en_skip <| en_blk <| en_then <| en_region <| en_det (opT_move rfl) rfl <| en_det (opT_add rfl rfl (by constructor <;> omega)) rfl <| en_det (opT_assign rfl) rfl <| en_nil <| en_then <| ?_
        refine en_again (j + 1) ⟨by omega, by omega, fun i hi => ?_⟩ (by omega) ⟨rfl, rfl, gi rfl (by simp), trivial⟩ (.refl _) inferInstance
        rcases Nat.lt_succ_iff_lt_or_eq.1 hi with h1 | h1
        · exact hjb i h1
        · have e : j - 1 = i := by omega
          subst h1
          rw [getD_lt (by omega : i < (b.hand k).rests.length), getD_lt hjl]
          simp only [e] at hx
          omega
    · skip
      refine en_exit <| en_then_exit <| en_then_exit <| en_blk_hit <| en_blk <| en_then <| en_region <| en_det (opT_move rfl) rfl <| en_det (opT_add rfl rfl (by constructor <;> omega)) rfl <| en_det (opT_assign rfl) rfl <| en_nil <| en_then <| ?_
      refine en_again (k + 1) ⟨by omega, fun m h1 => ?_⟩ (by omega) ⟨rfl, gi rfl (by simp), trivial⟩ (.refl _) inferInstance
      rcases Nat.lt_succ_iff_lt_or_eq.1 h1 with h2 | rfl
      · exact hb m h2
      · exact risesD_of fun i hi => hjb i (by omega)
  obtain rfl : k = b.nh := by omega
  have z5 : (allI b.nh fun i => risesD (b.hand i).rests) = true := allI_yes hb
  have hz : checkD b = 0 := by unfold checkD; rw [if_neg (by simp [z1]), if_neg (by simp [z2]), if_neg (by simp [z3]), if_neg (by rw [z4]; simp), if_neg (by simp [z5])]
  refine en_exit <| en_then_exit <| en_then_exit <| en_blk_hit <| en_then <| en_seq <| en_region <| en_det (opT_assign rfl) rfl <| en_nil <| en_then <| en_ret <| ?_
  refine en_return (rs := [.tmp 2]) rfl (.cons (.tmp rfl) .nil) (.refl _) (Γ1 := []) ⟨by rw [hz]; rfl, rfl⟩
end Go.Sx

/- Piece by piece, and at once: plain. -/
namespace Go.Sx
def avD (takes : Nat → Bool) (L : Nat → Int) (m : Nat) : Int := if takes m = true then L m else 0
def takD (takes : Nat → Bool) (L : Nat → Int) (f : Int) (m : Nat) : Int := min (max 0 (f - sumN m (avD takes L))) (avD takes L m)
def leftF (L0 : Nat → Nat → Int) (t : Nat) (x : Nat → Int) (k : Nat) : Nat → Nat → Int := fun a b => if a = t ∧ b < k then L0 a b - x b else L0 a b
def heapF (P0 : Nat → Nat → Int) (h : Nat) (x : Nat → Int) (k : Nat) : Nat → Nat → Int := fun a b => if a = h ∧ b < k then P0 a b + x b else P0 a b
theorem takD_bound {takes : Nat → Bool} {L : Nat → Int} {f : Int} {m : Nat} (hL : 0 ≤ L m) : 0 ≤ takD takes L f m ∧ takD takes L f m ≤ avD takes L m ∧ avD takes L m ≤ L m ∧ 0 ≤ avD takes L m := by
  unfold takD avD; split <;> omega
theorem takD_no {takes : Nat → Bool} {L : Nat → Int} {f : Int} {m : Nat} (h : takes m = false) : takD takes L f m = 0 := by
  unfold takD avD; rw [h]; simp; omega
theorem sumN_upto {f : Nat → Int} {m : Nat} : ∀ {n : Nat}, m ≤ n → (∀ i, i < n → 0 ≤ f i) → sumN m f ≤ sumN n f
  | 0, h, _ => by rw [show m = 0 by omega]; exact Int.le_refl _
  | n + 1, h, hn => by
    rcases Nat.lt_or_ge m (n + 1) with h1 | h1
    · have := sumN_upto (f := f) (show m ≤ n by omega) fun i hi => hn i (by omega)
      have := hn n (by omega)
      simp only [sumN]; omega
    · rw [show m = n + 1 by omega]; exact Int.le_refl _
section
variable {takes : Nat → Bool} {L : Nat → Int} {i : Nat} {m : Nat}
theorem taken_all (hL : ∀ j, j < 5 → 0 ≤ L j) (hno : ∀ j, j < m → ¬ (takes j = true ∧ 0 < L j - takD takes L i j)) : ∀ k, k ≤ m → k ≤ 5 → sumN k (avD takes L) ≤ i ∧ ∀ j, j < k → takD takes L i j = avD takes L j
  | 0, _, _ => ⟨by simp [sumN], fun j hj => by omega⟩
  | k + 1, h1, h2 => by
    obtain ⟨a, b⟩ := taken_all hL hno k (by omega) (by omega)
    have hb := takD_bound (takes := takes) (L := L) (f := i) (hL k (by omega))
    have hk := hno k (by omega)
    have e : takD takes L i k = avD takes L k := by
      cases ht : takes k with
      | false => rw [takD_no ht]; simp [avD, ht]
      | true =>
        have eA : avD takes L k = L k := by simp [avD, ht]
        have : ¬ 0 < L k - takD takes L i k := fun hh => hk ⟨ht, hh⟩
        omega
    refine ⟨?_, fun j hj => ?_⟩
    · simp only [sumN]
      unfold takD at e
      omega
    · rcases Nat.lt_succ_iff_lt_or_eq.1 hj with h3 | rfl
      · exact b j h3
      · exact e
theorem taken_next (hL : ∀ j, j < 5 → 0 ≤ L j) (hno : ∀ j, j < m → ¬ (takes j = true ∧ 0 < L j - takD takes L i j)) (hm : m < 5) (ht : takes m = true) (hp : 0 < L m - takD takes L i m) :
    ∀ j, j < 5 → takD takes L ((i + 1 : Nat) : Int) j = if j = m then takD takes L i j + 1 else takD takes L i j := fun j hj => by
  obtain ⟨hS, hA⟩ := taken_all hL hno m (Nat.le_refl _) (by omega)
  have hnn : ∀ k, k < 5 → 0 ≤ avD takes L k := fun k hk => (takD_bound (f := 0) (hL k hk)).2.2.2
  have eA : avD takes L m = L m := by simp [avD, ht]
  have hSm : sumN (m + 1) (avD takes L) = sumN m (avD takes L) + L m := by simp only [sumN]; rw [eA]
  rcases Nat.lt_trichotomy j m with h | h | h
  · have e1 := hA j h
    have h1 : sumN (j + 1) (avD takes L) ≤ sumN m (avD takes L) := sumN_upto (by omega) fun k hk => hnn k (by omega)
    simp only [sumN] at h1
    rw [if_neg (by omega), e1]
    have := hnn j hj
    unfold takD
    omega
  · subst h
    rw [if_pos rfl]
    unfold takD at hp ⊢
    rw [eA] at hp ⊢
    omega
  · have h1 : sumN (m + 1) (avD takes L) ≤ sumN j (avD takes L) := sumN_upto (by omega) fun k hk => hnn k (by omega)
    rw [if_neg (by omega)]
    have := hnn j hj
    unfold takD at hp ⊢
    rw [eA] at hp
    omega
theorem taken_none (hL : ∀ j, j < 5 → 0 ≤ L j) (hno : ∀ j, j < 5 → ¬ (takes j = true ∧ 0 < L j - takD takes L i j)) : ∀ j, j < 5 → takD takes L ((i + 1 : Nat) : Int) j = takD takes L i j := fun j hj => by
  obtain ⟨hS, hA⟩ := taken_all (m := 5) hL hno 5 (Nat.le_refl _) (Nat.le_refl _)
  have hnn : ∀ k, k < 5 → 0 ≤ avD takes L k := fun k hk => (takD_bound (f := 0) (hL k hk)).2.2.2
  have e1 := hA j hj
  have h1 : sumN (j + 1) (avD takes L) ≤ sumN 5 (avD takes L) := sumN_upto (by omega) fun k hk => hnn k (by omega)
  simp only [sumN] at h1
  have hS' : sumN 5 (avD takes L) ≤ i := hS
  simp only [sumN] at hS'
  rw [e1]
  have := hnn j hj
  unfold takD
  omega
end
end Go.Sx

/- The reference: the rule, piece by piece. -/
namespace Go.Sx
open Go.Proofs
set_option maxRecDepth 100000
theorem app_out_set {n i j : Nat} {f : Nat → Nat → Int} {v : Int} {tail : List Value} (hi : i < n) (hj : j < 5) : (rows n 5 (icell f) ++ tail).set (i * 5 + j) (.int .i64 v) = rows n 5 (icell (upd2 f i j v)) ++ tail := by
  rw [List.set_append_left _ _ (by rw [rows_length]; exact row_lt hi hj), out_set hj]
theorem left_next {L0 : Nat → Nat → Int} {t m n : Nat} {x y : Nat → Int} (hm : m < 5) (h : ∀ j, j < 5 → y j = if j = m then x j + 1 else x j) : rows n 5 (icell (upd2 (leftF L0 t x 5) t m (L0 t m - x m - 1))) = rows n 5 (icell (leftF L0 t y 5)) := by
  refine rows_congr fun a b _ hb => ?_
  unfold icell
  congr 1
  unfold upd2 leftF
  have := h b hb
  by_cases h1 : a = t
  · subst h1
    by_cases h2 : b = m
    · subst h2; rw [if_pos rfl] at this; simp [hb, this]; omega
    · rw [if_neg h2] at this; simp [hb, this, h2]
  · simp [h1]
theorem heap_next {P0 : Nat → Nat → Int} {h' m n : Nat} {x y : Nat → Int} (hm : m < 5) (h : ∀ j, j < 5 → y j = if j = m then x j + 1 else x j) : rows n 5 (icell (upd2 (heapF P0 h' x 5) h' m (P0 h' m + x m + 1))) = rows n 5 (icell (heapF P0 h' y 5)) := by
  refine rows_congr fun a b _ hb => ?_
  unfold icell
  congr 1
  unfold upd2 heapF
  have := h b hb
  by_cases h1 : a = h'
  · subst h1
    by_cases h2 : b = m
    · subst h2; rw [if_pos rfl] at this; simp [hb, this]; omega
    · rw [if_neg h2] at this; simp [hb, this, h2]
  · simp [h1]
theorem left_same {L0 : Nat → Nat → Int} {t n : Nat} {x y : Nat → Int} (h : ∀ j, j < 5 → y j = x j) : rows n 5 (icell (leftF L0 t x 5)) = rows n 5 (icell (leftF L0 t y 5)) := by
  refine rows_congr fun a b _ hb => ?_
  unfold icell leftF; rw [h b hb]
theorem heap_same {P0 : Nat → Nat → Int} {t n : Nat} {x y : Nat → Int} (h : ∀ j, j < 5 → y j = x j) : rows n 5 (icell (heapF P0 t x 5)) = rows n 5 (icell (heapF P0 t y 5)) := by
  refine rows_congr fun a b _ hb => ?_
  unfold icell heapF; rw [h b hb]
theorem takD_zero {takes : Nat → Bool} {L : Nat → Int} (hl : ∀ m, m < 5 → 0 ≤ L m) : ∀ j, j < 5 → takD takes L ((0 : Nat) : Int) j = 0 := fun j hj => by
  have h1 : 0 ≤ sumN j (avD takes L) := sumN_nn fun i hi => (takD_bound (f := 0) (hl i (by omega))).2.2.2
  have h2 := (takD_bound (takes := takes) (f := 0) (hl j hj)).2.2.2
  unfold takD; simp only [Int.ofNat_zero]; omega
attribute [local irreducible] Code.wpIn wpListIn Exit.then Exit.inBlock BQ Again Hd St En OpT box blk RQ BQ0 fmap own Desk Chute
end Go.Sx

/- The law's own helpers: which belts are big, the reference's belt, belts that are the same. -/
namespace Go.Sx
open Go.Proofs
set_option maxRecDepth 100000
def bigD (b : BeltD) : Bool := decide (10 < b.nt) || decide (7 < b.nh) || !(allI b.nh fun i => decide ((b.hand i).rests.length ≤ 10))
structure Tame (b : BeltD) : Prop where
  nt : b.nt ≤ 10
  nh : b.nh ≤ 7
  re : ∀ i, i < b.nh → (b.hand i).rests.length ≤ 10
theorem bigD_no {b : BeltD} (h : bigD b = false) : Tame b := by
  simp only [bigD, Bool.or_eq_false_iff, decide_eq_false_iff_not, Bool.not_eq_false', allI_iff, decide_eq_true_eq] at h
  exact ⟨by omega, by omega, h.2⟩
theorem Tame.small {b : BeltD} (h : Tame b) : Small b := ⟨by have := h.nt; omega, by have := h.nh; omega, fun i hi => by have := h.re i hi; omega⟩
theorem eg70 : Try.prog.eqGuardType Try.prog.depth 70 = false := by kernel_rfl
theorem tk5_take (H : HandD) (r : Value) : TakeAt (handL H r) 0 5 ((tk5 H).map Value.bool) := ⟨rfl, by rw [row_length]; omega⟩
attribute [local irreducible] Code.wpIn wpListIn Exit.then Exit.inBlock BQ Again Hd St En OpT box blk RQ BQ0 fmap own Desk Chute
theorem big_ct (h : Heap) (v : Value) (b : BeltD) (hb : IsBelt h v b) : CT Try.prog 24 [v] h [] (DetW (.bool (bigD b)) []) := by
  obtain ⟨tv, hv, rfl, ⟨_, tad, tcp, rfl, tm1, tc1, tp1⟩, rv, ⟨_, had, hcp, rfl, hm1, hc1, hp1⟩, hr⟩ := hb
  refine ct_intro Try.func24 rfl rfl rfl rfl fun Φ => ?_
  skip
  by_cases h1 : 10 < b.nt
  · have e : bigD b = true := by simp [bigD, h1]
    refine en_seq <| en_region <| en_box rfl rfl rfl fun b1 => en_det (opT_assign rfl) rfl <| en_nil <| en_then <| en_seq <| en_seq <| en_region <| en_det (opT_fieldAddr rfl) rfl <| en_det (opT_load_own rfl rfl) rfl <| en_det (opT_len rfl) rfl <| en_det (opT_gtr_t rfl rfl (by omega)) rfl <| en_det (opT_move rfl) rfl <| en_g_no rfl rfl rfl <| en_g_no rfl rfl rfl <| en_g_no rfl rfl rfl <| en_g_no rfl rfl rfl <| ?_
    first | refine en_det (opT_pick_t rfl rfl) rfl ?_ | refine en_det (opT_pick_f rfl rfl) rfl ?_
    refine en_nil <| en_then <| en_cond_t rfl <| en_seq <| en_region <| en_det (opT_assign rfl) rfl <| en_nil <| en_then <| en_ret <| en_then_ret <| ?_
    refine en_return (rs := [.tmp 2]) rfl (.cons (.tmp rfl) .nil) (.refl _) (Γ1 := []) ⟨by rw [e]; rfl, rfl⟩
  by_cases h2 : 7 < b.nh
  · have e : bigD b = true := by simp [bigD, h2]
    refine en_seq <| en_region <| en_box rfl rfl rfl fun b1 => en_det (opT_assign rfl) rfl <| en_nil <| en_then <| en_seq <| en_seq <| en_region <| en_det (opT_fieldAddr rfl) rfl <| en_det (opT_load_own rfl rfl) rfl <| en_det (opT_len rfl) rfl <| en_det (opT_gtr_f rfl rfl (by omega)) rfl <| en_det (opT_move rfl) rfl <| en_g_yes rfl rfl <| en_det (opT_fieldAddr rfl) rfl <| en_g_yes rfl rfl <| en_det (opT_load_own rfl rfl) rfl <| en_g_yes rfl rfl <| en_det (opT_len rfl) rfl <| en_g_yes rfl rfl <| en_det (opT_gtr_t rfl rfl (by omega)) rfl <| ?_
    first | refine en_det (opT_pick_t rfl rfl) rfl ?_ | refine en_det (opT_pick_f rfl rfl) rfl ?_
    refine en_nil <| en_then <| en_cond_t rfl <| en_seq <| en_region <| en_det (opT_assign rfl) rfl <| en_nil <| en_then <| en_ret <| en_then_ret <| ?_
    refine en_return (rs := [.tmp 2]) rfl (.cons (.tmp rfl) .nil) (.refl _) (Γ1 := []) ⟨by rw [e]; rfl, rfl⟩
  refine en_seq <| en_region <| en_box rfl rfl rfl fun b1 => en_det (opT_assign rfl) rfl <| en_nil <| en_then <| en_seq <| en_seq <| en_region <| en_det (opT_fieldAddr rfl) rfl <| en_det (opT_load_own rfl rfl) rfl <| en_det (opT_len rfl) rfl <| en_det (opT_gtr_f rfl rfl (by omega)) rfl <| en_det (opT_move rfl) rfl <| en_g_yes rfl rfl <| en_det (opT_fieldAddr rfl) rfl <| en_g_yes rfl rfl <| en_det (opT_load_own rfl rfl) rfl <| en_g_yes rfl rfl <| en_det (opT_len rfl) rfl <| en_g_yes rfl rfl <| en_det (opT_gtr_f rfl rfl (by omega)) rfl <| ?_
  first | refine en_det (opT_pick_t rfl rfl) rfl ?_ | refine en_det (opT_pick_f rfl rfl) rfl ?_
  refine en_nil <| en_then <| en_cond_f rfl <| en_skip <| en_then <| en_seq <| en_seq <| en_region <| en_det (opT_fieldAddr rfl) rfl <| en_det (opT_load_own rfl rfl) rfl <| en_det (opT_len rfl) rfl <| en_det (opT_move rfl) rfl <| en_nil <| en_then <| en_block <| ?_
  refine en_loop (fun k : Nat => k ≤ b.nh ∧ ∀ i, i < k → (b.hand i).rests.length ≤ 10) (fun k => [(1, pt b1), (16, .slice had b.nh hcp), (17, .int .i64 b.nh), (18, .int .i64 k)]) (fun _ => h) (fun _ => [box b1 26 [.slice tad b.nt tcp, .slice had b.nh hcp]]) (fun k => b.nh - k) 0 ⟨by omega, fun i hi => by omega⟩ ⟨rfl, rfl, rfl, rfl, trivial⟩ (.refl _) (tkAll _) fun k ⟨hk, hb⟩ => ?_
  refine en_seq <| en_region <| ?_
  first | refine en_det (opT_lss_t rfl rfl (by omega)) rfl ?_ | refine en_det (opT_lss_f rfl rfl (by omega)) rfl ?_ | refine en_det (opT_lss rfl rfl) rfl ?_
  refine en_nil <| en_then <| en_seq <| ?_
  refine en_if rfl (fun hlt => ?_) (fun hlt => ?_)
  · skip
    have hkl : k < b.nh := by omega
    obtain ⟨hq, hoff, rfl, hcells⟩ := hp1 (by omega)
    obtain ⟨rad, rcp, hre, rl, rc, rp⟩ := (hr k hkl).shape
    have hrow : CellsH h hq (hoff + k * 9) (handL (b.hand k) (rv k)) := hcells.row hkl
    rw [hre] at hrow
    skip
    by_cases hx : 10 < (b.hand k).rests.length
    · have e : bigD b = true := by
        have : (allI b.nh fun i => decide ((b.hand i).rests.length ≤ 10)) = false := allI_no hkl (by simpa using hx)
        simp [bigD, this]
      refine en_skip <| en_then <| en_seq <| en_block <| en_seq <| en_region <| ?_
      first | refine en_det (opT_idx1 rfl rfl (by omega) (by omega)) rfl ?_ | refine en_det (opT_idx (ks := 0) rfl rfl (by omega) (by omega)) rfl ?_
      refine en_det (opT_loadA_h rfl hrow (row_length _ _)) rfl <| en_alloc rfl fun b4 => ?_
      refine en_det0 (opT_storeW rfl rfl rfl rfl (one_handL _ _ _ _)) <| en_nil <| en_then <| en_seq <| en_region <| en_det (opT_fieldAddr rfl) rfl <| en_det (opT_load_own rfl rfl) rfl <| en_det (opT_len rfl) rfl <| en_det (opT_gtr_t rfl rfl (by omega)) rfl <| en_nil <| en_then <| en_cond_t rfl <| en_seq <| en_region <| en_det (opT_assign rfl) rfl <| en_nil <| en_then <| en_ret <| en_blk_ret <| en_then_ret <| en_then_ret <| en_blk_ret <| en_then_ret <| ?_
      refine en_return (rs := [.tmp 2]) rfl (.cons (.tmp rfl) .nil) (.refl _) (Γ1 := []) ⟨by rw [e]; rfl, rfl⟩
    · skip
      refine en_skip <| en_then <| en_seq <| en_block <| en_seq <| en_region <| ?_
      first | refine en_det (opT_idx1 rfl rfl (by omega) (by omega)) rfl ?_ | refine en_det (opT_idx (ks := 0) rfl rfl (by omega) (by omega)) rfl ?_
      refine en_det (opT_loadA_h rfl hrow (row_length _ _)) rfl <| en_alloc rfl fun b4 => ?_
      refine en_det0 (opT_storeW rfl rfl rfl rfl (one_handL _ _ _ _)) <| en_nil <| en_then <| en_seq <| en_region <| en_det (opT_fieldAddr rfl) rfl <| en_det (opT_load_own rfl rfl) rfl <| en_det (opT_len rfl) rfl <| en_det (opT_gtr_f rfl rfl (by omega)) rfl <| en_nil <| en_then <| en_cond_f rfl <| en_skip <| en_blk <| en_then <| en_region <| en_det (opT_add rfl rfl (by constructor <;> omega)) rfl <| en_det (opT_move rfl) rfl <| en_nil <| en_then <| ?_
      refine en_again (k + 1) ⟨by omega, fun i hi => ?_⟩ (by omega) ⟨rfl, rfl, rfl, gi rfl (by simp), trivial⟩ (.refl _) inferInstance
      rcases Nat.lt_succ_iff_lt_or_eq.1 hi with h3 | rfl
      · exact hb i h3
      · omega
  · skip
    obtain rfl : k = b.nh := by omega
    have e : bigD b = false := by
      have : (allI b.nh fun i => decide ((b.hand i).rests.length ≤ 10)) = true := allI_yes fun i hi => by simpa using hb i hi
      simp [bigD, this]; omega
    refine en_exit <| en_then_exit <| en_then_exit <| en_blk_hit <| en_then <| en_seq <| en_region <| en_det (opT_assign rfl) rfl <| en_nil <| en_then <| en_ret <| ?_
    refine en_return (rs := [.tmp 2]) rfl (.cons (.tmp rfl) .nil) (.refl _) (Γ1 := []) ⟨by rw [e]; rfl, rfl⟩
theorem trays34_ct (h : Heap) (v : Value) (n : Nat) (t : Nat → Nat → Int) (hv : IsTrays h v n t) (hn : n ≤ 1000) : CT Try.prog 34 [v] h [] (fun v' h' Γ' => IsTrays h' v' n t ∧ Γ' = []) := by
  obtain ⟨_, tad, tcp, rfl, tm1, tc1, tp1⟩ := hv
  refine ct_intro Try.func34 rfl rfl rfl rfl fun Φ => ?_
  refine en_seq <| en_region <| en_det (opT_assign rfl) rfl <| en_nil <| en_then <| en_seq <| en_region <| en_det (opT_assign rfl) rfl <| en_nil <| en_then <| en_seq <| en_seq <| en_region <| en_det (opT_move rfl) rfl <| en_det (opT_len rfl) rfl <| en_det (opT_move rfl) rfl <| en_nil <| en_then <| en_block <| ?_
  refine en_own_nil 70 5 ?_
  refine en_loop (fun x : Nat × Value => x.1 ≤ n) (fun x => [(3, x.2), (6, .slice tad n tcp), (7, .int .i64 n), (8, .int .i64 x.1)]) (fun _ => h) (fun x => [own 70 5 x.2 x.1 (rows x.1 5 (icell t))]) (fun x => n - x.1) (0, .slice none 0 0) (by simp) ⟨rfl, rfl, rfl, rfl, trivial⟩ (.refl _) (tkAll _) fun x hk => ?_
  obtain ⟨k, v⟩ := x
  change En _ _ _ [(3, v), (6, .slice tad n tcp), (7, .int .i64 n), (8, .int .i64 k)] h [own 70 5 v k (rows k 5 (icell t))]
  simp only at hk
  refine en_seq <| en_region <| ?_
  first | refine en_det (opT_lss_t rfl rfl (by omega)) rfl ?_ | refine en_det (opT_lss_f rfl rfl (by omega)) rfl ?_ | refine en_det (opT_lss rfl rfl) rfl ?_
  refine en_nil <| en_then <| en_seq <| ?_
  refine en_if rfl (fun hlt => ?_) (fun hlt => ?_)
  · skip
    have hkl : k < n := by omega
    obtain ⟨tq, toff, rfl, tcells⟩ := tp1 (by omega)
    have hrow : CellsH h tq (toff + k * 5) (trayL (t k)) := tcells.row hkl
    have e : rows k 5 (icell t) ++ trayL (t k) = rows (k + 1) 5 (icell t) := by rw [rows_succ]; rfl
    refine en_skip <| en_then <| en_seq <| en_block <| en_seq <| en_region <| ?_
    first | refine en_det (opT_idx1 rfl rfl (by omega) (by omega)) rfl ?_ | refine en_det (opT_idx (ks := 0) rfl rfl (by omega) (by omega)) rfl ?_
    refine en_det (opT_loadA_h rfl hrow (row_length _ _)) rfl <| en_alloc rfl fun b5 => ?_
    refine en_det0 (opT_storeW rfl rfl rfl rfl (one_trayL (t k))) <| en_nil <| en_then <| en_region <| en_det (opT_move rfl) rfl <| en_det (opT_loadW_own rfl (row_length _ _)) rfl <| ?_
    refine en_op (opT_buildSlice (cs := trayL (t k)) rfl rfl (by kernel_rfl)) rfl fun _ _ _ _ ⟨b14, e1, e2, e3⟩ => ?_
    subst e1 e3; replace e2 := e2.symm; subst e2
    refine en_app1 rfl rfl rfl rfl rfl rfl rfl (by omega) fun ad15 cp15 hm15 hc15 => ?_
    refine en_det (opT_assign rfl) rfl <| en_nil <| en_blk <| en_then <| en_region <| en_det (opT_add rfl rfl (by constructor <;> omega)) rfl <| en_det (opT_move rfl) rfl <| en_nil <| en_then <| ?_
    rw [e]
    exact en_again (k + 1, .slice ad15 (k + 1) cp15) (by simp only; omega) (by simp only; omega) ⟨rfl, rfl, rfl, gi rfl (by simp), trivial⟩ (.refl _) inferInstance
  · skip
    obtain rfl : k = n := by omega
    refine en_exit <| en_then_exit <| en_then_exit <| en_blk_hit <| en_then <| en_seq <| en_region <| en_det (opT_move rfl) rfl <| en_det (opT_assign rfl) rfl <| en_nil <| en_then <| en_ret <| ?_
    refine en_freeze_own fun h1 hs1 hsl _ => ?_
    refine en_return (rs := [.tmp 2]) rfl (.cons (.tmp rfl) .nil) hs1 (Γ1 := []) ⟨hsl, rfl⟩
theorem its_ct (h : Heap) (v : Value) (b : BeltD) (hb : IsBelt h v b) (hs : Small b) : CT Try.prog 25 [v] h [] (fun v' h' Γ' => IsBelt h' v' b ∧ Γ' = []) := by
  obtain ⟨tv, hv, rfl, hT, rv, ⟨_, had, hcp, rfl, hm1, hc1, hp1⟩, hr⟩ := hb
  have hT0 := hT
  obtain ⟨_, tad, tcp, rfl, tm1, tc1, tp1⟩ := hT
  have hnt := hs.nt
  have hnh := hs.nh
  refine ct_intro Try.func25 rfl rfl rfl rfl fun Φ => ?_
  refine en_seq <| en_region <| en_box rfl rfl rfl fun b1 => en_alloc rfl fun b2 => ?_
  refine en_nil <| en_then <| en_seq <| en_region <| en_det (opT_fieldAddr rfl) rfl <| en_det (opT_load_own rfl rfl) rfl <| ?_
  refine en_callq (trays34_ct h _ b.nt _ hT0 hnt) rfl rfl rfl rfl fun v8 h1 s1 hv8 => ?_
  have hv80 := hv8
  obtain ⟨_, ad8, cp8, rfl, _⟩ := hv8
  have o1 : ∀ q ∈ [.slice ad8 b.nt cp8, nilS], q.oneCell' = true := by simp [nilS, Value.oneCell']
  refine en_det (opT_build (cs := [(.slice ad8 b.nt cp8), nilS]) rfl (by kernel_rfl)) rfl <| en_alloc rfl fun b3 => ?_
  refine en_det0 (opT_storeW rfl rfl rfl rfl o1) <| en_nil <| en_then <| en_seq <| en_seq <| en_region <| en_det (opT_fieldAddr rfl) rfl <| en_det (opT_load_own rfl rfl) rfl <| en_det (opT_len rfl) rfl <| en_det (opT_move rfl) rfl <| en_nil <| en_then <| en_block <| ?_
  refine en_own_nil 127 9 ?_
  refine en_keep [own 127 9 (.slice none 0 0) 0 [], box b3 59 [(.slice ad8 b.nt cp8), nilS], box b2 59 [.slice none 0 0, .slice none 0 0]] ?_
  refine en_loop (fun x : Nat × Option Addr × Nat => x.1 ≤ b.nh ∧ x.1 ≤ x.2.2 ∧ x.2.2 ≤ 9223372036854775807) (fun x => [(2, pt b2), (3, pt b3), (11, .slice had b.nh hcp), (12, .int .i64 b.nh), (13, .int .i64 x.1)]) (fun _ => h1) (fun x => [own 127 9 (.slice x.2.1 x.1 x.2.2) x.1 (rows x.1 9 (fun i => hcell (b.hand i) (rv i))), box b3 59 [(.slice ad8 b.nt cp8), .slice x.2.1 x.1 x.2.2], box b2 59 [nilS, nilS]]) (fun x => b.nh - x.1) (0, none, 0) ⟨by simp, by simp, by simp⟩ ⟨rfl, rfl, rfl, rfl, rfl, trivial⟩ (.refl _) (tkAll _) fun x hx => ?_
  obtain ⟨k, ad, cp⟩ := x
  obtain ⟨hk, hc1', hc2'⟩ := hx
  simp only at hk hc1' hc2'
  change En _ _ _ [(2, pt b2), (3, pt b3), (11, .slice had b.nh hcp), (12, .int .i64 b.nh), (13, .int .i64 k)] h1 [own 127 9 (.slice ad k cp) k (rows k 9 (fun i => hcell (b.hand i) (rv i))), box b3 59 [(.slice ad8 b.nt cp8), .slice ad k cp], box b2 59 [nilS, nilS]]
  refine en_seq <| en_region <| ?_
  first | refine en_det (opT_lss_t rfl rfl (by omega)) rfl ?_ | refine en_det (opT_lss_f rfl rfl (by omega)) rfl ?_ | refine en_det (opT_lss rfl rfl) rfl ?_
  refine en_nil <| en_then <| en_seq <| ?_
  refine en_if rfl (fun hlt => ?_) (fun hlt => ?_)
  · skip
    have hkn : k < b.nh := by omega
    obtain ⟨hbb, hoff, rfl, hcells⟩ := hp1 (by omega)
    have hrow : CellsH h1 hbb (hoff + k * 9) (handL (b.hand k) (rv k)) := (hcells.row hkn).mono s1
    obtain ⟨rad, rcp, hre, _, _, _⟩ := (hr k hkn).shape
    have e : rows k 9 (fun i => hcell (b.hand i) (rv i)) ++ handL (b.hand k) (.slice rad (b.hand k).rests.length rcp) = rows (k + 1) 9 (fun i => hcell (b.hand i) (rv i)) := by rw [rows_succ, ← hre]
    rw [hre] at hrow
    refine en_skip <| en_then <| en_seq <| en_block <| en_seq <| en_region <| ?_
    first | refine en_det (opT_idx1 rfl rfl (by omega) (by omega)) rfl ?_ | refine en_det (opT_idx (ks := 0) rfl rfl (by omega) (by omega)) rfl ?_
    refine en_det (opT_loadA_h rfl hrow (row_length _ _)) rfl <| en_alloc rfl fun b5 => ?_
    refine en_det0 (opT_storeW rfl rfl rfl rfl (one_handL _ _ _ _)) <| en_nil <| en_then <| en_region <| en_det (opT_fieldAddr rfl) rfl <| en_det (opT_load_own (v := .slice ad k cp) rfl rfl) rfl <| en_det (opT_loadW_own rfl (row_length _ _)) rfl <| ?_
    refine en_op (opT_buildSlice (cs := handL (b.hand k) (.slice rad (b.hand k).rests.length rcp)) rfl rfl (by kernel_rfl)) rfl fun _ _ _ _ ⟨b20, e1, e2, e3⟩ => ?_
    subst e1 e3; replace e2 := e2.symm; subst e2
    refine en_app1 rfl rfl rfl rfl rfl rfl rfl (by omega) fun ad21 cp21 hm21 hc21 => ?_
    refine en_det (opT_fieldAddr rfl) rfl <| en_det0 (opT_store1 rfl rfl rfl) <| en_nil <| en_blk <| en_then <| en_region <| en_det (opT_add rfl rfl (by constructor <;> omega)) rfl <| en_det (opT_move rfl) rfl <| en_nil <| en_then <| ?_
    rw [e]
    exact en_again (k + 1, ad21, cp21) ⟨by simp only; omega, by simp only; omega, by simp only; omega⟩ (by simp only; omega) ⟨rfl, rfl, rfl, rfl, gi rfl (by simp), trivial⟩ (.refl _) inferInstance
  · skip
    obtain rfl : k = b.nh := by omega
    refine en_freeze_own fun h2 s2 hsl _ => ?_
    have o2 : ∀ q ∈ [(Value.slice ad8 b.nt cp8), .slice ad b.nh cp], q.oneCell' = true := by simp [Value.oneCell']
    refine en_exit <| en_then_exit <| en_then_exit <| en_blk_hit <| en_then <| en_seq <| en_region <| en_det (opT_loadW_own rfl rfl) rfl <| en_det0 (opT_storeW rfl rfl rfl rfl o2) <| en_nil <| en_then <| en_ret <| ?_
    refine en_return (rs := [.cell 2 59]) rfl (.cons (res_cellA rfl rfl) .nil) (s1.trans s2) (Γ1 := []) ⟨⟨_, _, rfl, hv80.mono s2, rv, hsl, fun i hi => (hr i hi).mono (s1.trans s2)⟩, rfl⟩
theorem alikeT_self (n : Nat) (t : Nat → Nat → Int) : alikeT n t n t = true := by
  simp [alikeT, allI_iff]
theorem same_ct (h : Heap) (v u : Value) (b : BeltD) (hv : IsBelt h v b) (hu : IsBelt h u b) : CT Try.prog 38 [v, u] h [] (DetW (.bool true) []) := by
  obtain ⟨tv, hv, rfl, hT, rv, ⟨_, had, hcp, rfl, hm1, hc1, hp1⟩, hr⟩ := hv
  obtain ⟨tv2, hv2, rfl, hT2, rv2, ⟨_, had2, hcp2, rfl, hm2, hc2, hp2⟩, hr2⟩ := hu
  have cT := alike65_ct h tv tv2 b.nt b.nt b.tray b.tray hT hT2
  rw [alikeT_self] at cT
  refine ct_intro Try.func38 rfl rfl rfl rfl fun Φ => ?_
  refine en_seq <| en_region <| en_box rfl rfl rfl fun b2 => en_box rfl rfl rfl fun b3 => en_det (opT_assign rfl) rfl <| en_nil <| en_then <| en_seq <| en_seq <| en_region <| en_det (opT_fieldAddr rfl) rfl <| en_det (opT_load_own rfl rfl) rfl <| en_det (opT_fieldAddr rfl) rfl <| en_det (opT_load_own rfl rfl) rfl <| en_calld (cT) rfl rfl rfl rfl <| ?_
  first | refine en_det (opT_not_t rfl) rfl ?_ | refine en_det (opT_not_f rfl) rfl ?_ | refine en_det (opT_not rfl) rfl ?_
  refine en_det (opT_move rfl) rfl <| en_g_yes rfl rfl <| en_det (opT_fieldAddr rfl) rfl <| en_g_yes rfl rfl <| en_det (opT_load_own rfl rfl) rfl <| en_g_yes rfl rfl <| en_det (opT_len rfl) rfl <| en_g_yes rfl rfl <| en_det (opT_fieldAddr rfl) rfl <| en_g_yes rfl rfl <| en_det (opT_load_own rfl rfl) rfl <| en_g_yes rfl rfl <| en_det (opT_len rfl) rfl <| en_g_yes rfl rfl <| en_det (opT_neq_f rfl rfl (by omega)) rfl <| ?_
  first | refine en_det (opT_pick_t rfl rfl) rfl ?_ | refine en_det (opT_pick_f rfl rfl) rfl ?_
  refine en_nil <| en_then <| en_cond_f rfl <| en_skip <| en_then <| en_seq <| en_seq <| en_region <| en_det (opT_fieldAddr rfl) rfl <| en_det (opT_load_own rfl rfl) rfl <| en_det (opT_len rfl) rfl <| en_det (opT_move rfl) rfl <| en_nil <| en_then <| en_block <| ?_
  refine en_loop (fun k : Nat => k ≤ b.nh) (fun k => [(3, pt b3), (24, .slice had b.nh hcp), (25, .int .i64 b.nh), (26, .int .i64 k)]) (fun _ => h) (fun _ => [box b3 26 [tv2, .slice had2 b.nh hcp2], box b2 26 [tv, .slice had b.nh hcp]]) (fun k => b.nh - k) 0 (by omega) ⟨rfl, rfl, rfl, rfl, trivial⟩ (.refl _) (tkAll _) fun k hk => ?_
  refine en_seq <| en_region <| ?_
  first | refine en_det (opT_lss_t rfl rfl (by omega)) rfl ?_ | refine en_det (opT_lss_f rfl rfl (by omega)) rfl ?_ | refine en_det (opT_lss rfl rfl) rfl ?_
  refine en_nil <| en_then <| en_seq <| ?_
  refine en_if rfl (fun hlt => ?_) (fun hlt => ?_)
  · skip
    have hkl : k < b.nh := by omega
    obtain ⟨hq, hoff, rfl, hcells⟩ := hp1 (by omega)
    have hrow : CellsH h hq (hoff + k * 9) (handL (b.hand k) (rv k)) := hcells.row hkl
    obtain ⟨hq2, hoff2, rfl, hcells2⟩ := hp2 (by omega)
    have hrow2 : CellsH h hq2 (hoff2 + k * 9) (handL (b.hand k) (rv2 k)) := hcells2.row hkl
    have hone := List.all_eq_true.1 (one_handV (H := b.hand k) (hr k hkl).one)
    have hone2 := List.all_eq_true.1 (one_handV (H := b.hand k) (hr2 k hkl).one)
    have cA := alike48_ct h (rv k) (rv2 k) (b.hand k).rests (b.hand k).rests (hr k hkl) (hr2 k hkl)
    rw [decide_eq_true rfl] at cA
    have hx : decide (tk5 (b.hand k) ≠ tk5 (b.hand k)) = false := by simp
    have tk1 := tk5_take (b.hand k) (rv k)
    have tk2 := tk5_take (b.hand k) (rv2 k)
    refine en_skip <| en_then <| en_seq <| en_block <| en_seq <| en_region <| en_det (opT_move rfl) rfl <| ?_
    first | refine en_det (opT_idx1 rfl rfl (by omega) (by omega)) rfl ?_ | refine en_det (opT_idx (ks := 0) rfl rfl (by omega) (by omega)) rfl ?_
    refine en_det (opT_loadA_h rfl hrow (row_length _ _)) rfl <| en_alloc rfl fun b6 => ?_
    refine en_det (opT_assign rfl) rfl <| en_det0 (opT_storeW rfl rfl (row_length _ _) rfl hone) <| en_nil <| en_then <| en_seq <| en_region <| en_det (opT_fieldAddr rfl) rfl <| en_det (opT_load_own rfl rfl) rfl <| en_det (opT_move rfl) rfl <| ?_
    first | refine en_det (opT_idx1 rfl rfl (by omega) (by omega)) rfl ?_ | refine en_det (opT_idx (ks := 0) rfl rfl (by omega) (by omega)) rfl ?_
    refine en_det (opT_loadA_h rfl hrow2 (row_length _ _)) rfl <| en_alloc rfl fun b7 => ?_
    refine en_det0 (opT_storeW rfl rfl (row_length _ _) rfl hone2) <| en_nil <| en_then <| en_seq <| en_region <| en_det (opT_fieldAddr rfl) rfl <| en_det (opT_loadA_own (t := tk1) rfl) rfl <| en_det (opT_fieldAddr rfl) rfl <| en_det (opT_loadA_own (t := tk2) rfl) rfl <| en_det ((hx ▸ opT_neArr (xs := tk5 (b.hand k)) (ys := tk5 (b.hand k)) (mk := Value.bool) (fun w dep a b => eq_bools (P := Try.prog) (e := 4) inferInstance w dep a b) eg39 rfl rfl rfl rfl)) rfl <| en_det (opT_move rfl) rfl <| en_g_yes rfl rfl <| en_det (opT_fieldAddr rfl) rfl <| en_g_yes rfl rfl <| en_det (opT_load_own rfl rfl) rfl <| en_g_yes rfl rfl <| en_det (opT_fieldAddr rfl) rfl <| en_g_yes rfl rfl <| en_det (opT_load_own rfl rfl) rfl <| en_g_yes rfl rfl <| en_det (opT_neq_f rfl rfl (by omega)) rfl <| ?_
    first | refine en_det (opT_pick_t rfl rfl) rfl ?_ | refine en_det (opT_pick_f rfl rfl) rfl ?_
    refine en_det (opT_move rfl) rfl <| en_g_yes rfl rfl <| en_det (opT_fieldAddr rfl) rfl <| en_g_yes rfl rfl <| en_det (opT_load_own rfl rfl) rfl <| en_g_yes rfl rfl <| en_det (opT_fieldAddr rfl) rfl <| en_g_yes rfl rfl <| en_det (opT_load_own rfl rfl) rfl <| en_g_yes rfl rfl <| en_det (opT_neq_f rfl rfl (by omega)) rfl <| ?_
    first | refine en_det (opT_pick_t rfl rfl) rfl ?_ | refine en_det (opT_pick_f rfl rfl) rfl ?_
    refine en_det (opT_move rfl) rfl <| en_g_yes rfl rfl <| en_det (opT_fieldAddr rfl) rfl <| en_g_yes rfl rfl <| en_det (opT_load_own rfl rfl) rfl <| en_g_yes rfl rfl <| en_det (opT_fieldAddr rfl) rfl <| en_g_yes rfl rfl <| en_det (opT_load_own rfl rfl) rfl <| en_g_yes rfl rfl <| en_det (opT_neq_f rfl rfl (by omega)) rfl <| ?_
    first | refine en_det (opT_pick_t rfl rfl) rfl ?_ | refine en_det (opT_pick_f rfl rfl) rfl ?_
    refine en_det (opT_move rfl) rfl <| en_g_yes rfl rfl <| en_det (opT_fieldAddr rfl) rfl <| en_g_yes rfl rfl <| en_det (opT_load_own rfl rfl) rfl <| en_g_yes rfl rfl <| en_det (opT_fieldAddr rfl) rfl <| en_g_yes rfl rfl <| en_det (opT_load_own rfl rfl) rfl <| en_g_yes rfl rfl <| en_calld (cA) rfl rfl rfl rfl <| en_g_yes rfl rfl <| ?_
    first | refine en_det (opT_not_t rfl) rfl ?_ | refine en_det (opT_not_f rfl) rfl ?_ | refine en_det (opT_not rfl) rfl ?_
    first | refine en_det (opT_pick_t rfl rfl) rfl ?_ | refine en_det (opT_pick_f rfl rfl) rfl ?_
    refine en_nil <| en_then <| en_cond_f rfl <| en_skip <| en_blk <| en_then <| en_region <| en_det (opT_add rfl rfl (by constructor <;> omega)) rfl <| en_det (opT_move rfl) rfl <| en_nil <| en_then <| ?_
    exact en_again (k + 1) (by omega) (by omega) ⟨rfl, rfl, rfl, gi rfl (by simp), trivial⟩ (.refl _) inferInstance
  · skip
    refine en_exit <| en_then_exit <| en_then_exit <| en_blk_hit <| en_then <| en_seq <| en_region <| en_det (opT_assign rfl) rfl <| en_nil <| en_then <| en_ret <| ?_
    refine en_return (rs := [.tmp 4]) rfl (.cons (.tmp rfl) .nil) (.refl _) (Γ1 := []) ⟨rfl, rfl⟩
end Go.Sx

/- The reference: sets, forces behind a set, bounds, the most. -/
namespace Go.Sx
open Go.Proofs
set_option maxRecDepth 100000
def behS (b : BeltD) (l : List Nat) (t s : Nat) : Int := sumL l fun i => if anyT (takesB b i) s = true then forceB b t i else 0
theorem behS_all (b : BeltD) (t s : Nat) : behS b (allH b) t s = behL b.nh (takesB b) (forceB b t) (allH b) s := (behL_sum List.nodup_range (allH_lt b) s).symm
def anyK (tk : Nat → Bool) (s k : Nat) : Bool := (List.range k).any fun m => s.testBit m && tk m
theorem anyK_succ (tk : Nat → Bool) (s k : Nat) : anyK tk s (k + 1) = (anyK tk s k || (s.testBit k && tk k)) := by simp [anyK, List.range_succ]
theorem anyK_five (tk : Nat → Bool) (s : Nat) : anyK tk s 5 = anyT tk s := by
  rw [Bool.eq_iff_iff, anyT_iff]
  simp [anyK]
theorem sumL_bounds {l : List Nat} {f : Nat → Int} {B : Int} (h : ∀ i, i ∈ l → 0 ≤ f i ∧ f i ≤ B) : 0 ≤ sumL l f ∧ sumL l f ≤ B * l.length := by
  induction l with
  | nil => simp [sumL]
  | cons x l ih =>
    have h1 := ih fun i hi => h i (by simp [hi])
    have h2 := h x (by simp)
    have e : sumL (x :: l) f = f x + sumL l f := by simp [sumL]
    have e2 : B * (((x :: l).length : Nat) : Int) = B * l.length + B := by rw [List.length_cons, Int.natCast_add, Int.mul_add]; simp
    rw [e, e2]; omega
theorem sumL_next {l : List Nat} {i : Nat} (hi : i < l.length) (f : Nat → Int) : sumL (l.take (i + 1)) f = sumL (l.take i) f + f l[i] := by
  rw [List.take_succ_eq_append_getElem hi, sumL_append]
def bdK (b : BeltD) (t s k : Nat) : Int := behS b (allH b) t s + sumN k fun m => if s.testBit m = true then 0 else b.tray t m
theorem bdK_five (b : BeltD) (t s : Nat) : bdK b t s 5 = cutB b t s := by unfold bdK cutB exS; rw [behS_all]
def minK (b : BeltD) (t : Nat) : Nat → Int
  | 0 => sum5 (b.tray t)
  | k + 1 => min (minK b t k) (cutB b t k)
theorem minK_most {b : BeltD} (hk : BOK b) {t : Nat} (ht : t < b.nt) : minK b t 32 = mostT b t := by
  have lo : ∀ k, mostT b t ≤ minK b t k := fun k => by
    induction k with
    | zero => exact most_tray hk ht
    | succ k ih => have := most_le hk ht k; simp only [minK]; omega
  have hi : ∀ k s, s < k → minK b t k ≤ cutB b t s := fun k => by
    induction k with
    | zero => intro s h; omega
    | succ k ih =>
      intro s h
      simp only [minK]
      by_cases e : s = k
      · subst e; omega
      · have := ih s (by omega); omega
  have h1 := lo 32
  have h2 := hi 32 _ (heldB_lt b wholeD t (allH b))
  rw [← most_eq hk ht] at h2
  omega
attribute [local irreducible] Code.wpIn wpListIn Exit.then Exit.inBlock BQ Again Hd St En OpT box blk RQ BQ0 fmap own Desk Chute
theorem has_ct (h : Heap) (s m : Nat) (hs : s < 32) (hm : m ≤ 1000) : CT Try.prog 99 [.int .i64 s, .int .i64 m] h [] (DetW (.bool (s.testBit m)) []) := by
  refine ct_intro Try.func99 rfl rfl rfl rfl fun Φ => ?_
  refine en_seq <| en_region <| en_det (opT_assign rfl) rfl <| en_nil <| en_then <| en_seq <| en_seq <| en_region <| en_det (opT_assign rfl) rfl <| en_nil <| en_then <| en_block <| ?_
  refine en_loop (fun k : Nat => k ≤ m) (fun k => [(0, .int .i64 ((s / 2 ^ k : Nat) : Int)), (1, .int .i64 m), (5, .int .i64 k)]) (fun _ => h) (fun _ => []) (fun k => m - k) 0 (by omega) ⟨gi rfl (by simp), rfl, rfl, trivial⟩ (.refl _) inferInstance fun k hk => ?_
  refine en_seq <| en_seq <| en_region <| en_det (opT_move rfl) rfl <| en_det (opT_move rfl) rfl <| ?_
  first | refine en_det (opT_lss_t rfl rfl (by omega)) rfl ?_ | refine en_det (opT_lss_f rfl rfl (by omega)) rfl ?_ | refine en_det (opT_lss rfl rfl) rfl ?_
  refine en_nil <| en_then <| ?_
  have hq : s / 2 ^ k < 32 := Nat.lt_of_le_of_lt (Nat.div_le_self _ _) hs
  refine en_if rfl (fun hlt => ?_) (fun hlt => ?_)
  · skip
    have e : (((s / 2 ^ k : Nat) : Int)) / 2 = ((s / 2 ^ (k + 1) : Nat) : Int) := by
      rw [Nat.pow_succ, ← Nat.div_div_eq_div_mul]; simp
    generalize s / 2 ^ k = q at hq e ⊢
    refine en_skip <| en_then <| en_seq <| en_block <| en_region <| en_det (opT_move rfl) rfl <| en_det (opT_quo rfl rfl (by omega) (by omega) (by omega)) rfl <| en_det (opT_assign rfl) rfl <| en_nil <| en_blk <| en_then <| en_region <| en_det (opT_move rfl) rfl <| en_det (opT_add rfl rfl (by constructor <;> omega)) rfl <| en_det (opT_assign rfl) rfl <| en_nil <| en_then <| ?_
    exact en_again (k + 1) (by omega) (by omega) ⟨gi rfl e, rfl, gi rfl (by simp), trivial⟩ (.refl _) inferInstance
  · skip
    obtain rfl : k = m := by omega
    have e : s.testBit k = decide (s / 2 ^ k % 2 = 1) := Nat.testBit_eq_decide_div_mod_eq
    rw [e]
    generalize s / 2 ^ k = q at hq ⊢
    skip
    by_cases hx : q % 2 = 1
    · refine en_exit <| en_then_exit <| en_then_exit <| en_blk_hit <| en_then <| en_seq <| en_region <| en_det (opT_move rfl) rfl <| en_det (opT_rem rfl rfl (by omega) (by omega)) rfl <| en_det (opT_eql_t rfl rfl (by omega)) rfl <| en_det (opT_assign rfl) rfl <| en_nil <| en_then <| en_ret <| ?_
      refine en_return (rs := [.tmp 4]) rfl (.cons (.tmp rfl) .nil) (.refl _) (Γ1 := []) ⟨by simp [resVal, hx], rfl⟩
    · skip
      refine en_exit <| en_then_exit <| en_then_exit <| en_blk_hit <| en_then <| en_seq <| en_region <| en_det (opT_move rfl) rfl <| en_det (opT_rem rfl rfl (by omega) (by omega)) rfl <| en_det (opT_eql_f rfl rfl (by omega)) rfl <| en_det (opT_assign rfl) rfl <| en_nil <| en_then <| en_ret <| ?_
      refine en_return (rs := [.tmp 4]) rfl (.cons (.tmp rfl) .nil) (.refl _) (Γ1 := []) ⟨by simp [resVal, hx], rfl⟩
theorem behindR_ct (h : Heap) (tv hv ov : Value) (b : BeltD) (hands : List Nat) (t s : Nat) (hH : IsHands h hv b.nh b.hand) (ok : ∀ i, i < b.nh → OKH (b.hand i)) (hlt : ∀ x ∈ hands, x < b.nh) (hlen : hands.length ≤ 1000) (ho : IsInts h ov (natsI hands)) (ht : t < 1000) (hs : s < 32) :
    CT Try.prog 52 [.agg #[tv, hv], ov, .int .i64 t, .int .i64 s] h [] (DetW (.int .i64 (behS b hands t s)) []) := by
  have hH0 := hH
  obtain ⟨rv, ⟨_, had, hcp, rfl, hm1, hc1, hp1⟩, hr⟩ := hH
  obtain ⟨iad, icp, rfl, hm2, hc2, hp2⟩ := ho.shape
  have hlenI : (natsI hands).length = hands.length := by simp [natsI]
  simp only [hlenI] at hm2 hp2
  have hfb : ∀ i, i ∈ hands → 0 ≤ (if anyT (takesB b i) s = true then forceB b t i else 0) ∧ (if anyT (takesB b i) s = true then forceB b t i else 0) ≤ 40 := fun i hi => by
    have := forceD_bound (ok i (hlt i hi)) t
    unfold forceB; split <;> omega
  refine ct_intro Try.func52 rfl rfl rfl rfl fun Φ => ?_
  refine en_seq <| en_region <| en_box rfl rfl rfl fun b4 => en_det (opT_assign rfl) rfl <| en_nil <| en_then <| en_seq <| en_region <| en_det (opT_assign rfl) rfl <| en_nil <| en_then <| en_seq <| en_seq <| en_region <| en_det (opT_assign rfl) rfl <| en_nil <| en_then <| en_block <| ?_
  refine en_loop (fun i : Nat => i ≤ hands.length) (fun i => [(1, .slice iad hands.length icp), (2, .int .i64 t), (3, .int .i64 s), (4, pt b4), (9, .int .i64 (behS b (hands.take i) t s)), (10, .int .i64 i)]) (fun _ => h) (fun _ => [box b4 59 [tv, .slice had b.nh hcp]]) (fun i => hands.length - i) 0 (by omega) ⟨by rw [← hlenI]; rfl, rfl, rfl, rfl, rfl, rfl, trivial⟩ (.refl _) (tkAll _) fun i hi => ?_
  have hsb := sumL_bounds (l := hands.take i) fun x hx => hfb x (List.mem_of_mem_take hx)
  have htl : (hands.take i).length ≤ 1000 := by rw [List.length_take]; omega
  change 0 ≤ behS b (hands.take i) t s ∧ behS b (hands.take i) t s ≤ 40 * ((hands.take i).length : Int) at hsb
  refine en_seq <| en_seq <| en_region <| en_det (opT_move rfl) rfl <| en_det (opT_move rfl) rfl <| en_det (opT_len rfl) rfl <| ?_
  first | refine en_det (opT_lss_t rfl rfl (by omega)) rfl ?_ | refine en_det (opT_lss_f rfl rfl (by omega)) rfl ?_ | refine en_det (opT_lss rfl rfl) rfl ?_
  refine en_nil <| en_then <| ?_
  refine en_if rfl (fun hlt1 => ?_) (fun hlt1 => ?_)
  · skip
    have hil : i < hands.length := by omega
    have hhn : hands[i] < b.nh := hlt _ (List.getElem_mem hil)
    obtain ⟨hb, hoff, rfl, hcells⟩ := hp1 (by omega)
    obtain ⟨ib, ioff, rfl, hints⟩ := hp2 (by omega)
    have hgi := hints i hil
    have e1 : (natsI hands)[i]'(by rw [hlenI]; exact hil) = ((hands[i] : Nat) : Int) := by simp [natsI]
    rw [e1] at hgi
    have hnext : behS b (hands.take (i + 1)) t s = behS b (hands.take i) t s + (if anyT (takesB b hands[i]) s = true then forceB b t hands[i] else 0) := sumL_next hil _
    generalize hands[i] = hd at hhn hgi hnext
    generalize behS b (hands.take i) t s = N at hsb hnext ⊢
    refine en_skip <| en_then <| en_seq <| en_block <| en_seq <| en_region <| en_det (opT_assign rfl) rfl <| en_nil <| en_then <| en_seq <| en_seq <| en_region <| en_det (opT_assign rfl) rfl <| en_nil <| en_then <| en_block <| ?_
    refine en_loop (fun m : Nat => m ≤ 5) (fun m => [(1, .slice (some ⟨ib, ioff, none⟩) hands.length icp), (2, .int .i64 t), (3, .int .i64 s), (4, pt b4), (9, .int .i64 N), (10, .int .i64 i), (11, .bool (anyK (takesB b hd) s m)), (12, .int .i64 m)]) (fun _ => h) (fun _ => [box b4 59 [tv, .slice (some ⟨hb, hoff, none⟩) b.nh hcp]]) (fun m => 5 - m) 0 (by omega) ⟨rfl, rfl, rfl, rfl, rfl, rfl, rfl, rfl, trivial⟩ (.refl _) (tkAll _) fun m hm => ?_
    refine en_seq <| en_seq <| en_region <| en_det (opT_move rfl) rfl <| ?_
    first | refine en_det (opT_lss_t rfl rfl (by omega)) rfl ?_ | refine en_det (opT_lss_f rfl rfl (by omega)) rfl ?_ | refine en_det (opT_lss rfl rfl) rfl ?_
    refine en_nil <| en_then <| ?_
    refine en_if rfl (fun hlt2 => ?_) (fun hlt2 => ?_)
    · skip
      have hm5 : m < 5 := by omega
      have hce := hcells.cell hhn (by omega : m < 9)
      have hcv : hcell (b.hand hd) (rv hd) m = .bool ((b.hand hd).takes m) := by simp [hcell, hm5]
      rw [hcv] at hce
      have hstep := anyK_succ (takesB b hd) s m
      have eT : takesB b hd m = (b.hand hd).takes m := rfl
      rw [eT] at hstep
      have cH := has_ct h s m hs (by omega)
      generalize anyK (takesB b hd) s m = A at hstep ⊢
      generalize (b.hand hd).takes m = K at hce hstep
      generalize s.testBit m = B at cH hstep
      skip
      cases A with
      | true =>
        refine en_skip <| en_then <| en_seq <| en_block <| en_draw0 [0, 1, 2, 3, 4, 5, 6, 7, 8, 9, 10, 11, 12, 13, 14, 15, 16, 17, 18, 19] (by kernel_rfl) (by decide +kernel) (by decide +kernel) (by decide) <| dp_p rfl (fun _ _ => opT_move rfl) rfl rfl rfl <| dp_p rfl (fun _ _ => opT_move rfl) rfl rfl rfl <| dp_q_no rfl rfl rfl rfl rfl <| dp_q_no rfl rfl rfl rfl rfl <| dp_q_no rfl rfl rfl rfl rfl <| dp_q_no rfl rfl rfl rfl rfl <| dp_q_no rfl rfl rfl rfl rfl <| dp_q_no rfl rfl rfl rfl rfl <| dp_q_no rfl rfl rfl rfl rfl <| dp_q_no rfl rfl rfl rfl rfl <| dp_q_no rfl rfl rfl rfl rfl <| dp_q_no rfl rfl rfl rfl rfl <| dp_q_no rfl rfl rfl rfl rfl <| dp_q_no rfl rfl rfl rfl rfl <| dp_q_no rfl rfl rfl rfl rfl <| dp_q_no rfl rfl rfl rfl rfl <| dp_q_no rfl rfl rfl rfl rfl <| dp_q_no rfl rfl rfl rfl rfl <| ?_
        first | refine dp_p rfl (fun _ _ => opT_pick_t rfl rfl) rfl rfl rfl ?_ | refine dp_p rfl (fun _ _ => opT_pick_f rfl rfl) rfl rfl rfl ?_
        refine dp_p rfl (fun _ _ => opT_assign rfl) rfl rfl rfl <| dp_done0 <| en_blk <| en_then <| en_region <| en_det (opT_move rfl) rfl <| en_det (opT_add rfl rfl (by constructor <;> omega)) rfl <| en_det (opT_assign rfl) rfl <| en_nil <| en_then <| ?_
        exact en_again (m + 1) (by omega) (by omega) ⟨rfl, rfl, rfl, rfl, rfl, rfl, gb rfl (by rw [hstep]; rfl), gi rfl (by simp), trivial⟩ (.refl _) inferInstance
      | false =>
        cases B with
        | false =>
          refine en_skip <| en_then <| en_seq <| en_block <| en_draw0 [0, 1, 2, 3, 4, 5, 6, 7, 8, 9, 10, 11, 12, 13, 14, 15, 16, 17, 18, 19] (by kernel_rfl) (by decide +kernel) (by decide +kernel) (by decide) <| dp_p rfl (fun _ _ => opT_move rfl) rfl rfl rfl <| dp_p rfl (fun _ _ => opT_move rfl) rfl rfl rfl <| dp_q_yes rfl rfl rfl (opT_move rfl) rfl rfl rfl <| dp_q_yes rfl rfl rfl (opT_move rfl) rfl rfl rfl <| dp_q_yes rfl rfl rfl (opT_callw (cH) rfl rfl rfl) rfl rfl rfl <| dp_q_yes rfl rfl rfl (opT_move rfl) rfl rfl rfl <| dp_q_no rfl rfl rfl rfl rfl <| dp_q_no rfl rfl rfl rfl rfl <| dp_q_no rfl rfl rfl rfl rfl <| dp_q_no rfl rfl rfl rfl rfl <| dp_q_no rfl rfl rfl rfl rfl <| dp_q_no rfl rfl rfl rfl rfl <| dp_q_no rfl rfl rfl rfl rfl <| dp_q_no rfl rfl rfl rfl rfl <| dp_q_no rfl rfl rfl rfl rfl <| dp_q_no rfl rfl rfl rfl rfl <| dp_q_no rfl rfl rfl rfl rfl <| ?_
          first | refine dp_q_yes rfl rfl rfl (opT_pick_t rfl rfl) rfl rfl rfl ?_ | refine dp_q_yes rfl rfl rfl (opT_pick_f rfl rfl) rfl rfl rfl ?_
          first | refine dp_p rfl (fun _ _ => opT_pick_t rfl rfl) rfl rfl rfl ?_ | refine dp_p rfl (fun _ _ => opT_pick_f rfl rfl) rfl rfl rfl ?_
          refine dp_p rfl (fun _ _ => opT_assign rfl) rfl rfl rfl <| dp_done0 <| en_blk <| en_then <| en_region <| en_det (opT_move rfl) rfl <| en_det (opT_add rfl rfl (by constructor <;> omega)) rfl <| en_det (opT_assign rfl) rfl <| en_nil <| en_then <| ?_
          exact en_again (m + 1) (by omega) (by omega) ⟨rfl, rfl, rfl, rfl, rfl, rfl, gb rfl (by rw [hstep]; rfl), gi rfl (by simp), trivial⟩ (.refl _) inferInstance
        | true =>
          cases K with
          | false =>
            refine en_skip <| en_then <| en_seq <| en_block <| en_draw0 [0, 1, 2, 3, 4, 5, 6, 7, 8, 9, 10, 11, 12, 13, 14, 15, 16, 17, 18, 19] (by kernel_rfl) (by decide +kernel) (by decide +kernel) (by decide) <| dp_p rfl (fun _ _ => opT_move rfl) rfl rfl rfl <| dp_p rfl (fun _ _ => opT_move rfl) rfl rfl rfl <| dp_q_yes rfl rfl rfl (opT_move rfl) rfl rfl rfl <| dp_q_yes rfl rfl rfl (opT_move rfl) rfl rfl rfl <| dp_q_yes rfl rfl rfl (opT_callw (cH) rfl rfl rfl) rfl rfl rfl <| dp_q_yes rfl rfl rfl (opT_move rfl) rfl rfl rfl <| dp_q_yes rfl rfl rfl (opT_fieldAddr rfl) rfl rfl rfl <| dp_q_yes rfl rfl rfl (opT_load_own rfl rfl) rfl rfl rfl <| dp_q_yes rfl rfl rfl (opT_move rfl) rfl rfl rfl <| dp_q_yes rfl rfl rfl (opT_move rfl) rfl rfl rfl <| ?_
            first | refine dp_q_yes rfl rfl rfl (opT_idx1 rfl rfl (by omega) (by omega)) rfl rfl rfl ?_ | refine dp_q_yes rfl rfl rfl (opT_idx (ks := 0) rfl rfl (by omega) (by omega)) rfl rfl rfl ?_
            first | refine dp_q_yes rfl rfl rfl (opT_load_h rfl (by assumption)) rfl rfl rfl ?_ | refine dp_q_yes rfl rfl rfl (opT_load_own rfl rfl) rfl rfl rfl ?_
            refine dp_q_yes rfl rfl rfl (opT_move rfl) rfl rfl rfl <| ?_
            first | refine dp_q_yes rfl rfl rfl (opT_idx1 rfl rfl (by omega) (by omega)) rfl rfl rfl ?_ | refine dp_q_yes rfl rfl rfl (opT_idx (ks := 0) rfl rfl (by omega) (by omega)) rfl rfl rfl ?_
            refine dp_q_yes rfl rfl rfl (opT_fieldAddr rfl) rfl rfl rfl <| dp_q_yes rfl rfl rfl (opT_idxArr rfl rfl (by omega) (by omega)) rfl rfl rfl <| ?_
            first | refine dp_q_yes rfl rfl rfl (opT_load_h rfl (by assumption)) rfl rfl rfl ?_ | refine dp_q_yes rfl rfl rfl (opT_load_own rfl rfl) rfl rfl rfl ?_
            first | refine dp_q_yes rfl rfl rfl (opT_pick_t rfl rfl) rfl rfl rfl ?_ | refine dp_q_yes rfl rfl rfl (opT_pick_f rfl rfl) rfl rfl rfl ?_
            first | refine dp_p rfl (fun _ _ => opT_pick_t rfl rfl) rfl rfl rfl ?_ | refine dp_p rfl (fun _ _ => opT_pick_f rfl rfl) rfl rfl rfl ?_
            refine dp_p rfl (fun _ _ => opT_assign rfl) rfl rfl rfl <| dp_done0 <| en_blk <| en_then <| en_region <| en_det (opT_move rfl) rfl <| en_det (opT_add rfl rfl (by constructor <;> omega)) rfl <| en_det (opT_assign rfl) rfl <| en_nil <| en_then <| ?_
            exact en_again (m + 1) (by omega) (by omega) ⟨rfl, rfl, rfl, rfl, rfl, rfl, gb rfl (by rw [hstep]; rfl), gi rfl (by simp), trivial⟩ (.refl _) inferInstance
          | true =>
            refine en_skip <| en_then <| en_seq <| en_block <| en_draw0 [0, 1, 2, 3, 4, 5, 6, 7, 8, 9, 10, 11, 12, 13, 14, 15, 16, 17, 18, 19] (by kernel_rfl) (by decide +kernel) (by decide +kernel) (by decide) <| dp_p rfl (fun _ _ => opT_move rfl) rfl rfl rfl <| dp_p rfl (fun _ _ => opT_move rfl) rfl rfl rfl <| dp_q_yes rfl rfl rfl (opT_move rfl) rfl rfl rfl <| dp_q_yes rfl rfl rfl (opT_move rfl) rfl rfl rfl <| dp_q_yes rfl rfl rfl (opT_callw (cH) rfl rfl rfl) rfl rfl rfl <| dp_q_yes rfl rfl rfl (opT_move rfl) rfl rfl rfl <| dp_q_yes rfl rfl rfl (opT_fieldAddr rfl) rfl rfl rfl <| dp_q_yes rfl rfl rfl (opT_load_own rfl rfl) rfl rfl rfl <| dp_q_yes rfl rfl rfl (opT_move rfl) rfl rfl rfl <| dp_q_yes rfl rfl rfl (opT_move rfl) rfl rfl rfl <| ?_
            first | refine dp_q_yes rfl rfl rfl (opT_idx1 rfl rfl (by omega) (by omega)) rfl rfl rfl ?_ | refine dp_q_yes rfl rfl rfl (opT_idx (ks := 0) rfl rfl (by omega) (by omega)) rfl rfl rfl ?_
            first | refine dp_q_yes rfl rfl rfl (opT_load_h rfl (by assumption)) rfl rfl rfl ?_ | refine dp_q_yes rfl rfl rfl (opT_load_own rfl rfl) rfl rfl rfl ?_
            refine dp_q_yes rfl rfl rfl (opT_move rfl) rfl rfl rfl <| ?_
            first | refine dp_q_yes rfl rfl rfl (opT_idx1 rfl rfl (by omega) (by omega)) rfl rfl rfl ?_ | refine dp_q_yes rfl rfl rfl (opT_idx (ks := 0) rfl rfl (by omega) (by omega)) rfl rfl rfl ?_
            refine dp_q_yes rfl rfl rfl (opT_fieldAddr rfl) rfl rfl rfl <| dp_q_yes rfl rfl rfl (opT_idxArr rfl rfl (by omega) (by omega)) rfl rfl rfl <| ?_
            first | refine dp_q_yes rfl rfl rfl (opT_load_h rfl (by assumption)) rfl rfl rfl ?_ | refine dp_q_yes rfl rfl rfl (opT_load_own rfl rfl) rfl rfl rfl ?_
            first | refine dp_q_yes rfl rfl rfl (opT_pick_t rfl rfl) rfl rfl rfl ?_ | refine dp_q_yes rfl rfl rfl (opT_pick_f rfl rfl) rfl rfl rfl ?_
            first | refine dp_p rfl (fun _ _ => opT_pick_t rfl rfl) rfl rfl rfl ?_ | refine dp_p rfl (fun _ _ => opT_pick_f rfl rfl) rfl rfl rfl ?_
            refine dp_p rfl (fun _ _ => opT_assign rfl) rfl rfl rfl <| dp_done0 <| en_blk <| en_then <| en_region <| en_det (opT_move rfl) rfl <| en_det (opT_add rfl rfl (by constructor <;> omega)) rfl <| en_det (opT_assign rfl) rfl <| en_nil <| en_then <| ?_
            exact en_again (m + 1) (by omega) (by omega) ⟨rfl, rfl, rfl, rfl, rfl, rfl, gb rfl (by rw [hstep]; rfl), gi rfl (by simp), trivial⟩ (.refl _) inferInstance
    · skip
      obtain rfl : m = 5 := by omega
      rw [anyK_five]
      have cF := forceR_ct h tv (.slice (some ⟨hb, hoff, none⟩) b.nh hcp) b.hand b.nh hd t hH0 hhn (ok hd hhn) ht
      have hfd := forceD_bound (ok hd hhn) t
      have eF : forceB b t hd = forceD (b.hand hd) t := rfl
      rw [eF] at hnext
      refine en_exit <| en_then_exit <| en_then_exit <| en_blk_hit <| en_then <| en_seq <| en_region <| en_det (opT_move rfl) rfl <| en_nil <| en_then <| ?_
      cases hA : anyT (takesB b hd) s with
      | true =>
        rw [hA, if_pos rfl] at hnext
        skip
        refine en_cond_t rfl <| en_draw0 [0, 1, 2, 3, 4, 5, 6, 7, 8, 9] (by kernel_rfl) (by decide +kernel) (by decide +kernel) (by decide) <| dp_p rfl (fun _ _ => opT_move rfl) rfl rfl rfl <| dp_q rfl (opT_loadW_own rfl rfl) rfl rfl rfl <| dp_p rfl (fun _ _ => opT_move rfl) rfl rfl rfl <| dp_p rfl (fun _ _ => opT_move rfl) rfl rfl rfl <| ?_
        first | refine dp_p rfl (fun _ _ => opT_idx1 rfl rfl (by omega) (by omega)) rfl rfl rfl ?_ | refine dp_p rfl (fun _ _ => opT_idx (ks := 0) rfl rfl (by omega) (by omega)) rfl rfl rfl ?_
        first | refine dp_q rfl (opT_load_h rfl (by assumption)) rfl rfl rfl ?_ | refine dp_q rfl (opT_load_own rfl rfl) rfl rfl rfl ?_
        refine dp_p rfl (fun _ _ => opT_move rfl) rfl rfl rfl <| dp_ed0 rfl (opT_callw (cF) rfl rfl rfl) rfl rfl rfl rfl <| dp_p rfl (fun _ _ => opT_add rfl rfl (by constructor <;> omega)) rfl rfl rfl <| dp_p rfl (fun _ _ => opT_assign rfl) rfl rfl rfl <| dp_done0 <| en_blk <| en_then <| en_region <| en_det (opT_move rfl) rfl <| en_det (opT_add rfl rfl (by constructor <;> omega)) rfl <| en_det (opT_assign rfl) rfl <| en_nil <| en_then <| ?_
        exact en_again (i + 1) (by omega) (by omega) ⟨rfl, rfl, rfl, rfl, gi rfl hnext.symm, gi rfl (by simp), trivial⟩ (.refl _) inferInstance
      | false =>
        rw [hA, if_neg (by simp), Int.add_zero] at hnext
        refine en_cond_f rfl <| en_skip <| en_blk <| en_then <| en_region <| en_det (opT_move rfl) rfl <| en_det (opT_add rfl rfl (by constructor <;> omega)) rfl <| en_det (opT_assign rfl) rfl <| en_nil <| en_then <| ?_
        exact en_again (i + 1) (by omega) (by omega) ⟨rfl, rfl, rfl, rfl, gi rfl hnext.symm, gi rfl (by simp), trivial⟩ (.refl _) inferInstance
  · skip
    obtain rfl : i = hands.length := by omega
    rw [List.take_length]
    refine en_exit <| en_then_exit <| en_then_exit <| en_blk_hit <| en_then <| en_seq <| en_region <| en_det (opT_move rfl) rfl <| en_det (opT_assign rfl) rfl <| en_nil <| en_then <| en_ret <| ?_
    refine en_return (rs := [.tmp 8]) rfl (.cons (.tmp rfl) .nil) (.refl _) (Γ1 := []) ⟨rfl, rfl⟩
theorem boundsR_ct (h : Heap) (xv hv : Value) (b : BeltD) (t s : Nat) (hX : IsBelt h (.agg #[xv, hv]) b) (hk : BOK b) (ht : t < b.nt) (hs : s < 32) :
    CT Try.prog 54 [.agg #[xv, hv], .int .i64 t, .int .i64 s] h [] (DetW (.int .i64 (cutB b t s)) []) := by
  obtain ⟨hT, hH⟩ := belt_parts hX
  have hT0 := hT
  have hn8 := hk.n8
  have hh5 := hk.h5
  obtain ⟨_, tad, tcp, rfl, tm1, tc1, tp1⟩ := hT
  obtain ⟨tq, toff, rfl, tcells⟩ := tp1 (by omega)
  have hbb := behind_bound hk t s
  rw [beh_eq, ← behS_all] at hbb
  refine ct_intro Try.func54 rfl rfl rfl rfl fun Φ => ?_
  refine en_seq <| en_region <| en_box rfl rfl rfl fun b3 => en_det (opT_assign rfl) rfl <| en_nil <| en_then <| en_seq <| en_draw0 [0, 1, 3, 4, 2, 5, 6] (by kernel_rfl) (by decide +kernel) (by decide +kernel) (by decide) <| dp_q rfl (opT_loadW_own rfl rfl) rfl rfl rfl <| dp_q rfl (opT_loadW_own rfl rfl) rfl rfl rfl <| dp_p rfl (fun _ _ => opT_move rfl) rfl rfl rfl <| dp_p rfl (fun _ _ => opT_move rfl) rfl rfl rfl <| ?_
  refine dp_callq (handsR_ct h _ hv b.hand b.nh hH (by omega)) rfl rfl rfl rfl rfl rfl rfl fun vh h1 s1 hho => ?_
  refine dp_ed0 rfl (opT_callw (behindR_ct h1 (.slice (some ⟨tq, toff, none⟩) b.nt tcp) hv vh b (allH b) t s (hH.mono s1) hk.ok (allH_lt b) (by rw [allH_len]; omega) hho (by omega) hs) rfl rfl rfl) rfl rfl rfl rfl ?_
  refine dp_p rfl (fun _ _ => opT_assign rfl) rfl rfl rfl <| dp_done0 <| en_then <| en_seq <| en_seq <| en_region <| en_det (opT_assign rfl) rfl <| en_nil <| en_then <| en_block <| ?_
  have e0 : behS b (allH b) t s = bdK b t s 0 := by simp [bdK, sumN]
  rw [e0]
  refine en_loop (fun k : Nat => k ≤ 5) (fun k => [(1, .int .i64 t), (2, .int .i64 s), (3, pt b3), (7, .int .i64 (bdK b t s k)), (8, .int .i64 k)]) (fun _ => h1) (fun _ => [box b3 59 [.slice (some ⟨tq, toff, none⟩) b.nt tcp, hv]]) (fun k => 5 - k) 0 (by omega) ⟨rfl, rfl, rfl, rfl, rfl, trivial⟩ (.refl _) inferInstance fun k hk' => ?_
  refine en_seq <| en_seq <| en_region <| en_det (opT_move rfl) rfl <| ?_
  first | refine en_det (opT_lss_t rfl rfl (by omega)) rfl ?_ | refine en_det (opT_lss_f rfl rfl (by omega)) rfl ?_ | refine en_det (opT_lss rfl rfl) rfl ?_
  refine en_nil <| en_then <| ?_
  refine en_if rfl (fun hlt => ?_) (fun hlt => ?_)
  · skip
    have hk5 : k < 5 := by omega
    have hcell : cellH h1 tq (toff + t * 5 + k) = some (.int .i64 (b.tray t k)) := cellH_sub s1 (tcells.cell ht hk5)
    have htr := hk.tr t k ht hk5
    have cH := has_ct h1 s k hs (by omega)
    have hsb := sumN_bound (n := k) (f := fun m => if s.testBit m = true then 0 else b.tray t m) (B := 60) fun m hm => by
      have := hk.tr t m ht (by omega)
      split <;> omega
    have hbd : 0 ≤ bdK b t s k ∧ bdK b t s k ≤ 1000 := by unfold bdK; omega
    have hnext : bdK b t s (k + 1) = bdK b t s k + (if s.testBit k = true then 0 else b.tray t k) := by unfold bdK; simp only [sumN]; omega
    generalize bdK b t s k = N at hnext hbd ⊢
    skip
    cases hB : s.testBit k with
    | true =>
      rw [hB] at cH
      rw [hB, if_pos rfl, Int.add_zero] at hnext
      refine en_skip <| en_then <| en_seq <| en_block <| en_seq <| en_region <| en_det (opT_move rfl) rfl <| en_det (opT_move rfl) rfl <| en_calld (cH) rfl rfl rfl rfl <| ?_
      first | refine en_det (opT_not_t rfl) rfl ?_ | refine en_det (opT_not_f rfl) rfl ?_ | refine en_det (opT_not rfl) rfl ?_
      refine en_nil <| en_then <| en_cond_f rfl <| en_skip <| en_blk <| en_then <| en_region <| en_det (opT_move rfl) rfl <| en_det (opT_add rfl rfl (by constructor <;> omega)) rfl <| en_det (opT_assign rfl) rfl <| en_nil <| en_then <| ?_
      exact en_again (k + 1) (by omega) (by omega) ⟨rfl, rfl, rfl, gi rfl hnext.symm, gi rfl (by simp), trivial⟩ (.refl _) inferInstance
    | false =>
      rw [hB] at cH
      rw [hB, if_neg (by simp)] at hnext
      refine en_skip <| en_then <| en_seq <| en_block <| en_seq <| en_region <| en_det (opT_move rfl) rfl <| en_det (opT_move rfl) rfl <| en_calld (cH) rfl rfl rfl rfl <| ?_
      first | refine en_det (opT_not_t rfl) rfl ?_ | refine en_det (opT_not_f rfl) rfl ?_ | refine en_det (opT_not rfl) rfl ?_
      refine en_nil <| en_then <| en_cond_t rfl <| en_region <| en_det (opT_move rfl) rfl <| en_det (opT_fieldAddr rfl) rfl <| en_det (opT_load_own rfl rfl) rfl <| en_det (opT_move rfl) rfl <| en_det (opT_move rfl) rfl <| ?_
      first | refine en_det (opT_idx1 rfl rfl (by omega) (by omega)) rfl ?_ | refine en_det (opT_idx (ks := 0) rfl rfl (by omega) (by omega)) rfl ?_
      refine en_det (opT_idxArr rfl rfl (by omega) (by omega)) rfl <| ?_
      first | refine en_det (opT_load_h rfl (by assumption)) rfl ?_ | refine en_det (opT_load_own rfl rfl) rfl ?_
      refine en_det (opT_add rfl rfl (by constructor <;> omega)) rfl <| en_det (opT_assign rfl) rfl <| en_nil <| en_blk <| en_then <| en_region <| en_det (opT_move rfl) rfl <| en_det (opT_add rfl rfl (by constructor <;> omega)) rfl <| en_det (opT_assign rfl) rfl <| en_nil <| en_then <| ?_
      exact en_again (k + 1) (by omega) (by omega) ⟨rfl, rfl, rfl, gi rfl hnext.symm, gi rfl (by simp), trivial⟩ (.refl _) inferInstance
  · skip
    obtain rfl : k = 5 := by omega
    rw [bdK_five]
    refine en_exit <| en_then_exit <| en_then_exit <| en_blk_hit <| en_then <| en_seq <| en_region <| en_det (opT_move rfl) rfl <| en_det (opT_assign rfl) rfl <| en_nil <| en_then <| en_ret <| ?_
    refine en_return (rs := [.tmp 6]) rfl (.cons (.tmp rfl) .nil) s1 (Γ1 := []) ⟨rfl, rfl⟩
theorem mostR_ct (h : Heap) (xv hv : Value) (b : BeltD) (t : Nat) (hX : IsBelt h (.agg #[xv, hv]) b) (hk : BOK b) (ht : t < b.nt) :
    CT Try.prog 55 [.agg #[xv, hv], .int .i64 t] h [] (DetW (.int .i64 (mostT b t)) []) := by
  obtain ⟨hT, hH⟩ := belt_parts hX
  have hX0 := hX
  obtain ⟨_, tad, tcp, rfl, tm1, tc1, tp1⟩ := hT
  obtain ⟨tq, toff, rfl, tcells⟩ := tp1 (by omega)
  have hrow : CellsH h tq (toff + t * 5) (trayL (b.tray t)) := tcells.row ht
  have cS := sumR_ct h (b.tray t) fun m hm => by have := hk.tr t m ht hm; omega
  refine ct_intro Try.func55 rfl rfl rfl rfl fun Φ => ?_
  refine en_seq <| en_region <| en_box rfl rfl rfl fun b2 => en_det (opT_assign rfl) rfl <| en_nil <| en_then <| en_seq <| en_region <| en_det (opT_fieldAddr rfl) rfl <| en_det (opT_load_own rfl rfl) rfl <| en_det (opT_move rfl) rfl <| ?_
  first | refine en_det (opT_idx1 rfl rfl (by omega) (by omega)) rfl ?_ | refine en_det (opT_idx (ks := 0) rfl rfl (by omega) (by omega)) rfl ?_
  refine en_det (opT_loadA_h rfl hrow (row_length _ _)) rfl <| en_calld (cS) rfl rfl rfl rfl <| en_det (opT_assign rfl) rfl <| en_nil <| en_then <| en_seq <| en_seq <| en_region <| en_det (opT_assign rfl) rfl <| en_nil <| en_then <| en_block <| ?_
  refine en_loop (fun k : Nat => k ≤ 32) (fun k => [(1, .int .i64 t), (2, pt b2), (5, .int .i64 (minK b t k)), (6, .int .i64 k)]) (fun _ => h) (fun _ => [box b2 59 [.slice (some ⟨tq, toff, none⟩) b.nt tcp, hv]]) (fun k => 32 - k) 0 (by omega) ⟨rfl, rfl, rfl, rfl, trivial⟩ (.refl _) (tkAll _) fun k hk' => ?_
  refine en_seq <| en_seq <| en_region <| en_det (opT_move rfl) rfl <| ?_
  first | refine en_det (opT_lss_t rfl rfl (by omega)) rfl ?_ | refine en_det (opT_lss_f rfl rfl (by omega)) rfl ?_ | refine en_det (opT_lss rfl rfl) rfl ?_
  refine en_nil <| en_then <| ?_
  refine en_if rfl (fun hlt => ?_) (fun hlt => ?_)
  · skip
    have cB := boundsR_ct h _ hv b t k hX0 hk ht (by omega)
    refine en_skip <| en_then <| en_seq <| en_block <| en_region <| en_det (opT_move rfl) rfl <| en_det (opT_loadW_own rfl rfl) rfl <| en_det (opT_move rfl) rfl <| en_det (opT_move rfl) rfl <| en_calld (cB) rfl rfl rfl rfl <| en_det (opT_min2 rfl rfl) rfl <| en_det (opT_assign rfl) rfl <| en_nil <| en_blk <| en_then <| en_region <| en_det (opT_move rfl) rfl <| en_det (opT_add rfl rfl (by constructor <;> omega)) rfl <| en_det (opT_assign rfl) rfl <| en_nil <| en_then <| ?_
    exact en_again (k + 1) (by omega) (by omega) ⟨rfl, rfl, rfl, gi rfl (by simp), trivial⟩ (.refl _) inferInstance
  · skip
    obtain rfl : k = 32 := by omega
    rw [minK_most hk ht]
    refine en_exit <| en_then_exit <| en_then_exit <| en_blk_hit <| en_then <| en_seq <| en_region <| en_det (opT_move rfl) rfl <| en_det (opT_assign rfl) rfl <| en_nil <| en_then <| en_ret <| ?_
    refine en_return (rs := [.tmp 4]) rfl (.cons (.tmp rfl) .nil) (.refl _) (Γ1 := []) ⟨rfl, rfl⟩
end Go.Sx

/- The reference: sharings. -/
namespace Go.Sx
open Go.Proofs
set_option maxRecDepth 100000
theorem shV_rows (b : BeltD) (X : Nat → Nat → Int) : sumN b.nh (fun h => sum5 (X h)) = shV b X := by unfold shV sum5 tot; rw [sumN_swap]
def shR (b : BeltD) (t : Nat) (X : Nat → Nat → Int) : Int := if shOK b t X = true then shV b X else -1
theorem shR_hand {b : BeltD} {t h : Nat} {X : Nat → Nat → Int} (hh : h < b.nh) (e : shH b t X h = false) : shR b t X = -1 := by
  unfold shR shOK; rw [allI_false hh e]; simp
theorem shH_m {b : BeltD} {t h m : Nat} {X : Nat → Nat → Int} (hm : m < 5) (e : shM b X h m = false) : shH b t X h = false := by
  unfold shH; rw [allI_false hm e]; rfl
attribute [local irreducible] Code.wpIn wpListIn Exit.then Exit.inBlock BQ Again Hd St En OpT box blk RQ BQ0 fmap own Desk Chute
end Go.Sx

/- Effects of a drawn region that are not ordered: each that is ready may be the next. -/
namespace Go.Sx
section
variable {l : List Oper} {P : Program} {n : Nat} {rd : Option Nat} {Q : Exit → Act → World → Prop} {Φ : Fr}
def Alt (l : List Oper) (P : Program) (n : Nat) (rd : Option Nat) (Q : Exit → Act → World → Prop) (Φ : Fr) (td np : List Nat) (σ : Env) (h0 hc : Heap) (Γx : List HP) (e : Nat) : Prop :=
  ∃ (d : Option Nat) (op : Op) (ty : TypeId) (pos : String) (af : Array Edge) (C : Value → Heap → List HP → Prop), l[e]? = some ⟨d, op, ty, pos, af, none⟩ ∧ tame op = true ∧ OpT P n ⟨d, op, ty, pos, af, none⟩ σ hc Γx C ∧
    ∀ v h' Γ', hc.sub h' → C v h' Γ' → DP l P n rd Q Φ (td.erase e) np (consO d v σ) h0 [] h' Γ'
theorem alt_op {td np r : List Nat} {σ : Env} {h0 hc : Heap} {Γx : List HP} {e : Nat} {d : Option Nat} {op : Op} {ty : TypeId} {pos : String} {af : Array Edge} {C : Value → Heap → List HP → Prop}
    (ho : l[e]? = some ⟨d, op, ty, pos, af, none⟩) (t : OpT P n ⟨d, op, ty, pos, af, none⟩ σ hc Γx C) (hs : tame op = true) (hr : td.erase e = r)
    (H : ∀ v h' Γ', hc.sub h' → C v h' Γ' → DP l P n rd Q Φ r np (consO d v σ) h0 [] h' Γ') : Alt l P n rd Q Φ td np σ h0 hc Γx e :=
  ⟨d, op, ty, pos, af, C, ho, hs, t, by rw [hr]; exact H⟩
def AltAll (p : Nat → Prop) : List Nat → Prop
  | [] => True
  | e :: r => p e ∧ AltAll p r
theorem AltAll.mem {p : Nat → Prop} : ∀ {es : List Nat}, AltAll p es → ∀ e ∈ es, p e
  | _ :: _, ⟨a, b⟩, e, he => by
    rcases List.mem_cons.1 he with rfl | he
    · exact a
    · exact b.mem e he
theorem dp_alts {td np : List Nat} {σ : Env} {h0 hc : Heap} {Γx : List HP} (es : List Nat) (hσ : (σ.all fun p => Nat.blt p.1 n) = true) (htd : td ≠ []) (hc1 : (td.all fun k => es.contains k || td.any fun m => dirB l k m) = true) (hc2 : (es.all fun e => td.all fun k => !dirB l e k) = true)
    (H : AltAll (Alt l P n rd Q Φ td np σ h0 hc Γx) es) : DP l P n rd Q Φ td np σ h0 [] hc Γx := by
  have key : ∀ e, ∃ C : Value → Heap → List HP → Prop, e ∈ es → EffAt l P n rd Q e σ hc ([] ++ Γx) C ∧ ∀ v h' Γ', hc.sub h' → C v h' Γ' → DP l P n rd Q Φ (td.erase e) np (consO (dstOf l e) v σ) h0 [] h' Γ' := fun e => by
    by_cases he : e ∈ es
    · obtain ⟨d, op, ty, pos, af, C, ho, hs, t, hk⟩ := H.mem e he
      have hd : dstOf l e = d := by simp [dstOf, ho]
      exact ⟨C, fun _ => ⟨eff_of ho hs hσ t, by rw [hd]; exact hk⟩⟩
    · exact ⟨fun _ _ _ => True, fun h => absurd h he⟩
  refine .eff es htd hc1 hc2 (fun e => (key e).choose) (fun _ _ _ Γ' => Γ') (fun e he => ((key e).choose_spec he).1) (fun _ _ _ _ _ _ _ => .refl _) (fun e v h' Γ' he hs hC => ((key e).choose_spec he).2 v h' Γ' hs hC)
theorem dp_effE {e : Nat} {rest np : List Nat} {σ : Env} {h0 hc : Heap} {Γ0 Γx : List HP} {d : Option Nat} {C : Value → Heap → List HP → Prop} (hd : dstOf l e = d)
    (t : EffAt l P n rd Q e σ hc (Γ0 ++ Γx) C)
    (ho1 : (rest.all fun k => (e :: rest).any fun m => dirB l k m) = true) (ho2 : ((e :: rest).all fun k => !dirB l e k) = true)
    (H : ∀ v h' Γ', hc.sub h' → C v h' Γ' → ∃ Γx', Γ'.Perm (Γ0 ++ Γx') ∧ DP l P n rd Q Φ rest np (consO d v σ) h0 Γ0 h' Γx') : DP l P n rd Q Φ (e :: rest) np σ h0 Γ0 hc Γx := by
  classical
  refine .eff [e] (by simp) ?_ (by simpa using ho2) (fun _ => C) (fun _ v h' Γ' => if hx : hc.sub h' ∧ C v h' Γ' then Classical.choose (H v h' Γ' hx.1 hx.2) else []) (fun e' he' => ?_) (fun e' v h' Γ' he' hs hc' => ?_) (fun e' v h' Γ' he' hs hc' => ?_)
  · refine List.all_eq_true.2 fun k hk => ?_
    rcases List.mem_cons.1 hk with rfl | hk
    · simp
    · have := List.all_eq_true.1 ho1 k hk
      rw [this]; simp
  · simp only [List.mem_singleton] at he'; subst he'
    exact t
  · rw [dif_pos ⟨hs, hc'⟩]; exact (Classical.choose_spec (H v h' Γ' hs hc')).1
  · simp only [List.mem_singleton] at he'; subst he'
    rw [dif_pos ⟨hs, hc'⟩]
    rw [hd]
    have her : (e' :: rest).erase e' = rest := by simp
    rw [her]; exact (Classical.choose_spec (H v h' Γ' hs hc')).2
/-- A guarded call whose guard says yes, and what it returns is not known. -/
theorem dp_callq_yes {e : Nat} {rest np : List Nat} {σ : Env} {h0 hc : Heap} {Γ0 Γ1 Δ : List HP} {d : Option Nat} {g : Operand} {xs : Array Operand} {ts : Array TypeId} {ty : TypeId} {pos : String} {af : Array Edge} {f : FuncId} {first cap : Array Value} {vs args : List Value} {p : Value → Heap → Prop} {j tj : Nat} {want : Bool}
    (c : CT P f args hc Γ1 (fun v h' Γ' => p v h' ∧ Γ' = Γ1)) (ho : l[e]? = some ⟨d, .call { callee := .value g, args := xs, argTypes := ts }, ty, pos, af, some (j, want)⟩) (hj : dstOf l j = some tj) (hv : σ.get tj = some (.bool want))
    (hg : σ.ev g = some (.func (.func f) first cap)) (hx : σ.evs xs.toList = some vs) (ha : first.toList ++ vs ++ cap.toList = args) [t : Tk Γ0 Γ1 Δ] (hσ : (σ.all fun p => Nat.blt p.1 n) = true)
    (ho1 : (rest.all fun k => (e :: rest).any fun m => dirB l k m) = true) (ho2 : ((e :: rest).all fun k => !dirB l e k) = true)
    (H : ∀ v h', hc.sub h' → p v h' → DP l P n rd Q Φ rest np (consO d v σ) h0 Γ0 h' []) : DP l P n rd Q Φ (e :: rest) np σ h0 Γ0 hc [] := by
  have hd : dstOf l e = d := by simp [dstOf, ho]
  have te : EffAt l P n rd Q e σ hc (Γ0 ++ []) (fun v h' Γ' => ∃ Γ2, (p v h' ∧ Γ2 = Γ1) ∧ Γ' = Γ2 ++ Δ) := by rw [List.append_nil]; exact eff_of_yes ho hj hv rfl hσ (opT_call hg hx ha c)
  refine dp_effE hd te ho1 ho2 fun v h' Γ' hs hC => ?_
  obtain ⟨Γ2, ⟨hp, e1⟩, e2⟩ := hC
  subst e1 e2
  exact ⟨[], by rw [List.append_nil]; exact t.perm.symm, H v h' hs hp⟩
end
end Go.Sx

/- The law BeltRule: the walk. -/
namespace Go.Sx
open Go.Proofs
set_option maxRecDepth 100000
theorem belt_one {h : Heap} {tv hv : Value} {b : BeltD} (hb : IsBelt h (.agg #[tv, hv]) b) : ∀ q ∈ [tv, hv], q.oneCell' = true := by
  obtain ⟨⟨_, ad, cp, rfl, _⟩, ⟨rv, ⟨_, ad2, cp2, rfl, _⟩, _⟩⟩ := belt_parts hb
  simp [Value.oneCell']
theorem RunR.un {b : BeltD} {n : Nat} {T : Nat → Nat → Int} {v : Value} {h' : Heap} {Γ' : List HP} (r : RunR b n T v h' Γ') : Γ' = [] ∧ ∃ lv, v = .tuple #[lv, .int .i64 (checkD b)] ∧ (checkD b = 0 → IsTrays h' lv n T) ∧ (checkD b ≠ 0 → lv = nilS) := by
  obtain ⟨e, ⟨hz, lv, rfl, hl⟩ | ⟨hz, rfl⟩⟩ := r
  · exact ⟨e, lv, by rw [hz], fun _ => hl, fun h => absurd hz h⟩
  · exact ⟨e, _, rfl, fun h => absurd h hz, fun _ => rfl⟩
theorem WrongR.un {b : BeltD} {v : Value} {h' : Heap} {Γ' : List HP} (r : WrongR b v h' Γ') : Γ' = [] ∧ ∃ lv, v = .tuple #[lv, .int .i64 (checkD b)] ∧ (checkD b = 0 → IsInts h' lv (wrongL b)) ∧ (checkD b ≠ 0 → lv = nilS) := by
  obtain ⟨e, ⟨hz, lv, rfl, hl⟩ | ⟨hz, rfl⟩⟩ := r
  · exact ⟨e, lv, by rw [hz], fun _ => hl, fun h => absurd hz h⟩
  · exact ⟨e, _, rfl, fun h => absurd h hz, fun _ => rfl⟩
attribute [local irreducible] Code.wpIn wpListIn Exit.then Exit.inBlock BQ Again Hd St En OpT box blk RQ BQ0 fmap own Desk Chute
end Go.Sx

/- The law BeltShares: the walk. -/
namespace Go.Sx
open Go.Proofs
set_option maxRecDepth 100000
theorem copyT_ct (h : Heap) (v : Value) (n : Nat) (X : Nat → Nat → Int) (hv : IsTrays h v n X) (hn : n ≤ 1000) : CT Try.prog 60 [v] h [] (fun v' h' Γ' => IsTrays h' v' n X ∧ Γ' = []) := by
  have c := copy60_ct h v n _ hv (one_ints _ _ _) hn
  refine ⟨c.enters, fun Φ w s => (c.run Φ w s).mono fun e w' ⟨v', h', Γ', he, hsub, ⟨ad, cp, hv, hΓ⟩, s'⟩ => ?_⟩
  subst hv hΓ
  obtain ⟨h2, s2, hsl2, st2⟩ := s'.freeze_own
  exact ⟨_, h2, [], he, hsub.trans s2, ⟨hsl2, rfl⟩, st2⟩
theorem MostR.un {b : BeltD} {v : Value} {h' : Heap} {Γ' : List HP} (r : MostR b v h' Γ') : Γ' = [] ∧ ∃ lv mn, v = .tuple #[lv, .int .i64 mn, .int .i64 (checkD b)] ∧ (checkD b = 0 → IsInts h' lv (mostL b) ∧ mn = mostA b) ∧ (checkD b ≠ 0 → lv = nilS ∧ mn = 0) := by
  obtain ⟨e, ⟨hz, lv, rfl, hl⟩ | ⟨hz, rfl⟩⟩ := r
  · exact ⟨e, lv, _, by rw [hz], fun _ => ⟨hl, rfl⟩, fun h => absurd hz h⟩
  · exact ⟨e, _, _, rfl, fun h => absurd h hz, fun _ => ⟨rfl, rfl⟩⟩
theorem ShareR2.un {b : BeltD} {tray : Int} {v : Value} {h' : Heap} {Γ' : List HP} (r : ShareR2 b tray v h' Γ') : Γ' = [] ∧ ∃ sv, v = .tuple #[sv, .int .i64 (atD b tray)] ∧ (atD b tray = 0 → IsTrays h' sv b.nh (shB b wholeD tray.toNat (allH b)).1) ∧ (atD b tray ≠ 0 → sv = nilS) := by
  obtain ⟨e, ⟨hz, lv, rfl, hl⟩ | ⟨hz, rfl⟩⟩ := r
  · exact ⟨e, lv, by rw [hz], fun _ => hl, fun h => absurd hz h⟩
  · exact ⟨e, _, rfl, fun h => absurd h hz, fun _ => rfl⟩
theorem IsInts.fn {h : Heap} {v : Value} {l : List Int} (x : IsInts h v l) {n : Nat} (hn : l.length = n) (f : Nat → Int) (hf : ∀ i (hi : i < l.length), l[i] = f i) :
    ∃ ad cp, v = .slice ad n cp ∧ n ≤ cp ∧ cp ≤ 9223372036854775807 ∧ (0 < n → ∃ b off, ad = some ⟨b, off, none⟩ ∧ ∀ i, i < n → cellH h b (off + i) = some (.int .i64 (f i))) := by
  obtain ⟨ad, cp, rfl, h1, h2, h3⟩ := x.shape
  subst hn
  refine ⟨ad, cp, rfl, h1, h2, fun h0 => ?_⟩
  obtain ⟨b, off, e, hc⟩ := h3 h0
  exact ⟨b, off, e, fun i hi => by rw [hc i hi, hf i hi]⟩
theorem shOK_nn {b : BeltD} {t : Nat} {X : Nat → Nat → Int} (h : shOK b t X = true) : 0 ≤ shV b X := by
  rw [← shV_rows]
  refine sumN_nn fun i hi => ?_
  unfold shOK at h
  simp only [Bool.and_eq_true] at h
  have h1 := allI_iff.1 h.1 i hi
  unfold shH at h1
  simp only [Bool.and_eq_true] at h1
  exact sumN_nn fun m hm => (shM_rng (allI_iff.1 h1.1 m hm)).1
theorem at_zero {b : BeltD} {z : Int} (h : atD b z = 0) : checkD b = 0 ∧ inD z 0 (b.nt - 1) = true := by
  unfold atD at h
  by_cases hz : checkD b = 0
  · rw [if_pos hz] at h
    refine ⟨hz, ?_⟩
    by_cases hi : inD z 0 (b.nt - 1) = true
    · exact hi
    · rw [if_neg hi] at h; omega
  · rw [if_neg hz] at h; exact absurd h hz
attribute [local irreducible] Code.wpIn wpListIn Exit.then Exit.inBlock BQ Again Hd St En OpT box blk RQ BQ0 fmap own Desk Chute
end Go.Sx

/- The reference: what is needed, trays that cannot be kept clean, lists of materials. -/
namespace Go.Sx
open Go.Proofs
set_option maxRecDepth 100000
theorem copyM_ct (h : Heap) (v : Value) (l : List Int) (hv : IsInts h v l) (hn : l.length ≤ 1000) : CT Try.prog 44 [v] h [] (fun v' h' Γ' => IsInts h' v' l ∧ Γ' = []) := by
  have c := copy44_ct h v l.length _ hv (by simp [Value.oneCell']) hn
  refine ⟨c.enters, fun Φ w s => (c.run Φ w s).mono fun e w' ⟨v', h', Γ', he, hsub, ⟨ad, cp, hv, hΓ⟩, s'⟩ => ?_⟩
  subst hv hΓ
  obtain ⟨h2, s2, hsl2, st2⟩ := s'.freeze_own
  exact ⟨_, h2, [], he, hsub.trans s2, ⟨hsl2, rfl⟩, st2⟩
theorem behS_eq {b : BeltD} {l : List Nat} (hn : l.Nodup) (hl : ∀ x ∈ l, x < b.nh) (t s : Nat) : behS b l t s = behL b.nh (takesB b) (forceB b t) l s := (behL_sum hn hl s).symm
theorem dirty_has {b : BeltD} (hk : BOK b) {left : Nat → Int} {l : List Nat} (hn : l.Nodup) (hl : ∀ x ∈ l, x < b.nh) {t : Nat} : dirtyB b (keptD left) l t = true ↔ ∃ s, s < 32 ∧ behS b l t s < inS s (keptD left (b.tray t)) := by
  constructor
  · intro hd
    refine ⟨heldB b (keptD left) t l, heldB_lt _ _ _ _, ?_⟩
    rw [behS_eq hn hl]
    have h1 := held_by (takes := takesB b) hk.h5 hl (force_nn hk t) (fun m => (keptD left (b.tray t) m).toNat)
    rw [kept_cast] at h1
    have e1 : shareS (takesB b) (forceB b t) l (fun m => (keptD left (b.tray t) m).toNat) 5 = shB b (keptD left) t l := rfl
    rw [e1] at h1
    have h3 : ∃ m, m < 5 ∧ 0 < (shB b (keptD left) t l).2 m := by
      unfold dirtyB at hd
      rw [Bool.not_eq_true', ← Bool.not_eq_true, allI_iff] at hd
      by_cases hx : ∃ m, m < 5 ∧ 0 < (shB b (keptD left) t l).2 m
      · exact hx
      · exfalso; apply hd; intro m hm
        have : ¬ 0 < (shB b (keptD left) t l).2 m := fun h => hx ⟨m, hm, h⟩
        simp; omega
    obtain ⟨m, hm, hp⟩ := h3
    have h4 := sumN_one (n := 5) (f := fun m => ((shB b (keptD left) t l).2 m : Int)) (fun i _ => by simp) hm
    have h5 : heldB b (keptD left) t l = heldD (takesB b) (shB b (keptD left) t l).1 l (shB b (keptD left) t l).2 := rfl
    rw [h5]
    unfold sum5 at h1
    omega
  · rintro ⟨s, _, hs⟩
    rw [behS_eq hn hl] at hs
    cases hd : dirtyB b (keptD left) l t with
    | true => rfl
    | false => have := (dirty_iff hk hl t).1 hd s; omega
def dirtyR (b : BeltD) (left : Nat → Int) (l : List Nat) : Int := if firstB b (keptD left) l = b.nt then -1 else (firstB b (keptD left) l : Int)
def needK (b : BeltD) (left : Nat → Int) (t s k : Nat) : Int := sumN k fun m => if s.testBit m = true then keptD left (b.tray t) m else 0
theorem needK_five (b : BeltD) (left : Nat → Int) (t s : Nat) : needK b left t s 5 = inS s (keptD left (b.tray t)) := rfl
theorem bits_next {l : List Int} {i : Nat} (hi : i < l.length) : bitsOf (l.take (i + 1)) = bitsOf (l.take i) ||| (1 <<< l[i].toNat) := by
  rw [List.take_succ_eq_append_getElem hi, bitsOf_append]
theorem or_pow {s k : Nat} (h : s < 2 ^ k) : s ||| (1 <<< k) = s + 2 ^ k ∧ s + 2 ^ k < 2 ^ (k + 1) := by
  have e := Nat.two_pow_add_eq_or_of_lt h 1
  rw [Nat.one_shiftLeft, Nat.or_comm]
  rw [Nat.mul_one] at e
  rw [← e]
  have : 2 ^ (k + 1) = 2 ^ k + 2 ^ k := by rw [Nat.pow_succ]; omega
  omega
attribute [local irreducible] Code.wpIn wpListIn Exit.then Exit.inBlock BQ Again Hd St En OpT box blk RQ BQ0 fmap own Desk Chute
theorem numbers_ct (h : Heap) (v : Value) (l : List Int) (hv : IsInts h v l) (hn : l.length ≤ 1000) : CT Try.prog 50 [v] h [] (fun v' h' Γ' => IsInts h' v' l ∧ Γ' = []) := by
  obtain ⟨ad, cp, rfl, hl, hc, hp⟩ := hv.shape
  refine ct_intro Try.func50 rfl rfl rfl rfl fun Φ => ?_
  refine en_seq <| en_region <| en_det (opT_assign rfl) rfl <| en_nil <| en_then <| en_seq <| en_region <| en_det (opT_assign rfl) rfl <| en_nil <| en_then <| en_seq <| en_seq <| en_region <| en_det (opT_move rfl) rfl <| en_det (opT_len rfl) rfl <| en_det (opT_move rfl) rfl <| en_nil <| en_then <| en_block <| ?_
  refine en_own_nil 3 1 ?_
  refine en_loop (fun x : Nat × Value => x.1 ≤ l.length) (fun x => [(3, x.2), (6, .slice ad l.length cp), (7, .int .i64 l.length), (8, .int .i64 x.1)]) (fun _ => h) (fun x => [own 3 1 x.2 x.1 ((l.take x.1).map (Value.int .i64))]) (fun x => l.length - x.1) (0, .slice none 0 0) (by simp) ⟨rfl, rfl, rfl, rfl, trivial⟩ (.refl _) (tkAll _) fun x hk => ?_
  obtain ⟨k, v⟩ := x
  change En _ _ _ [(3, v), (6, .slice ad l.length cp), (7, .int .i64 l.length), (8, .int .i64 k)] h [own 3 1 v k ((l.take k).map (Value.int .i64))]
  simp only at hk
  refine en_seq <| en_region <| ?_
  first | refine en_det (opT_lss_t rfl rfl (by omega)) rfl ?_ | refine en_det (opT_lss_f rfl rfl (by omega)) rfl ?_ | refine en_det (opT_lss rfl rfl) rfl ?_
  refine en_nil <| en_then <| en_seq <| ?_
  refine en_if rfl (fun hlt => ?_) (fun hlt => ?_)
  · skip
    have hkl : k < l.length := by omega
    obtain ⟨q, off, rfl, hcc⟩ := hp (by omega)
    have hck := hcc k hkl
    have e : (l.take k).map (Value.int .i64) ++ [.int .i64 l[k]] = (l.take (k + 1)).map (Value.int .i64) := by rw [List.take_succ_eq_append_getElem hkl, List.map_append]; rfl
    refine en_skip <| en_then <| en_seq <| en_block <| en_seq <| en_region <| ?_
    first | refine en_det (opT_idx1 rfl rfl (by omega) (by omega)) rfl ?_ | refine en_det (opT_idx (ks := 0) rfl rfl (by omega) (by omega)) rfl ?_
    first | refine en_det (opT_load_h rfl (by assumption)) rfl ?_ | refine en_det (opT_load_own rfl rfl) rfl ?_
    refine en_det (opT_assign rfl) rfl <| en_nil <| en_then <| en_region <| en_det (opT_move rfl) rfl <| en_det (opT_move rfl) rfl <| ?_
    refine en_op (opT_buildSlice (cs := [.int .i64 l[k]]) rfl rfl (by kernel_rfl)) rfl fun _ _ _ _ ⟨b14, e1, e2, e3⟩ => ?_
    subst e1 e3; replace e2 := e2.symm; subst e2
    refine en_app1 rfl rfl rfl rfl rfl rfl rfl (by omega) fun ad15 cp15 hm15 hc15 => ?_
    refine en_det (opT_assign rfl) rfl <| en_nil <| en_blk <| en_then <| en_region <| en_det (opT_add rfl rfl (by constructor <;> omega)) rfl <| en_det (opT_move rfl) rfl <| en_nil <| en_then <| ?_
    rw [e]
    exact en_again (k + 1, .slice ad15 (k + 1) cp15) (by simp only; omega) (by simp only; omega) ⟨rfl, rfl, rfl, gi rfl (by simp), trivial⟩ (.refl _) inferInstance
  · skip
    obtain rfl : k = l.length := by omega
    rw [List.take_length]
    refine en_exit <| en_then_exit <| en_then_exit <| en_blk_hit <| en_then <| en_seq <| en_region <| en_det (opT_move rfl) rfl <| en_det (opT_assign rfl) rfl <| en_nil <| en_then <| en_ret <| ?_
    refine en_freeze_own fun h1 hs1 hsl _ => ?_
    refine en_return (rs := [.tmp 2]) rfl (.cons (.tmp rfl) .nil) hs1 (Γ1 := []) ⟨hsl, rfl⟩
theorem needR_ct (h : Heap) (xv hv : Value) (b : BeltD) (left : Nat → Int) (t s : Nat) (hX : IsBelt h (.agg #[xv, hv]) b) (hk : BOK b) (hl : ∀ m, m < 5 → 0 ≤ left m ∧ left m ≤ 60) (ht : t < b.nt) (hs : s < 32) :
    CT Try.prog 51 [.agg #[xv, hv], .agg (trayL left).toArray, .int .i64 t, .int .i64 s] h [] (DetW (.int .i64 (inS s (keptD left (b.tray t)))) []) := by
  obtain ⟨hT, hH⟩ := belt_parts hX
  have hn8 := hk.n8
  obtain ⟨_, tad, tcp, rfl, tm1, tc1, tp1⟩ := hT
  obtain ⟨tq, toff, rfl, tcells⟩ := tp1 (by omega)
  refine ct_intro Try.func51 rfl rfl rfl rfl fun Φ => ?_
  refine en_seq <| en_region <| en_box rfl rfl rfl fun b4 => en_box rfl rfl rfl fun b5 => en_det (opT_assign rfl) rfl <| en_nil <| en_then <| en_seq <| en_region <| en_det (opT_assign rfl) rfl <| en_nil <| en_then <| en_seq <| en_seq <| en_region <| en_det (opT_assign rfl) rfl <| en_nil <| en_then <| en_block <| ?_
  refine en_loop (fun k : Nat => k ≤ 5) (fun k => [(2, .int .i64 t), (3, .int .i64 s), (4, pt b4), (5, pt b5), (9, .int .i64 (needK b left t s k)), (10, .int .i64 k)]) (fun _ => h) (fun _ => [box b5 70 (trayL left), box b4 59 [.slice (some ⟨tq, toff, none⟩) b.nt tcp, hv]]) (fun k => 5 - k) 0 (by omega) ⟨rfl, rfl, rfl, rfl, rfl, rfl, trivial⟩ (.refl _) (tkAll _) fun k hk' => ?_
  refine en_seq <| en_seq <| en_region <| en_det (opT_move rfl) rfl <| ?_
  first | refine en_det (opT_lss_t rfl rfl (by omega)) rfl ?_ | refine en_det (opT_lss_f rfl rfl (by omega)) rfl ?_ | refine en_det (opT_lss rfl rfl) rfl ?_
  refine en_nil <| en_then <| ?_
  refine en_if rfl (fun hlt => ?_) (fun hlt => ?_)
  · skip
    have hk5 : k < 5 := by omega
    have hcell : cellH h tq (toff + t * 5 + k) = some (.int .i64 (b.tray t k)) := tcells.cell ht hk5
    have hgl : (trayL left)[k]? = some (.int .i64 (left k)) := row_get hk5
    have htr := hk.tr t k ht hk5
    have hlk := hl k hk5
    have cH := has_ct h s k hs (by omega)
    have hsb := sumN_bound (n := k) (f := fun m => if s.testBit m = true then keptD left (b.tray t) m else 0) (B := 60) fun m hm => by
      have := hk.tr t m ht (by omega)
      have := hl m (by omega)
      unfold keptD; split <;> omega
    have hbd : 0 ≤ needK b left t s k ∧ needK b left t s k ≤ 300 := by unfold needK; omega
    have hnext : needK b left t s (k + 1) = needK b left t s k + (if s.testBit k = true then keptD left (b.tray t) k else 0) := rfl
    have hK : keptD left (b.tray t) k = max 0 (b.tray t k - left k) := rfl
    rw [hK] at hnext
    generalize needK b left t s k = N at hnext hbd ⊢
    generalize b.tray t k = x at *
    generalize left k = y at *
    skip
    cases hB : s.testBit k with
    | false =>
      rw [hB] at cH
      rw [hB, if_neg (by simp), Int.add_zero] at hnext
      refine en_skip <| en_then <| en_seq <| en_block <| en_seq <| en_draw0 [0, 1, 2, 3, 4, 5, 6, 7, 8, 9, 10, 11, 12, 13, 14, 15] (by kernel_rfl) (by decide +kernel) (by decide +kernel) (by decide) <| dp_p rfl (fun _ _ => opT_move rfl) rfl rfl rfl <| dp_p rfl (fun _ _ => opT_move rfl) rfl rfl rfl <| dp_ed0 rfl (opT_callw (cH) rfl rfl rfl) rfl rfl rfl rfl <| dp_p rfl (fun _ _ => opT_move rfl) rfl rfl rfl <| dp_q_no rfl rfl rfl rfl rfl <| dp_q_no rfl rfl rfl rfl rfl <| dp_q_no rfl rfl rfl rfl rfl <| dp_q_no rfl rfl rfl rfl rfl <| dp_q_no rfl rfl rfl rfl rfl <| dp_q_no rfl rfl rfl rfl rfl <| dp_q_no rfl rfl rfl rfl rfl <| dp_q_no rfl rfl rfl rfl rfl <| dp_q_no rfl rfl rfl rfl rfl <| dp_q_no rfl rfl rfl rfl rfl <| dp_q_no rfl rfl rfl rfl rfl <| ?_
      first | refine dp_p rfl (fun _ _ => opT_pick_t rfl rfl) rfl rfl rfl ?_ | refine dp_p rfl (fun _ _ => opT_pick_f rfl rfl) rfl rfl rfl ?_
      refine dp_done0 <| en_then <| en_cond_f rfl <| en_skip <| en_blk <| en_then <| en_region <| en_det (opT_move rfl) rfl <| en_det (opT_add rfl rfl (by constructor <;> omega)) rfl <| en_det (opT_assign rfl) rfl <| en_nil <| en_then <| ?_
      exact en_again (k + 1) (by omega) (by omega) ⟨rfl, rfl, rfl, rfl, gi rfl hnext.symm, gi rfl (by simp), trivial⟩ (.refl _) inferInstance
    | true =>
      rw [hB] at cH
      rw [hB, if_pos rfl] at hnext
      by_cases hgt : y < x
      · skip
        refine en_skip <| en_then <| en_seq <| en_block <| en_seq <| en_draw0 [0, 1, 2, 3, 4, 5, 6, 7, 8, 9, 10, 11, 12, 13, 14, 15] (by kernel_rfl) (by decide +kernel) (by decide +kernel) (by decide) <| dp_p rfl (fun _ _ => opT_move rfl) rfl rfl rfl <| dp_p rfl (fun _ _ => opT_move rfl) rfl rfl rfl <| dp_ed0 rfl (opT_callw (cH) rfl rfl rfl) rfl rfl rfl rfl <| dp_p rfl (fun _ _ => opT_move rfl) rfl rfl rfl <| dp_q_yes rfl rfl rfl (opT_fieldAddr rfl) rfl rfl rfl <| dp_q_yes rfl rfl rfl (opT_load_own rfl rfl) rfl rfl rfl <| dp_q_yes rfl rfl rfl (opT_move rfl) rfl rfl rfl <| dp_q_yes rfl rfl rfl (opT_move rfl) rfl rfl rfl <| ?_
        first | refine dp_q_yes rfl rfl rfl (opT_idx1 rfl rfl (by omega) (by omega)) rfl rfl rfl ?_ | refine dp_q_yes rfl rfl rfl (opT_idx (ks := 0) rfl rfl (by omega) (by omega)) rfl rfl rfl ?_
        refine dp_q_yes rfl rfl rfl (opT_idxArr rfl rfl (by omega) (by omega)) rfl rfl rfl <| ?_
        first | refine dp_q_yes rfl rfl rfl (opT_load_h rfl (by assumption)) rfl rfl rfl ?_ | refine dp_q_yes rfl rfl rfl (opT_load_own rfl rfl) rfl rfl rfl ?_
        refine dp_q_yes rfl rfl rfl (opT_move rfl) rfl rfl rfl <| dp_q_yes rfl rfl rfl (opT_idxArr rfl rfl (by omega) (by omega)) rfl rfl rfl <| dp_q_yes rfl rfl rfl (opT_load_own rfl hgl) rfl rfl rfl <| dp_q_yes rfl rfl rfl (opT_gtr_t rfl rfl (by omega)) rfl rfl rfl <| ?_
        first | refine dp_p rfl (fun _ _ => opT_pick_t rfl rfl) rfl rfl rfl ?_ | refine dp_p rfl (fun _ _ => opT_pick_f rfl rfl) rfl rfl rfl ?_
        refine dp_done0 <| en_then <| en_cond_t rfl <| en_draw0 [0, 1, 2, 3, 4, 5, 6, 7, 8, 9, 10, 11, 12, 13] (by kernel_rfl) (by decide +kernel) (by decide +kernel) (by decide) <| dp_p rfl (fun _ _ => opT_move rfl) rfl rfl rfl <| dp_p rfl (fun _ _ => opT_fieldAddr rfl) rfl rfl rfl <| dp_q rfl (opT_load_own rfl rfl) rfl rfl rfl <| dp_p rfl (fun _ _ => opT_move rfl) rfl rfl rfl <| dp_p rfl (fun _ _ => opT_move rfl) rfl rfl rfl <| ?_
        first | refine dp_p rfl (fun _ _ => opT_idx1 rfl rfl (by omega) (by omega)) rfl rfl rfl ?_ | refine dp_p rfl (fun _ _ => opT_idx (ks := 0) rfl rfl (by omega) (by omega)) rfl rfl rfl ?_
        refine dp_p rfl (fun _ _ => opT_idxArr rfl rfl (by omega) (by omega)) rfl rfl rfl <| ?_
        first | refine dp_q rfl (opT_load_h rfl (by assumption)) rfl rfl rfl ?_ | refine dp_q rfl (opT_load_own rfl rfl) rfl rfl rfl ?_
        refine dp_p rfl (fun _ _ => opT_add rfl rfl (by constructor <;> omega)) rfl rfl rfl <| dp_p rfl (fun _ _ => opT_move rfl) rfl rfl rfl <| dp_p rfl (fun _ _ => opT_idxArr rfl rfl (by omega) (by omega)) rfl rfl rfl <| dp_q rfl (opT_load_own rfl hgl) rfl rfl rfl <| dp_p rfl (fun _ _ => opT_sub rfl rfl (by constructor <;> omega)) rfl rfl rfl <| dp_p rfl (fun _ _ => opT_assign rfl) rfl rfl rfl <| dp_done0 <| en_blk <| en_then <| en_region <| en_det (opT_move rfl) rfl <| en_det (opT_add rfl rfl (by constructor <;> omega)) rfl <| en_det (opT_assign rfl) rfl <| en_nil <| en_then <| ?_
        exact en_again (k + 1) (by omega) (by omega) ⟨rfl, rfl, rfl, rfl, gi rfl (by rw [hnext]; omega), gi rfl (by simp), trivial⟩ (.refl _) inferInstance
      · skip
        refine en_skip <| en_then <| en_seq <| en_block <| en_seq <| en_draw0 [0, 1, 2, 3, 4, 5, 6, 7, 8, 9, 10, 11, 12, 13, 14, 15] (by kernel_rfl) (by decide +kernel) (by decide +kernel) (by decide) <| dp_p rfl (fun _ _ => opT_move rfl) rfl rfl rfl <| dp_p rfl (fun _ _ => opT_move rfl) rfl rfl rfl <| dp_ed0 rfl (opT_callw (cH) rfl rfl rfl) rfl rfl rfl rfl <| dp_p rfl (fun _ _ => opT_move rfl) rfl rfl rfl <| dp_q_yes rfl rfl rfl (opT_fieldAddr rfl) rfl rfl rfl <| dp_q_yes rfl rfl rfl (opT_load_own rfl rfl) rfl rfl rfl <| dp_q_yes rfl rfl rfl (opT_move rfl) rfl rfl rfl <| dp_q_yes rfl rfl rfl (opT_move rfl) rfl rfl rfl <| ?_
        first | refine dp_q_yes rfl rfl rfl (opT_idx1 rfl rfl (by omega) (by omega)) rfl rfl rfl ?_ | refine dp_q_yes rfl rfl rfl (opT_idx (ks := 0) rfl rfl (by omega) (by omega)) rfl rfl rfl ?_
        refine dp_q_yes rfl rfl rfl (opT_idxArr rfl rfl (by omega) (by omega)) rfl rfl rfl <| ?_
        first | refine dp_q_yes rfl rfl rfl (opT_load_h rfl (by assumption)) rfl rfl rfl ?_ | refine dp_q_yes rfl rfl rfl (opT_load_own rfl rfl) rfl rfl rfl ?_
        refine dp_q_yes rfl rfl rfl (opT_move rfl) rfl rfl rfl <| dp_q_yes rfl rfl rfl (opT_idxArr rfl rfl (by omega) (by omega)) rfl rfl rfl <| dp_q_yes rfl rfl rfl (opT_load_own rfl hgl) rfl rfl rfl <| dp_q_yes rfl rfl rfl (opT_gtr_f rfl rfl (by omega)) rfl rfl rfl <| ?_
        first | refine dp_p rfl (fun _ _ => opT_pick_t rfl rfl) rfl rfl rfl ?_ | refine dp_p rfl (fun _ _ => opT_pick_f rfl rfl) rfl rfl rfl ?_
        refine dp_done0 <| en_then <| en_cond_f rfl <| en_skip <| en_blk <| en_then <| en_region <| en_det (opT_move rfl) rfl <| en_det (opT_add rfl rfl (by constructor <;> omega)) rfl <| en_det (opT_assign rfl) rfl <| en_nil <| en_then <| ?_
        exact en_again (k + 1) (by omega) (by omega) ⟨rfl, rfl, rfl, rfl, gi rfl (by rw [hnext]; omega), gi rfl (by simp), trivial⟩ (.refl _) inferInstance
  · skip
    obtain rfl : k = 5 := by omega
    rw [needK_five]
    refine en_exit <| en_then_exit <| en_then_exit <| en_blk_hit <| en_then <| en_seq <| en_region <| en_det (opT_move rfl) rfl <| en_det (opT_assign rfl) rfl <| en_nil <| en_then <| en_ret <| ?_
    refine en_return (rs := [.tmp 8]) rfl (.cons (.tmp rfl) .nil) (.refl _) (Γ1 := []) ⟨rfl, rfl⟩
theorem dirtyR_ct (h : Heap) (xv hv ov : Value) (b : BeltD) (left : Nat → Int) (l : List Nat) (hX : IsBelt h (.agg #[xv, hv]) b) (hk : BOK b) (hl : ∀ m, m < 5 → 0 ≤ left m ∧ left m ≤ 60) (hn : l.Nodup) (hlt : ∀ x ∈ l, x < b.nh) (hlen : l.length ≤ 1000) (ho : IsInts h ov (natsI l)) :
    CT Try.prog 46 [.agg #[xv, hv], ov, .agg (trayL left).toArray] h [] (DetW (.int .i64 (dirtyR b left l)) []) := by
  obtain ⟨hT, hH⟩ := belt_parts hX
  have hn8 := hk.n8
  obtain ⟨_, tad, tcp, rfl, tm1, tc1, tp1⟩ := hT
  refine ct_intro Try.func46 rfl rfl rfl rfl fun Φ => ?_
  refine en_seq <| en_region <| en_box rfl rfl rfl fun b3 => en_box rfl rfl rfl fun b5 => en_det (opT_assign rfl) rfl <| en_nil <| en_then <| en_seq <| en_seq <| en_region <| en_det (opT_assign rfl) rfl <| en_nil <| en_then <| en_block <| ?_
  refine en_loop (fun k : Nat => k ≤ b.nt ∧ ∀ i, i < k → dirtyB b (keptD left) l i = false) (fun k => [(1, ov), (3, pt b3), (5, pt b5), (7, .int .i64 k)]) (fun _ => h) (fun _ => [box b5 70 (trayL left), box b3 59 [.slice tad b.nt tcp, hv]]) (fun k => b.nt - k) 0 ⟨by omega, fun i hi => by omega⟩ ⟨rfl, rfl, rfl, rfl, trivial⟩ (.refl _) (tkAll _) fun k ⟨hkn, hcl⟩ => ?_
  refine en_seq <| en_seq <| en_region <| en_det (opT_move rfl) rfl <| en_det (opT_fieldAddr rfl) rfl <| en_det (opT_load_own rfl rfl) rfl <| en_det (opT_len rfl) rfl <| ?_
  first | refine en_det (opT_lss_t rfl rfl (by omega)) rfl ?_ | refine en_det (opT_lss_f rfl rfl (by omega)) rfl ?_ | refine en_det (opT_lss rfl rfl) rfl ?_
  refine en_nil <| en_then <| ?_
  refine en_if rfl (fun hlt1 => ?_) (fun hlt1 => ?_)
  · skip
    have hkl : k < b.nt := by omega
    refine en_skip <| en_then <| en_seq <| en_block <| en_seq <| en_region <| en_det (opT_assign rfl) rfl <| en_nil <| en_then <| en_block <| ?_
    refine en_loop (fun s : Nat => s ≤ 32 ∧ ∀ j, j < s → ¬ behS b l k j < inS j (keptD left (b.tray k))) (fun s => [(1, ov), (3, pt b3), (5, pt b5), (7, .int .i64 k), (8, .int .i64 s)]) (fun _ => h) (fun _ => [box b5 70 (trayL left), box b3 59 [.slice tad b.nt tcp, hv]]) (fun s => 32 - s) 0 ⟨by omega, fun i hi => by omega⟩ ⟨rfl, rfl, rfl, rfl, rfl, trivial⟩ (.refl _) (tkAll _) fun s ⟨hs, hno⟩ => ?_
    refine en_seq <| en_seq <| en_region <| en_det (opT_move rfl) rfl <| ?_
    first | refine en_det (opT_lss_t rfl rfl (by omega)) rfl ?_ | refine en_det (opT_lss_f rfl rfl (by omega)) rfl ?_ | refine en_det (opT_lss rfl rfl) rfl ?_
    refine en_nil <| en_then <| ?_
    refine en_if rfl (fun hlt2 => ?_) (fun hlt2 => ?_)
    · skip
      have hs32 : s < 32 := by omega
      have cN := needR_ct h _ hv b left k s hX hk hl hkl hs32
      have cB := behindR_ct h (.slice tad b.nt tcp) hv ov b l k s hH hk.ok hlt hlen ho (by omega) hs32
      have hno' : ¬ behS b l k s < inS s (keptD left (b.tray k)) → ∀ j, j < s + 1 → ¬ behS b l k j < inS j (keptD left (b.tray k)) := fun e j hj => by
        rcases Nat.lt_succ_iff_lt_or_eq.1 hj with h1 | rfl
        · exact hno j h1
        · exact e
      have hyes : behS b l k s < inS s (keptD left (b.tray k)) → dirtyR b left l = k := fun e => by
        have h1 := (dirty_has hk hn hlt).2 ⟨s, hs32, e⟩
        have h2 := first_at hkl hcl h1
        unfold dirtyR; rw [h2, if_neg (by omega)]
      generalize behS b l k s = B at *
      generalize inS s (keptD left (b.tray k)) = N at *
      skip
      by_cases hx : B < N
      · refine en_skip <| en_then <| en_seq <| en_block <| en_seq <| en_draw0 [0, 1, 2, 3, 5, 6, 7, 8, 4, 9, 10] (by kernel_rfl) (by decide +kernel) (by decide +kernel) (by decide) <| dp_q rfl (opT_loadW_own rfl rfl) rfl rfl rfl <| dp_q rfl (opT_loadW_own rfl (row_length _ _)) rfl rfl rfl <| dp_p rfl (fun _ _ => opT_move rfl) rfl rfl rfl <| dp_p rfl (fun _ _ => opT_move rfl) rfl rfl rfl <| dp_q rfl (opT_loadW_own rfl rfl) rfl rfl rfl <| dp_p rfl (fun _ _ => opT_move rfl) rfl rfl rfl <| dp_p rfl (fun _ _ => opT_move rfl) rfl rfl rfl <| dp_p rfl (fun _ _ => opT_move rfl) rfl rfl rfl <| dp_ed0 rfl (opT_callw (cN) rfl rfl rfl) rfl rfl rfl rfl <| dp_ed0 rfl (opT_callw (cB) rfl rfl rfl) rfl rfl rfl rfl <| dp_p rfl (fun _ _ => opT_gtr_t rfl rfl (by omega)) rfl rfl rfl <| dp_done0 <| en_then <| en_cond_t rfl <| en_seq <| en_region <| en_det (opT_move rfl) rfl <| en_det (opT_assign rfl) rfl <| en_nil <| en_then <| en_ret <| en_blk_ret <| en_then_ret <| en_then_ret <| en_blk_ret <| en_blk_ret <| en_then_ret <| en_then_ret <| en_blk_ret <| en_then_ret <| ?_
        refine en_return (rs := [.tmp 6]) rfl (.cons (.tmp rfl) .nil) (.refl _) (Γ1 := []) ⟨by rw [hyes hx]; rfl, rfl⟩
      · skip
        refine en_skip <| en_then <| en_seq <| en_block <| en_seq <| en_draw0 [0, 1, 2, 3, 5, 6, 7, 8, 4, 9, 10] (by kernel_rfl) (by decide +kernel) (by decide +kernel) (by decide) <| dp_q rfl (opT_loadW_own rfl rfl) rfl rfl rfl <| dp_q rfl (opT_loadW_own rfl (row_length _ _)) rfl rfl rfl <| dp_p rfl (fun _ _ => opT_move rfl) rfl rfl rfl <| dp_p rfl (fun _ _ => opT_move rfl) rfl rfl rfl <| dp_q rfl (opT_loadW_own rfl rfl) rfl rfl rfl <| dp_p rfl (fun _ _ => opT_move rfl) rfl rfl rfl <| dp_p rfl (fun _ _ => opT_move rfl) rfl rfl rfl <| dp_p rfl (fun _ _ => opT_move rfl) rfl rfl rfl <| dp_ed0 rfl (opT_callw (cN) rfl rfl rfl) rfl rfl rfl rfl <| dp_ed0 rfl (opT_callw (cB) rfl rfl rfl) rfl rfl rfl rfl <| dp_p rfl (fun _ _ => opT_gtr_f rfl rfl (by omega)) rfl rfl rfl <| dp_done0 <| en_then <| en_cond_f rfl <| en_skip <| en_blk <| en_then <| en_region <| en_det (opT_move rfl) rfl <| en_det (opT_add rfl rfl (by constructor <;> omega)) rfl <| en_det (opT_assign rfl) rfl <| en_nil <| en_then <| ?_
        exact en_again (s + 1) ⟨by omega, hno' hx⟩ (by omega) ⟨rfl, rfl, rfl, rfl, gi rfl (by simp), trivial⟩ (.refl _) inferInstance
    · skip
      obtain rfl : s = 32 := by omega
      refine en_exit <| en_then_exit <| en_then_exit <| en_blk_hit <| en_blk <| en_then <| en_region <| en_det (opT_move rfl) rfl <| en_det (opT_add rfl rfl (by constructor <;> omega)) rfl <| en_det (opT_assign rfl) rfl <| en_nil <| en_then <| ?_
      refine en_again (k + 1) ⟨by omega, fun i hi => ?_⟩ (by omega) ⟨rfl, rfl, rfl, gi rfl (by simp), trivial⟩ (.refl _) inferInstance
      rcases Nat.lt_succ_iff_lt_or_eq.1 hi with h1 | rfl
      · exact hcl i h1
      · cases hd : dirtyB b (keptD left) l i with
        | false => rfl
        | true =>
          obtain ⟨s, hs32, hlt⟩ := (dirty_has hk hn hlt).1 hd
          exact absurd hlt (hno s hs32)
  · skip
    obtain rfl : k = b.nt := by omega
    have e : dirtyR b left l = -1 := by unfold dirtyR; rw [if_pos (first_none hcl)]
    refine en_exit <| en_then_exit <| en_then_exit <| en_blk_hit <| en_then <| en_seq <| en_region <| en_det (opT_assign rfl) rfl <| en_nil <| en_then <| en_ret <| ?_
    refine en_return (rs := [.tmp 6]) rfl (.cons (.tmp rfl) .nil) (.refl _) (Γ1 := []) ⟨by rw [e]; rfl, rfl⟩
theorem setR_ct (h : Heap) (v : Value) (l : List Int) (hv : IsInts h v l) : CT Try.prog 49 [v] h [] (DetW (.tuple #[.int .i64 (if chosenE l = 0 then (bitsOf l : Int) else 0), .int .i64 (chosenE l)]) []) := by
  obtain ⟨ad, cp, rfl, hll, hc, hp⟩ := hv.shape
  refine ct_intro Try.func49 rfl rfl rfl rfl fun Φ => ?_
  refine en_seq <| en_region <| en_det (opT_assign rfl) rfl <| en_det (opT_assign rfl) rfl <| en_nil <| en_then <| en_seq <| en_region <| en_det (opT_assign rfl) rfl <| en_nil <| en_then <| en_seq <| en_seq <| en_region <| en_det (opT_assign rfl) rfl <| en_nil <| en_then <| en_block <| ?_
  refine en_loop (fun k : Nat => k ≤ l.length ∧ ∀ i, i < k → inD (l.getD i 0) 0 4 = true) (fun k => [(0, .slice ad l.length cp), (2, .int .i64 0), (3, .int .i64 0), (4, .int .i64 0), (5, .int .i64 k)]) (fun _ => h) (fun _ => []) (fun k => l.length - k) 0 ⟨by omega, fun i hi => by omega⟩ ⟨rfl, rfl, rfl, rfl, rfl, trivial⟩ (.refl _) inferInstance fun k ⟨hk, hb⟩ => ?_
  refine en_seq <| en_seq <| en_region <| en_det (opT_move rfl) rfl <| en_det (opT_move rfl) rfl <| en_det (opT_len rfl) rfl <| ?_
  first | refine en_det (opT_lss_t rfl rfl (by omega)) rfl ?_ | refine en_det (opT_lss_f rfl rfl (by omega)) rfl ?_ | refine en_det (opT_lss rfl rfl) rfl ?_
  refine en_nil <| en_then <| ?_
  refine en_if rfl (fun hlt => ?_) (fun hlt => ?_)
  · skip
    have hkl : k < l.length := by omega
    obtain ⟨q, off, rfl, hcc⟩ := hp (by omega)
    have hck := hcc k hkl
    rw [← getD_lt hkl] at hck
    have cO := off_ct (l.getD k 0) 0 4 h
    skip
    cases hx : inD (l.getD k 0) 0 4 with
    | true =>
      rw [hx] at cO
      refine en_skip <| en_then <| en_seq <| en_block <| en_seq <| en_region <| en_det (opT_move rfl) rfl <| en_det (opT_move rfl) rfl <| ?_
      first | refine en_det (opT_idx1 rfl rfl (by omega) (by omega)) rfl ?_ | refine en_det (opT_idx (ks := 0) rfl rfl (by omega) (by omega)) rfl ?_
      first | refine en_det (opT_load_h rfl (by assumption)) rfl ?_ | refine en_det (opT_load_own rfl rfl) rfl ?_
      refine en_calld (cO) rfl rfl rfl rfl <| en_nil <| en_then <| en_cond_f rfl <| en_skip <| en_blk <| en_then <| en_region <| en_det (opT_move rfl) rfl <| en_det (opT_add rfl rfl (by constructor <;> omega)) rfl <| en_det (opT_assign rfl) rfl <| en_nil <| en_then <| ?_
      refine en_again (k + 1) ⟨by omega, fun m h1 => ?_⟩ (by omega) ⟨rfl, rfl, rfl, rfl, gi rfl (by simp), trivial⟩ (.refl _) inferInstance
      rcases Nat.lt_succ_iff_lt_or_eq.1 h1 with h2 | rfl
      · exact hb m h2
      · exact hx
    | false =>
      rw [hx] at cO
      have hz : chosenE l = 2 := by unfold chosenE; rw [if_pos (by rw [allI_no hkl hx]; rfl)]
      refine en_skip <| en_then <| en_seq <| en_block <| en_seq <| en_region <| en_det (opT_move rfl) rfl <| en_det (opT_move rfl) rfl <| ?_
      first | refine en_det (opT_idx1 rfl rfl (by omega) (by omega)) rfl ?_ | refine en_det (opT_idx (ks := 0) rfl rfl (by omega) (by omega)) rfl ?_
      first | refine en_det (opT_load_h rfl (by assumption)) rfl ?_ | refine en_det (opT_load_own rfl rfl) rfl ?_
      refine en_calld (cO) rfl rfl rfl rfl <| en_nil <| en_then <| en_cond_t rfl <| en_seq <| en_region <| en_det (opT_assign rfl) rfl <| en_det (opT_assign rfl) rfl <| en_nil <| en_then <| en_ret <| en_blk_ret <| en_then_ret <| en_then_ret <| en_blk_ret <| en_then_ret <| ?_
      refine en_return (rs := [.tmp 2, .tmp 3]) rfl (.cons (.tmp rfl) (.cons (.tmp rfl) .nil)) (.refl _) (Γ1 := []) ⟨by rw [hz]; rfl, rfl⟩
  obtain rfl : k = l.length := by omega
  have z1 : (allI l.length fun i => inD (l.getD i 0) 0 4) = true := allI_yes hb
  have hrg : ∀ i (hi : i < l.length), 0 ≤ l[i] ∧ l[i] ≤ 4 := fun i hi => by
    have := hb i hi
    rw [getD_lt hi] at this
    simpa [inD] using this
  clear hb hlt hk
  refine en_exit <| en_then_exit <| en_then_exit <| en_blk_hit <| en_then <| en_seq <| en_seq <| en_region <| en_det (opT_assign rfl) rfl <| en_nil <| en_then <| en_block <| ?_
  refine en_loop (fun k : Nat => k ≤ l.length ∧ (∀ i, i + 1 < k → l.getD i 0 < l.getD (i + 1) 0) ∧ bitsOf (l.take k) < 32 ∧ ∀ (hk0 : 0 < k) (hkl : k ≤ l.length), bitsOf (l.take k) < 2 ^ ((l[k - 1]'(by omega)).toNat + 1)) (fun k => [(0, .slice ad l.length cp), (2, .int .i64 0), (3, .int .i64 0), (4, .int .i64 (bitsOf (l.take k) : Nat)), (6, .int .i64 k)]) (fun _ => h) (fun _ => []) (fun k => l.length - k) 0 ⟨by omega, fun i hi => by omega, by simp [bitsOf], fun h => by omega⟩ ⟨rfl, rfl, rfl, gi rfl (by simp [bitsOf]), rfl, trivial⟩ (.refl _) inferInstance fun k ⟨hk, hrise, h32, hbit⟩ => ?_
  refine en_seq <| en_seq <| en_region <| en_det (opT_move rfl) rfl <| en_det (opT_move rfl) rfl <| en_det (opT_len rfl) rfl <| ?_
  first | refine en_det (opT_lss_t rfl rfl (by omega)) rfl ?_ | refine en_det (opT_lss_f rfl rfl (by omega)) rfl ?_ | refine en_det (opT_lss rfl rfl) rfl ?_
  refine en_nil <| en_then <| ?_
  refine en_if rfl (fun hlt => ?_) (fun hlt => ?_)
  · skip
    have hkl : k < l.length := by omega
    obtain ⟨q, off, rfl, hcc⟩ := hp (by omega)
    have hck := hcc k hkl
    have hrk := hrg k hkl
    have key : (∀ i, i + 1 < k + 1 → l.getD i 0 < l.getD (i + 1) 0) → bitsOf (l.take k) < 2 ^ l[k].toNat := fun hr => by
      rcases Nat.eq_zero_or_pos k with e | e
      · subst e; simp [bitsOf]; exact Nat.pow_pos (by omega)
      · have h1 := hbit e (by omega)
        have h2 := hr (k - 1) (by omega)
        rw [show k - 1 + 1 = k by omega, getD_lt hkl, getD_lt (by omega : k - 1 < l.length)] at h2
        have h3 := hrg (k - 1) (by omega)
        refine Nat.lt_of_lt_of_le h1 (Nat.pow_le_pow_right (by omega) ?_)
        omega
    have hnx := bits_next hkl
    obtain ⟨w, hw⟩ := Int.eq_ofNat_of_zero_le hrk.1
    have hw5 : w ≤ 4 := by omega
    have step : (∀ i, i + 1 < k + 1 → l.getD i 0 < l.getD (i + 1) 0) → bitsOf (l.take (k + 1)) = bitsOf (l.take k) + 2 ^ w ∧ bitsOf (l.take (k + 1)) < 2 ^ (w + 1) := fun hr => by
      have h1 := key hr
      rw [hw, Int.toNat_natCast] at h1 hnx
      have h2 := or_pow h1
      rw [hnx]; exact ⟨h2.1, by rw [h2.1]; exact h2.2⟩
    have hpw : 2 ^ w ≤ 16 := by
      have : 2 ^ w ≤ 2 ^ 4 := Nat.pow_le_pow_right (by omega) hw5
      simpa using this
    have hpw1 : 2 ^ (w + 1) ≤ 32 := by rw [Nat.pow_succ]; omega
    have tailT : ∀ (hr : ∀ i, i + 1 < k + 1 → l.getD i 0 < l.getD (i + 1) 0), k + 1 ≤ l.length ∧ (∀ i, i + 1 < k + 1 → l.getD i 0 < l.getD (i + 1) 0) ∧ bitsOf (l.take (k + 1)) < 32 ∧ ∀ (hk0 : 0 < k + 1) (hkl : k + 1 ≤ l.length), bitsOf (l.take (k + 1)) < 2 ^ ((l[k + 1 - 1]'(by omega)).toNat + 1) := fun hr => by
      obtain ⟨h1, h2⟩ := step hr
      refine ⟨by omega, hr, by omega, fun _ _ => ?_⟩
      simp only [Nat.add_sub_cancel]
      rw [hw, Int.toNat_natCast]; exact h2
    have hck2 := hck
    rw [hw] at hck
    generalize hO : bitsOf (l.take k) = O at *
    skip
    by_cases hk0 : k = 0
    · subst hk0
      have hr : ∀ i, i + 1 < 0 + 1 → l.getD i 0 < l.getD (i + 1) 0 := fun i hi => by omega
      refine en_skip <| en_then <| en_seq <| en_block <| en_seq <| en_seq <| en_draw0 [0, 1, 2, 3, 4, 5, 6, 7, 8, 9, 10, 11, 12, 13] (by kernel_rfl) (by decide +kernel) (by decide +kernel) (by decide) <| dp_p rfl (fun _ _ => opT_move rfl) rfl rfl rfl <| dp_p rfl (fun _ _ => opT_gtr_f rfl rfl (by omega)) rfl rfl rfl <| dp_p rfl (fun _ _ => opT_move rfl) rfl rfl rfl <| dp_q_no rfl rfl rfl rfl rfl <| dp_q_no rfl rfl rfl rfl rfl <| dp_q_no rfl rfl rfl rfl rfl <| dp_q_no rfl rfl rfl rfl rfl <| dp_q_no rfl rfl rfl rfl rfl <| dp_q_no rfl rfl rfl rfl rfl <| dp_q_no rfl rfl rfl rfl rfl <| dp_q_no rfl rfl rfl rfl rfl <| dp_q_no rfl rfl rfl rfl rfl <| dp_q_no rfl rfl rfl rfl rfl <| ?_
      first | refine dp_p rfl (fun _ _ => opT_pick_t rfl rfl) rfl rfl rfl ?_ | refine dp_p rfl (fun _ _ => opT_pick_f rfl rfl) rfl rfl rfl ?_
      refine dp_done0 <| en_then <| en_cond_f rfl <| en_skip <| en_then <| en_seq <| en_region <| en_det (opT_assign rfl) rfl <| en_nil <| en_then <| en_seq <| en_seq <| en_region <| en_det (opT_assign rfl) rfl <| en_nil <| en_then <| en_block <| ?_
      refine en_loop (fun j : Nat => j ≤ w) (fun j => [(0, .slice (some ⟨q, off, none⟩) l.length cp), (2, .int .i64 0), (3, .int .i64 0), (4, .int .i64 (O : Nat)), (6, .int .i64 ((0 : Nat) : Int)), (7, .int .i64 ((2 ^ j : Nat) : Int)), (8, .int .i64 j)]) (fun _ => h) (fun _ => []) (fun j => w - j) 0 (by omega) ⟨rfl, rfl, rfl, rfl, rfl, rfl, rfl, trivial⟩ (.refl _) inferInstance fun j hj => ?_
      refine en_seq <| en_seq <| en_region <| en_det (opT_move rfl) rfl <| en_det (opT_move rfl) rfl <| en_det (opT_move rfl) rfl <| ?_
      first | refine en_det (opT_idx1 rfl rfl (by omega) (by omega)) rfl ?_ | refine en_det (opT_idx (ks := 0) rfl rfl (by omega) (by omega)) rfl ?_
      first | refine en_det (opT_load_h rfl (by assumption)) rfl ?_ | refine en_det (opT_load_own rfl rfl) rfl ?_
      first | refine en_det (opT_lss_t rfl rfl (by omega)) rfl ?_ | refine en_det (opT_lss_f rfl rfl (by omega)) rfl ?_ | refine en_det (opT_lss rfl rfl) rfl ?_
      refine en_nil <| en_then <| ?_
      refine en_if rfl (fun hlt3 => ?_) (fun hlt3 => ?_)
      · skip
        have hp2 : 2 ^ j ≤ 16 := by
          have : 2 ^ j ≤ 2 ^ 4 := Nat.pow_le_pow_right (by omega) (by omega)
          simpa using this
        have e2 : (2 : Int) * ((2 ^ j : Nat) : Int) = ((2 ^ (j + 1) : Nat) : Int) := by rw [Nat.pow_succ]; omega
        generalize 2 ^ j = pj at hp2 e2 ⊢
        refine en_skip <| en_then <| en_seq <| en_block <| en_region <| en_det (opT_move rfl) rfl <| en_det (opT_mul rfl rfl (by constructor <;> omega)) rfl <| en_det (opT_assign rfl) rfl <| en_nil <| en_blk <| en_then <| en_region <| en_det (opT_move rfl) rfl <| en_det (opT_add rfl rfl (by constructor <;> omega)) rfl <| en_det (opT_assign rfl) rfl <| en_nil <| en_then <| ?_
        exact en_again (j + 1) (by omega) (by omega) ⟨rfl, rfl, rfl, rfl, rfl, gi rfl e2, gi rfl (by simp), trivial⟩ (.refl _) inferInstance
      · skip
        obtain rfl : j = w := by omega
        have h1 := (step hr).1
        refine en_exit <| en_then_exit <| en_then_exit <| en_blk_hit <| en_then <| en_region <| en_det (opT_move rfl) rfl <| en_det (opT_move rfl) rfl <| en_det (opT_add rfl rfl (by constructor <;> omega)) rfl <| en_det (opT_assign rfl) rfl <| en_nil <| en_blk <| en_then <| en_region <| en_det (opT_move rfl) rfl <| en_det (opT_add rfl rfl (by constructor <;> omega)) rfl <| en_det (opT_assign rfl) rfl <| en_nil <| en_then <| ?_
        exact en_again (0 + 1) (tailT hr) (by omega) ⟨rfl, rfl, rfl, gi rfl (by rw [h1]; simp), gi rfl (by simp), trivial⟩ (.refl _) inferInstance
    · have hck' := hcc (k - 1) (by omega)
      by_cases hle : l[k] ≤ l[k - 1]
      · have hnot : risesD l = false := risesD_not (i := k - 1) (by omega) (by
          rw [getD_lt (by omega : k - 1 < l.length)]
          have e : k - 1 + 1 = k := by omega
          simp only [e]
          rw [getD_lt hkl]; omega)
        have hz : chosenE l = 6 := by unfold chosenE; rw [if_neg (by rw [z1]; simp), if_pos (by rw [hnot]; rfl)]
        rw [hw] at hle
        refine en_skip <| en_then <| en_seq <| en_block <| en_seq <| en_seq <| en_draw0 [0, 1, 2, 3, 4, 5, 6, 7, 8, 9, 10, 11, 12, 13] (by kernel_rfl) (by decide +kernel) (by decide +kernel) (by decide) <| dp_p rfl (fun _ _ => opT_move rfl) rfl rfl rfl <| dp_p rfl (fun _ _ => opT_gtr_t rfl rfl (by omega)) rfl rfl rfl <| dp_p rfl (fun _ _ => opT_move rfl) rfl rfl rfl <| dp_q_yes rfl rfl rfl (opT_move rfl) rfl rfl rfl <| dp_q_yes rfl rfl rfl (opT_move rfl) rfl rfl rfl <| ?_
        first | refine dp_q_yes rfl rfl rfl (opT_idx1 rfl rfl (by omega) (by omega)) rfl rfl rfl ?_ | refine dp_q_yes rfl rfl rfl (opT_idx (ks := 0) rfl rfl (by omega) (by omega)) rfl rfl rfl ?_
        first | refine dp_q_yes rfl rfl rfl (opT_load_h rfl (by assumption)) rfl rfl rfl ?_ | refine dp_q_yes rfl rfl rfl (opT_load_own rfl rfl) rfl rfl rfl ?_
        refine dp_q_yes rfl rfl rfl (opT_move rfl) rfl rfl rfl <| dp_q_yes rfl rfl rfl (opT_move rfl) rfl rfl rfl <| ?_
        refine dp_q_yes rfl rfl rfl (opT_sub_to (c := ((k - 1 : Nat) : Int)) rfl rfl (by constructor <;> omega) (by omega)) rfl rfl rfl ?_
        first | refine dp_q_yes rfl rfl rfl (opT_idx1 rfl rfl (by omega) (by omega)) rfl rfl rfl ?_ | refine dp_q_yes rfl rfl rfl (opT_idx (ks := 0) rfl rfl (by omega) (by omega)) rfl rfl rfl ?_
        first | refine dp_q_yes rfl rfl rfl (opT_load_h rfl (by assumption)) rfl rfl rfl ?_ | refine dp_q_yes rfl rfl rfl (opT_load_own rfl rfl) rfl rfl rfl ?_
        refine dp_q_yes rfl rfl rfl (opT_leq_t rfl rfl (by omega)) rfl rfl rfl <| ?_
        first | refine dp_p rfl (fun _ _ => opT_pick_t rfl rfl) rfl rfl rfl ?_ | refine dp_p rfl (fun _ _ => opT_pick_f rfl rfl) rfl rfl rfl ?_
        refine dp_done0 <| en_then <| en_cond_t rfl <| en_seq <| en_region <| en_det (opT_assign rfl) rfl <| en_det (opT_assign rfl) rfl <| en_nil <| en_then <| en_ret <| en_then_ret <| en_blk_ret <| en_then_ret <| en_then_ret <| en_blk_ret <| en_then_ret <| ?_
        refine en_return (rs := [.tmp 2, .tmp 3]) rfl (.cons (.tmp rfl) (.cons (.tmp rfl) .nil)) (.refl _) (Γ1 := []) ⟨by rw [hz]; rfl, rfl⟩
      · have hr : ∀ i, i + 1 < k + 1 → l.getD i 0 < l.getD (i + 1) 0 := fun i hi => by
          rcases Nat.lt_succ_iff_lt_or_eq.1 hi with h1 | h1
          · exact hrise i h1
          · have e : k - 1 = i := by omega
            subst h1
            rw [getD_lt (by omega : i < l.length), getD_lt hkl]
            simp only [e] at hle
            omega
        have h1 := (step hr).1
        have hT := tailT hr
        rw [hw] at hle
        refine en_skip <| en_then <| en_seq <| en_block <| en_seq <| en_seq <| en_draw0 [0, 1, 2, 3, 4, 5, 6, 7, 8, 9, 10, 11, 12, 13] (by kernel_rfl) (by decide +kernel) (by decide +kernel) (by decide) <| dp_p rfl (fun _ _ => opT_move rfl) rfl rfl rfl <| dp_p rfl (fun _ _ => opT_gtr_t rfl rfl (by omega)) rfl rfl rfl <| dp_p rfl (fun _ _ => opT_move rfl) rfl rfl rfl <| dp_q_yes rfl rfl rfl (opT_move rfl) rfl rfl rfl <| dp_q_yes rfl rfl rfl (opT_move rfl) rfl rfl rfl <| ?_
        first | refine dp_q_yes rfl rfl rfl (opT_idx1 rfl rfl (by omega) (by omega)) rfl rfl rfl ?_ | refine dp_q_yes rfl rfl rfl (opT_idx (ks := 0) rfl rfl (by omega) (by omega)) rfl rfl rfl ?_
        first | refine dp_q_yes rfl rfl rfl (opT_load_h rfl (by assumption)) rfl rfl rfl ?_ | refine dp_q_yes rfl rfl rfl (opT_load_own rfl rfl) rfl rfl rfl ?_
        refine dp_q_yes rfl rfl rfl (opT_move rfl) rfl rfl rfl <| dp_q_yes rfl rfl rfl (opT_move rfl) rfl rfl rfl <| ?_
        refine dp_q_yes rfl rfl rfl (opT_sub_to (c := ((k - 1 : Nat) : Int)) rfl rfl (by constructor <;> omega) (by omega)) rfl rfl rfl ?_
        first | refine dp_q_yes rfl rfl rfl (opT_idx1 rfl rfl (by omega) (by omega)) rfl rfl rfl ?_ | refine dp_q_yes rfl rfl rfl (opT_idx (ks := 0) rfl rfl (by omega) (by omega)) rfl rfl rfl ?_
        first | refine dp_q_yes rfl rfl rfl (opT_load_h rfl (by assumption)) rfl rfl rfl ?_ | refine dp_q_yes rfl rfl rfl (opT_load_own rfl rfl) rfl rfl rfl ?_
        refine dp_q_yes rfl rfl rfl (opT_leq_f rfl rfl (by omega)) rfl rfl rfl <| ?_
        first | refine dp_p rfl (fun _ _ => opT_pick_t rfl rfl) rfl rfl rfl ?_ | refine dp_p rfl (fun _ _ => opT_pick_f rfl rfl) rfl rfl rfl ?_
        refine dp_done0 <| en_then <| en_cond_f rfl <| en_skip <| en_then <| en_seq <| en_region <| en_det (opT_assign rfl) rfl <| en_nil <| en_then <| en_seq <| en_seq <| en_region <| en_det (opT_assign rfl) rfl <| en_nil <| en_then <| en_block <| ?_
        refine en_loop (fun j : Nat => j ≤ w) (fun j => [(0, .slice (some ⟨q, off, none⟩) l.length cp), (2, .int .i64 0), (3, .int .i64 0), (4, .int .i64 (O : Nat)), (6, .int .i64 k), (7, .int .i64 ((2 ^ j : Nat) : Int)), (8, .int .i64 j)]) (fun _ => h) (fun _ => []) (fun j => w - j) 0 (by omega) ⟨rfl, rfl, rfl, rfl, rfl, rfl, rfl, trivial⟩ (.refl _) inferInstance fun j hj => ?_
        refine en_seq <| en_seq <| en_region <| en_det (opT_move rfl) rfl <| en_det (opT_move rfl) rfl <| en_det (opT_move rfl) rfl <| ?_
        first | refine en_det (opT_idx1 rfl rfl (by omega) (by omega)) rfl ?_ | refine en_det (opT_idx (ks := 0) rfl rfl (by omega) (by omega)) rfl ?_
        first | refine en_det (opT_load_h rfl (by assumption)) rfl ?_ | refine en_det (opT_load_own rfl rfl) rfl ?_
        first | refine en_det (opT_lss_t rfl rfl (by omega)) rfl ?_ | refine en_det (opT_lss_f rfl rfl (by omega)) rfl ?_ | refine en_det (opT_lss rfl rfl) rfl ?_
        refine en_nil <| en_then <| ?_
        refine en_if rfl (fun hlt3 => ?_) (fun hlt3 => ?_)
        · skip
          have hp2 : 2 ^ j ≤ 16 := by
            have : 2 ^ j ≤ 2 ^ 4 := Nat.pow_le_pow_right (by omega) (by omega)
            simpa using this
          have e2 : (2 : Int) * ((2 ^ j : Nat) : Int) = ((2 ^ (j + 1) : Nat) : Int) := by rw [Nat.pow_succ]; omega
          generalize 2 ^ j = pj at hp2 e2 ⊢
          refine en_skip <| en_then <| en_seq <| en_block <| en_region <| en_det (opT_move rfl) rfl <| en_det (opT_mul rfl rfl (by constructor <;> omega)) rfl <| en_det (opT_assign rfl) rfl <| en_nil <| en_blk <| en_then <| en_region <| en_det (opT_move rfl) rfl <| en_det (opT_add rfl rfl (by constructor <;> omega)) rfl <| en_det (opT_assign rfl) rfl <| en_nil <| en_then <| ?_
          exact en_again (j + 1) (by omega) (by omega) ⟨rfl, rfl, rfl, rfl, rfl, gi rfl e2, gi rfl (by simp), trivial⟩ (.refl _) inferInstance
        · skip
          obtain rfl : j = w := by omega
          refine en_exit <| en_then_exit <| en_then_exit <| en_blk_hit <| en_then <| en_region <| en_det (opT_move rfl) rfl <| en_det (opT_move rfl) rfl <| en_det (opT_add rfl rfl (by constructor <;> omega)) rfl <| en_det (opT_assign rfl) rfl <| en_nil <| en_blk <| en_then <| en_region <| en_det (opT_move rfl) rfl <| en_det (opT_add rfl rfl (by constructor <;> omega)) rfl <| en_det (opT_assign rfl) rfl <| en_nil <| en_then <| ?_
          exact en_again (k + 1) hT (by omega) ⟨rfl, rfl, rfl, gi rfl (by rw [h1]; simp), gi rfl (by simp), trivial⟩ (.refl _) inferInstance
  · skip
    obtain rfl : k = l.length := by omega
    have hyes : risesD l = true := risesD_of fun i hi => hrise i (by omega)
    have hz : chosenE l = 0 := by unfold chosenE; rw [if_neg (by rw [z1]; simp), if_neg (by rw [hyes]; simp)]
    rw [List.take_length]
    refine en_exit <| en_then_exit <| en_then_exit <| en_blk_hit <| en_then <| en_seq <| en_region <| en_det (opT_move rfl) rfl <| en_det (opT_assign rfl) rfl <| en_det (opT_assign rfl) rfl <| en_nil <| en_then <| en_ret <| ?_
    refine en_return (rs := [.tmp 2, .tmp 3]) rfl (.cons (.tmp rfl) (.cons (.tmp rfl) .nil)) (.refl _) (Γ1 := []) ⟨by rw [hz]; rfl, rfl⟩
end Go.Sx

/- All lists of so many numbers in increasing order, and the fewest hands: plain. -/
namespace Go.Sx
def listsD : Nat → Nat → Nat → List (List Nat)
  | 0, _, _ => [[]]
  | k + 1, f, b => (List.range (b - f)).flatMap fun i => (listsD k (f + i + 1) b).map fun l => (f + i) :: l
theorem lists_mem {b : Nat} : ∀ {k f : Nat} {l : List Nat}, l ∈ listsD k f b → l.length = k ∧ l.Pairwise (· < ·) ∧ ∀ x ∈ l, f ≤ x ∧ x < b
  | 0, f, l, h => by simp [listsD] at h; subst h; simp
  | k + 1, f, l, h => by
    simp only [listsD, List.mem_flatMap, List.mem_range, List.mem_map] at h
    obtain ⟨i, hi, r, hr, rfl⟩ := h
    obtain ⟨h1, h2, h3⟩ := lists_mem hr
    refine ⟨by simp [h1], ?_, fun x hx => ?_⟩
    · rw [List.pairwise_cons]
      exact ⟨fun x hx => by have := (h3 x hx).1; omega, h2⟩
    · rcases List.mem_cons.1 hx with rfl | hx
      · omega
      · have := h3 x hx; omega
theorem lists_all {b : Nat} : ∀ {l : List Nat} {f : Nat}, l.Pairwise (· < ·) → (∀ x ∈ l, f ≤ x ∧ x < b) → l ∈ listsD l.length f b
  | [], f, _, _ => by simp [listsD]
  | x :: l, f, hp, hr => by
    rw [List.pairwise_cons] at hp
    have hx := hr x (by simp)
    simp only [List.length_cons, listsD, List.mem_flatMap, List.mem_range, List.mem_map]
    refine ⟨x - f, by omega, l, ?_, by rw [show f + (x - f) = x by omega]⟩
    refine lists_all hp.2 fun y hy => ?_
    have h1 := hp.1 y hy
    have h2 := hr y (by simp [hy])
    omega
theorem cmp_head {x y : Nat} {l r : List Nat} (h : x < y) : cmpD (natsI (x :: l)) (natsI (y :: r)) < 0 := by
  have e : cmp1 (x : Int) (y : Int) = -1 := by unfold cmp1; rw [if_pos (by omega)]
  show (if cmp1 (x : Int) (y : Int) ≠ 0 then cmp1 (x : Int) (y : Int) else cmpD (natsI l) (natsI r)) < 0
  rw [e]; simp
theorem cmp_tail {x : Nat} {l r : List Nat} (h : cmpD (natsI l) (natsI r) < 0) : cmpD (natsI (x :: l)) (natsI (x :: r)) < 0 := by
  have e : cmp1 (x : Int) (x : Int) = 0 := by unfold cmp1; simp
  show (if cmp1 (x : Int) (x : Int) ≠ 0 then cmp1 (x : Int) (x : Int) else cmpD (natsI l) (natsI r)) < 0
  rw [e]; simpa using h
theorem lists_sorted {b : Nat} : ∀ {k f : Nat}, (listsD k f b).Pairwise fun x y => cmpD (natsI x) (natsI y) < 0
  | 0, f => by simp [listsD]
  | k + 1, f => by
    simp only [listsD]
    rw [List.pairwise_flatMap]
    refine ⟨fun i _ => ?_, ?_⟩
    · rw [List.pairwise_map]
      exact lists_sorted.imp fun h => cmp_tail h
    · refine List.pairwise_lt_range.imp fun {i j} hij x hx y hy => ?_
      simp only [List.mem_map] at hx hy
      obtain ⟨r, _, rfl⟩ := hx
      obtain ⟨s, _, rfl⟩ := hy
      exact cmp_head (by omega)
theorem flatMap_len {α β : Type} {g : α → List β} {B : Nat} : ∀ {l : List α}, (∀ x ∈ l, (g x).length ≤ B) → (l.flatMap g).length ≤ l.length * B
  | [], _ => by simp
  | x :: l, h => by
    have h1 := flatMap_len (l := l) fun y hy => h y (by simp [hy])
    have h2 := h x (by simp)
    rw [List.flatMap_cons, List.length_append, List.length_cons, Nat.add_mul]; omega
theorem lists_len {b : Nat} (hb : b ≤ 5) : ∀ {k f : Nat}, (listsD k f b).length ≤ 5 ^ k
  | 0, f => by simp [listsD]
  | k + 1, f => by
    simp only [listsD]
    have h1 := flatMap_len (l := List.range (b - f)) (g := fun i => (listsD k (f + i + 1) b).map fun l => (f + i) :: l) (B := 5 ^ k) fun i _ => by rw [List.length_map]; exact lists_len hb
    rw [List.length_range] at h1
    refine Nat.le_trans h1 ?_
    rw [Nat.pow_succ, Nat.mul_comm]
    exact Nat.mul_le_mul (Nat.le_refl _) (by omega)
theorem sorted_ext : ∀ {l r : List Nat}, l.Pairwise (· < ·) → r.Pairwise (· < ·) → (∀ x, x ∈ l ↔ x ∈ r) → l = r
  | [], [], _, _, _ => rfl
  | [], y :: r, _, _, h => absurd ((h y).2 (by simp)) (by simp)
  | x :: l, [], _, _, h => absurd ((h x).1 (by simp)) (by simp)
  | x :: l, y :: r, hl, hr, h => by
    rw [List.pairwise_cons] at hl hr
    have e : x = y := by
      rcases List.mem_cons.1 ((h x).1 (by simp)) with e | h1
      · exact e
      · rcases List.mem_cons.1 ((h y).2 (by simp)) with e | h2
        · exact e.symm
        · have := hr.1 x h1; have := hl.1 y h2; omega
    subst e
    congr 1
    refine sorted_ext hl.2 hr.2 fun z => ⟨fun hz => ?_, fun hz => ?_⟩
    · rcases List.mem_cons.1 ((h z).1 (by simp [hz])) with e | h1
      · have := hl.1 z hz; omega
      · exact h1
    · rcases List.mem_cons.1 ((h z).2 (by simp [hz])) with e | h1
      · have := hr.1 z hz; omega
      · exact h1
theorem filter_self {l : List Nat} {n : Nat} (hs : l.Pairwise (· < ·)) (hl : ∀ x ∈ l, x < n) : (List.range n).filter (fun x => l.contains x) = l := by
  refine sorted_ext (List.Pairwise.filter _ List.pairwise_lt_range) hs fun x => ?_
  simp only [List.mem_filter, List.mem_range, List.contains_iff_mem]
  exact ⟨fun h => h.2, fun h => ⟨hl x h, h⟩⟩
theorem filter_sorted (p : Nat → Bool) (n : Nat) : ((List.range n).filter p).Pairwise (· < ·) := List.Pairwise.filter _ List.pairwise_lt_range
theorem few_none {b : BeltD} (hk : BOK b) (left : Nat → Int) (h : ∀ k, k ≤ b.nh → ∀ l ∈ listsD k 0 b.nh, cleanB b (keptD left) l = false) : (fewB b left).2 = false := by
  have E := enough hk left
  cases hf : (fewB b left).2 with
  | false => rfl
  | true =>
    obtain ⟨⟨p, hp⟩, hc⟩ := E.some hf
    rw [hp] at hc
    have h1 := h _ (by have := List.length_filter_le p (List.range b.nh); simpa using this) _ (lists_all (f := 0) (filter_sorted p b.nh) fun x hx => ⟨Nat.zero_le _, filt_lt hx⟩)
    rw [h1] at hc; cases hc
theorem few_some {b : BeltD} (hk : BOK b) (left : Nat → Int) {k i : Nat} (hi : i < (listsD k 0 b.nh).length) (hbef : ∀ k', k' < k → ∀ l ∈ listsD k' 0 b.nh, cleanB b (keptD left) l = false)
    (hb2 : ∀ j (hj : j < (listsD k 0 b.nh).length), j < i → cleanB b (keptD left) (listsD k 0 b.nh)[j] = false) (hc : cleanB b (keptD left) (listsD k 0 b.nh)[i] = true) : (fewB b left).2 = true ∧ (fewB b left).1 = (listsD k 0 b.nh)[i] := by
  have E := enough hk left
  obtain ⟨m1, m2, m3⟩ := lists_mem (List.getElem_mem hi)
  have ex := filter_self m2 fun x hx => (m3 x hx).2
  have hsrt := lists_sorted (k := k) (f := 0) (b := b.nh)
  rw [List.pairwise_iff_getElem] at hsrt
  generalize hx : (listsD k 0 b.nh)[i] = x at *
  have hf : (fewB b left).2 = true := by
    cases hf : (fewB b left).2 with
    | true => rfl
    | false =>
      have := E.none hf (fun y => x.contains y)
      rw [ex, hc] at this; cases this
  refine ⟨hf, ?_⟩
  obtain ⟨⟨p, hp⟩, hcs⟩ := E.some hf
  have hless := E.less hf (fun y => x.contains y) (by rw [ex]; exact hc)
  rw [ex] at hless
  rw [hp] at hcs hless ⊢
  have hin := lists_all (f := 0) (b := b.nh) (filter_sorted p b.nh) fun x hx => ⟨Nat.zero_le _, filt_lt hx⟩
  generalize (List.range b.nh).filter p = S at *
  rcases Nat.lt_trichotomy S.length k with h | h | h
  · rw [hbef _ h S hin] at hcs; cases hcs
  · rw [h] at hin
    obtain ⟨j, hj, ej⟩ := List.getElem_of_mem hin
    rcases Nat.lt_trichotomy j i with h1 | h1 | h1
    · have := hb2 j hj h1
      rw [ej, hcs] at this; cases this
    · subst h1; rw [← ej, hx]
    · have := hsrt i j hi hj h1
      rw [hx, ej] at this
      exact absurd (Or.inr ⟨by rw [m1, h], this⟩) hless
  · exact absurd (Or.inl (by rw [m1]; exact h)) hless
end Go.Sx

/- The reference: all lists, and the fewest hands. -/
namespace Go.Sx
open Go.Proofs
set_option maxRecDepth 100000
/-- Lists that are known, one by one. -/
def LS (h : Heap) : List Value → List (List Nat) → Prop
  | [], [] => True
  | c :: cs, l :: ls => IsInts h c (natsI l) ∧ LS h cs ls
  | _, _ => False
theorem LS.mono {h k : Heap} (s : h.sub k) : ∀ {cs : List Value} {ls : List (List Nat)}, LS h cs ls → LS k cs ls
  | [], [], _ => trivial
  | _ :: _, _ :: _, x => ⟨x.1.mono s, LS.mono s x.2⟩
  | [], _ :: _, x => x.elim
  | _ :: _, [], x => x.elim
theorem LS.len {h : Heap} : ∀ {cs : List Value} {ls : List (List Nat)}, LS h cs ls → cs.length = ls.length
  | [], [], _ => rfl
  | _ :: _, _ :: _, x => by simp [LS.len x.2]
  | [], _ :: _, x => x.elim
  | _ :: _, [], x => x.elim
theorem LS.get {h : Heap} : ∀ {cs : List Value} {ls : List (List Nat)}, LS h cs ls → ∀ i (hi : i < ls.length), ∃ c, cs[i]? = some c ∧ IsInts h c (natsI ls[i])
  | [], [], _, i, hi => by simp at hi
  | c :: cs, l :: ls, x, i, hi => by
    cases i with
    | zero => exact ⟨c, rfl, x.1⟩
    | succ i => exact LS.get x.2 i (by simpa using hi)
  | [], _ :: _, x, _, _ => x.elim
  | _ :: _, [], x, _, _ => x.elim
theorem LS.snoc {h : Heap} {c : Value} {l : List Nat} (hc : IsInts h c (natsI l)) : ∀ {cs : List Value} {ls : List (List Nat)}, LS h cs ls → LS h (cs ++ [c]) (ls ++ [l])
  | [], [], _ => ⟨hc, trivial⟩
  | _ :: _, _ :: _, x => ⟨x.1, LS.snoc hc x.2⟩
  | [], _ :: _, x => x.elim
  | _ :: _, [], x => x.elim
def IsLists (h : Heap) (v : Value) (ls : List (List Nat)) : Prop := ∃ cs, SlH h 1 v ls.length cs ∧ LS h cs ls
theorem IsLists.mono {h k : Heap} (s : h.sub k) {v : Value} {ls : List (List Nat)} (x : IsLists h v ls) : IsLists k v ls := by
  obtain ⟨cs, a, b⟩ := x; exact ⟨cs, SlH.mono s a, b.mono s⟩
theorem IsLists.shape {h : Heap} {v : Value} {ls : List (List Nat)} (x : IsLists h v ls) : ∃ ad cp, v = .slice ad ls.length cp ∧ ls.length ≤ cp ∧ cp ≤ 9223372036854775807 ∧ (0 < ls.length → ∃ b off, ad = some ⟨b, off, none⟩ ∧ ∀ i (hi : i < ls.length), ∃ c, cellH h b (off + i) = some c ∧ IsInts h c (natsI ls[i])) := by
  obtain ⟨cs, ⟨_, ad, cp, rfl, h1, h2, h3⟩, hl⟩ := x
  refine ⟨ad, cp, rfl, h1, h2, fun h0 => ?_⟩
  obtain ⟨b, off, e, hc⟩ := h3 h0
  refine ⟨b, off, e, fun i hi => ?_⟩
  obtain ⟨c, e1, e2⟩ := hl.get i hi
  exact ⟨c, hc i c e1, e2⟩
def preL (k f b i : Nat) : List (List Nat) := (List.range i).flatMap fun j => (listsD k (f + j + 1) b).map fun l => (f + j) :: l
theorem preL_succ (k f b i : Nat) : preL k f b (i + 1) = preL k f b i ++ (listsD k (f + i + 1) b).map fun l => (f + i) :: l := by
  simp [preL, List.range_succ, List.flatMap_append]
theorem preL_len {k f b i : Nat} (hb : b ≤ 5) (hi : i ≤ 5) : (preL k f b i).length ≤ 5 * 5 ^ k := by
  have h1 := flatMap_len (l := List.range i) (g := fun j => (listsD k (f + j + 1) b).map fun l => (f + j) :: l) (B := 5 ^ k) fun j _ => by rw [List.length_map]; exact lists_len hb
  rw [List.length_range] at h1
  exact Nat.le_trans h1 (Nat.mul_le_mul hi (Nat.le_refl _))
theorem natsI_cons (x : Nat) (l : List Nat) : natsI (x :: l) = (x : Int) :: natsI l := rfl
theorem dirty_neg {b : BeltD} {left : Nat → Int} {l : List Nat} : dirtyR b left l < 0 ↔ cleanB b (keptD left) l = true := by
  unfold dirtyR cleanB
  by_cases h : firstB b (keptD left) l = b.nt
  · rw [if_pos h]; simp [h]
  · rw [if_neg h]; simp [h]
attribute [local irreducible] Code.wpIn wpListIn Exit.then Exit.inBlock BQ Again Hd St En OpT box blk RQ BQ0 fmap own Desk Chute
theorem lists_ct (b : Nat) (hb : b ≤ 5) : ∀ (k f : Nat) (h : Heap), k ≤ 5 → f ≤ b → CT Try.prog 98 [.int .i64 k, .int .i64 f, .int .i64 b] h [] (fun v h' Γ' => IsLists h' v (listsD k f b) ∧ Γ' = [])
  | 0, f, h, _, _ => by
    refine ct_intro Try.func98 rfl rfl rfl rfl fun Φ => ?_
    refine en_seq <| en_region <| en_det (opT_assign rfl) rfl <| en_nil <| en_then <| en_seq <| en_seq <| en_region <| en_det (opT_move rfl) rfl <| en_det (opT_eql_t rfl rfl (by omega)) rfl <| en_nil <| en_then <| en_cond_t rfl <| en_seq <| en_region <| ?_
    refine en_op (opT_buildSlice (cs := [nilS]) rfl rfl (by kernel_rfl)) rfl fun _ _ _ _ ⟨b13, e1, e2, e3⟩ => ?_
    subst e1 e3; replace e2 := e2.symm; subst e2
    refine en_fzb fun h1 hs1 hb1 => ?_
    refine en_det (opT_assign rfl) rfl <| en_nil <| en_then <| en_ret <| en_then_ret <| ?_
    refine en_return (rs := [.tmp 6]) rfl (.cons (.tmp rfl) .nil) hs1 (Γ1 := []) ⟨⟨[nilS], slH_box hb1 rfl (by simp [listsD]), ⟨SlH.nil _ _, trivial⟩⟩, rfl⟩
  | k + 1, f, h, hk5, hf => by
    have ih := fun f' h' hf' => lists_ct b hb k f' h' (by omega) hf'
    have hpw : 5 ^ k ≤ 625 := by
      have : 5 ^ k ≤ 5 ^ 4 := Nat.pow_le_pow_right (by omega) (by omega)
      simpa using this
    refine ct_intro Try.func98 rfl rfl rfl rfl fun Φ => ?_
    refine en_seq <| en_region <| en_det (opT_assign rfl) rfl <| en_nil <| en_then <| en_seq <| en_seq <| en_region <| en_det (opT_move rfl) rfl <| en_det (opT_eql_f rfl rfl (by omega)) rfl <| en_nil <| en_then <| en_cond_f rfl <| en_skip <| en_then <| en_seq <| en_region <| en_det (opT_assign rfl) rfl <| en_nil <| en_then <| en_seq <| en_seq <| en_region <| en_det (opT_move rfl) rfl <| en_det (opT_assign rfl) rfl <| en_nil <| en_then <| en_block <| ?_
    refine en_own_nil 33 1 ?_
    refine en_loop (fun x : Nat × Value × List Value × Heap => f + x.1 ≤ b ∧ h.sub x.2.2.2 ∧ LS x.2.2.2 x.2.2.1 (preL k f b x.1)) (fun x => [(0, .int .i64 ((k + 1 : Nat) : Int)), (2, .int .i64 b), (7, x.2.1), (8, .int .i64 ((f + x.1 : Nat) : Int))]) (fun x => x.2.2.2) (fun x => [own 33 1 x.2.1 (preL k f b x.1).length x.2.2.1]) (fun x => b - (f + x.1)) (0, .slice none 0 0, [], h) ⟨by simpa using hf, .refl _, trivial⟩ ⟨rfl, rfl, rfl, rfl, trivial⟩ (.refl _) (tkAll _) fun x hx => ?_
    obtain ⟨i, v, cs, h1⟩ := x
    obtain ⟨hi, s1, hLS⟩ := hx
    simp only at hi s1 hLS
    change En _ _ _ [(0, .int .i64 ((k + 1 : Nat) : Int)), (2, .int .i64 b), (7, v), (8, .int .i64 ((f + i : Nat) : Int))] h1 [own 33 1 v (preL k f b i).length cs]
    refine en_seq <| en_seq <| en_region <| en_det (opT_move rfl) rfl <| en_det (opT_move rfl) rfl <| ?_
    first | refine en_det (opT_lss_t rfl rfl (by omega)) rfl ?_ | refine en_det (opT_lss_f rfl rfl (by omega)) rfl ?_ | refine en_det (opT_lss rfl rfl) rfl ?_
    refine en_nil <| en_then <| ?_
    refine en_if rfl (fun hlt => ?_) (fun hlt => ?_)
    · skip
      have hil : f + i < b := by omega
      have cI := ih (f + i + 1) h1 (by omega)
      refine en_skip <| en_then <| en_seq <| en_block <| en_seq <| en_region <| en_det (opT_move rfl) rfl <| en_det (opT_sub_to (c := (k : Int)) rfl rfl (by constructor <;> omega) (by omega)) rfl <| en_det (opT_move rfl) rfl <| en_det (opT_add_to (c := ((f + i + 1 : Nat) : Int)) rfl rfl (by constructor <;> omega) (by omega)) rfl <| en_det (opT_move rfl) rfl <| ?_
      refine en_callq cI rfl rfl rfl rfl fun v25 h2 s2 hv25 => ?_
      obtain ⟨rad, rcp, rfl, hr1, hr2, hr3⟩ := hv25.shape
      have hmem := fun j (hj : j < (listsD k (f + i + 1) b).length) => (lists_mem (List.getElem_mem hj)).1
      have hlen := preL_len (k := k) (f := f) (i := i) hb (by omega)
      have hlen2 := lists_len hb (k := k) (f := f + i + 1)
      have hsucc := preL_succ k f b i
      have hLS2 := hLS.mono s2
      clear hLS hv25 ih cI
      generalize listsD k (f + i + 1) b = R at *
      refine en_det (opT_assign rfl) rfl <| en_nil <| en_then <| en_seq <| en_region <| en_det (opT_assign rfl) rfl <| en_nil <| en_then <| en_block <| ?_
      refine en_loop (fun y : Nat × Value × List Value × Heap => y.1 ≤ R.length ∧ h2.sub y.2.2.2 ∧ LS y.2.2.2 y.2.2.1 (preL k f b i ++ (R.take y.1).map fun l => (f + i) :: l)) (fun y => [(0, .int .i64 ((k + 1 : Nat) : Int)), (2, .int .i64 b), (7, y.2.1), (8, .int .i64 ((f + i : Nat) : Int)), (9, .slice rad R.length rcp), (10, .int .i64 y.1)]) (fun y => y.2.2.2) (fun y => [own 33 1 y.2.1 ((preL k f b i).length + y.1) y.2.2.1]) (fun y => R.length - y.1) (0, v, cs, h2) ⟨by simp, .refl _, by simpa using hLS2⟩ ⟨rfl, rfl, rfl, rfl, rfl, rfl, trivial⟩ (.refl _) (tkAll _) fun y hy => ?_
      obtain ⟨j, u, ds, h3⟩ := y
      obtain ⟨hj, s3, hLSj⟩ := hy
      simp only at hj s3 hLSj
      change En _ _ _ [(0, .int .i64 ((k + 1 : Nat) : Int)), (2, .int .i64 b), (7, u), (8, .int .i64 ((f + i : Nat) : Int)), (9, .slice rad R.length rcp), (10, .int .i64 j)] h3 [own 33 1 u ((preL k f b i).length + j) ds]
      refine en_seq <| en_seq <| en_region <| en_det (opT_move rfl) rfl <| en_det (opT_move rfl) rfl <| en_det (opT_len rfl) rfl <| ?_
      first | refine en_det (opT_lss_t rfl rfl (by omega)) rfl ?_ | refine en_det (opT_lss_f rfl rfl (by omega)) rfl ?_ | refine en_det (opT_lss rfl rfl) rfl ?_
      refine en_nil <| en_then <| ?_
      refine en_if rfl (fun hlt2 => ?_) (fun hlt2 => ?_)
      · skip
        have hjl : j < R.length := by omega
        obtain ⟨rq, roff, rfl, hrc⟩ := hr3 (by omega)
        obtain ⟨c, hc1, hc2⟩ := hrc j hjl
        replace hc1 := cellH_sub s3 hc1
        replace hc2 := hc2.mono s3
        have hml := hmem j hjl
        have hnl := natsI_length R[j]
        have hcI : SlH h3 1 c (natsI R[j]).length ((natsI R[j]).map (Value.int .i64)) := hc2
        refine en_skip <| en_then <| en_seq <| en_block <| en_region <| en_det (opT_move rfl) rfl <| en_det (opT_move rfl) rfl <| ?_
        refine en_op (opT_buildSlice (cs := [.int .i64 ((f + i : Nat) : Int)]) rfl rfl (by kernel_rfl)) rfl fun _ _ _ _ ⟨b34, e1, e2, e3⟩ => ?_
        subst e1 e3; replace e2 := e2.symm; subst e2
        refine en_to_own 1 1 1 (by omega) (by omega) rfl ?_
        rw [show (List.take (1 * 1) [Value.int IntKind.i64 ((f + i : Nat) : Int)]) = [.int .i64 ((f + i : Nat) : Int)] from rfl]
        refine en_det (opT_move rfl) rfl <| en_det (opT_move rfl) rfl <| ?_
        first | refine en_det (opT_idx1 rfl rfl (by omega) (by omega)) rfl ?_ | refine en_det (opT_idx (ks := 0) rfl rfl (by omega) (by omega)) rfl ?_
        refine en_det (opT_load_h rfl hc1) rfl <| ?_
        refine en_op (opT_shape (opT_append (m := 1) (k := (natsI R[j]).length) (xs := [.int .i64 ((f + i : Nat) : Int)]) (news := (natsI R[j]).map (Value.int .i64)) (sz := 1) (e := 3) (v := .slice (some ⟨b34, 0, none⟩) 1 1) rfl rfl (src_h hcI) (by simp [Value.oneCell']) (by omega) (by omega) (by omega))) rfl fun v39 _ _ _ hv39 => ?_
        obtain ⟨ad39, cp39, rfl, _, _, e1, rfl⟩ := hv39
        replace e1 := e1.symm; subst e1
        refine en_freeze_own fun h4 s4 hsl _ => ?_
        have hnew : IsInts h4 (.slice ad39 (1 + (natsI R[j]).length) cp39) (natsI ((f + i) :: R[j])) := by
          unfold IsInts
          rw [natsI_cons, List.length_cons, Nat.add_comm 1]
          rw [Nat.add_comm 1] at hsl
          exact hsl
        refine en_op (opT_buildSlice (cs := [.slice ad39 (1 + (natsI R[j]).length) cp39]) rfl rfl (by kernel_rfl)) rfl fun _ _ _ _ ⟨b40, e1, e2, e3⟩ => ?_
        subst e1 e3; replace e2 := e2.symm; subst e2
        refine en_app1 rfl rfl rfl rfl rfl rfl rfl (by omega) fun ad41 cp41 hm41 hc41 => ?_
        refine en_det (opT_assign rfl) rfl <| en_nil <| en_blk <| en_then <| en_region <| en_det (opT_move rfl) rfl <| en_det (opT_add rfl rfl (by constructor <;> omega)) rfl <| en_det (opT_assign rfl) rfl <| en_nil <| en_then <| ?_
        have hLSn := (hLSj.mono s4).snoc hnew
        rw [List.append_assoc, show (List.map (fun l => (f + i) :: l) (R.take j)) ++ [(f + i) :: R[j]] = (R.take (j + 1)).map fun l => (f + i) :: l by rw [List.take_succ_eq_append_getElem hjl, List.map_append]; rfl] at hLSn
        exact en_again (j + 1, .slice ad41 ((preL k f b i).length + j + 1) cp41, ds ++ [.slice ad39 (1 + (natsI R[j]).length) cp39], h4) ⟨by simp only; omega, s3.trans s4, hLSn⟩ (by simp only; omega) ⟨rfl, rfl, rfl, rfl, rfl, gi rfl (by simp), trivial⟩ (.refl _) inferInstance
      · skip
        obtain rfl : j = R.length := by omega
        rw [List.take_length, ← hsucc] at hLSj
        have el : (preL k f b i).length + R.length = (preL k f b (i + 1)).length := by rw [hsucc, List.length_append, List.length_map]
        rw [el]
        refine en_exit <| en_then_exit <| en_then_exit <| en_blk_hit <| en_blk <| en_then <| en_region <| en_det (opT_move rfl) rfl <| en_det (opT_add rfl rfl (by constructor <;> omega)) rfl <| en_det (opT_assign rfl) rfl <| en_nil <| en_then <| ?_
        exact en_again (i + 1, u, ds, h3) ⟨by simp only; omega, s1.trans (s2.trans s3), hLSj⟩ (by simp only; omega) ⟨rfl, rfl, rfl, gi rfl (by simp only; omega), trivial⟩ (.refl _) inferInstance
    · skip
      have ei : i = b - f := by omega
      have el : preL k f b i = listsD (k + 1) f b := by rw [ei]; rfl
      rw [el] at hLS ⊢
      refine en_exit <| en_then_exit <| en_then_exit <| en_blk_hit <| en_then <| en_seq <| en_region <| en_det (opT_move rfl) rfl <| en_det (opT_assign rfl) rfl <| en_nil <| en_then <| en_ret <| ?_
      refine en_freeze_own fun h2 s2 hsl _ => ?_
      refine en_return (rs := [.tmp 6]) rfl (.cons (.tmp rfl) .nil) (s1.trans s2) (Γ1 := []) ⟨⟨cs, hsl, hLS.mono s2⟩, rfl⟩
def FewX (b : BeltD) (left : Nat → Int) (v : Value) (h' : Heap) (Γ' : List HP) : Prop :=
  Γ' = [] ∧ (((fewB b left).2 = false ∧ v = .tuple #[nilS, .int .i64 1]) ∨ ((fewB b left).2 = true ∧ ∃ sv, v = .tuple #[sv, .int .i64 0] ∧ IsInts h' sv (natsI (fewB b left).1)))
theorem fewestR_ct (h : Heap) (xv hv : Value) (b : BeltD) (left : Nat → Int) (hX : IsBelt h (.agg #[xv, hv]) b) (hk : BOK b) (hl : ∀ m, m < 5 → 0 ≤ left m ∧ left m ≤ 60) :
    CT Try.prog 47 [.agg #[xv, hv], .agg (trayL left).toArray] h [] (FewX b left) := by
  obtain ⟨hT, hH⟩ := belt_parts hX
  have hh5 := hk.h5
  obtain ⟨rv, ⟨_, had, hcp, rfl, hm1, hc1, hp1⟩, hr⟩ := hH
  refine ct_intro Try.func47 rfl rfl rfl rfl fun Φ => ?_
  refine en_seq <| en_region <| en_box rfl rfl rfl fun b2 => en_box rfl rfl rfl fun b3 => en_det (opT_assign rfl) rfl <| en_det (opT_assign rfl) rfl <| en_nil <| en_then <| en_seq <| en_seq <| en_region <| en_det (opT_assign rfl) rfl <| en_nil <| en_then <| en_block <| ?_
  refine en_loop (fun x : Nat × Heap => x.1 ≤ b.nh + 1 ∧ h.sub x.2 ∧ ∀ k', k' < x.1 → ∀ l ∈ listsD k' 0 b.nh, cleanB b (keptD left) l = false) (fun x => [(2, pt b2), (3, pt b3), (6, .int .i64 x.1)]) (fun x => x.2) (fun _ => [box b3 70 (trayL left), box b2 59 [xv, .slice had b.nh hcp]]) (fun x => b.nh + 1 - x.1) (0, h) ⟨by simp, .refl _, fun k' h => by simp at h⟩ ⟨rfl, rfl, rfl, trivial⟩ (.refl _) (tkAll _) fun x hx => ?_
  obtain ⟨k, h1⟩ := x
  obtain ⟨hkn, s1, hno⟩ := hx
  simp only at hkn s1 hno
  change En _ _ _ [(2, pt b2), (3, pt b3), (6, .int .i64 k)] h1 [box b3 70 (trayL left), box b2 59 [xv, .slice had b.nh hcp]]
  refine en_seq <| en_seq <| en_region <| en_det (opT_move rfl) rfl <| en_det (opT_fieldAddr rfl) rfl <| en_det (opT_load_own rfl rfl) rfl <| en_det (opT_len rfl) rfl <| ?_
  first | refine en_det (opT_leq_t rfl rfl (by omega)) rfl ?_ | refine en_det (opT_leq_f rfl rfl (by omega)) rfl ?_ | refine en_det (opT_leq rfl rfl) rfl ?_
  refine en_nil <| en_then <| ?_
  refine en_if rfl (fun hlt => ?_) (fun hlt => ?_)
  · skip
    have hkl : k ≤ b.nh := by omega
    refine en_skip <| en_then <| en_seq <| en_block <| en_seq <| en_region <| en_det (opT_move rfl) rfl <| en_det (opT_fieldAddr rfl) rfl <| en_det (opT_load_own rfl rfl) rfl <| en_det (opT_len rfl) rfl <| ?_
    refine en_callq (lists_ct b.nh hh5 k 0 h1 (by omega) (by omega)) rfl rfl rfl rfl fun v20 h2 s2 hv20 => ?_
    obtain ⟨rad, rcp, rfl, hr1, hr2, hr3⟩ := hv20.shape
    refine en_det (opT_assign rfl) rfl <| en_nil <| en_then <| en_seq <| en_region <| en_det (opT_assign rfl) rfl <| en_nil <| en_then <| en_block <| ?_
    refine en_loop (fun i : Nat => i ≤ (listsD k 0 b.nh).length ∧ ∀ j (hj : j < (listsD k 0 b.nh).length), j < i → cleanB b (keptD left) (listsD k 0 b.nh)[j] = false) (fun i => [(2, pt b2), (3, pt b3), (6, .int .i64 k), (7, .slice rad (listsD k 0 b.nh).length rcp), (8, .int .i64 i)]) (fun _ => h2) (fun _ => [box b3 70 (trayL left), box b2 59 [xv, .slice had b.nh hcp]]) (fun i => (listsD k 0 b.nh).length - i) 0 ⟨by omega, fun j _ hj => by omega⟩ ⟨rfl, rfl, rfl, rfl, rfl, trivial⟩ (.refl _) (tkAll _) fun i ⟨hi, hb2⟩ => ?_
    refine en_seq <| en_seq <| en_region <| en_det (opT_move rfl) rfl <| en_det (opT_move rfl) rfl <| en_det (opT_len rfl) rfl <| ?_
    first | refine en_det (opT_lss_t rfl rfl (by omega)) rfl ?_ | refine en_det (opT_lss_f rfl rfl (by omega)) rfl ?_ | refine en_det (opT_lss rfl rfl) rfl ?_
    refine en_nil <| en_then <| ?_
    refine en_if rfl (fun hlt2 => ?_) (fun hlt2 => ?_)
    · skip
      have hil : i < (listsD k 0 b.nh).length := by omega
      obtain ⟨rq, roff, rfl, hrc⟩ := hr3 (by omega)
      obtain ⟨c, hc1', hc2'⟩ := hrc i hil
      obtain ⟨m1, m2, m3⟩ := lists_mem (List.getElem_mem hil)
      have cD := dirtyR_ct h2 xv (.slice had b.nh hcp) c b left (listsD k 0 b.nh)[i] (hX.mono (s1.trans s2)) hk hl (m2.imp fun h => Nat.ne_of_lt h) (fun x hx => (m3 x hx).2) (by omega) hc2'
      skip
      by_cases hneg : dirtyR b left (listsD k 0 b.nh)[i] < 0
      · obtain ⟨f1, f2⟩ := few_some hk left hil hno hb2 (dirty_neg.1 hneg)
        refine en_skip <| en_then <| en_seq <| en_block <| en_seq <| en_draw0 [0, 1, 2, 3, 4, 5, 6, 7] (by kernel_rfl) (by decide +kernel) (by decide +kernel) (by decide) <| dp_q rfl (opT_loadW_own rfl rfl) rfl rfl rfl <| dp_p rfl (fun _ _ => opT_move rfl) rfl rfl rfl <| dp_p rfl (fun _ _ => opT_move rfl) rfl rfl rfl <| ?_
        first | refine dp_p rfl (fun _ _ => opT_idx1 rfl rfl (by omega) (by omega)) rfl rfl rfl ?_ | refine dp_p rfl (fun _ _ => opT_idx (ks := 0) rfl rfl (by omega) (by omega)) rfl rfl rfl ?_
        refine dp_q rfl (opT_load_h rfl hc1') rfl rfl rfl <| dp_q rfl (opT_loadW_own rfl (row_length _ _)) rfl rfl rfl <| dp_ed0 rfl (opT_callw (cD) rfl rfl rfl) rfl rfl rfl rfl <| dp_p rfl (fun _ _ => opT_lss_t rfl rfl (by omega)) rfl rfl rfl <| dp_done0 <| en_then <| en_cond_t rfl <| en_seq <| en_region <| en_det (opT_move rfl) rfl <| en_det (opT_move rfl) rfl <| ?_
        first | refine en_det (opT_idx1 rfl rfl (by omega) (by omega)) rfl ?_ | refine en_det (opT_idx (ks := 0) rfl rfl (by omega) (by omega)) rfl ?_
        refine en_det (opT_load_h rfl hc1') rfl <| en_det (opT_assign rfl) rfl <| en_det (opT_assign rfl) rfl <| en_nil <| en_then <| en_ret <| en_blk_ret <| en_then_ret <| en_then_ret <| en_blk_ret <| en_blk_ret <| en_then_ret <| en_then_ret <| en_blk_ret <| en_then_ret <| ?_
        refine en_return (rs := [.tmp 4, .tmp 5]) rfl (.cons (.tmp rfl) (.cons (.tmp rfl) .nil)) (s1.trans s2) (Γ1 := []) ⟨rfl, .inr ⟨f1, c, rfl, by rw [f2]; exact hc2'⟩⟩
      · skip
        refine en_skip <| en_then <| en_seq <| en_block <| en_seq <| en_draw0 [0, 1, 2, 3, 4, 5, 6, 7] (by kernel_rfl) (by decide +kernel) (by decide +kernel) (by decide) <| dp_q rfl (opT_loadW_own rfl rfl) rfl rfl rfl <| dp_p rfl (fun _ _ => opT_move rfl) rfl rfl rfl <| dp_p rfl (fun _ _ => opT_move rfl) rfl rfl rfl <| ?_
        first | refine dp_p rfl (fun _ _ => opT_idx1 rfl rfl (by omega) (by omega)) rfl rfl rfl ?_ | refine dp_p rfl (fun _ _ => opT_idx (ks := 0) rfl rfl (by omega) (by omega)) rfl rfl rfl ?_
        refine dp_q rfl (opT_load_h rfl hc1') rfl rfl rfl <| dp_q rfl (opT_loadW_own rfl (row_length _ _)) rfl rfl rfl <| dp_ed0 rfl (opT_callw (cD) rfl rfl rfl) rfl rfl rfl rfl <| dp_p rfl (fun _ _ => opT_lss_f rfl rfl (by omega)) rfl rfl rfl <| dp_done0 <| en_then <| en_cond_f rfl <| en_skip <| en_blk <| en_then <| en_region <| en_det (opT_move rfl) rfl <| en_det (opT_add rfl rfl (by constructor <;> omega)) rfl <| en_det (opT_assign rfl) rfl <| en_nil <| en_then <| ?_
        refine en_again (i + 1) ⟨by omega, fun j hj h3 => ?_⟩ (by omega) ⟨rfl, rfl, rfl, rfl, gi rfl (by simp), trivial⟩ (.refl _) inferInstance
        rcases Nat.lt_succ_iff_lt_or_eq.1 h3 with h4 | rfl
        · exact hb2 j hj h4
        · rw [← Bool.not_eq_true]; exact fun hcl => hneg (dirty_neg.2 hcl)
    · skip
      have ei : i = (listsD k 0 b.nh).length := by omega
      refine en_exit <| en_then_exit <| en_then_exit <| en_blk_hit <| en_blk <| en_then <| en_region <| en_det (opT_move rfl) rfl <| en_det (opT_add rfl rfl (by constructor <;> omega)) rfl <| en_det (opT_assign rfl) rfl <| en_nil <| en_then <| ?_
      refine en_again (k + 1, h2) ⟨by simp only; omega, s1.trans s2, fun k' hk' l hll => ?_⟩ (by simp only; omega) ⟨rfl, rfl, gi rfl (by simp), trivial⟩ (.refl _) inferInstance
      simp only at hk'
      rcases Nat.lt_succ_iff_lt_or_eq.1 hk' with h4 | rfl
      · exact hno k' h4 l hll
      · obtain ⟨j, hj, e⟩ := List.getElem_of_mem hll
        rw [← e]; exact hb2 j hj (by omega)
  · skip
    have f1 := few_none hk left fun k' hk' l hll => hno k' (by omega) l hll
    refine en_exit <| en_then_exit <| en_then_exit <| en_blk_hit <| en_then <| en_seq <| en_region <| en_det (opT_assign rfl) rfl <| en_det (opT_assign rfl) rfl <| en_nil <| en_then <| en_ret <| ?_
    refine en_return (rs := [.tmp 4, .tmp 5]) rfl (.cons (.tmp rfl) (.cons (.tmp rfl) .nil)) s1 (Γ1 := []) ⟨rfl, .inl ⟨f1, rfl⟩⟩
end Go.Sx

/- Two truth values compared. -/
namespace Go.Sx
open Go Instr
section
variable {P : Program} {n : Nat} {ρ : Env} {h : Heap} {Γ : List HP} {d : Option Nat} {ty t t' : TypeId} {pos : String} {af : Array Edge} {gd : Option (Nat × Bool)} {x y : Operand} {a b : Bool}
theorem opT_neqB [hT : Ty P t .bool] (hx : ρ.ev x = some (.bool a)) (hy : ρ.ev y = some (.bool b)) : OpT P n ⟨d, .binOp .neq t x y t', ty, pos, af, gd⟩ ρ h Γ (Det (.bool (a != b)) h Γ) :=
  opT_pure (by simp) fun ac en w => by
    have h1 : (Op.equal t (.bool a) (.bool b)).run P w = .ok (a == b) w := run_equalIn_bool' w _ t a b hT.und
    have h0 : (eqGuard .neq t x y (.bool a) (.bool b)).run P w = .ok () w := by simp [eqGuard, Sem.run, pure]
    have h2 : (binOp .neq t (.bool a) (.bool b)).run P w = .ok (.bool (a != b)) w := by
      simp only [binOp]
      rw [Sem.run_bind, h1]; rfl
    simp only [execOp, en.ev hx, en.ev hy, Sem.run_bind, h0, h2, Result.andThen_ok, Sem.run, pure]
end
end Go.Sx
