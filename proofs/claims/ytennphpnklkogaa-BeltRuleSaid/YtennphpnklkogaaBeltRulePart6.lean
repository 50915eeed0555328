/- BeltRule: for every input the law answers true and its arguments read as before; no condition. Part 6 of 7: W41, W42, W43, W44, BRuled2, W45, W46, W47, BRef. -/
import Derived.Test.YtennphpnklkogaaBeltRulePart5
set_option linter.unusedSimpArgs false
set_option linter.unusedVariables false
/- A sharing, looked at. -/
namespace Go.Sx
open Go.Proofs
set_option maxRecDepth 100000
def shM (b : BeltD) (X : Nat → Nat → Int) (h m : Nat) : Bool := inD (X h m) 0 60 && (!decide (0 < X h m) || (b.hand h).takes m)
def shH (b : BeltD) (t : Nat) (X : Nat → Nat → Int) (h : Nat) : Bool := allI 5 (shM b X h) && decide (sum5 (X h) ≤ forceD (b.hand h) t)
def shOK (b : BeltD) (t : Nat) (X : Nat → Nat → Int) : Bool := allI b.nh (shH b t X) && allI 5 fun m => decide (tot b.nh X m ≤ b.tray t m)
def shE (b : BeltD) (tray : Int) (n : Nat) (X : Nat → Nat → Int) : Int := if atD b tray = 0 then (if n = b.nh then (if shOK b tray.toNat X = true then 0 else 8) else 3) else atD b tray
def shV (b : BeltD) (X : Nat → Nat → Int) : Int := sum5 (tot b.nh X)
def tstep (X : Nat → Nat → Int) (h k : Nat) : Nat → Int := fun m => if m < k then tot (h + 1) X m else tot h X m
theorem tot_succ (X : Nat → Nat → Int) (h m : Nat) : tot (h + 1) X m = tot h X m + X h m := rfl
theorem tstep_zero (X : Nat → Nat → Int) (h : Nat) : trayL (tot h X) = trayL (tstep X h 0) := row_congr fun m _ => by simp [tstep]
theorem tstep_five (X : Nat → Nat → Int) (h : Nat) : trayL (tstep X h 5) = trayL (tot (h + 1) X) := row_congr fun m hm => by simp [tstep, hm]
theorem tstep_next (X : Nat → Nat → Int) (h k : Nat) : (fun m => if m = k then tot h X k + X h k else tstep X h k m) = tstep X h (k + 1) := by
  funext m
  unfold tstep
  by_cases e : m = k
  · subst e; simp [tot_succ]
  · by_cases h1 : m < k
    · simp [e, h1, show m < k + 1 by omega]
    · simp [e, h1, show ¬ m < k + 1 by omega]
theorem shM_rng {b : BeltD} {X : Nat → Nat → Int} {h m : Nat} (e : shM b X h m = true) : 0 ≤ X h m ∧ X h m ≤ 60 := by
  unfold shM inD at e
  simp only [Bool.and_eq_true, decide_eq_true_eq] at e
  exact e.1
theorem allI_false {n : Nat} {p : Nat → Bool} {i : Nat} (hi : i < n) (h : p i = false) : allI n p = false := by
  cases e : allI n p with
  | false => rfl
  | true => rw [allI_iff] at e; have := e i hi; rw [h] at this; cases this
theorem shE_wrong {b : BeltD} {tray : Int} {n : Nat} {X : Nat → Nat → Int} (h1 : atD b tray = 0) (h2 : n = b.nh) (h3 : shOK b tray.toNat X = false) : shE b tray n X = 8 := by
  unfold shE; rw [if_pos h1, if_pos h2, h3]; rfl
theorem tot_bound {X : Nat → Nat → Int} {m : Nat} : ∀ {h : Nat}, (∀ i, i < h → 0 ≤ X i m ∧ X i m ≤ 60) → 0 ≤ tot h X m ∧ tot h X m ≤ 60 * h := fun {h} hx => sumN_bound hx
attribute [local irreducible] Code.wpIn wpListIn Exit.then Exit.inBlock BQ Again Hd St En OpT box blk RQ BQ0 fmap own Desk Chute
theorem shared_ct (h : Heap) (v sv : Value) (b : BeltD) (tray : Int) (n : Nat) (X : Nat → Nat → Int) (hb : IsBelt h v b) (hs : IsTrays h sv n X) (hn : n ≤ 1000) : CT Try.prog 64 [v, .int .i64 tray, sv] h []
    (fun v _ Γ' => v = .tuple #[.int .i64 (if shE b tray n X = 0 then shV b X else 0), .int .i64 (shE b tray n X)] ∧ Γ' = []) := by
  obtain ⟨tv, hv, rfl, hT, hH⟩ := id hb
  have hH0 := hH
  obtain ⟨rv, ⟨_, had, hcp, rfl, hm1, hc1, hp1⟩, hr⟩ := hH
  obtain ⟨_, tad, tcp, rfl, tm1, tc1, tp1⟩ := hT
  obtain ⟨sl, sad, scp, rfl, sm1, sc1, sp1⟩ := hs
  have cA := at_ct h _ _ b tray hb
  refine ct_intro Try.func64 rfl rfl rfl rfl fun Φ => ?_
  refine en_seq <| en_region <| en_box rfl rfl rfl fun b3 => en_det (opT_assign rfl) rfl <| en_det (opT_assign rfl) rfl <| en_nil <| en_then <| en_seq <| en_region <| ?_
  first | refine en_det (opT_loadW_own rfl rfl) rfl ?_ | refine en_det (opT_loadA_own rfl) rfl ?_
  refine en_det (opT_move rfl) rfl <| ?_
  refine en_call cA rfl rfl rfl rfl fun v h1 Γ' s1 hv => ?_
  skip
  rcases hv with ⟨hz, hi, d, rfl, rfl⟩ | ⟨hz, rfl, rfl⟩
  · refine en_norm ?_
    have hk := check_ok.1 hz
    have h5 := hk.h5
    have h8 := hk.n8
    have haz := atD_zero hz hi
    obtain ⟨t, rfl, htn⟩ := at_nat hi
    by_cases hnn : n = b.nh
    · subst hnn
      have hwr := fun e => shE_wrong (X := X) haz rfl e
      rw [Int.toNat_natCast] at hwr
      refine en_det (opT_move rfl) rfl <| en_det (opT_extract rfl rfl) rfl <| en_det (opT_extract rfl rfl) rfl <| en_det (opT_assign rfl) rfl <| en_det (opT_assign rfl) rfl <| en_nil <| en_then <| en_seq <| en_block <| en_seq <| en_region <| en_det (opT_move rfl) rfl <| en_det (opT_neq_f rfl rfl (by omega)) rfl <| en_det (opT_assign rfl) rfl <| en_nil <| en_then <| en_cond_f rfl <| en_seq <| en_region <| en_det (opT_move rfl) rfl <| en_det (opT_len rfl) rfl <| en_det (opT_fieldAddr rfl) rfl <| en_det (opT_load_own rfl rfl) rfl <| en_det (opT_len rfl) rfl <| en_det (opT_neq_f rfl rfl (by omega)) rfl <| en_det (opT_assign rfl) rfl <| en_nil <| en_then <| en_cond_f rfl <| en_skip <| en_blk <| en_then <| en_seq <| en_region <| en_alloc rfl fun b10 => ?_
      refine en_nil <| en_then <| en_seq <| en_seq <| en_region <| en_det (opT_move rfl) rfl <| en_det (opT_len rfl) rfl <| en_det (opT_move rfl) rfl <| en_nil <| en_then <| en_block <| ?_
      have e0 : trayL (fun _ : Nat => (0 : Int)) = trayL (tot 0 X) := rfl
      change En _ _ _ _ h1 [box b10 31 (trayL (tot 0 X)), Desk d (.slice tad b.nt tcp) (.slice had b.nh hcp) wholeV b.hand, box b3 26 [.slice tad b.nt tcp, .slice had b.nh hcp]]
      refine en_loop (fun x : Nat × Heap => x.1 ≤ b.nh ∧ h1.sub x.2 ∧ ∀ i, i < x.1 → shH b t X i = true) (fun x => [(1, .int .i64 t), (3, pt b3), (8, pt d), (10, pt b10), (34, .slice sad b.nh scp), (35, .int .i64 b.nh), (36, .int .i64 x.1)]) (fun x => x.2) (fun x => [box b10 31 (trayL (tot x.1 X)), Desk d (.slice tad b.nt tcp) (.slice had b.nh hcp) wholeV b.hand, box b3 26 [.slice tad b.nt tcp, .slice had b.nh hcp]]) (fun x => b.nh - x.1) (0, h1) ⟨by simp, .refl _, fun i hi => by simp at hi⟩ ⟨rfl, rfl, rfl, rfl, rfl, rfl, rfl, trivial⟩ (.refl _) (tkAll _) fun x hx => ?_
      obtain ⟨k, h2⟩ := x
      obtain ⟨hkn, s2, hok⟩ := hx
      simp only at hkn s2 hok
      change En _ _ _ [(1, .int .i64 t), (3, pt b3), (8, pt d), (10, pt b10), (34, .slice sad b.nh scp), (35, .int .i64 b.nh), (36, .int .i64 k)] h2 [box b10 31 (trayL (tot k X)), Desk d (.slice tad b.nt tcp) (.slice had b.nh hcp) wholeV b.hand, box b3 26 [.slice tad b.nt tcp, .slice had b.nh hcp]]
      have hXb : ∀ i, i < k → ∀ m, m < 5 → 0 ≤ X i m ∧ X i m ≤ 60 := fun i hi m hm => by
        have := hok i hi
        unfold shH at this
        rw [Bool.and_eq_true, allI_iff] at this
        exact shM_rng (this.1 m hm)
      refine en_seq <| en_region <| ?_
      first | refine en_det (opT_lss_t rfl rfl (by omega)) rfl ?_ | refine en_det (opT_lss_f rfl rfl (by omega)) rfl ?_ | refine en_det (opT_lss rfl rfl) rfl ?_
      refine en_nil <| en_then <| en_seq <| ?_
      refine en_if rfl (fun hlt1 => ?_) (fun hlt1 => ?_)
      · skip
        have hkl : k < b.nh := by omega
        obtain ⟨sb, soff, rfl, scells⟩ := sp1 (by omega)
        obtain ⟨hbb, hoff, rfl, hcells⟩ := hp1 (by omega)
        have hrow : CellsH h2 sb (soff + k * 5) (trayL (X k)) := (scells.row hkl).mono (s1.trans s2)
        refine en_skip <| en_then <| en_seq <| en_block <| en_seq <| en_region <| en_det (opT_move rfl) rfl <| ?_
        first | refine en_det (opT_idx1 rfl rfl (by omega) (by omega)) rfl ?_ | refine en_det (opT_idx (ks := 0) rfl rfl (by omega) (by omega)) rfl ?_
        refine en_det (opT_loadA_h rfl hrow (row_length _ _)) rfl <| en_alloc rfl fun b12 => ?_
        refine en_det (opT_assign rfl) rfl <| en_det0 (opT_storeW rfl rfl rfl rfl (one_trayL (X k))) <| en_nil <| en_then <| en_seq <| en_seq <| en_region <| en_det (opT_loadW_own rfl (row_length _ _)) rfl <| en_det (opT_move rfl) rfl <| en_nil <| en_then <| en_block <| ?_
        rw [tstep_zero]
        refine en_loop (fun x : Nat => x ≤ 5 ∧ ∀ i, i < x → shM b X k i = true) (fun x => [(1, .int .i64 t), (3, pt b3), (8, pt d), (10, pt b10), (34, .slice (some ⟨sb, soff, none⟩) b.nh scp), (35, .int .i64 b.nh), (36, .int .i64 k), (11, .int .i64 k), (12, pt b12), (41, .agg (trayL (X k)).toArray), (42, .int .i64 x)]) (fun _ => h2) (fun x => [box b12 31 (trayL (X k)), box b10 31 (trayL (tstep X k x)), Desk d (.slice tad b.nt tcp) (.slice (some ⟨hbb, hoff, none⟩) b.nh hcp) wholeV b.hand, box b3 26 [.slice tad b.nt tcp, .slice (some ⟨hbb, hoff, none⟩) b.nh hcp]]) (fun x => 5 - x) 0 ⟨by simp, fun i hi => by simp at hi⟩ ⟨rfl, rfl, rfl, rfl, rfl, rfl, rfl, rfl, rfl, rfl, rfl, trivial⟩ (.refl _) (tkAll _) fun m hx => ?_
        obtain ⟨hm, hmok⟩ := hx
        refine en_seq <| en_region <| ?_
        first | refine en_det (opT_lss_t rfl rfl (by omega)) rfl ?_ | refine en_det (opT_lss_f rfl rfl (by omega)) rfl ?_ | refine en_det (opT_lss rfl rfl) rfl ?_
        refine en_nil <| en_then <| en_seq <| ?_
        refine en_if rfl (fun hlt2 => ?_) (fun hlt2 => ?_)
        · skip
          have hm5 : m < 5 := by omega
          have hg : (trayL (X k))[m]? = some (.int .i64 (X k m)) := row_get hm5
          have cI := in_ct (X k m) 0 60 h2
          have hce := cellH_sub (s1.trans s2) (hcells.cell hkl (by omega : m < 9))
          have hcv : hcell (b.hand k) (rv k) m = .bool ((b.hand k).takes m) := by simp [hcell, hm5]
          rw [hcv] at hce
          have hbad : shM b X k m = false → shE b t b.nh X = 8 := fun e => hwr (by
            have h1 : allI b.nh (shH b t X) = false := allI_false hkl (by unfold shH; rw [allI_false hm5 e]; rfl)
            unfold shOK; rw [h1]; rfl)
          have hgood : shM b X k m = true → ∀ i, i < m + 1 → shM b X k i = true := fun e i hi => by
            by_cases h1 : i = m
            · subst h1; exact e
            · exact hmok i (by omega)
          have hsM : shM b X k m = (inD (X k m) 0 60 && (!decide (0 < X k m) || (b.hand k).takes m)) := rfl
          have htb := tot_bound (X := X) (m := m) (h := k) fun i hi => hXb i hi m hm5
          have hg2 : (trayL (tstep X k m))[m]? = some (.int .i64 (tot k X m)) := by rw [row_get hm5]; simp [tstep]
          have hnx := tstep_next X k m
          generalize X k m = q at hg cI hsM hnx
          generalize (b.hand k).takes m = tk at hce hsM
          skip
          cases hin : inD q 0 60 with
          | false =>
            rw [hin] at cI hsM
            have e8 := hbad (by rw [hsM]; rfl)
            rw [e8]
            refine en_skip <| en_then <| en_seq <| en_block <| en_seq <| en_region <| en_det (opT_move rfl) rfl <| en_det (opT_index rfl rfl (by omega) (by omega) hg) rfl <| en_det (opT_assign rfl) rfl <| en_det (opT_assign rfl) rfl <| en_nil <| en_then <| en_seq <| en_seq <| en_region <| en_det (opT_move rfl) rfl <| en_calld (cI) rfl rfl rfl rfl <| ?_
            first | refine en_det (opT_not_t rfl) rfl ?_ | refine en_det (opT_not_f rfl) rfl ?_ | refine en_det (opT_not rfl) rfl ?_
            refine en_det (opT_move rfl) rfl <| en_g_no rfl rfl rfl <| en_g_no rfl rfl rfl <| en_g_no rfl rfl rfl <| en_g_undef rfl rfl rfl <| en_g_undef rfl rfl rfl <| en_g_undef rfl rfl rfl <| en_g_undef rfl rfl rfl <| en_g_undef rfl rfl rfl <| en_g_undef rfl rfl rfl <| en_g_undef rfl rfl rfl <| en_g_undef rfl rfl rfl <| en_g_undef rfl rfl rfl <| en_g_no rfl rfl rfl <| ?_
            first | refine en_det (opT_pick_t rfl rfl) rfl ?_ | refine en_det (opT_pick_f rfl rfl) rfl ?_
            refine en_nil <| en_then <| en_cond_t rfl <| en_seq <| en_region <| en_det (opT_assign rfl) rfl <| en_det (opT_assign rfl) rfl <| en_nil <| en_then <| en_ret <| en_then_ret <| en_blk_ret <| en_then_ret <| en_then_ret <| en_blk_ret <| en_then_ret <| en_blk_ret <| en_then_ret <| en_then_ret <| en_blk_ret <| en_then_ret <| ?_
            refine en_return (rs := [.tmp 6, .tmp 7]) rfl (.cons (.tmp rfl) (.cons (.tmp rfl) .nil)) (s1.trans s2) (Γ1 := []) ⟨rfl, rfl⟩
          | true =>
            rw [hin] at cI hsM
            have hq : 0 ≤ q ∧ q ≤ 60 := by simpa [inD] using hin
            by_cases h0 : 0 < q
            · cases tk with
              | false =>
                have e8 := hbad (by rw [hsM]; simp [h0])
                rw [e8]
                refine en_skip <| en_then <| en_seq <| en_block <| en_seq <| en_region <| en_det (opT_move rfl) rfl <| en_det (opT_index rfl rfl (by omega) (by omega) hg) rfl <| en_det (opT_assign rfl) rfl <| en_det (opT_assign rfl) rfl <| en_nil <| en_then <| en_seq <| en_seq <| en_region <| en_det (opT_move rfl) rfl <| en_calld (cI) rfl rfl rfl rfl <| ?_
                first | refine en_det (opT_not_t rfl) rfl ?_ | refine en_det (opT_not_f rfl) rfl ?_ | refine en_det (opT_not rfl) rfl ?_
                refine en_det (opT_move rfl) rfl <| en_g_yes rfl rfl <| en_det (opT_move rfl) rfl <| en_g_yes rfl rfl <| en_det (opT_gtr_t rfl rfl (by omega)) rfl <| en_g_yes rfl rfl <| en_det (opT_move rfl) rfl <| en_g_yes rfl rfl <| en_det (opT_fieldAddr rfl) rfl <| en_g_yes rfl rfl <| en_det (opT_load_own rfl rfl) rfl <| en_g_yes rfl rfl <| en_det (opT_move rfl) rfl <| en_g_yes rfl rfl <| en_det (opT_move rfl) rfl <| en_g_yes rfl rfl <| ?_
                first | refine en_det (opT_idx1 rfl rfl (by omega) (by omega)) rfl ?_ | refine en_det (opT_idx (ks := 0) rfl rfl (by omega) (by omega)) rfl ?_
                refine en_g_yes rfl rfl <| en_det (opT_fieldAddr rfl) rfl <| en_g_yes rfl rfl <| en_det (opT_idxArr rfl rfl (by omega) (by omega)) rfl <| en_g_yes rfl rfl <| ?_
                first | refine en_det (opT_desk0 rfl) rfl ?_ | refine en_det (opT_desk1 rfl) rfl ?_ | refine en_det (opT_desk3 rfl) rfl ?_ | refine en_det (opT_load_h rfl (by assumption)) rfl ?_ | refine en_det (opT_load_own rfl rfl) rfl ?_
                refine en_g_yes rfl rfl <| ?_
                first | refine en_det (opT_not_t rfl) rfl ?_ | refine en_det (opT_not_f rfl) rfl ?_ | refine en_det (opT_not rfl) rfl ?_
                refine en_g_yes rfl rfl <| ?_
                first | refine en_det (opT_pick_t rfl rfl) rfl ?_ | refine en_det (opT_pick_f rfl rfl) rfl ?_
                first | refine en_det (opT_pick_t rfl rfl) rfl ?_ | refine en_det (opT_pick_f rfl rfl) rfl ?_
                refine en_nil <| en_then <| en_cond_t rfl <| en_seq <| en_region <| en_det (opT_assign rfl) rfl <| en_det (opT_assign rfl) rfl <| en_nil <| en_then <| en_ret <| en_then_ret <| en_blk_ret <| en_then_ret <| en_then_ret <| en_blk_ret <| en_then_ret <| en_blk_ret <| en_then_ret <| en_then_ret <| en_blk_ret <| en_then_ret <| ?_
                refine en_return (rs := [.tmp 6, .tmp 7]) rfl (.cons (.tmp rfl) (.cons (.tmp rfl) .nil)) (s1.trans s2) (Γ1 := []) ⟨rfl, rfl⟩
              | true =>
                have hgd := hgood (by rw [hsM]; simp)
                refine en_skip <| en_then <| en_seq <| en_block <| en_seq <| en_region <| en_det (opT_move rfl) rfl <| en_det (opT_index rfl rfl (by omega) (by omega) hg) rfl <| en_det (opT_assign rfl) rfl <| en_det (opT_assign rfl) rfl <| en_nil <| en_then <| en_seq <| en_seq <| en_region <| en_det (opT_move rfl) rfl <| en_calld (cI) rfl rfl rfl rfl <| ?_
                first | refine en_det (opT_not_t rfl) rfl ?_ | refine en_det (opT_not_f rfl) rfl ?_ | refine en_det (opT_not rfl) rfl ?_
                refine en_det (opT_move rfl) rfl <| en_g_yes rfl rfl <| en_det (opT_move rfl) rfl <| en_g_yes rfl rfl <| en_det (opT_gtr_t rfl rfl (by omega)) rfl <| en_g_yes rfl rfl <| en_det (opT_move rfl) rfl <| en_g_yes rfl rfl <| en_det (opT_fieldAddr rfl) rfl <| en_g_yes rfl rfl <| en_det (opT_load_own rfl rfl) rfl <| en_g_yes rfl rfl <| en_det (opT_move rfl) rfl <| en_g_yes rfl rfl <| en_det (opT_move rfl) rfl <| en_g_yes rfl rfl <| ?_
                first | refine en_det (opT_idx1 rfl rfl (by omega) (by omega)) rfl ?_ | refine en_det (opT_idx (ks := 0) rfl rfl (by omega) (by omega)) rfl ?_
                refine en_g_yes rfl rfl <| en_det (opT_fieldAddr rfl) rfl <| en_g_yes rfl rfl <| en_det (opT_idxArr rfl rfl (by omega) (by omega)) rfl <| en_g_yes rfl rfl <| ?_
                first | refine en_det (opT_desk0 rfl) rfl ?_ | refine en_det (opT_desk1 rfl) rfl ?_ | refine en_det (opT_desk3 rfl) rfl ?_ | refine en_det (opT_load_h rfl (by assumption)) rfl ?_ | refine en_det (opT_load_own rfl rfl) rfl ?_
                refine en_g_yes rfl rfl <| ?_
                first | refine en_det (opT_not_t rfl) rfl ?_ | refine en_det (opT_not_f rfl) rfl ?_ | refine en_det (opT_not rfl) rfl ?_
                refine en_g_yes rfl rfl <| ?_
                first | refine en_det (opT_pick_t rfl rfl) rfl ?_ | refine en_det (opT_pick_f rfl rfl) rfl ?_
                first | refine en_det (opT_pick_t rfl rfl) rfl ?_ | refine en_det (opT_pick_f rfl rfl) rfl ?_
                refine en_nil <| en_then <| en_cond_f rfl <| en_skip <| en_then <| en_region <| en_det (opT_move rfl) rfl <| en_det (opT_idxArr rfl rfl (by omega) (by omega)) rfl <| en_det (opT_load_own rfl hg2) rfl <| en_det (opT_move rfl) rfl <| en_det (opT_add rfl rfl (by constructor <;> omega)) rfl <| en_det (opT_idxArr rfl rfl (by omega) (by omega)) rfl <| en_det0 (opT_store1s rfl rfl rfl (by rw [row_length]; omega)) <| en_nil <| en_blk <| en_then <| en_region <| en_det (opT_add rfl rfl (by constructor <;> omega)) rfl <| en_det (opT_move rfl) rfl <| en_nil <| en_then <| ?_
                rw [left_set, hnx]
                exact en_again (m + 1) ⟨by omega, hgd⟩ (by omega) ⟨rfl, rfl, rfl, rfl, rfl, rfl, rfl, rfl, rfl, rfl, gi rfl (by simp), trivial⟩ (.refl _) inferInstance
            · have hgd := hgood (by rw [hsM]; simp [h0])
              refine en_skip <| en_then <| en_seq <| en_block <| en_seq <| en_region <| en_det (opT_move rfl) rfl <| en_det (opT_index rfl rfl (by omega) (by omega) hg) rfl <| en_det (opT_assign rfl) rfl <| en_det (opT_assign rfl) rfl <| en_nil <| en_then <| en_seq <| en_seq <| en_region <| en_det (opT_move rfl) rfl <| en_calld (cI) rfl rfl rfl rfl <| ?_
              first | refine en_det (opT_not_t rfl) rfl ?_ | refine en_det (opT_not_f rfl) rfl ?_ | refine en_det (opT_not rfl) rfl ?_
              refine en_det (opT_move rfl) rfl <| en_g_yes rfl rfl <| en_det (opT_move rfl) rfl <| en_g_yes rfl rfl <| en_det (opT_gtr_f rfl rfl (by omega)) rfl <| en_g_yes rfl rfl <| en_det (opT_move rfl) rfl <| en_g_no rfl rfl rfl <| en_g_no rfl rfl rfl <| en_g_no rfl rfl rfl <| en_g_no rfl rfl rfl <| en_g_no rfl rfl rfl <| en_g_no rfl rfl rfl <| en_g_no rfl rfl rfl <| en_g_no rfl rfl rfl <| en_g_no rfl rfl rfl <| en_g_yes rfl rfl <| ?_
              first | refine en_det (opT_pick_t rfl rfl) rfl ?_ | refine en_det (opT_pick_f rfl rfl) rfl ?_
              first | refine en_det (opT_pick_t rfl rfl) rfl ?_ | refine en_det (opT_pick_f rfl rfl) rfl ?_
              refine en_nil <| en_then <| en_cond_f rfl <| en_skip <| en_then <| en_region <| en_det (opT_move rfl) rfl <| en_det (opT_idxArr rfl rfl (by omega) (by omega)) rfl <| en_det (opT_load_own rfl hg2) rfl <| en_det (opT_move rfl) rfl <| en_det (opT_add rfl rfl (by constructor <;> omega)) rfl <| en_det (opT_idxArr rfl rfl (by omega) (by omega)) rfl <| en_det0 (opT_store1s rfl rfl rfl (by rw [row_length]; omega)) <| en_nil <| en_blk <| en_then <| en_region <| en_det (opT_add rfl rfl (by constructor <;> omega)) rfl <| en_det (opT_move rfl) rfl <| en_nil <| en_then <| ?_
              rw [left_set, hnx]
              exact en_again (m + 1) ⟨by omega, hgd⟩ (by omega) ⟨rfl, rfl, rfl, rfl, rfl, rfl, rfl, rfl, rfl, rfl, gi rfl (by simp), trivial⟩ (.refl _) inferInstance
        · skip
          obtain rfl : m = 5 := by omega
          rw [tstep_five]
          have hXk : ∀ m, m < 5 → 0 ≤ X k m ∧ X k m ≤ 60 := fun m hm => shM_rng (hmok m hm)
          have cS : CT Try.prog 76 [.slice (some ⟨b12, 0, none⟩) 5 5] h2 [box b12 31 (trayL (X k))] (DetW (.int .i64 (sum5 (X k))) [box b12 31 (trayL (X k))]) :=
            add_own_ct h2 b12 0 5 5 31 _ (X k) (by omega) (fun j hj => by have := hXk j hj; omega) (fun j hj => by rw [Nat.zero_add]; exact row_get hj)
          have cF := force_ct h2 d (.slice tad b.nt tcp) (.slice (some ⟨hbb, hoff, none⟩) b.nh hcp) wholeV b.hand b.nh k t (hH0.mono (s1.trans s2)) hkl (by omega) (hk.ok k hkl) (by omega)
          have hsH : shH b t X k = decide (sum5 (X k) ≤ forceD (b.hand k) t) := by
            unfold shH; rw [allI_iff.2 hmok]; rfl
          generalize sum5 (X k) = S at cS hsH
          generalize forceD (b.hand k) t = f at cF hsH
          skip
          by_cases hsf : f < S
          · have e8 : shE b t b.nh X = 8 := hwr (by
              have h1 : allI b.nh (shH b t X) = false := allI_false hkl (by rw [hsH, decide_eq_false (by omega)])
              unfold shOK; rw [h1]; rfl)
            rw [e8]
            refine en_exit <| en_then_exit <| en_then_exit <| en_blk_hit <| en_then <| en_seq <| en_region <| en_det (opT_sliceArr (by omega) rfl) rfl <| en_calld (cS) rfl rfl rfl rfl <| en_det (opT_move rfl) rfl <| en_det (opT_move rfl) rfl <| en_det (opT_move rfl) rfl <| en_calld (cF) rfl rfl rfl rfl <| en_det (opT_gtr_t rfl rfl (by omega)) rfl <| en_nil <| en_then <| en_cond_t rfl <| en_seq <| en_region <| en_det (opT_assign rfl) rfl <| en_det (opT_assign rfl) rfl <| en_nil <| en_then <| en_ret <| en_blk_ret <| en_then_ret <| en_then_ret <| en_blk_ret <| en_then_ret <| ?_
            refine en_return (rs := [.tmp 6, .tmp 7]) rfl (.cons (.tmp rfl) (.cons (.tmp rfl) .nil)) (s1.trans s2) (Γ1 := []) ⟨rfl, rfl⟩
          · skip
            refine en_exit <| en_then_exit <| en_then_exit <| en_blk_hit <| en_then <| en_seq <| en_region <| en_det (opT_sliceArr (by omega) rfl) rfl <| en_calld (cS) rfl rfl rfl rfl <| en_det (opT_move rfl) rfl <| en_det (opT_move rfl) rfl <| en_det (opT_move rfl) rfl <| en_calld (cF) rfl rfl rfl rfl <| en_det (opT_gtr_f rfl rfl (by omega)) rfl <| en_nil <| en_then <| en_cond_f rfl <| en_skip <| en_blk <| en_then <| en_region <| en_det (opT_add rfl rfl (by constructor <;> omega)) rfl <| en_det (opT_move rfl) rfl <| en_nil <| en_then <| ?_
            refine en_again (k + 1, h2) ⟨by simp only; omega, s2, fun i hi => ?_⟩ (by simp only; omega) ⟨rfl, rfl, rfl, rfl, rfl, rfl, gi rfl (by simp), trivial⟩ (.refl _) inferInstance
            by_cases e : i = k
            · subst e; rw [hsH, decide_eq_true (by omega)]
            · exact hok i (by simp only at hi; omega)
      · skip
        obtain rfl : k = b.nh := by omega
        have hA : allI b.nh (shH b t X) = true := allI_iff.2 hok
        obtain ⟨tb, toff, rfl, tcells⟩ := tp1 (by omega)
        refine en_exit <| en_then_exit <| en_then_exit <| en_blk_hit <| en_then <| en_seq <| en_seq <| en_region <| en_det (opT_loadW_own rfl (row_length _ _)) rfl <| en_det (opT_move rfl) rfl <| en_nil <| en_then <| en_block <| ?_
        refine en_loop (fun x : Nat => x ≤ 5 ∧ ∀ i, i < x → tot b.nh X i ≤ b.tray t i) (fun x => [(1, .int .i64 t), (3, pt b3), (10, pt b10), (79, .agg (trayL (tot b.nh X)).toArray), (80, .int .i64 x)]) (fun _ => h2) (fun x => [box b10 31 (trayL (tot b.nh X)), box b3 26 [.slice (some ⟨tb, toff, none⟩) b.nt tcp, .slice had b.nh hcp]]) (fun x => 5 - x) 0 ⟨by simp, fun i hi => by simp at hi⟩ ⟨rfl, rfl, rfl, rfl, rfl, trivial⟩ (.refl _) inferInstance fun m hx => ?_
        obtain ⟨hm, hmok⟩ := hx
        refine en_seq <| en_region <| ?_
        first | refine en_det (opT_lss_t rfl rfl (by omega)) rfl ?_ | refine en_det (opT_lss_f rfl rfl (by omega)) rfl ?_ | refine en_det (opT_lss rfl rfl) rfl ?_
        refine en_nil <| en_then <| en_seq <| ?_
        refine en_if rfl (fun hlt3 => ?_) (fun hlt3 => ?_)
        · skip
          have hm5 : m < 5 := by omega
          have hg : (trayL (tot b.nh X))[m]? = some (.int .i64 (tot b.nh X m)) := row_get hm5
          have hc9 : cellH h2 tb (toff + t * 5 + m) = some (.int .i64 (b.tray t m)) := cellH_sub (s1.trans s2) (tcells.cell htn hm5)
          have hbad : ¬ tot b.nh X m ≤ b.tray t m → shE b t b.nh X = 8 := fun e => hwr (by
            unfold shOK; rw [hA, allI_false hm5 (decide_eq_false e)]; rfl)
          have hgood : tot b.nh X m ≤ b.tray t m → ∀ i, i < m + 1 → tot b.nh X i ≤ b.tray t i := fun e i hi => by
            by_cases h1 : i = m
            · subst h1; exact e
            · exact hmok i (by omega)
          generalize tot b.nh X m = q at hg hbad hgood
          generalize b.tray t m = r at hc9 hbad hgood
          skip
          by_cases hqr : r < q
          · rw [hbad (by omega)]
            refine en_skip <| en_then <| en_seq <| en_block <| en_seq <| en_region <| en_det (opT_move rfl) rfl <| en_det (opT_index rfl rfl (by omega) (by omega) hg) rfl <| en_det (opT_assign rfl) rfl <| en_det (opT_assign rfl) rfl <| en_nil <| en_then <| en_seq <| en_region <| en_det (opT_move rfl) rfl <| en_det (opT_fieldAddr rfl) rfl <| en_det (opT_load_own rfl rfl) rfl <| en_det (opT_move rfl) rfl <| en_det (opT_move rfl) rfl <| ?_
            first | refine en_det (opT_idx1 rfl rfl (by omega) (by omega)) rfl ?_ | refine en_det (opT_idx (ks := 0) rfl rfl (by omega) (by omega)) rfl ?_
            refine en_det (opT_idxArr rfl rfl (by omega) (by omega)) rfl <| ?_
            first | refine en_det (opT_desk0 rfl) rfl ?_ | refine en_det (opT_desk1 rfl) rfl ?_ | refine en_det (opT_desk3 rfl) rfl ?_ | refine en_det (opT_load_h rfl (by assumption)) rfl ?_ | refine en_det (opT_load_own rfl rfl) rfl ?_
            refine en_det (opT_gtr_t rfl rfl (by omega)) rfl <| en_nil <| en_then <| en_cond_t rfl <| en_seq <| en_region <| en_det (opT_assign rfl) rfl <| en_det (opT_assign rfl) rfl <| en_nil <| en_then <| en_ret <| en_blk_ret <| en_then_ret <| en_then_ret <| en_blk_ret <| en_then_ret <| ?_
            refine en_return (rs := [.tmp 6, .tmp 7]) rfl (.cons (.tmp rfl) (.cons (.tmp rfl) .nil)) (s1.trans s2) (Γ1 := []) ⟨rfl, rfl⟩
          · have hgd := hgood (by omega)
            refine en_skip <| en_then <| en_seq <| en_block <| en_seq <| en_region <| en_det (opT_move rfl) rfl <| en_det (opT_index rfl rfl (by omega) (by omega) hg) rfl <| en_det (opT_assign rfl) rfl <| en_det (opT_assign rfl) rfl <| en_nil <| en_then <| en_seq <| en_region <| en_det (opT_move rfl) rfl <| en_det (opT_fieldAddr rfl) rfl <| en_det (opT_load_own rfl rfl) rfl <| en_det (opT_move rfl) rfl <| en_det (opT_move rfl) rfl <| ?_
            first | refine en_det (opT_idx1 rfl rfl (by omega) (by omega)) rfl ?_ | refine en_det (opT_idx (ks := 0) rfl rfl (by omega) (by omega)) rfl ?_
            refine en_det (opT_idxArr rfl rfl (by omega) (by omega)) rfl <| ?_
            first | refine en_det (opT_desk0 rfl) rfl ?_ | refine en_det (opT_desk1 rfl) rfl ?_ | refine en_det (opT_desk3 rfl) rfl ?_ | refine en_det (opT_load_h rfl (by assumption)) rfl ?_ | refine en_det (opT_load_own rfl rfl) rfl ?_
            refine en_det (opT_gtr_f rfl rfl (by omega)) rfl <| en_nil <| en_then <| en_cond_f rfl <| en_skip <| en_blk <| en_then <| en_region <| en_det (opT_add rfl rfl (by constructor <;> omega)) rfl <| en_det (opT_move rfl) rfl <| en_nil <| en_then <| ?_
            exact en_again (m + 1) ⟨by omega, hgd⟩ (by omega) ⟨rfl, rfl, rfl, rfl, gi rfl (by simp), trivial⟩ (.refl _) inferInstance
        · skip
          obtain rfl : m = 5 := by omega
          have e0 : shE b t b.nh X = 0 := by
            unfold shE
            rw [if_pos haz, if_pos rfl, Int.toNat_natCast, if_pos]
            unfold shOK
            rw [hA, allI_iff.2 fun m hm => decide_eq_true (hmok m hm)]; rfl
          have htb : ∀ m, m < 5 → 0 ≤ tot b.nh X m ∧ tot b.nh X m ≤ 60 * b.nh := fun m hm => tot_bound fun i hi => hXb i hi m hm
          have cS : CT Try.prog 76 [.slice (some ⟨b10, 0, none⟩) 5 5] h2 [box b10 31 (trayL (tot b.nh X))] (DetW (.int .i64 (shV b X)) [box b10 31 (trayL (tot b.nh X))]) :=
            add_own_ct h2 b10 0 5 5 31 _ (tot b.nh X) (by omega) (fun j hj => by have := htb j hj; omega) (fun j hj => by rw [Nat.zero_add]; exact row_get hj)
          rw [e0, if_pos rfl]
          refine en_exit <| en_then_exit <| en_then_exit <| en_blk_hit <| en_then <| en_seq <| en_region <| en_det (opT_sliceArr (by omega) rfl) rfl <| en_calld (cS) rfl rfl rfl rfl <| en_det (opT_assign rfl) rfl <| en_det (opT_assign rfl) rfl <| en_nil <| en_then <| en_ret <| ?_
          refine en_return (rs := [.tmp 6, .tmp 7]) rfl (.cons (.tmp rfl) (.cons (.tmp rfl) .nil)) (s1.trans s2) (Γ1 := []) ⟨rfl, rfl⟩
    · have e : shE b t n X = 3 := by unfold shE; rw [if_pos haz, if_neg hnn]
      rw [e]
      refine en_det (opT_move rfl) rfl <| en_det (opT_extract rfl rfl) rfl <| en_det (opT_extract rfl rfl) rfl <| en_det (opT_assign rfl) rfl <| en_det (opT_assign rfl) rfl <| en_nil <| en_then <| en_seq <| en_block <| en_seq <| en_region <| en_det (opT_move rfl) rfl <| en_det (opT_neq_f rfl rfl (by omega)) rfl <| en_det (opT_assign rfl) rfl <| en_nil <| en_then <| en_cond_f rfl <| en_seq <| en_region <| en_det (opT_move rfl) rfl <| en_det (opT_len rfl) rfl <| en_det (opT_fieldAddr rfl) rfl <| en_det (opT_load_own rfl rfl) rfl <| en_det (opT_len rfl) rfl <| en_det (opT_neq_t rfl rfl (by omega)) rfl <| en_det (opT_assign rfl) rfl <| en_nil <| en_then <| en_cond_t rfl <| en_seq <| en_region <| en_det (opT_assign rfl) rfl <| en_det (opT_assign rfl) rfl <| en_nil <| en_then <| en_ret <| en_blk_ret <| en_then_ret <| ?_
      refine en_return (rs := [.tmp 6, .tmp 7]) rfl (.cons (.tmp rfl) (.cons (.tmp rfl) .nil)) s1 (Γ1 := []) ⟨rfl, rfl⟩
  · refine en_norm ?_
    have e : shE b tray n X = atD b tray := by unfold shE; rw [if_neg hz]
    rw [e, if_neg hz]
    refine en_det (opT_move rfl) rfl <| en_det (opT_extract rfl rfl) rfl <| en_det (opT_extract rfl rfl) rfl <| en_det (opT_assign rfl) rfl <| en_det (opT_assign rfl) rfl <| en_nil <| en_then <| en_seq <| en_block <| en_seq <| en_region <| en_det (opT_move rfl) rfl <| en_det (opT_neq_t rfl rfl (by omega)) rfl <| en_det (opT_assign rfl) rfl <| en_nil <| en_then <| en_cond_t rfl <| en_seq <| en_region <| en_det (opT_move rfl) rfl <| en_det (opT_assign rfl) rfl <| en_det (opT_assign rfl) rfl <| en_nil <| en_then <| en_ret <| en_blk_ret <| en_then_ret <| ?_
    refine en_return (rs := [.tmp 6, .tmp 7]) rfl (.cons (.tmp rfl) (.cons (.tmp rfl) .nil)) s1 (Γ1 := []) ⟨rfl, rfl⟩
end Go.Sx

/- Sharings that are tried. -/
namespace Go.Sx
open Go.Proofs
set_option maxRecDepth 100000
structure Feas (b : BeltD) (t : Nat) (X : Nat → Nat → Int) : Prop where
  nn : ∀ i m, i < b.nh → m < 5 → 0 ≤ X i m
  tk : ∀ i m, i < b.nh → m < 5 → 0 < X i m → (b.hand i).takes m = true
  le : ∀ i, i < b.nh → sum5 (X i) ≤ forceD (b.hand i) t
  tr : ∀ m, m < 5 → tot b.nh X m ≤ b.tray t m
theorem Feas.ok {b : BeltD} {t : Nat} {X : Nat → Nat → Int} (f : Feas b t X) : OutOK b.nh (takesB b) (forceB b t) X := ⟨fun i m hi hm => f.nn i m hi hm, fun i hi => f.le i hi, fun i m hi hm hp => f.tk i m hi hm hp⟩
theorem Feas.zero {b : BeltD} (hk : BOK b) {t : Nat} (ht : t < b.nt) : Feas b t (fun _ _ => 0) :=
  ⟨fun _ _ _ _ => Int.le_refl _, fun _ _ _ _ h => by omega, fun i hi => by rw [sum5_eq]; have := (forceD_bound (hk.ok i hi) t).1; omega, fun m hm => by unfold tot; rw [sumN_zero]; exact (hk.tr t m ht hm).1⟩
theorem Feas.cell {b : BeltD} (hk : BOK b) {t : Nat} {X : Nat → Nat → Int} (f : Feas b t X) {i m : Nat} (hi : i < b.nh) (hm : m < 5) : 0 ≤ X i m ∧ X i m ≤ 40 := by
  have h1 := f.nn i m hi hm
  have h2 := sumN_one (n := 5) (f := X i) (fun j hj => f.nn i j hi hj) hm
  have h3 := f.le i hi
  have h4 := (forceD_bound (hk.ok i hi) t).2
  exact ⟨h1, by unfold sum5 at h3; omega⟩
/-- A sharing that can be is not wrong. -/
theorem Feas.sh {b : BeltD} (hk : BOK b) {t : Nat} {X : Nat → Nat → Int} (f : Feas b t X) : shOK b t X = true := by
  unfold shOK
  rw [Bool.and_eq_true, allI_iff, allI_iff]
  refine ⟨fun i hi => ?_, fun m hm => decide_eq_true (f.tr m hm)⟩
  unfold shH
  rw [Bool.and_eq_true, allI_iff]
  refine ⟨fun m hm => ?_, decide_eq_true (f.le i hi)⟩
  have h1 := f.cell hk hi hm
  unfold shM
  rw [Bool.and_eq_true]
  refine ⟨by simp only [inD, decide_eq_true_eq]; omega, ?_⟩
  by_cases h0 : 0 < X i m
  · rw [f.tk i m hi hm h0]; simp
  · simp [h0]
/-- It takes no more than the most. -/
theorem Feas.most {b : BeltD} (hk : BOK b) {t : Nat} (ht : t < b.nt) {X : Nat → Nat → Int} (f : Feas b t X) : shV b X ≤ mostT b t := by
  rw [most_eq hk ht]
  have h1 := share_le (hands := allH b) f.ok (fun h hh hn m _ => absurd (by simpa [allH] using hh) hn) (w := b.tray t) f.tr (heldB b wholeD t (allH b))
  have e1 : sumN b.nh (fun h => sum5 (X h)) = shV b X := by unfold shV sum5 tot; rw [sumN_swap]
  rw [e1] at h1
  exact h1
theorem Feas.add {b : BeltD} {t : Nat} {X : Nat → Nat → Int} (f : Feas b t X) {i m : Nat} (hi : i < b.nh) (hm : m < 5) {k : Int} (h0 : 0 ≤ k) (htk : (b.hand i).takes m = true) (h1 : k ≤ forceD (b.hand i) t - sum5 (X i)) (h2 : k ≤ b.tray t m - tot b.nh X m) : Feas b t (upd2 X i m (X i m + k)) := by
  have htot : ∀ j, tot b.nh (upd2 X i m (X i m + k)) j = tot b.nh X j + if j = m then k else 0 := fun j => tot_upd2 hi
  refine ⟨fun a j ha hj => ?_, fun a j ha hj hp => ?_, fun a ha => ?_, fun j hj => ?_⟩
  · have := f.nn a j ha hj
    unfold upd2; split
    · rename_i e; obtain ⟨rfl, rfl⟩ := e; omega
    · exact this
  · by_cases e : a = i ∧ j = m
    · obtain ⟨rfl, rfl⟩ := e; exact htk
    · rw [upd2_ne e] at hp; exact f.tk a j ha hj hp
  · by_cases e : a = i
    · subst e
      have : sum5 (upd2 X a m (X a m + k) a) = sum5 (X a) + k := by
        unfold sum5
        exact sumN_upd hm (fun j _ hj => by simp [upd2, hj]) (by simp [upd2])
      omega
    · rw [upd2_row_ne e]; exact f.le a ha
  · rw [htot j]
    have := f.tr j hj
    split
    · rename_i e; subst e; omega
    · omega
def leftT (b : BeltD) (t : Nat) (X : Nat → Nat → Int) : Nat → Int := fun m => b.tray t m - tot b.nh X m
theorem leftT_add {b : BeltD} {t : Nat} {X : Nat → Nat → Int} {i m : Nat} (hi : i < b.nh) (k : Int) : (fun j => if j = m then leftT b t X m - k else leftT b t X j) = leftT b t (upd2 X i m (X i m + k)) := by
  funext j
  unfold leftT
  rw [tot_upd2 hi]
  by_cases e : j = m
  · subst e; simp; omega
  · simp [e]
theorem icell_upd (X : Nat → Nat → Int) (i m : Nat) (v : Int) : (fun a c => if a = i ∧ c = m then Value.int .i64 v else icell X a c) = icell (upd2 X i m v) := by
  funext a c
  unfold icell upd2
  split <;> rfl
attribute [local irreducible] Code.wpIn wpListIn Exit.then Exit.inBlock BQ Again Hd St En OpT box blk RQ BQ0 fmap own Desk Chute
theorem tries_ct (h : Heap) (c : Nat) (lv : Value) (bytes : List Int) (v : Value) (b : BeltD) (t : Nat) (hy : IsBytes h lv bytes) (hb : IsBelt h v b) (hk : BOK b) (ht : t < b.nt) : CT Try.prog 66 [pt c, v, .int .i64 t] h [Chute c lv bytes.length]
    (fun v' h' Γ' => (∃ X, IsTrays h' v' b.nh X ∧ Feas b t X) ∧ Γ' = [Chute c lv bytes.length]) := by
  obtain ⟨tv, hv, rfl, hT, hH⟩ := id hb
  obtain ⟨rv, ⟨_, had, hcp, rfl, hm1, hc1, hp1⟩, hr⟩ := hH
  obtain ⟨_, tad, tcp, rfl, tm1, tc1, tp1⟩ := hT
  obtain ⟨tb, toff, rfl, tcells⟩ := tp1 (by omega)
  have hk5 := hk.h5
  have hn8 := hk.n8
  have hc0 : checkD b = 0 := check_ok.2 hk
  have trow : CellsH h tb (toff + t * 5) (trayL (b.tray t)) := tcells.row ht
  refine ct_intro Try.func66 rfl rfl rfl rfl fun Φ => ?_
  refine en_seq <| en_region <| en_box rfl rfl rfl fun b4 => en_det (opT_assign rfl) rfl <| en_nil <| en_then <| en_seq <| en_region <| en_det (opT_fieldAddr rfl) rfl <| en_det (opT_load_own rfl rfl) rfl <| en_det (opT_len rfl) rfl <| ?_
  refine en_op (opT_make (T := 23) (e := 31) (sz := 5) (by_ := 40) (z0 := .int .i64 0) (m := (b.nh : Int)) rfl (by decide) rfl (by omega) (by omega) (by omega)) rfl fun v h' Γ' _ ⟨bo, e1, e2, e3⟩ => ?_
  subst e1 e3
  replace e2 := e2.symm; subst e2
  rw [zero_rows, Int.toNat_natCast]
  have e0 : trayL (b.tray t) = trayL (leftT b t fun _ _ => 0) := row_congr fun m _ => by unfold leftT tot; rw [sumN_zero]; simp
  refine en_det (opT_assign rfl) rfl <| en_nil <| en_then <| en_seq <| en_region <| en_det (opT_fieldAddr rfl) rfl <| en_det (opT_load_own rfl rfl) rfl <| en_det (opT_move rfl) rfl <| ?_
  first | refine en_det (opT_idx1 rfl rfl (by omega) (by omega)) rfl ?_ | refine en_det (opT_idx (ks := 0) rfl rfl (by omega) (by omega)) rfl ?_
  refine en_det (opT_loadA_h rfl trow (row_length _ _)) rfl <| en_alloc rfl fun b8 => ?_
  refine en_det0 (opT_storeW rfl rfl rfl rfl (one_trayL (b.tray t))) <| en_nil <| en_then <| ?_
  rw [e0]
  refine en_meet (ι := (Nat → Nat → Int) × Heap) (fun x => h.sub x.2 ∧ Feas b t x.1) (fun x => [(7, .slice (some ⟨bo, 0, none⟩) b.nh b.nh)]) (fun x => x.2) (fun x => [box bo 31 (rows b.nh 5 (icell x.1)), Chute c lv bytes.length]) ?_ (fun x hx => ?_)
  · skip
    refine en_seq <| en_region <| en_det (opT_move rfl) rfl <| en_nil <| en_then <| en_block <| ?_
    refine en_loop (fun x : Nat × (Nat → Nat → Int) × Heap => x.1 ≤ 40 ∧ h.sub x.2.2 ∧ Feas b t x.2.1) (fun x => [(0, pt c), (2, .int .i64 t), (4, pt b4), (7, .slice (some ⟨bo, 0, none⟩) b.nh b.nh), (8, pt b8), (23, .int .i64 x.1)]) (fun x => x.2.2) (fun x => [box b8 31 (trayL (leftT b t x.2.1)), box bo 31 (rows b.nh 5 (icell x.2.1)), box b4 26 [.slice (some ⟨tb, toff, none⟩) b.nt tcp, .slice had b.nh hcp], Chute c lv bytes.length]) (fun x => 40 - x.1) (0, (fun _ _ => 0), h) ⟨by simp, .refl _, Feas.zero hk ht⟩ ⟨rfl, rfl, rfl, rfl, rfl, rfl, trivial⟩ (.refl _) inferInstance fun x hx => ?_
    obtain ⟨k, X, h1⟩ := x
    obtain ⟨hk40, s1, hF⟩ := hx
    simp only at hk40 s1 hF
    change En _ _ _ [(0, pt c), (2, .int .i64 t), (4, pt b4), (7, .slice (some ⟨bo, 0, none⟩) b.nh b.nh), (8, pt b8), (23, .int .i64 k)] h1 [box b8 31 (trayL (leftT b t X)), box bo 31 (rows b.nh 5 (icell X)), box b4 26 [.slice (some ⟨tb, toff, none⟩) b.nt tcp, .slice had b.nh hcp], Chute c lv bytes.length]
    refine en_seq <| en_region <| ?_
    first | refine en_det (opT_lss_t rfl rfl (by omega)) rfl ?_ | refine en_det (opT_lss_f rfl rfl (by omega)) rfl ?_ | refine en_det (opT_lss rfl rfl) rfl ?_
    refine en_nil <| en_then <| en_seq <| ?_
    refine en_if rfl (fun hlt1 => ?_) (fun hlt1 => ?_)
    · skip
      skip
      by_cases h0 : b.nh = 0
      · refine en_skip <| en_then <| en_seq <| en_block <| en_seq <| en_seq <| en_region <| en_det (opT_fieldAddr rfl) rfl <| en_det (opT_load_own rfl rfl) rfl <| en_det (opT_len rfl) rfl <| en_det (opT_eql_t rfl rfl (by omega)) rfl <| en_nil <| en_then <| en_cond_t rfl <| en_exit <| en_then_exit <| en_blk_miss rfl <| en_then_exit <| en_then_exit <| en_blk_hit <| en_then <| ?_
        exact en_met (X, h1) ⟨s1, hF⟩ ⟨rfl, trivial⟩ (.refl _) inferInstance
      · skip
        refine en_skip <| en_then <| en_seq <| en_block <| en_seq <| en_seq <| en_region <| en_det (opT_fieldAddr rfl) rfl <| en_det (opT_load_own rfl rfl) rfl <| en_det (opT_len rfl) rfl <| en_det (opT_eql_f rfl rfl (by omega)) rfl <| en_nil <| en_then <| en_cond_f rfl <| en_skip <| en_then <| en_seq <| en_region <| en_det (opT_move rfl) rfl <| en_det (opT_fieldAddr rfl) rfl <| en_det (opT_load_own rfl rfl) rfl <| en_det (opT_len rfl) rfl <| ?_
        refine en_callq (pull_ct h1 c lv bytes b.nh (hy.mono s1) (by omega)) rfl rfl rfl rfl fun v h2 s2 hv => ?_
        obtain ⟨i0, rfl, hi0, hi1, hi2⟩ := hv
        obtain ⟨i, rfl⟩ := Int.eq_ofNat_of_zero_le hi0
        have hi : i < b.nh := by
          by_cases e : (b.nh : Int) < 2
          · have := hi1 e; omega
          · have := hi2 (by omega); omega
        clear hi1 hi2
        refine en_det (opT_move rfl) rfl <| ?_
        refine en_callq (pull_ct h2 c lv bytes 5 (hy.mono (s1.trans s2)) (by omega)) rfl rfl rfl rfl fun v h3 s3 hv => ?_
        obtain ⟨m0, rfl, hm0, _, hm2⟩ := hv
        obtain ⟨m, rfl⟩ := Int.eq_ofNat_of_zero_le hm0
        have hm5 : m < 5 := by have := hm2 (by omega); omega
        have hfe : forceE b i t = 0 := by
          have h1 : inD (i : Int) 0 (b.nh - 1) = true := by simp only [inD, decide_eq_true_eq]; omega
          have h2 : inD (t : Int) 0 (b.nt - 1) = true := by simp only [inD, decide_eq_true_eq]; omega
          simp [forceE, hc0, h1, h2]
        have s13 := s1.trans (s2.trans s3)
        have cF := force37_ct h3 _ _ b i t (hb.mono s13)
        rw [hfe, if_pos rfl, Int.toNat_natCast, Int.toNat_natCast] at cF
        refine en_det (opT_assign rfl) rfl <| en_det (opT_assign rfl) rfl <| en_nil <| en_then <| en_seq <| en_region <| ?_
        first | refine en_det (opT_loadW_own rfl rfl) rfl ?_ | refine en_det (opT_loadA_own rfl) rfl ?_
        refine en_det (opT_move rfl) rfl <| en_det (opT_move rfl) rfl <| ?_
        refine en_call cF rfl rfl rfl rfl fun v h4 Γ' s4 hv => ?_
        obtain ⟨rfl, rfl⟩ := hv
        refine en_norm ?_
        have hg : (trayL (leftT b t X))[m]? = some (.int .i64 (leftT b t X m)) := row_get hm5
        have hXc : ∀ j, j < 5 → 0 ≤ X i j ∧ X i j ≤ 1000000 := fun j hj => by have := hF.cell hk hi hj; omega
        have hfo := forceD_bound (hk.ok i hi) t
        have hS := sumN_bound (n := 5) (f := X i) (B := 40) fun j hj => hF.cell hk hi hj
        have hS5 : sumN 5 (X i) = sum5 (X i) := rfl
        rw [hS5] at hS
        have hlt := hk.tr t m ht hm5
        have htx : 0 ≤ tot b.nh X m := sumN_nn fun j hj => hF.nn j m hj hm5
        have hadd := fun k h0 ht h1 h2 => hF.add (k := k) hi hm5 h0 ht h1 h2
        have hlm : leftT b t X m = b.tray t m - tot b.nh X m := rfl
        rw [← hlm] at hadd
        have cS := sum40_ct h4 (X i) hXc
        obtain ⟨hbb, hoff, rfl, hcells⟩ := hp1 (by omega)
        have hce := cellH_sub (s13.trans s4) (hcells.cell hi (by omega : m < 9))
        have hcv : hcell (b.hand i) (rv i) m = .bool ((b.hand i).takes m) := by simp [hcell, hm5]
        rw [hcv] at hce
        have hXm := hF.cell hk hi hm5
        have hg2 : (rows b.nh 5 (icell X))[i * 5 + m]? = some (.int .i64 (X i m)) := rows_get hi hm5
        have hlu := leftT_add (b := b) (t := t) (X := X) (m := m) hi
        have hoi := row_lt hi hm5
        generalize leftT b t X m = lm at hg hadd hlm hlu
        generalize sum5 (X i) = S at cS hadd hS
        generalize forceD (b.hand i) t = f at cS hadd hfo ⊢
        have trt := rows_take (w := 5) (f := icell X) hi
        skip
        cases htk : (b.hand i).takes m with
        | false =>
          rw [htk] at hce
          refine en_det (opT_move rfl) rfl <| en_det (opT_extract rfl rfl) rfl <| en_det (opT_extract rfl rfl) rfl <| en_det (opT_assign rfl) rfl <| en_det (opT_assign rfl) rfl <| en_nil <| en_then <| en_seq <| en_draw0 [0, 1, 2, 3, 4, 5, 6, 7, 8, 9, 10, 11] (by kernel_rfl) (by decide +kernel) (by decide +kernel) (by decide) <| dp_p rfl (fun _ _ => opT_move rfl) rfl rfl rfl <| dp_p rfl (fun _ _ => opT_idxArr rfl rfl (by omega) (by omega)) rfl rfl rfl <| dp_q rfl (opT_load_own rfl hg) rfl rfl rfl <| dp_p rfl (fun _ _ => opT_move rfl) rfl rfl rfl <| dp_p rfl (fun _ _ => opT_move rfl) rfl rfl rfl <| dp_p rfl (fun _ _ => opT_move rfl) rfl rfl rfl <| ?_
          first | refine dp_p rfl (fun _ _ => opT_idx1 rfl rfl (by omega) (by omega)) rfl rfl rfl ?_ | refine dp_p rfl (fun _ _ => opT_idx (ks := 0) rfl rfl (by omega) (by omega)) rfl rfl rfl ?_
          refine dp_q rfl (opT_loadA_own (t := trt) rfl) rfl rfl rfl <| dp_ed0 rfl (opT_callw (cS) rfl rfl rfl) rfl rfl rfl rfl <| dp_p rfl (fun _ _ => opT_sub rfl rfl (by constructor <;> omega)) rfl rfl rfl <| dp_p rfl (fun _ _ => opT_min2 rfl rfl) rfl rfl rfl <| dp_p rfl (fun _ _ => opT_assign rfl) rfl rfl rfl <| dp_done0 <| en_then <| en_seq <| en_region <| en_det (opT_move rfl) rfl <| en_det (opT_eql_t rfl rfl (by omega)) rfl <| en_det (opT_move rfl) rfl <| en_g_yes rfl rfl <| en_det (opT_fieldAddr rfl) rfl <| en_g_yes rfl rfl <| en_det (opT_load_own rfl rfl) rfl <| en_g_yes rfl rfl <| en_det (opT_move rfl) rfl <| en_g_yes rfl rfl <| en_det (opT_move rfl) rfl <| en_g_yes rfl rfl <| ?_
          first | refine en_det (opT_idx1 rfl rfl (by omega) (by omega)) rfl ?_ | refine en_det (opT_idx (ks := 0) rfl rfl (by omega) (by omega)) rfl ?_
          refine en_g_yes rfl rfl <| en_det (opT_fieldAddr rfl) rfl <| en_g_yes rfl rfl <| en_det (opT_idxArr rfl rfl (by omega) (by omega)) rfl <| en_g_yes rfl rfl <| ?_
          first | refine en_det (opT_load_h rfl (by assumption)) rfl ?_ | refine en_det (opT_load_own rfl rfl) rfl ?_
          first | refine en_det (opT_pick_t rfl rfl) rfl ?_ | refine en_det (opT_pick_f rfl rfl) rfl ?_
          refine en_det (opT_move rfl) rfl <| en_g_no rfl rfl rfl <| en_g_no rfl rfl rfl <| ?_
          first | refine en_det (opT_pick_t rfl rfl) rfl ?_ | refine en_det (opT_pick_f rfl rfl) rfl ?_
          refine en_nil <| en_then <| en_cond_f rfl <| en_skip <| en_blk <| en_then <| en_region <| en_det (opT_add rfl rfl (by constructor <;> omega)) rfl <| en_det (opT_move rfl) rfl <| en_nil <| en_then <| ?_
          exact en_again (k + 1, X, h4) ⟨by simp only; omega, s13.trans s4, hF⟩ (by simp only; omega) ⟨rfl, rfl, rfl, rfl, rfl, gi rfl (by simp), trivial⟩ (.refl _) inferInstance
        | true =>
          rw [htk] at hce
          by_cases hkp : 0 < min lm (f - S)
          · skip
            refine en_det (opT_move rfl) rfl <| en_det (opT_extract rfl rfl) rfl <| en_det (opT_extract rfl rfl) rfl <| en_det (opT_assign rfl) rfl <| en_det (opT_assign rfl) rfl <| en_nil <| en_then <| en_seq <| en_draw0 [0, 1, 2, 3, 4, 5, 6, 7, 8, 9, 10, 11] (by kernel_rfl) (by decide +kernel) (by decide +kernel) (by decide) <| dp_p rfl (fun _ _ => opT_move rfl) rfl rfl rfl <| dp_p rfl (fun _ _ => opT_idxArr rfl rfl (by omega) (by omega)) rfl rfl rfl <| dp_q rfl (opT_load_own rfl hg) rfl rfl rfl <| dp_p rfl (fun _ _ => opT_move rfl) rfl rfl rfl <| dp_p rfl (fun _ _ => opT_move rfl) rfl rfl rfl <| dp_p rfl (fun _ _ => opT_move rfl) rfl rfl rfl <| ?_
            first | refine dp_p rfl (fun _ _ => opT_idx1 rfl rfl (by omega) (by omega)) rfl rfl rfl ?_ | refine dp_p rfl (fun _ _ => opT_idx (ks := 0) rfl rfl (by omega) (by omega)) rfl rfl rfl ?_
            refine dp_q rfl (opT_loadA_own (t := trt) rfl) rfl rfl rfl <| dp_ed0 rfl (opT_callw (cS) rfl rfl rfl) rfl rfl rfl rfl <| dp_p rfl (fun _ _ => opT_sub rfl rfl (by constructor <;> omega)) rfl rfl rfl <| dp_p rfl (fun _ _ => opT_min2 rfl rfl) rfl rfl rfl <| dp_p rfl (fun _ _ => opT_assign rfl) rfl rfl rfl <| dp_done0 <| en_then <| en_seq <| en_region <| en_det (opT_move rfl) rfl <| en_det (opT_eql_t rfl rfl (by omega)) rfl <| en_det (opT_move rfl) rfl <| en_g_yes rfl rfl <| en_det (opT_fieldAddr rfl) rfl <| en_g_yes rfl rfl <| en_det (opT_load_own rfl rfl) rfl <| en_g_yes rfl rfl <| en_det (opT_move rfl) rfl <| en_g_yes rfl rfl <| en_det (opT_move rfl) rfl <| en_g_yes rfl rfl <| ?_
            first | refine en_det (opT_idx1 rfl rfl (by omega) (by omega)) rfl ?_ | refine en_det (opT_idx (ks := 0) rfl rfl (by omega) (by omega)) rfl ?_
            refine en_g_yes rfl rfl <| en_det (opT_fieldAddr rfl) rfl <| en_g_yes rfl rfl <| en_det (opT_idxArr rfl rfl (by omega) (by omega)) rfl <| en_g_yes rfl rfl <| ?_
            first | refine en_det (opT_load_h rfl (by assumption)) rfl ?_ | refine en_det (opT_load_own rfl rfl) rfl ?_
            first | refine en_det (opT_pick_t rfl rfl) rfl ?_ | refine en_det (opT_pick_f rfl rfl) rfl ?_
            refine en_det (opT_move rfl) rfl <| en_g_yes rfl rfl <| en_det (opT_move rfl) rfl <| en_g_yes rfl rfl <| en_det (opT_gtr_t rfl rfl (by omega)) rfl <| ?_
            first | refine en_det (opT_pick_t rfl rfl) rfl ?_ | refine en_det (opT_pick_f rfl rfl) rfl ?_
            refine en_nil <| en_then <| en_cond_t rfl <| en_seq <| en_region <| en_det (opT_move rfl) rfl <| en_det (opT_move rfl) rfl <| ?_
            refine en_callq (between_ct h4 c lv bytes 1 (min lm (f - S)) (hy.mono (s13.trans s4)) (by omega) (by omega) (by omega)) rfl rfl rfl rfl fun v h5 s5 hv => ?_
            obtain ⟨q, rfl, hq1, hq2⟩ := hv
            have hF2 := hadd q (by omega) htk (by omega) (by omega)
            refine en_det (opT_assign rfl) rfl <| en_nil <| en_then <| en_seq <| en_draw0 [0, 1, 2, 3, 4, 5, 6, 7, 8, 9, 10] (by kernel_rfl) (by decide +kernel) (by decide +kernel) (by decide) <| dp_p rfl (fun _ _ => opT_move rfl) rfl rfl rfl <| dp_p rfl (fun _ _ => opT_move rfl) rfl rfl rfl <| dp_p rfl (fun _ _ => opT_move rfl) rfl rfl rfl <| ?_
            first | refine dp_p rfl (fun _ _ => opT_idx1 rfl rfl (by omega) (by omega)) rfl rfl rfl ?_ | refine dp_p rfl (fun _ _ => opT_idx (ks := 0) rfl rfl (by omega) (by omega)) rfl rfl rfl ?_
            refine dp_p rfl (fun _ _ => opT_idxArr rfl rfl (by omega) (by omega)) rfl rfl rfl <| dp_q rfl (opT_load_own rfl hg2) rfl rfl rfl <| dp_p rfl (fun _ _ => opT_move rfl) rfl rfl rfl <| dp_p rfl (fun _ _ => opT_add rfl rfl (by constructor <;> omega)) rfl rfl rfl <| ?_
            first | refine dp_p rfl (fun _ _ => opT_idx1 rfl rfl (by omega) (by omega)) rfl rfl rfl ?_ | refine dp_p rfl (fun _ _ => opT_idx (ks := 0) rfl rfl (by omega) (by omega)) rfl rfl rfl ?_
            refine dp_p rfl (fun _ _ => opT_idxArr rfl rfl (by omega) (by omega)) rfl rfl rfl <| dp_td0 rfl (opT_store1s rfl rfl rfl (by rw [rows_length]; omega)) rfl rfl rfl rfl rfl <| dp_done0 <| en_then <| en_region <| en_det (opT_move rfl) rfl <| en_det (opT_idxArr rfl rfl (by omega) (by omega)) rfl <| en_det (opT_load_own rfl hg) rfl <| en_det (opT_move rfl) rfl <| en_det (opT_sub rfl rfl (by constructor <;> omega)) rfl <| en_det (opT_idxArr rfl rfl (by omega) (by omega)) rfl <| en_det0 (opT_store1s rfl rfl rfl (by rw [row_length]; omega)) <| en_nil <| en_blk <| en_then <| en_region <| en_det (opT_add rfl rfl (by constructor <;> omega)) rfl <| en_det (opT_move rfl) rfl <| en_nil <| en_then <| ?_
            rw [left_set, rows_set hm5, icell_upd, hlu q]
            exact en_again (k + 1, upd2 X i m (X i m + q), h5) ⟨by simp only; omega, s13.trans (s4.trans s5), hF2⟩ (by simp only; omega) ⟨rfl, rfl, rfl, rfl, rfl, gi rfl (by simp), trivial⟩ (.refl _) inferInstance
          · skip
            refine en_det (opT_move rfl) rfl <| en_det (opT_extract rfl rfl) rfl <| en_det (opT_extract rfl rfl) rfl <| en_det (opT_assign rfl) rfl <| en_det (opT_assign rfl) rfl <| en_nil <| en_then <| en_seq <| en_draw0 [0, 1, 2, 3, 4, 5, 6, 7, 8, 9, 10, 11] (by kernel_rfl) (by decide +kernel) (by decide +kernel) (by decide) <| dp_p rfl (fun _ _ => opT_move rfl) rfl rfl rfl <| dp_p rfl (fun _ _ => opT_idxArr rfl rfl (by omega) (by omega)) rfl rfl rfl <| dp_q rfl (opT_load_own rfl hg) rfl rfl rfl <| dp_p rfl (fun _ _ => opT_move rfl) rfl rfl rfl <| dp_p rfl (fun _ _ => opT_move rfl) rfl rfl rfl <| dp_p rfl (fun _ _ => opT_move rfl) rfl rfl rfl <| ?_
            first | refine dp_p rfl (fun _ _ => opT_idx1 rfl rfl (by omega) (by omega)) rfl rfl rfl ?_ | refine dp_p rfl (fun _ _ => opT_idx (ks := 0) rfl rfl (by omega) (by omega)) rfl rfl rfl ?_
            refine dp_q rfl (opT_loadA_own (t := trt) rfl) rfl rfl rfl <| dp_ed0 rfl (opT_callw (cS) rfl rfl rfl) rfl rfl rfl rfl <| dp_p rfl (fun _ _ => opT_sub rfl rfl (by constructor <;> omega)) rfl rfl rfl <| dp_p rfl (fun _ _ => opT_min2 rfl rfl) rfl rfl rfl <| dp_p rfl (fun _ _ => opT_assign rfl) rfl rfl rfl <| dp_done0 <| en_then <| en_seq <| en_region <| en_det (opT_move rfl) rfl <| en_det (opT_eql_t rfl rfl (by omega)) rfl <| en_det (opT_move rfl) rfl <| en_g_yes rfl rfl <| en_det (opT_fieldAddr rfl) rfl <| en_g_yes rfl rfl <| en_det (opT_load_own rfl rfl) rfl <| en_g_yes rfl rfl <| en_det (opT_move rfl) rfl <| en_g_yes rfl rfl <| en_det (opT_move rfl) rfl <| en_g_yes rfl rfl <| ?_
            first | refine en_det (opT_idx1 rfl rfl (by omega) (by omega)) rfl ?_ | refine en_det (opT_idx (ks := 0) rfl rfl (by omega) (by omega)) rfl ?_
            refine en_g_yes rfl rfl <| en_det (opT_fieldAddr rfl) rfl <| en_g_yes rfl rfl <| en_det (opT_idxArr rfl rfl (by omega) (by omega)) rfl <| en_g_yes rfl rfl <| ?_
            first | refine en_det (opT_load_h rfl (by assumption)) rfl ?_ | refine en_det (opT_load_own rfl rfl) rfl ?_
            first | refine en_det (opT_pick_t rfl rfl) rfl ?_ | refine en_det (opT_pick_f rfl rfl) rfl ?_
            refine en_det (opT_move rfl) rfl <| en_g_yes rfl rfl <| en_det (opT_move rfl) rfl <| en_g_yes rfl rfl <| en_det (opT_gtr_f rfl rfl (by omega)) rfl <| ?_
            first | refine en_det (opT_pick_t rfl rfl) rfl ?_ | refine en_det (opT_pick_f rfl rfl) rfl ?_
            refine en_nil <| en_then <| en_cond_f rfl <| en_skip <| en_blk <| en_then <| en_region <| en_det (opT_add rfl rfl (by constructor <;> omega)) rfl <| en_det (opT_move rfl) rfl <| en_nil <| en_then <| ?_
            exact en_again (k + 1, X, h4) ⟨by simp only; omega, s13.trans s4, hF⟩ (by simp only; omega) ⟨rfl, rfl, rfl, rfl, rfl, gi rfl (by simp), trivial⟩ (.refl _) inferInstance
    · skip
      refine en_exit <| en_then_exit <| en_then_exit <| en_blk_hit <| en_then <| ?_
      exact en_met (X, h1) ⟨s1, hF⟩ ⟨rfl, trivial⟩ (.refl _) inferInstance
  · skip
    obtain ⟨X, h1⟩ := x
    obtain ⟨s1, hF⟩ := hx
    simp only at s1 hF
    change En _ _ _ [(7, .slice (some ⟨bo, 0, none⟩) b.nh b.nh)] h1 [box bo 31 (rows b.nh 5 (icell X)), Chute c lv bytes.length]
    refine en_fzb fun h2 s2 hb2 => ?_
    refine en_seq <| en_region <| en_det (opT_move rfl) rfl <| en_det (opT_assign rfl) rfl <| en_nil <| en_then <| en_ret <| ?_
    refine en_return (rs := [.tmp 6]) rfl (.cons (.tmp rfl) .nil) (s1.trans s2) ⟨⟨X, slH_box hb2 (rows_length _ _ _) (by omega), hF⟩, rfl⟩
end Go.Sx

/- The law BeltMost: the walk. -/
namespace Go.Sx
open Go.Proofs
set_option maxRecDepth 100000
theorem compl_tb : ∀ s : Fin 32, ∀ m : Fin 5, (31 - (s : Nat)).testBit (m : Nat) = !((s : Nat).testBit (m : Nat)) := by decide +kernel
theorem compl_sum {s : Nat} (hs : s < 32) (f : Nat → Int) : sumL (setL (31 - s)) f = exS s f := by
  rw [inS_sumL]
  unfold inS exS
  refine sumN_congr fun m hm => ?_
  have := compl_tb ⟨s, hs⟩ ⟨m, hm⟩
  simp only at this
  rw [this]
  cases s.testBit m <;> simp
theorem bdN_cut (b : BeltD) (t : Nat) {s : Nat} (hs : s < 32) : bdN b t s = cutB b t s := by
  unfold bdN cutB
  rw [compl_sum hs, beh_eq]
theorem share_feas {b : BeltD} (hk : BOK b) {t : Nat} (ht : t < b.nt) : Feas b t (shB b wholeD t (allH b)).1 := by
  have ok := out_ok b hk wholeD t (allH b) (allH_lt b)
  have htot := shareS_tot (takes := takesB b) hk.h5 (allH_lt b) (force_nn hk t) (fun m => (wholeD (b.tray t) m).toNat) 5 (Nat.le_refl _)
  have e0 : shareS (takesB b) (forceB b t) (allH b) (fun m => (wholeD (b.tray t) m).toNat) 5 = shB b wholeD t (allH b) := rfl
  rw [e0] at htot
  refine ⟨ok.pos, ok.tk, ok.le, fun m hm => ?_⟩
  have h2 := htot m
  have h5 := hk.tr t m ht hm
  have h6 : (((wholeD (b.tray t) m).toNat : Nat) : Int) = b.tray t m := by unfold wholeD; omega
  omega
theorem share_val (b : BeltD) (t : Nat) : shV b (shB b wholeD t (allH b)).1 = mostT b t := by
  unfold shV mostT sum5 tot
  rw [sumN_swap]
theorem most_tray {b : BeltD} (hk : BOK b) {t : Nat} (ht : t < b.nt) : mostT b t ≤ sum5 (b.tray t) := by
  have h1 := most_le hk ht 0
  have h2 : behL b.nh (takesB b) (forceB b t) (allH b) 0 = 0 := by
    rw [beh_sum, ← sumN_zero b.nh]
    refine sumN_congr fun i _ => ?_
    unfold hitF
    rw [if_neg]
    intro h
    obtain ⟨m, _, h2, _⟩ := anyT_iff.1 h
    simp at h2
  have h3 : exS 0 (b.tray t) = sum5 (b.tray t) := sumN_congr fun m _ => by simp
  unfold cutB at h1
  omega
theorem atD_in {b : BeltD} (hk : BOK b) {t : Nat} (ht : t < b.nt) : atD b t = 0 := by
  have : inD (t : Int) 0 (b.nt - 1) = true := by simp only [inD, decide_eq_true_eq]; omega
  simp [atD, check_ok.2 hk, this]
attribute [local irreducible] Code.wpIn wpListIn Exit.then Exit.inBlock BQ Again Hd St En OpT box blk RQ BQ0 fmap own Desk Chute
theorem mostlaw_ct (h : Heap) (v1 v2 : Value) (y1 y2 : List Int) (w : Int) (hy1 : IsBytes h v1 y1) (hy2 : IsBytes h v2 y2) (hw : 0 ≤ w ∧ w ≤ 255) : CT Try.prog 11 [v1, v2, .int .u8 w] h [] (DetW (.bool true) []) := by
  refine ct_intro Try.func11 rfl rfl rfl rfl fun Φ => ?_
  refine en_seq <| en_region <| en_det (opT_assign rfl) rfl <| en_nil <| en_then <| en_seq <| en_region <| en_det (opT_move rfl) rfl <| ?_
  refine en_call (fill_ct h v1 y1 hy1) rfl rfl rfl rfl fun v h1 Γ' s1 hv => ?_
  obtain ⟨c1, rfl, rfl⟩ := hv
  refine en_norm ?_
  refine en_callq (made_ct h1 c1 v1 y1 6 5 (hy1.mono s1) (by omega) (by omega) (by omega) (by omega)) rfl rfl rfl rfl fun v h2 s2 hv => ?_
  obtain ⟨b, hB, hM⟩ := hv
  have hk := hM.ok (by omega) (by omega)
  have hk5 := hk.h5
  have hn1 := hk.n1
  have hn8 := hk.n8
  obtain ⟨tv, hv, rfl, ⟨tl, tad, tcp, rfl, _, _, tp1⟩, ⟨rv, ⟨hl0, had, hcp, rfl, hq⟩, hr⟩⟩ := id hB
  clear tl hl0 hq hr
  obtain ⟨tq, toff, rfl, tcells⟩ := tp1 (by omega)
  refine en_drop ?_
  have hc0 : checkD b = 0 := check_ok.2 hk
  have hnb := mostA_bound hk
  refine en_alloc rfl fun b7 => ?_
  refine en_det0 (opT_storeW rfl rfl rfl rfl (by simp [Value.oneCell'])) <| en_nil <| en_then <| en_seq <| en_region <| en_det (opT_move rfl) rfl <| ?_
  refine en_call (fill_ct h2 v2 y2 (hy2.mono (s1.trans s2))) rfl rfl rfl rfl fun v h3 Γ' s3 hv => ?_
  obtain ⟨c2, rfl, rfl⟩ := hv
  refine en_norm ?_
  have z3 := hy2.mono (s1.trans (s2.trans s3))
  have B3 := hB.mono s3
  refine en_det (opT_assign rfl) rfl <| en_nil <| en_then <| en_seq <| en_region <| ?_
  first | refine en_det (opT_loadW_own rfl rfl) rfl ?_ | refine en_det (opT_loadA_own rfl) rfl ?_
  refine en_call (most21_ct h3 _ _ b B3) rfl rfl rfl rfl fun v h4 Γ' s4 hv => ?_
  obtain ⟨rfl, ⟨_, lv, rfl, hl⟩ | ⟨hne, _⟩⟩ := hv
  case inr => exact absurd hc0 hne
  refine en_norm ?_
  have B4 := B3.mono s4
  have z4 := z3.mono s4
  have hlen := mostL_length b
  obtain ⟨lad, lcp, rfl, _, _, lp⟩ := hl.shape
  obtain ⟨lq, loff, rfl, lcells⟩ := lp (by omega)
  refine en_det (opT_move rfl) rfl <| en_det (opT_extract rfl rfl) rfl <| en_det (opT_extract rfl rfl) rfl <| en_det (opT_extract rfl rfl) rfl <| en_det (opT_assign rfl) rfl <| en_det (opT_assign rfl) rfl <| en_det (opT_assign rfl) rfl <| en_nil <| en_then <| en_seq <| en_seq <| en_region <| en_det (opT_move rfl) rfl <| en_det (opT_neq_f rfl rfl (by omega)) rfl <| en_det (opT_move rfl) rfl <| en_g_yes rfl rfl <| en_det (opT_move rfl) rfl <| en_g_yes rfl rfl <| en_det (opT_len rfl) rfl <| en_g_yes rfl rfl <| en_det (opT_fieldAddr rfl) rfl <| en_g_yes rfl rfl <| en_det (opT_load_own rfl rfl) rfl <| en_g_yes rfl rfl <| en_det (opT_len rfl) rfl <| en_g_yes rfl rfl <| en_det (opT_neq_f rfl rfl (by omega)) rfl <| ?_
  first | refine en_det (opT_pick_t rfl rfl) rfl ?_ | refine en_det (opT_pick_f rfl rfl) rfl ?_
  refine en_nil <| en_then <| en_cond_f rfl <| en_skip <| en_then <| en_seq <| en_region <| en_det (opT_assign rfl) rfl <| en_nil <| en_then <| en_seq <| en_seq <| en_region <| en_det (opT_move rfl) rfl <| en_det (opT_len rfl) rfl <| en_det (opT_move rfl) rfl <| en_nil <| en_then <| en_block <| ?_
  refine en_loop (fun x : Nat => x ≤ b.nt) (fun x => [(2, .int .u8 w), (7, pt b7), (8, pt c2), (9, .slice (some ⟨lq, loff, none⟩) (mostL b).length lcp), (10, .int .i64 (mostA b)), (12, .int .i64 (sumN x (mostT b))), (49, .slice (some ⟨lq, loff, none⟩) (mostL b).length lcp), (50, .int .i64 (mostL b).length), (51, .int .i64 x)]) (fun _ => h4) (fun _ => [Chute c2 v2 y2.length, box b7 26 [.slice (some ⟨tq, toff, none⟩) b.nt tcp, .slice had b.nh hcp]]) (fun x => b.nt - x) 0 (by simp) ⟨rfl, rfl, rfl, rfl, rfl, rfl, rfl, rfl, rfl, trivial⟩ (.refl _) inferInstance fun k hk' => ?_
  refine en_seq <| en_region <| ?_
  first | refine en_det (opT_lss_t rfl rfl (by omega)) rfl ?_ | refine en_det (opT_lss_f rfl rfl (by omega)) rfl ?_ | refine en_det (opT_lss rfl rfl) rfl ?_
  refine en_nil <| en_then <| en_seq <| ?_
  refine en_if rfl (fun hlt1 => ?_) (fun hlt1 => ?_)
  · skip
    have hkn : k < b.nt := by omega
    have hck : cellH h4 lq (loff + k) = some (.int .i64 (mostT b k)) := by rw [← mostL_get (b := b) (i := k) (by omega)]; exact lcells k (by omega)
    have hb1 := sumN_bound (n := k) (f := mostT b) (B := 200) fun i _ => mostT_bound hk i
    have hb2 := mostT_bound hk k
    refine en_skip <| en_then <| en_seq <| en_block <| en_seq <| en_region <| ?_
    first | refine en_det (opT_idx1 rfl rfl (by omega) (by omega)) rfl ?_ | refine en_det (opT_idx (ks := 0) rfl rfl (by omega) (by omega)) rfl ?_
    first | refine en_det (opT_load_h rfl (by assumption)) rfl ?_ | refine en_det (opT_load_own rfl rfl) rfl ?_
    refine en_det (opT_assign rfl) rfl <| en_nil <| en_then <| en_region <| en_det (opT_move rfl) rfl <| en_det (opT_move rfl) rfl <| en_det (opT_add rfl rfl (by constructor <;> omega)) rfl <| en_det (opT_assign rfl) rfl <| en_nil <| en_blk <| en_then <| en_region <| en_det (opT_add rfl rfl (by constructor <;> omega)) rfl <| en_det (opT_move rfl) rfl <| en_nil <| en_then <| ?_
    exact en_again (k + 1) (by omega) (by omega) ⟨rfl, rfl, rfl, rfl, rfl, rfl, rfl, rfl, gi rfl (by simp), trivial⟩ (.refl _) inferInstance
  · skip
    obtain rfl : k = b.nt := by omega
    rw [show sumN b.nt (mostT b) = mostA b from rfl]
    have hr0 : 0 ≤ w % (b.nt : Int) := Int.emod_nonneg _ (by omega)
    have hr1 : w % (b.nt : Int) < b.nt := Int.emod_lt_of_pos _ (by omega)
    obtain ⟨t, ht0⟩ := Int.eq_ofNat_of_zero_le hr0
    rw [ht0] at hr1
    have ht : t < b.nt := by omega
    have haz := atD_in hk ht
    have hF := share_feas hk ht
    have hv0 := share_val b t
    have hmt := most_tray hk ht
    have hmb := mostT_bound hk t
    have hcl := fun s hs => (bdN_cut b t (s := s) hs) ▸ most_le hk ht s
    have hs32 := heldB_lt b wholeD t (allH b)
    have hce := most_eq hk ht
    rw [← bdN_cut b t hs32] at hce
    have hfm := fun X (f : Feas b t X) => f.most hk ht
    have hcm : cellH h4 lq (loff + t) = some (.int .i64 (mostT b t)) := by rw [← mostL_get (b := b) (i := t) (by omega)]; exact lcells t (by omega)
    refine en_exit <| en_then_exit <| en_then_exit <| en_blk_hit <| en_then <| en_seq <| en_region <| en_det (opT_move rfl) rfl <| en_det (opT_conv rfl (wrap_i64 (by constructor <;> omega))) rfl <| en_det (opT_fieldAddr rfl) rfl <| en_det (opT_load_own rfl rfl) rfl <| en_det (opT_len rfl) rfl <| en_det ((ht0 ▸ opT_remk rfl rfl (by omega) (by omega))) rfl <| en_det (opT_assign rfl) rfl <| en_nil <| en_then <| en_seq <| en_region <| ?_
    first | refine en_det (opT_loadW_own rfl rfl) rfl ?_ | refine en_det (opT_loadA_own rfl) rfl ?_
    refine en_det (opT_move rfl) rfl <| ?_
    refine en_call (share62_ct h4 _ _ b t B4) rfl rfl rfl rfl fun v h5 Γ' s5 hv => ?_
    obtain ⟨rfl, ⟨_, sv, rfl, hsv⟩ | ⟨hne, _⟩⟩ := hv
    case inr => exact absurd haz hne
    refine en_norm ?_
    rw [Int.toNat_natCast] at hsv
    have B5 := B4.mono s5
    have hse : shE b t b.nh (shB b wholeD t (allH b)).1 = 0 := by
      unfold shE
      rw [if_pos haz, if_pos rfl, Int.toNat_natCast, if_pos (hF.sh hk)]
    have cS := shared_ct h5 _ sv b t b.nh _ B5 hsv (by omega)
    rw [hse, if_pos rfl, hv0] at cS
    refine en_det (opT_move rfl) rfl <| en_det (opT_extract rfl rfl) rfl <| en_det (opT_extract rfl rfl) rfl <| en_det (opT_assign rfl) rfl <| en_det (opT_assign rfl) rfl <| en_nil <| en_then <| en_seq <| en_region <| ?_
    first | refine en_det (opT_loadW_own rfl rfl) rfl ?_ | refine en_det (opT_loadA_own rfl) rfl ?_
    refine en_det (opT_move rfl) rfl <| en_det (opT_move rfl) rfl <| ?_
    refine en_call cS rfl rfl rfl rfl fun v h6 Γ' s6 hv => ?_
    obtain ⟨rfl, rfl⟩ := hv
    refine en_norm ?_
    have B6 := B5.mono s6
    refine en_det (opT_move rfl) rfl <| en_det (opT_extract rfl rfl) rfl <| en_det (opT_extract rfl rfl) rfl <| en_det (opT_assign rfl) rfl <| en_det (opT_assign rfl) rfl <| en_nil <| en_then <| en_seq <| en_region <| ?_
    first | refine en_det (opT_loadW_own rfl rfl) rfl ?_ | refine en_det (opT_loadA_own rfl) rfl ?_
    refine en_det (opT_move rfl) rfl <| ?_
    refine en_call (cut_ct h6 _ _ b t B6) rfl rfl rfl rfl fun v h7 Γ' s7 hv => ?_
    obtain ⟨rfl, ⟨_, cv, rfl, hcv⟩ | ⟨hne, _⟩⟩ := hv
    case inr => exact absurd haz hne
    refine en_norm ?_
    rw [Int.toNat_natCast] at hcv
    have B7 := B6.mono s7
    have hbs := bits_set ⟨heldB b wholeD t (allH b), hs32⟩
    simp only at hbs
    have hbde : ∀ s, s < 32 → bdE b t (setI s) = 0 := fun s hs => by
      have := (bits_set ⟨s, hs⟩).2
      unfold bdE; rw [if_pos haz]; exact this
    have cB := bounds_ct h7 _ _ cv b t _ B7 hcv
    rw [hbde _ hs32, if_pos rfl, Int.toNat_natCast, hbs.1, ← hce] at cB
    have s47 := s5.trans (s6.trans s7)
    have hcm7 := cellH_sub s47 hcm
    have hrow : CellsH h7 tq (toff + t * 5) (trayL (b.tray t)) := (tcells.row ht).mono (s3.trans (s4.trans s47))
    have htr := fun m hm => hM.tr t m ht hm
    have z7 := z4.mono s47
    generalize mostT b t = M at hmt hmb hcl hfm hcm7 cB cS hcm hv0 ⊢
    refine en_det (opT_move rfl) rfl <| en_det (opT_extract rfl rfl) rfl <| en_det (opT_extract rfl rfl) rfl <| en_det (opT_assign rfl) rfl <| en_det (opT_assign rfl) rfl <| en_nil <| en_then <| en_seq <| en_region <| ?_
    first | refine en_det (opT_loadW_own rfl rfl) rfl ?_ | refine en_det (opT_loadA_own rfl) rfl ?_
    refine en_det (opT_move rfl) rfl <| en_det (opT_move rfl) rfl <| ?_
    refine en_call cB rfl rfl rfl rfl fun v h8 Γ' s8 hv => ?_
    obtain ⟨rfl, rfl⟩ := hv
    refine en_norm ?_
    have hcm8 := cellH_sub s8 hcm7
    have hrow := hrow.mono s8
    have B8 := B7.mono s8
    have z8 := z7.mono s8
    refine en_det (opT_move rfl) rfl <| en_det (opT_extract rfl rfl) rfl <| en_det (opT_extract rfl rfl) rfl <| en_det (opT_assign rfl) rfl <| en_det (opT_assign rfl) rfl <| en_nil <| en_then <| en_seq <| en_seq <| en_region <| en_det (opT_move rfl) rfl <| en_det (opT_move rfl) rfl <| en_det (opT_neq_f rfl rfl (by omega)) rfl <| en_det (opT_move rfl) rfl <| en_g_yes rfl rfl <| en_det (opT_move rfl) rfl <| en_g_yes rfl rfl <| en_det (opT_neq_f rfl rfl (by omega)) rfl <| ?_
    first | refine en_det (opT_pick_t rfl rfl) rfl ?_ | refine en_det (opT_pick_f rfl rfl) rfl ?_
    refine en_det (opT_move rfl) rfl <| en_g_yes rfl rfl <| en_det (opT_move rfl) rfl <| en_g_yes rfl rfl <| en_det (opT_neq_f rfl rfl (by omega)) rfl <| ?_
    first | refine en_det (opT_pick_t rfl rfl) rfl ?_ | refine en_det (opT_pick_f rfl rfl) rfl ?_
    refine en_det (opT_move rfl) rfl <| en_g_yes rfl rfl <| en_det (opT_move rfl) rfl <| en_g_yes rfl rfl <| en_det (opT_neq_f rfl rfl (by omega)) rfl <| ?_
    first | refine en_det (opT_pick_t rfl rfl) rfl ?_ | refine en_det (opT_pick_f rfl rfl) rfl ?_
    refine en_det (opT_move rfl) rfl <| en_g_yes rfl rfl <| en_det (opT_move rfl) rfl <| en_g_yes rfl rfl <| en_det (opT_neq_f rfl rfl (by omega)) rfl <| ?_
    first | refine en_det (opT_pick_t rfl rfl) rfl ?_ | refine en_det (opT_pick_f rfl rfl) rfl ?_
    refine en_det (opT_move rfl) rfl <| en_g_yes rfl rfl <| en_det (opT_move rfl) rfl <| en_g_yes rfl rfl <| en_det (opT_move rfl) rfl <| en_g_yes rfl rfl <| en_det (opT_move rfl) rfl <| en_g_yes rfl rfl <| ?_
    first | refine en_det (opT_idx1 rfl rfl (by omega) (by omega)) rfl ?_ | refine en_det (opT_idx (ks := 0) rfl rfl (by omega) (by omega)) rfl ?_
    refine en_g_yes rfl rfl <| ?_
    first | refine en_det (opT_load_h rfl (by assumption)) rfl ?_ | refine en_det (opT_load_own rfl rfl) rfl ?_
    refine en_g_yes rfl rfl <| en_det (opT_neq_f rfl rfl (by omega)) rfl <| ?_
    first | refine en_det (opT_pick_t rfl rfl) rfl ?_ | refine en_det (opT_pick_f rfl rfl) rfl ?_
    refine en_det (opT_move rfl) rfl <| en_g_yes rfl rfl <| en_det (opT_move rfl) rfl <| en_g_yes rfl rfl <| en_det (opT_move rfl) rfl <| en_g_yes rfl rfl <| en_det (opT_move rfl) rfl <| en_g_yes rfl rfl <| ?_
    first | refine en_det (opT_idx1 rfl rfl (by omega) (by omega)) rfl ?_ | refine en_det (opT_idx (ks := 0) rfl rfl (by omega) (by omega)) rfl ?_
    refine en_g_yes rfl rfl <| ?_
    first | refine en_det (opT_load_h rfl (by assumption)) rfl ?_ | refine en_det (opT_load_own rfl rfl) rfl ?_
    refine en_g_yes rfl rfl <| en_det (opT_neq_f rfl rfl (by omega)) rfl <| ?_
    first | refine en_det (opT_pick_t rfl rfl) rfl ?_ | refine en_det (opT_pick_f rfl rfl) rfl ?_
    refine en_det (opT_move rfl) rfl <| en_g_yes rfl rfl <| en_det (opT_move rfl) rfl <| en_g_yes rfl rfl <| en_det (opT_fieldAddr rfl) rfl <| en_g_yes rfl rfl <| en_det (opT_load_own rfl rfl) rfl <| en_g_yes rfl rfl <| en_det (opT_move rfl) rfl <| en_g_yes rfl rfl <| ?_
    first | refine en_det (opT_idx1 rfl rfl (by omega) (by omega)) rfl ?_ | refine en_det (opT_idx (ks := 0) rfl rfl (by omega) (by omega)) rfl ?_
    refine en_g_yes rfl rfl <| en_det (opT_loadA_h rfl hrow (row_length _ _)) rfl <| en_g_yes rfl rfl <| en_calld (sum40_ct h8 (b.tray t) (fun m hm => by have := htr m hm; omega)) rfl rfl rfl rfl <| en_g_yes rfl rfl <| en_det (opT_gtr_f rfl rfl (by omega)) rfl <| ?_
    first | refine en_det (opT_pick_t rfl rfl) rfl ?_ | refine en_det (opT_pick_f rfl rfl) rfl ?_
    refine en_nil <| en_then <| en_cond_f rfl <| en_skip <| en_then <| en_seq <| en_seq <| en_region <| en_det (opT_move rfl) rfl <| en_nil <| en_then <| en_block <| ?_
    refine en_loop (fun x : Nat × Heap => x.1 ≤ 4 ∧ h8.sub x.2) (fun x => [(7, pt b7), (8, pt c2), (15, .int .i64 t), (17, .int .i64 M), (136, .int .i64 x.1)]) (fun x => x.2) (fun _ => [Chute c2 v2 y2.length, box b7 26 [.slice (some ⟨tq, toff, none⟩) b.nt tcp, .slice had b.nh hcp]]) (fun x => 4 - x.1) (0, h8) ⟨by simp, .refl _⟩ ⟨rfl, rfl, rfl, rfl, rfl, trivial⟩ (.refl _) inferInstance fun x hx => ?_
    obtain ⟨j, h9⟩ := x
    obtain ⟨hj, s9⟩ := hx
    simp only at hj s9
    change En _ _ _ [(7, pt b7), (8, pt c2), (15, .int .i64 t), (17, .int .i64 M), (136, .int .i64 j)] h9 [Chute c2 v2 y2.length, box b7 26 [.slice (some ⟨tq, toff, none⟩) b.nt tcp, .slice had b.nh hcp]]
    refine en_seq <| en_region <| ?_
    first | refine en_det (opT_lss_t rfl rfl (by omega)) rfl ?_ | refine en_det (opT_lss_f rfl rfl (by omega)) rfl ?_ | refine en_det (opT_lss rfl rfl) rfl ?_
    refine en_nil <| en_then <| en_seq <| ?_
    refine en_if rfl (fun hlt2 => ?_) (fun hlt2 => ?_)
    · skip
      have B9 := B8.mono s9
      refine en_skip <| en_then <| en_seq <| en_block <| en_seq <| en_draw0 [0, 1, 2, 3, 4, 5, 6, 7, 8, 9, 10, 11] (by kernel_rfl) (by decide +kernel) (by decide +kernel) (by decide) <| ?_
      first | refine dp_q rfl (opT_loadW_own rfl rfl) rfl rfl rfl ?_ | refine dp_q rfl (opT_loadA_own rfl) rfl rfl rfl ?_
      refine dp_p rfl (fun _ _ => opT_move rfl) rfl rfl rfl <| dp_p rfl (fun _ _ => opT_move rfl) rfl rfl rfl <| ?_
      first | refine dp_q rfl (opT_loadW_own rfl rfl) rfl rfl rfl ?_ | refine dp_q rfl (opT_loadA_own rfl) rfl rfl rfl ?_
      refine dp_p rfl (fun _ _ => opT_move rfl) rfl rfl rfl <| ?_
      refine dp_callq (tries_ct h9 c2 v2 y2 _ b t (z8.mono s9) B9 hk ht) rfl rfl rfl rfl rfl rfl rfl fun v h10 s10 hv => ?_; obtain ⟨X, hX, hFX⟩ := hv; have hxe : shE b t b.nh X = 0 := (by unfold shE; rw [if_pos haz, if_pos rfl, Int.toNat_natCast, if_pos (hFX.sh hk)]); have cX := shared_ct h10 _ v b t b.nh X (B9.mono s10) hX (by omega); rw [hxe, if_pos rfl] at cX; have hXm := hfm X hFX
      refine dp_callq cX rfl rfl rfl rfl rfl rfl rfl fun v' h11 s11 hv' => ?_; replace hv' : v' = .tuple #[.int .i64 (shV b X), .int .i64 0] := hv'; subst hv'
      refine dp_p rfl (fun _ _ => opT_move rfl) rfl rfl rfl <| dp_p rfl (fun _ _ => opT_extract rfl rfl) rfl rfl rfl <| dp_p rfl (fun _ _ => opT_extract rfl rfl) rfl rfl rfl <| dp_p rfl (fun _ _ => opT_assign rfl) rfl rfl rfl <| dp_p rfl (fun _ _ => opT_assign rfl) rfl rfl rfl <| dp_done0 <| en_then <| en_seq <| en_region <| en_det (opT_move rfl) rfl <| en_det (opT_neq_f rfl rfl (by omega)) rfl <| en_det (opT_move rfl) rfl <| en_g_yes rfl rfl <| en_det (opT_move rfl) rfl <| en_g_yes rfl rfl <| en_det (opT_move rfl) rfl <| en_g_yes rfl rfl <| en_det (opT_gtr_f rfl rfl (by omega)) rfl <| ?_
      first | refine en_det (opT_pick_t rfl rfl) rfl ?_ | refine en_det (opT_pick_f rfl rfl) rfl ?_
      refine en_nil <| en_then <| en_cond_f rfl <| en_skip <| en_blk <| en_then <| en_region <| en_det (opT_add rfl rfl (by constructor <;> omega)) rfl <| en_det (opT_move rfl) rfl <| en_nil <| en_then <| ?_
      exact en_again (j + 1, h11) ⟨by simp only; omega, s9.trans (s10.trans s11)⟩ (by simp only; omega) ⟨rfl, rfl, rfl, rfl, gi rfl (by simp), trivial⟩ (.refl _) inferInstance
    · skip
      refine en_exit <| en_then_exit <| en_then_exit <| en_blk_hit <| en_then <| en_seq <| en_seq <| en_region <| en_det (opT_move rfl) rfl <| en_nil <| en_then <| en_block <| ?_
      refine en_loop (fun x : Nat × Heap => x.1 ≤ 32 ∧ h9.sub x.2) (fun x => [(7, pt b7), (15, .int .i64 t), (17, .int .i64 M), (156, .int .i64 x.1)]) (fun x => x.2) (fun _ => [Chute c2 v2 y2.length, box b7 26 [.slice (some ⟨tq, toff, none⟩) b.nt tcp, .slice had b.nh hcp]]) (fun x => 32 - x.1) (0, h9) ⟨by simp, .refl _⟩ ⟨rfl, rfl, rfl, rfl, trivial⟩ (.refl _) inferInstance fun x hx => ?_
      obtain ⟨s, h10⟩ := x
      obtain ⟨hs, s10⟩ := hx
      simp only at hs s10
      change En _ _ _ [(7, pt b7), (15, .int .i64 t), (17, .int .i64 M), (156, .int .i64 s)] h10 [Chute c2 v2 y2.length, box b7 26 [.slice (some ⟨tq, toff, none⟩) b.nt tcp, .slice had b.nh hcp]]
      refine en_seq <| en_region <| ?_
      first | refine en_det (opT_lss_t rfl rfl (by omega)) rfl ?_ | refine en_det (opT_lss_f rfl rfl (by omega)) rfl ?_ | refine en_det (opT_lss rfl rfl) rfl ?_
      refine en_nil <| en_then <| en_seq <| ?_
      refine en_if rfl (fun hlt3 => ?_) (fun hlt3 => ?_)
      · skip
        have hsl : s < 32 := by omega
        have hbs2 := (bits_set ⟨s, hsl⟩).1
        simp only at hbs2
        have hle := hcl s hsl
        have B10 := B8.mono (s9.trans s10)
        have hbd := hbde s hsl
        have cBs := fun v h11 (s11 : h10.sub h11) hv => bounds_ct h11 _ _ v b t (setI s) (B10.mono s11) hv
        simp only [hbd, if_true, Int.toNat_natCast, hbs2] at cBs
        generalize bdN b t s = N at hle cBs
        refine en_skip <| en_then <| en_seq <| en_block <| en_seq <| en_region <| en_det (opT_move rfl) rfl <| en_det (opT_assign rfl) rfl <| en_nil <| en_then <| en_seq <| en_draw0 [0, 1, 2, 3, 4, 5, 6, 7, 8, 9] (by kernel_rfl) (by decide +kernel) (by decide +kernel) (by decide) <| ?_
        first | refine dp_q rfl (opT_loadW_own rfl rfl) rfl rfl rfl ?_ | refine dp_q rfl (opT_loadA_own rfl) rfl rfl rfl ?_
        refine dp_p rfl (fun _ _ => opT_move rfl) rfl rfl rfl <| dp_p rfl (fun _ _ => opT_move rfl) rfl rfl rfl <| ?_
        refine dp_callq (set43_ct h10 s hsl) rfl rfl rfl rfl rfl rfl rfl fun v h11 s11 hv => ?_
        refine dp_callq (cBs v h11 s11 hv) rfl rfl rfl rfl rfl rfl rfl fun v' h12 s12 hv' => ?_; replace hv' : v' = .tuple #[.int .i64 N, .int .i64 0] := hv'; subst hv'
        refine dp_p rfl (fun _ _ => opT_move rfl) rfl rfl rfl <| dp_p rfl (fun _ _ => opT_extract rfl rfl) rfl rfl rfl <| dp_p rfl (fun _ _ => opT_extract rfl rfl) rfl rfl rfl <| dp_p rfl (fun _ _ => opT_assign rfl) rfl rfl rfl <| dp_p rfl (fun _ _ => opT_assign rfl) rfl rfl rfl <| dp_done0 <| en_then <| en_seq <| en_region <| en_det (opT_move rfl) rfl <| en_det (opT_neq_f rfl rfl (by omega)) rfl <| en_det (opT_move rfl) rfl <| en_g_yes rfl rfl <| en_det (opT_move rfl) rfl <| en_g_yes rfl rfl <| en_det (opT_move rfl) rfl <| en_g_yes rfl rfl <| en_det (opT_lss_f rfl rfl (by omega)) rfl <| ?_
        first | refine en_det (opT_pick_t rfl rfl) rfl ?_ | refine en_det (opT_pick_f rfl rfl) rfl ?_
        refine en_nil <| en_then <| en_cond_f rfl <| en_skip <| en_blk <| en_then <| en_region <| en_det (opT_add rfl rfl (by constructor <;> omega)) rfl <| en_det (opT_move rfl) rfl <| en_nil <| en_then <| ?_
        exact en_again (s + 1, h12) ⟨by simp only; omega, s10.trans (s11.trans s12)⟩ (by simp only; omega) ⟨rfl, rfl, rfl, gi rfl (by simp), trivial⟩ (.refl _) inferInstance
      · skip
        refine en_exit <| en_then_exit <| en_then_exit <| en_blk_hit <| en_then <| en_seq <| en_region <| ?_
        refine en_call (awake_ct h10) rfl rfl rfl rfl fun v h11 Γ' s11 hv => ?_
        obtain ⟨rfl, rfl⟩ := hv
        refine en_norm ?_
        refine en_det (opT_assign rfl) rfl <| en_nil <| en_then <| en_ret <| ?_
        refine en_return (rs := [.tmp 6]) rfl (.cons (.tmp rfl) .nil) (s1.trans (s2.trans (s3.trans (s4.trans (s47.trans (s8.trans (s9.trans (s10.trans s11)))))))) (Γ1 := []) ⟨rfl, rfl⟩
end Go.Sx

/- Numbers in some order; a belt cloned and let be. -/
namespace Go.Sx
open Go.Proofs
set_option maxRecDepth 100000
theorem ints_length (n : Nat) (f : Nat → Int) : (ints n f).length = n := by simp [ints]
theorem ints_get {n : Nat} {f : Nat → Int} {j : Nat} (hj : j < n) : (ints n f)[j]? = some (.int .i64 (f j)) := by simp [ints, hj]
theorem ints_snoc (n : Nat) (f : Nat → Int) (v : Int) : ints n f ++ [.int .i64 v] = ints (n + 1) (fun j => if j = n then v else f j) := by
  unfold ints
  rw [List.range_succ, List.map_append]
  congr 1
  · refine List.map_congr_left fun j hj => ?_
    have : j ≠ n := by have := List.mem_range.1 hj; omega
    simp [this]
  · simp
theorem ints_app_set {n : Nat} {f : Nat → Int} {tail : List Value} {j : Nat} (hj : j < n) (v : Int) : (ints n f ++ tail).set j (.int .i64 v) = ints n (fun i => if i = j then v else f i) ++ tail := by
  rw [List.set_append_left _ _ (by rw [ints_length]; exact hj)]
  congr 1
  apply List.ext_getElem?
  intro i
  rw [List.getElem?_set]
  by_cases e : j = i
  · subst e; simp [ints, hj]
  · by_cases h : i < n
    · simp [ints, h, e, Ne.symm e]
    · simp [ints, h, e]
attribute [local irreducible] Code.wpIn wpListIn Exit.then Exit.inBlock BQ Again Hd St En OpT box blk RQ BQ0 fmap own Desk Chute
theorem shuffled_ct (h : Heap) (c : Nat) (lv : Value) (bytes : List Int) (n : Nat) (hy : IsBytes h lv bytes) (hn : n ≤ 1000) : CT Try.prog 39 [pt c, .int .i64 n] h [Chute c lv bytes.length]
    (fun v h' Γ' => (∃ f : Nat → Int, SlH h' 1 v n (ints n f) ∧ ∀ j, j < n → 0 ≤ f j ∧ f j < n) ∧ Γ' = [Chute c lv bytes.length]) := by
  refine ct_intro Try.func39 rfl rfl rfl rfl fun Φ => ?_
  refine en_seq <| en_region <| en_det (opT_assign rfl) rfl <| en_nil <| en_then <| en_seq <| en_region <| en_det (opT_assign rfl) rfl <| en_nil <| en_then <| en_seq <| en_seq <| en_region <| en_det (opT_move rfl) rfl <| en_det (opT_max2 rfl rfl) rfl <| en_det (opT_move rfl) rfl <| en_nil <| en_then <| en_block <| ?_
  refine en_own_nil 3 1 ?_
  refine en_loop (fun x : Nat × (Nat → Int) × Option Addr × Nat × Heap => x.1 ≤ n ∧ h.sub x.2.2.2.2 ∧ ∀ j, j < x.1 → 0 ≤ x.2.1 j ∧ x.2.1 j < x.1) (fun x => [(0, pt c), (5, .slice x.2.2.1 x.1 x.2.2.2.1), (10, .int .i64 n), (11, .int .i64 x.1)]) (fun x => x.2.2.2.2) (fun x => [own 3 1 (.slice x.2.2.1 x.1 x.2.2.2.1) x.1 (ints x.1 x.2.1), Chute c lv bytes.length]) (fun x => n - x.1) (0, (fun _ => 0), none, 0, h) ⟨by simp, .refl _, fun j hj => by simp at hj⟩ ⟨rfl, rfl, gi rfl (by omega), rfl, trivial⟩ (.refl _) (tkAll _) fun x hx => ?_
  obtain ⟨k, f, ad, cp, h1⟩ := x
  obtain ⟨hk, s1, hf⟩ := hx
  simp only at hk s1 hf
  change En _ _ _ [(0, pt c), (5, .slice ad k cp), (10, .int .i64 n), (11, .int .i64 k)] h1 [own 3 1 (.slice ad k cp) k (ints k f), Chute c lv bytes.length]
  refine en_seq <| en_region <| ?_
  first | refine en_det (opT_lss_t rfl rfl (by omega)) rfl ?_ | refine en_det (opT_lss_f rfl rfl (by omega)) rfl ?_ | refine en_det (opT_lss rfl rfl) rfl ?_
  refine en_nil <| en_then <| en_seq <| ?_
  refine en_if rfl (fun hlt => ?_) (fun hlt => ?_)
  · skip
    have hkn : k < n := by omega
    refine en_skip <| en_then <| en_seq <| en_block <| en_seq <| en_region <| en_det (opT_move rfl) rfl <| en_det (opT_assign rfl) rfl <| en_nil <| en_then <| en_seq <| en_region <| en_det (opT_move rfl) rfl <| en_det (opT_move rfl) rfl <| ?_
    refine en_op (opT_buildSlice (cs := [.int .i64 k]) rfl rfl (by kernel_rfl)) rfl fun _ _ _ _ ⟨b16, e1, e2, e3⟩ => ?_
    subst e1 e3; replace e2 := e2.symm; subst e2
    refine en_app1 rfl rfl rfl rfl rfl rfl rfl (by omega) fun ad17 cp17 hm17 hc17 => ?_
    refine en_det (opT_assign rfl) rfl <| en_nil <| en_then <| en_seq <| en_region <| en_det (opT_move rfl) rfl <| en_det (opT_move rfl) rfl <| en_det (opT_add rfl rfl (by constructor <;> omega)) rfl <| ?_
    refine en_callq (pull_ct h1 c lv bytes ((k : Int) + 1) (hy.mono s1) (by omega)) rfl rfl rfl rfl fun v h2 s2 hv => ?_
    obtain ⟨r0, rfl, hr0, hr1, hr2⟩ := hv
    obtain ⟨r, rfl⟩ := Int.eq_ofNat_of_zero_le hr0
    have hrk : r ≤ k := by
      by_cases e : (k : Int) + 1 < 2
      · have := hr1 e; omega
      · have := hr2 (by omega); omega
    rw [ints_snoc]
    refine en_own_box (by omega) fun b tail ead htl _ => ?_
    subst ead
    rw [List.length_append, ints_length] at htl
    generalize hg : (fun j => if j = k then (k : Int) else f j) = g
    have hgb : ∀ j, j < k + 1 → 0 ≤ g j ∧ g j < k + 1 := fun j hj => by
      rw [← hg]; simp only
      split
      · omega
      · have := hf j (by omega); omega
    have hgk : (ints (k + 1) g ++ tail)[k]? = some (.int .i64 (g k)) := app_get (ints_get (by omega))
    have hgr : (ints (k + 1) g ++ tail)[r]? = some (.int .i64 (g r)) := app_get (ints_get (by omega))
    refine en_det (opT_assign rfl) rfl <| en_nil <| en_then <| en_seq <| en_region <| en_det (opT_move rfl) rfl <| en_det (opT_move rfl) rfl <| ?_
    first | refine en_det (opT_idx1 rfl rfl (by omega) (by omega)) rfl ?_ | refine en_det (opT_idx (ks := 0) rfl rfl (by omega) (by omega)) rfl ?_
    refine en_det (opT_load_own rfl hgk) rfl <| en_det (opT_assign rfl) rfl <| en_nil <| en_then <| en_seq <| en_region <| en_det (opT_move rfl) rfl <| en_det (opT_move rfl) rfl <| en_det (opT_move rfl) rfl <| en_det (opT_move rfl) rfl <| ?_
    first | refine en_det (opT_idx1 rfl rfl (by omega) (by omega)) rfl ?_ | refine en_det (opT_idx (ks := 0) rfl rfl (by omega) (by omega)) rfl ?_
    refine en_det (opT_load_own rfl hgr) rfl <| ?_
    first | refine en_det (opT_idx1 rfl rfl (by omega) (by omega)) rfl ?_ | refine en_det (opT_idx (ks := 0) rfl rfl (by omega) (by omega)) rfl ?_
    refine en_det0 (opT_store1s rfl rfl rfl (by rw [List.length_append, ints_length]; omega)) <| ?_
    rw [ints_app_set (by omega)]
    refine en_nil <| en_then <| en_region <| en_det (opT_move rfl) rfl <| en_det (opT_move rfl) rfl <| en_det (opT_move rfl) rfl <| ?_
    first | refine en_det (opT_idx1 rfl rfl (by omega) (by omega)) rfl ?_ | refine en_det (opT_idx (ks := 0) rfl rfl (by omega) (by omega)) rfl ?_
    refine en_det0 (opT_store1s rfl rfl rfl (by rw [List.length_append, ints_length]; omega)) <| ?_
    rw [ints_app_set (by omega)]
    refine en_box_own (m := k + 1) (cp := cp17) (sz := 1) hm17 hc17 (by rw [List.length_append, ints_length]; exact htl) (by rw [ints_length]; omega) ?_
    refine en_nil <| en_blk <| en_then <| en_region <| en_det (opT_add rfl rfl (by constructor <;> omega)) rfl <| en_det (opT_move rfl) rfl <| en_nil <| en_then <| ?_
    refine en_again (k + 1, (fun i => if i = r then g k else if i = k then g r else g i), some ⟨b, 0, none⟩, cp17, h2) ⟨by simp only; omega, s1.trans s2, fun j hj => ?_⟩ (by simp only; omega) ⟨rfl, rfl, rfl, gi rfl (by simp), trivial⟩ (.refl _) inferInstance
    simp only at hj ⊢
    have h1 := hgb k (by omega)
    have h2 := hgb r (by omega)
    have h3 := hgb j hj
    split
    · omega
    · split <;> omega
  · skip
    obtain rfl : k = n := by omega
    refine en_freeze_own fun h2 s2 hsl _ => ?_
    refine en_exit <| en_then_exit <| en_then_exit <| en_blk_hit <| en_then <| en_seq <| en_region <| en_det (opT_move rfl) rfl <| en_det (opT_assign rfl) rfl <| en_nil <| en_then <| en_ret <| ?_
    refine en_return (rs := [.tmp 4]) rfl (.cons (.tmp rfl) .nil) (s1.trans s2) ⟨⟨f, hsl, hf⟩, rfl⟩
theorem cloneF_ct (h : Heap) (v : Value) (b : BeltD) (hb : IsBelt h v b) (hs : Small b) : CT Try.prog 22 [v] h [] (fun v' h' Γ' => IsBelt h' v' b ∧ Γ' = []) := by
  have c := clone_ct h v b hb hs
  refine ⟨c.enters, fun Φ w s => (c.run Φ w s).mono fun e w' ⟨v', h', Γ', he, hsub, ⟨tad, tcp, had, hcp, rv, hv, hR, hΓ⟩, s'⟩ => ?_⟩
  subst hv hΓ
  obtain ⟨h2, s2, hsl2, st2⟩ := s'.freeze_own
  obtain ⟨h3, s3, hsl3, st3⟩ := st2.freeze_own
  exact ⟨_, h3, [], he, hsub.trans (s2.trans s3), ⟨⟨_, _, rfl, SlH.mono s3 hsl2, rv, hsl3, fun i hi => (hR i hi).mono (s2.trans s3)⟩, rfl⟩, st3⟩
end Go.Sx

/- The rule and the most, what was on trays and is; one tray alone: plain. -/
namespace Go.Sx
theorem forceN_str {H : HandD} (o : OKH H) : ∀ k, (forceN H k).1 ≤ H.str ∧ 0 ≤ (forceN H k).2
  | 0 => by simp [forceN, o.s0]
  | k + 1 => by
    obtain ⟨a, c⟩ := forceN_str o k
    rw [forceN_succ]
    unfold forceS
    split
    · simp [o.s0]
    · have := Int.mul_nonneg o.t0 c
      have := o.s0
      simp only; omega
theorem forceD_str {H : HandD} (o : OKH H) (t : Nat) : forceD H t ≤ H.str := (forceN_str o (t + 1)).1
theorem forceD_fresh {H : HandD} (o : OKH H) (hr : H.rests = []) : forceD H 0 = H.str := by
  show (forceN H 1).1 = _
  rw [forceN_succ]
  unfold forceS forceN
  rw [hr]
  have := o.s0
  simp; omega
structure RuledF (o : BeltD) (L P : Nat → Nat → Int) : Prop where
  lr : ∀ t m, t < o.nt → m < 5 → 0 ≤ L t m ∧ L t m ≤ o.tray t m
  pn : ∀ h m, h < o.nh → m < 5 → 0 ≤ P h m
  pt : ∀ h m, h < o.nh → m < 5 → 0 < P h m → (o.hand h).takes m = true
  eq : ∀ m, m < 5 → tot o.nt o.tray m = tot o.nt L m + tot o.nh P m
  force : ∀ h, h < o.nh → sum5 (P h) ≤ sumN o.nt fun t => forceD (o.hand h) t
  most : sumN o.nh (fun h => sum5 (P h)) ≤ mostA o
theorem sumN_pos {n : Nat} {f : Nat → Int} (h : 0 < sumN n f) : ∃ i, i < n ∧ 0 < f i := by
  induction n with
  | zero => simp [sumN] at h
  | succ n ih =>
    simp only [sumN] at h
    by_cases e : 0 < f n
    · exact ⟨n, by omega, e⟩
    · obtain ⟨i, hi, hp⟩ := ih (by omega)
      exact ⟨i, by omega, hp⟩
theorem ruledF {o : BeltD} (hk : BOK o) : RuledF o (ruleN o.hand o.tray (allH o) o.nt).1 (ruleN o.hand o.tray (allH o) o.nt).2 := by
  obtain ⟨X, hX⟩ := ruled (H := o.hand) (tray := o.tray) (order := allH o) (nt := o.nt) List.nodup_range (fun h hh t => force_nn hk t h (allH_lt o h hh)) (fun t ht m hm => (hk.tr t m ht hm).1) o.nt (Nat.le_refl _)
  generalize ruleN o.hand o.tray (allH o) o.nt = s at hX
  obtain ⟨L, P⟩ := s
  obtain ⟨each, _, heap⟩ := hX
  simp only at each heap ⊢
  have hsum : ∀ t m, sumL (allH o) (fun h => X t h m) = tot o.nh (X t) m := fun t m => by unfold sumL tot allH; rw [sumN_range]
  have hP : ∀ h, P h = fun m => sumN o.nt fun t => X t h m := fun h => by funext m; exact heap h m
  have h5 : ∀ h, sum5 (P h) = sumN o.nt fun t => sum5 (X t h) := fun h => by rw [hP h]; unfold sum5; rw [sumN_swap]
  refine ⟨fun t m ht hm => ?_, fun h m _ _ => ?_, fun h m hh hm hp => ?_, fun m hm => ?_, fun h hh => ?_, ?_⟩
  · have hx := each t ht
    have h1 := hx.left m
    have h2 := hx.nnl m hm
    have h3 : 0 ≤ tot o.nh (X t) m := sumN_nn fun h _ => hx.nn h m
    rw [hsum] at h1
    omega
  · rw [heap]; exact sumN_nn fun t ht => (each t ht).nn h m
  · rw [heap] at hp
    obtain ⟨t, ht, hp⟩ := sumN_pos hp
    exact (each t ht).tk h m hm hp
  · have e1 : tot o.nh P m = sumN o.nt fun t => tot o.nh (X t) m := by
      unfold tot
      rw [sumN_swap]
      exact sumN_congr fun h _ => heap h m
    rw [e1]
    unfold tot
    rw [← sumN_add]
    refine sumN_congr fun t ht => ?_
    have := (each t ht).left m
    rw [hsum] at this
    show o.tray t m = L t m + tot o.nh (X t) m
    omega
  · rw [h5]
    exact sumN_le fun t ht => (each t ht).le h (by simpa [allH] using hh)
  · have e1 : sumN o.nh (fun h => sum5 (P h)) = sumN o.nt fun t => sumN o.nh fun h => sum5 (X t h) := by
      rw [← sumN_swap]
      exact sumN_congr fun h _ => h5 h
    rw [e1]
    unfold mostA
    refine sumN_le fun t ht => ?_
    have hx := each t ht
    have hf : Feas o t (X t) := ⟨fun h m _ _ => hx.nn h m, fun h m _ hm hp => hx.tk h m hm hp, fun h hh => hx.le h (by simpa [allH] using hh), fun m hm => by
      have h1 := hx.left m
      have h2 := hx.nnl m hm
      rw [hsum] at h1
      omega⟩
    have h1 := hf.most hk ht
    have h2 : sumN o.nh (fun h => sum5 (X t h)) = shV o (X t) := by unfold shV sum5 tot; rw [sumN_swap]
    rw [h2]; exact h1

/-- One tray alone, with hands that never rest. -/
def freshH (H : HandD) : HandD := { H with rests := [] }
def oneB (o : BeltD) (t : Nat) : BeltD := ⟨1, fun _ => o.tray t, o.nh, fun h => freshH (o.hand h)⟩
theorem oneB_ok {o : BeltD} (hk : BOK o) {t : Nat} (ht : t < o.nt) : BOK (oneB o t) :=
  ⟨Nat.le_refl _, by show 1 ≤ 8; omega, hk.h5, fun _ m _ hm => hk.tr t m ht hm, fun i hi => ⟨(hk.ok i hi).s0, (hk.ok i hi).s1, (hk.ok i hi).t0, (hk.ok i hi).t1⟩, hk.sl, fun i _ j hj => by simp [oneB, freshH] at hj, fun _ _ => rfl⟩
theorem one_spent {o : BeltD} (hk : BOK o) {t : Nat} (ht : t < o.nt) {h m : Nat} (hh : h < o.nh) (hm : m < 5) (htk : (o.hand h).takes m = true)
    (hp : 0 < (ruleN (oneB o t).hand (oneB o t).tray (allH (oneB o t)) 1).1 0 m) : sum5 ((ruleN (oneB o t).hand (oneB o t).tray (allH (oneB o t)) 1).2 h) = (o.hand h).str := by
  have hko := oneB_ok hk ht
  obtain ⟨X, hX⟩ := ruled (H := (oneB o t).hand) (tray := (oneB o t).tray) (order := allH (oneB o t)) (nt := 1) List.nodup_range (fun h hh t => force_nn hko t h (allH_lt _ h hh)) (fun t ht m hm => (hko.tr t m ht hm).1) 1 (Nat.le_refl _)
  generalize ruleN (oneB o t).hand (oneB o t).tray (allH (oneB o t)) 1 = s at hX hp ⊢
  have hx := hX.each 0 (by omega)
  have h1 := hx.spent h (by simp [allH, oneB, hh]) m hm htk hp
  have e : s.2 h = X 0 h := by
    funext j
    rw [hX.heap]; simp [sumN]
  rw [e, h1]
  exact forceD_fresh (H := freshH (o.hand h)) ⟨(hk.ok h hh).s0, (hk.ok h hh).s1, (hk.ok h hh).t0, (hk.ok h hh).t1⟩ rfl
end Go.Sx

/- The law BeltRuled: the walk. -/
namespace Go.Sx
open Go.Proofs
set_option maxRecDepth 100000
theorem putRow {n w : Nat} {f : Nat → Nat → Value} {tail : List Value} {i : Nat} (hi : i < n) (g : Nat → Value) : PutAt (rows n w f ++ tail) (i * w) (row w g) (rows n w (fun a b => if a = i then g b else f a b) ++ tail) := by
  have hle : i * w + w ≤ n * w := by
    have : (i + 1) * w ≤ n * w := Nat.mul_le_mul_right _ hi
    rw [Nat.add_mul] at this; omega
  refine ⟨?_, by rw [List.length_append, rows_length, row_length]; omega⟩
  rw [← rows_put hi g]
  have e1 : List.take (i * w) (rows n w f ++ tail) = List.take (i * w) (rows n w f) := List.take_append_of_le_length (by rw [rows_length]; omega)
  have e2 : List.drop (i * w + (row w g).length) (rows n w f ++ tail) = List.drop (i * w + (row w g).length) (rows n w f) ++ tail := List.drop_append_of_le_length (by rw [rows_length, row_length]; omega)
  rw [e1, e2]; simp
theorem hands_put (H : Nat → HandD) (rv : Nat → Value) (i : Nat) (x : HandD) (r : Value) : (fun a b => if a = i then hcell x r b else hcell (H a) (rv a) b) = fun a => hcell ((fun j => if j = i then x else H j) a) ((fun j => if j = i then r else rv j) a) := by
  funext a b
  by_cases e : a = i
  · subst e; simp
  · simp [e]
def istep (base : Nat → Int) (X : Nat → Nat → Int) (h k : Nat) : Nat → Int := fun m => base m + tstep X h k m
theorem istep_zero (base : Nat → Int) (X : Nat → Nat → Int) (h : Nat) : trayL (fun m => base m + tot h X m) = trayL (istep base X h 0) := row_congr fun m _ => by simp [istep, tstep]
theorem istep_five (base : Nat → Int) (X : Nat → Nat → Int) (h : Nat) : trayL (istep base X h 5) = trayL (fun m => base m + tot (h + 1) X m) := row_congr fun m hm => by simp [istep, tstep, hm]
theorem istep_next (base : Nat → Int) (X : Nat → Nat → Int) (h k : Nat) : (fun m => if m = k then base k + tot h X k + X h k else istep base X h k m) = istep base X h (k + 1) := by
  funext m
  have e := congrFun (tstep_next X h k) m
  unfold istep
  rw [← e]
  by_cases e1 : m = k
  · subst e1; simp; omega
  · simp [e1]
theorem row5_congr {f g : Nat → Int} (h : ∀ m, m < 5 → f m = g m) : row5 f = row5 g := List.map_congr_left fun m hm => h m (by simpa using hm)
def rxK (rv : Nat → Value) (k : Nat) : Nat → Value := fun i => if i < k then nilS else rv i
theorem rxK_next (n : Nat) (H : Nat → HandD) (rv : Nat → Value) (k : Nat) : rows n 9 (fun a j => if a = k ∧ j = 8 then Value.slice none 0 0 else hcell (H a) (rxK rv k a) j) = rows n 9 (fun a => hcell (H a) (rxK rv (k + 1) a)) := by
  refine rows_congr fun a j _ hj => ?_
  by_cases e : a = k
  · subst e
    have h1 : rxK rv (a + 1) a = nilS := by simp [rxK]
    rw [h1]
    by_cases e2 : j = 8
    · subst e2; simp [hcell, nilS]
    · have h2 : ¬ (a = a ∧ j = 8) := fun h => e2 h.2
      rw [if_neg h2]
      have : j < 5 ∨ j = 5 ∨ j = 6 ∨ j = 7 := by omega
      rcases this with h | rfl | rfl | rfl
      · simp [hcell, h]
      · simp [hcell]
      · simp [hcell]
      · simp [hcell]
  · have : rxK rv (k + 1) a = rxK rv k a := by
      unfold rxK
      by_cases h : a < k
      · simp [h, show a < k + 1 by omega]
      · simp [h, show ¬ a < k + 1 by omega]
    have h2 : ¬ (a = k ∧ j = 8) := fun h => e h.1
    rw [if_neg h2, this]
def mkB (b : BeltD) (H : Nat → HandD) : BeltD := ⟨b.nt, b.tray, b.nh, H⟩
theorem mkB_ok {b : BeltD} (hk : BOK b) {H : Nat → HandD} (h : ∀ i, i < b.nh → OKX b.nt (H i)) : BOK (mkB b H) :=
  ⟨hk.n1, hk.n8, hk.h5, hk.tr, fun i hi => (h i hi).ok, fun i hi => (h i hi).sl, fun i hi => (h i hi).re, fun i hi => (h i hi).ri⟩
attribute [local irreducible] Code.wpIn wpListIn Exit.then Exit.inBlock BQ Again Hd St En OpT box blk RQ BQ0 fmap own Desk Chute
theorem ruled_ct (h : Heap) (v1 v2 : Value) (y1 y2 : List Int) (w : Int) (hy1 : IsBytes h v1 y1) (hy2 : IsBytes h v2 y2) (hw : 0 ≤ w ∧ w ≤ 255) : CT Try.prog 6 [v1, v2, .int .u8 w] h [] (DetW (.bool true) []) := by
  refine ct_intro Try.func6 rfl rfl rfl rfl fun Φ => ?_
  refine en_seq <| en_region <| en_det (opT_assign rfl) rfl <| en_nil <| en_then <| en_seq <| en_region <| en_det (opT_move rfl) rfl <| ?_
  refine en_call (fill_ct h v1 y1 hy1) rfl rfl rfl rfl fun v h1 Γ' s1 hv => ?_
  obtain ⟨c1, rfl, rfl⟩ := hv
  refine en_norm ?_
  refine en_callq (made_ct h1 c1 v1 y1 6 5 (hy1.mono s1) (by omega) (by omega) (by omega) (by omega)) rfl rfl rfl rfl fun v h2 s2 hv => ?_
  obtain ⟨b, hB, hM⟩ := hv
  have hk := hM.ok (by omega) (by omega)
  have hk5 := hk.h5
  have hn1 := hk.n1
  have hn8 := hk.n8
  obtain ⟨tv, hv, rfl, ⟨tl, tad, tcp, rfl, _, _, tp1⟩, ⟨rv, ⟨hl0, had, hcp, rfl, hq⟩, hr⟩⟩ := id hB
  clear tl hl0 hq
  obtain ⟨tq, toff, rfl, tcells⟩ := tp1 (by omega)
  refine en_drop ?_
  refine en_alloc rfl fun b7 => ?_
  refine en_det0 (opT_storeW rfl rfl rfl rfl (by simp [Value.oneCell'])) <| en_nil <| en_then <| en_seq <| en_region <| ?_
  first | refine en_det (opT_loadW_own rfl rfl) rfl ?_ | refine en_det (opT_loadA_own rfl) rfl ?_
  refine en_call (clone_ct h2 _ b hB hk.small) rfl rfl rfl rfl fun v h3 Γ' s3 hv => ?_
  obtain ⟨oad, otc, oha, ohc, orv, rfl, hor, rfl⟩ := hv
  refine en_norm ?_
  refine en_alloc rfl fun b8 => ?_
  refine en_det0 (opT_storeW rfl rfl rfl rfl (by simp [Value.oneCell'])) <| ?_
  have y23 := hy2.mono (s1.trans (s2.trans s3))
  refine en_keep [own 41 9 (.slice oha b.nh ohc) b.nh (rows b.nh 9 fun i => hcell (b.hand i) (orv i)), own 31 5 (.slice oad b.nt otc) b.nt (rows b.nt 5 (icell b.tray)), box b8 26 [.slice oad b.nt otc, .slice oha b.nh ohc], box b7 26 [.slice (some ⟨tq, toff, none⟩) b.nt tcp, .slice had b.nh hcp]] ?_
  refine en_nil <| en_then <| en_seq <| en_seq <| en_draw0 [0, 2, 3, 4, 7, 1, 5, 6] (by kernel_rfl) (by decide +kernel) (by decide +kernel) (by decide) <| dp_p rfl (fun _ _ => opT_move rfl) rfl rfl rfl <| dp_p rfl (fun _ _ => opT_fieldAddr rfl) rfl rfl rfl <| dp_q rfl (opT_load_own rfl rfl) rfl rfl rfl <| dp_p rfl (fun _ _ => opT_len rfl) rfl rfl rfl <| dp_p rfl (fun _ _ => opT_move rfl) rfl rfl rfl <| ?_
  refine dp_e0 rfl (opT_call rfl rfl rfl (fill_ct h3 v2 y2 y23)) rfl rfl rfl rfl fun v46 h4 Γ' s4 hv => ?_; obtain ⟨_, ⟨c2, rfl, rfl⟩, rfl⟩ := hv; refine ⟨[Chute c2 v2 y2.length], List.perm_append_comm (l₁ := [Chute c2 v2 y2.length]), ?_⟩
  refine dp_tn rfl (opT_call rfl rfl rfl (shuffled_ct h4 c2 v2 y2 b.nh (y23.mono s4) (by omega))) rfl rfl rfl rfl rfl fun v50 h5 Γ' s5 hv => ?_; obtain ⟨_, ⟨⟨f, ⟨_, fad, fcp, rfl, _, _, fp⟩, hfb⟩, rfl⟩, rfl⟩ := hv
  refine dp_p rfl (fun _ _ => opT_len rfl) rfl rfl rfl <| dp_done0 <| ?_
  refine en_norm ?_
  have s35 := s4.trans s5
  refine en_then <| en_block <| ?_
  refine en_loop (fun x : Nat × (Nat → HandD) × (Nat → Value) × Heap => x.1 ≤ b.nh ∧ h5.sub x.2.2.2 ∧ ∀ i, i < b.nh → IsInts x.2.2.2 (x.2.2.1 i) (x.2.1 i).rests ∧ OKX b.nt (x.2.1 i)) (fun x => [(2, .int .u8 w), (7, pt b7), (8, pt b8), (50, .slice fad b.nh fcp), (51, .int .i64 b.nh), (52, .int .i64 x.1)]) (fun x => x.2.2.2) (fun x => [own 41 9 (.slice oha b.nh ohc) b.nh (rows b.nh 9 fun i => hcell (x.2.1 i) (x.2.2.1 i)), own 31 5 (.slice oad b.nt otc) b.nt (rows b.nt 5 (icell b.tray)), box b8 26 [.slice oad b.nt otc, .slice oha b.nh ohc], box b7 26 [.slice (some ⟨tq, toff, none⟩) b.nt tcp, .slice had b.nh hcp]]) (fun x => b.nh - x.1) (0, b.hand, orv, h5) ⟨by simp, .refl _, fun i hi => ⟨(hor i hi).mono s35, hk.okx hi⟩⟩ ⟨rfl, rfl, rfl, rfl, rfl, rfl, trivial⟩ (.refl _) inferInstance fun x hx => ?_
  obtain ⟨k, H, rw', h6⟩ := x
  obtain ⟨hkn, s6, hH⟩ := hx
  simp only at hkn s6 hH
  change En _ _ _ [(2, .int .u8 w), (7, pt b7), (8, pt b8), (50, .slice fad b.nh fcp), (51, .int .i64 b.nh), (52, .int .i64 k)] h6 [own 41 9 (.slice oha b.nh ohc) b.nh (rows b.nh 9 fun i => hcell (H i) (rw' i)), own 31 5 (.slice oad b.nt otc) b.nt (rows b.nt 5 (icell b.tray)), box b8 26 [.slice oad b.nt otc, .slice oha b.nh ohc], box b7 26 [.slice (some ⟨tq, toff, none⟩) b.nt tcp, .slice had b.nh hcp]]
  refine en_seq <| en_region <| ?_
  first | refine en_det (opT_lss_t rfl rfl (by omega)) rfl ?_ | refine en_det (opT_lss_f rfl rfl (by omega)) rfl ?_ | refine en_det (opT_lss rfl rfl) rfl ?_
  refine en_nil <| en_then <| en_seq <| ?_
  refine en_if rfl (fun hlt1 => ?_) (fun hlt1 => ?_)
  · skip
    have hkl : k < b.nh := by omega
    obtain ⟨fb, foff, rfl, fcells⟩ := fp (by omega)
    have hfk := hfb k hkl
    obtain ⟨x, hx⟩ := Int.eq_ofNat_of_zero_le hfk.1
    have hxn : x < b.nh := by omega
    have hck : cellH h6 fb (foff + k) = some (.int .i64 x) := by rw [← hx]; exact cellH_sub s6 (fcells k _ (ints_get hkl))
    refine en_own_shape fun _ _ e17 hoc1 hoc2 _ => ?_
    cases e17
    refine en_own_box (by omega) fun ob otail eoad hotl _ => ?_
    subst eoad
    rw [List.length_append, rows_length] at hotl
    refine en_skip <| en_then <| en_seq <| en_block <| en_seq <| en_region <| en_det (opT_move rfl) rfl <| ?_
    first | refine en_det (opT_idx1 rfl rfl (by omega) (by omega)) rfl ?_ | refine en_det (opT_idx (ks := 0) rfl rfl (by omega) (by omega)) rfl ?_
    first | refine en_det (opT_load_h rfl (by assumption)) rfl ?_ | refine en_det (opT_load_own rfl rfl) rfl ?_
    refine en_det (opT_assign rfl) rfl <| en_det (opT_assign rfl) rfl <| en_nil <| en_then <| en_draw0 [0, 1, 2, 3, 6, 4, 5, 7, 8, 9, 10] (by kernel_rfl) (by decide +kernel) (by decide +kernel) (by decide) <| dp_p rfl (fun _ _ => opT_fieldAddr rfl) rfl rfl rfl <| dp_q rfl (opT_load_own (v := .slice (some ⟨ob, 0, none⟩) b.nh ohc) rfl rfl) rfl rfl rfl <| dp_p rfl (fun _ _ => opT_move rfl) rfl rfl rfl <| ?_
    first | refine dp_q rfl (opT_loadW_own rfl rfl) rfl rfl rfl ?_ | refine dp_q rfl (opT_loadA_own rfl) rfl rfl rfl ?_
    refine dp_p rfl (fun _ _ => opT_move rfl) rfl rfl rfl <| ?_
    refine dp_callq (cloneF_ct h6 _ b (hB.mono (s3.trans (s35.trans s6))) hk.small) rfl rfl rfl rfl rfl rfl rfl fun v h7 s7 hv => ?_; obtain ⟨ktv, khv, rfl, hkT, ⟨krv, ⟨_, kha, khc, rfl, _, _, hkp⟩, hkr⟩⟩ := hv; obtain ⟨kb, koff, rfl, kcells⟩ := hkp (by omega); have hrow : CellsH h7 kb (koff + x * 9) (handL (b.hand x) (krv x)) := kcells.row hxn; have hone := (hkr x hxn).one
    refine dp_p rfl (fun _ _ => opT_field (o := 0) (h1 := (inferInstance : One Try.prog 24)) Try.underlying26 rfl rfl rfl) rfl rfl rfl <| ?_
    first | refine dp_p rfl (fun _ _ => opT_idx1 rfl rfl (by omega) (by omega)) rfl rfl rfl ?_ | refine dp_p rfl (fun _ _ => opT_idx (ks := 0) rfl rfl (by omega) (by omega)) rfl rfl rfl ?_
    refine dp_ed0 rfl (opT_loadA_h rfl hrow (row_length _ _)) rfl rfl rfl rfl ?_
    first | refine dp_p rfl (fun _ _ => opT_idx1 rfl rfl (by omega) (by omega)) rfl rfl rfl ?_ | refine dp_p rfl (fun _ _ => opT_idx (ks := 0) rfl rfl (by omega) (by omega)) rfl rfl rfl ?_
    refine dp_td0 rfl (opT_storeA (t := putRow hkl _) rfl rfl (row_length _ _) (List.all_eq_true.1 (one_handV hone))) rfl rfl rfl rfl rfl <| dp_done0 <| en_blk <| en_then <| en_region <| en_det (opT_add rfl rfl (by constructor <;> omega)) rfl <| en_det (opT_move rfl) rfl <| en_nil <| en_then <| ?_
    rw [hands_put]
    refine en_box_own (T := 41) (m := b.nh) (cp := ohc) (sz := 9) hoc1 hoc2 (by rw [List.length_append, rows_length]; exact hotl) (rows_length _ _ _) ?_
    refine en_again (k + 1, (fun j => if j = k then b.hand x else H j), (fun j => if j = k then krv x else rw' j), h7) ⟨by simp only; omega, s6.trans s7, fun i hi => ?_⟩ (by simp only; omega) ⟨rfl, rfl, rfl, rfl, rfl, gi rfl (by simp), trivial⟩ (.refl _) inferInstance
    by_cases e : i = k
    · subst e; simp only [if_true]; exact ⟨hkr x hxn, hk.okx hxn⟩
    · simp only [e, if_false]; exact ⟨(hH i hi).1.mono s7, (hH i hi).2⟩
  · skip
    obtain rfl : k = b.nh := by omega
    refine en_freeze_own fun h7 s7 hsh _ => ?_
    refine en_freeze_own fun h8 s8 hst _ => ?_
    have hoo : ∀ i, i < b.nh → OKX b.nt (H i) := fun i hi => (hH i hi).2
    have hko := mkB_ok hk hoo
    have hBo : IsBelt h8 (.agg #[.slice oad b.nt otc, .slice oha b.nh ohc]) (mkB b H) := ⟨_, _, rfl, hst, rw', SlH.mono s8 hsh, fun i hi => (hH i hi).1.mono (s7.trans s8)⟩
    have hco : checkD (mkB b H) = 0 := check_ok.2 hko
    have hnb := mostA_bound hko
    have hF := ruledF hko
    have h1F := fun t (ht : t < b.nt) h m (hh : h < b.nh) (hm : m < 5) => one_spent hko (t := t) ht (h := h) (m := m) hh hm
    have T8 : CellsH h8 tq toff (rows b.nt 5 (icell b.tray)) := tcells.mono (s3.trans (s35.trans (s6.trans (s7.trans s8))))
    have s18 := s1.trans (s2.trans (s3.trans (s35.trans (s6.trans (s7.trans s8)))))
    clear hr hB hor y23 hfb fp hH hsh hst
    refine en_exit <| en_then_exit <| en_then_exit <| en_blk_hit <| en_then <| en_seq <| en_region <| ?_
    first | refine en_det (opT_loadW_own rfl rfl) rfl ?_ | refine en_det (opT_loadA_own rfl) rfl ?_
    refine en_call (most21_ct h8 _ _ (mkB b H) hBo) rfl rfl rfl rfl fun v h9 Γ' s9 hv => ?_
    obtain ⟨rfl, ⟨_, lv, rfl, _⟩ | ⟨hne, _⟩⟩ := hv
    case inr => exact absurd hco hne
    refine en_norm ?_
    have B9 := hBo.mono s9
    refine en_det (opT_move rfl) rfl <| en_det (opT_extract rfl rfl) rfl <| en_det (opT_extract rfl rfl) rfl <| en_det (opT_extract rfl rfl) rfl <| en_det (opT_assign rfl) rfl <| en_det (opT_assign rfl) rfl <| en_det (opT_assign rfl) rfl <| en_nil <| en_then <| en_seq <| en_region <| ?_
    first | refine en_det (opT_loadW_own rfl rfl) rfl ?_ | refine en_det (opT_loadA_own rfl) rfl ?_
    refine en_call (run28_ct h9 _ _ (mkB b H) B9) rfl rfl rfl rfl fun v h10 Γ' s10 hv => ?_
    obtain ⟨rfl, ⟨_, lv2, rfl, hL⟩ | ⟨hne, _⟩⟩ := hv
    case inr => exact absurd hco hne
    refine en_norm ?_
    have B10 := B9.mono s10
    refine en_det (opT_move rfl) rfl <| en_det (opT_extract rfl rfl) rfl <| en_det (opT_extract rfl rfl) rfl <| en_det (opT_assign rfl) rfl <| en_det (opT_assign rfl) rfl <| en_nil <| en_then <| en_seq <| en_region <| ?_
    first | refine en_det (opT_loadW_own rfl rfl) rfl ?_ | refine en_det (opT_loadA_own rfl) rfl ?_
    refine en_call (run29_ct h10 _ _ (mkB b H) B10) rfl rfl rfl rfl fun v h11 Γ' s11 hv => ?_
    obtain ⟨rfl, ⟨_, lv3, rfl, hP⟩ | ⟨hne, _⟩⟩ := hv
    case inr => exact absurd hco hne
    refine en_norm ?_
    have B11 := B10.mono s11
    replace hL := hL.mono s11
    generalize (ruleN (mkB b H).hand (mkB b H).tray (allH (mkB b H)) (mkB b H).nt).1 = L at hL hF
    generalize (ruleN (mkB b H).hand (mkB b H).tray (allH (mkB b H)) (mkB b H).nt).2 = P at hP hF
    obtain ⟨lr, pn, ptk, peq, pfo, pmo⟩ := hF
    change IsTrays h11 lv2 b.nt L at hL
    change IsTrays h11 lv3 b.nh P at hP
    change ∀ t m, t < b.nt → m < 5 → 0 ≤ L t m ∧ L t m ≤ b.tray t m at lr
    change ∀ h m, h < b.nh → m < 5 → 0 ≤ P h m at pn
    change ∀ h m, h < b.nh → m < 5 → 0 < P h m → (H h).takes m = true at ptk
    change ∀ m, m < 5 → tot b.nt b.tray m = tot b.nt L m + tot b.nh P m at peq
    change ∀ h, h < b.nh → sum5 (P h) ≤ sumN b.nt fun t => forceD (H h) t at pfo
    change sumN b.nh (fun h => sum5 (P h)) ≤ _ at pmo
    obtain ⟨_, lad, lcp, rfl, _, _, lp⟩ := hL
    obtain ⟨lq, loff, rfl, lcells⟩ := lp (by omega)
    obtain ⟨_, pad, pcp, rfl, _, _, pp⟩ := hP
    have T11 := T8.mono (s9.trans (s10.trans s11))
    have htr := fun t m => hM.tr t m
    have hfo : ∀ h t, h < b.nh → 0 ≤ forceD (H h) t ∧ forceD (H h) t ≤ 40 := fun h t hh => forceD_bound (hoo h hh).ok t
    have hstr : ∀ h t, h < b.nh → forceD (H h) t ≤ (H h).str := fun h t hh => forceD_str (hoo h hh).ok t
    have pb : ∀ h, h < b.nh → sum5 (P h) ≤ 320 := fun h hh => by
      have h1 := pfo h hh
      have h2 := (sumN_bound (n := b.nt) (f := fun t => forceD (H h) t) (B := 40) fun t _ => hfo h t hh).2
      omega
    have pm : ∀ h m, h < b.nh → m < 5 → 0 ≤ P h m ∧ P h m ≤ 320 := fun h m hh hm => by
      have h1 := sumN_one (n := 5) (f := P h) (fun j hj => pn h j hh hj) hm
      have h2 := pb h hh
      exact ⟨pn h m hh hm, by unfold sum5 at h2; omega⟩
    have wasb : ∀ t m, t ≤ b.nt → m < 5 → 0 ≤ tot t b.tray m ∧ tot t b.tray m ≤ 14 * t := fun t m ht hm => sumN_bound fun i hi => htr i m (by omega) hm
    have isb : ∀ t m, t ≤ b.nt → m < 5 → 0 ≤ tot t L m ∧ tot t L m ≤ 14 * t := fun t m ht hm => sumN_bound fun i hi => by have := lr i m (by omega) hm; have := htr i m (by omega) hm; omega
    have ppb : ∀ h m, h ≤ b.nh → m < 5 → 0 ≤ tot h P m ∧ tot h P m ≤ 320 * h := fun h m hh hm => sumN_bound fun i hi => pm i m (by omega) hm
    generalize hmo : mostA (mkB b H) = mo at pmo hnb ⊢
    refine en_det (opT_move rfl) rfl <| en_det (opT_extract rfl rfl) rfl <| en_det (opT_extract rfl rfl) rfl <| en_det (opT_assign rfl) rfl <| en_det (opT_assign rfl) rfl <| en_nil <| en_then <| en_seq <| en_seq <| en_region <| en_det (opT_move rfl) rfl <| en_det (opT_neq_f rfl rfl (by omega)) rfl <| en_det (opT_move rfl) rfl <| en_g_yes rfl rfl <| en_det (opT_move rfl) rfl <| en_g_yes rfl rfl <| en_det (opT_neq_f rfl rfl (by omega)) rfl <| ?_
    first | refine en_det (opT_pick_t rfl rfl) rfl ?_ | refine en_det (opT_pick_f rfl rfl) rfl ?_
    refine en_det (opT_move rfl) rfl <| en_g_yes rfl rfl <| en_det (opT_move rfl) rfl <| en_g_yes rfl rfl <| en_det (opT_neq_f rfl rfl (by omega)) rfl <| ?_
    first | refine en_det (opT_pick_t rfl rfl) rfl ?_ | refine en_det (opT_pick_f rfl rfl) rfl ?_
    refine en_det (opT_move rfl) rfl <| en_g_yes rfl rfl <| en_det (opT_move rfl) rfl <| en_g_yes rfl rfl <| en_det (opT_len rfl) rfl <| en_g_yes rfl rfl <| en_det (opT_fieldAddr rfl) rfl <| en_g_yes rfl rfl <| en_det (opT_load_own rfl rfl) rfl <| en_g_yes rfl rfl <| en_det (opT_len rfl) rfl <| en_g_yes rfl rfl <| en_det (opT_neq_f rfl rfl (by omega)) rfl <| ?_
    first | refine en_det (opT_pick_t rfl rfl) rfl ?_ | refine en_det (opT_pick_f rfl rfl) rfl ?_
    refine en_det (opT_move rfl) rfl <| en_g_yes rfl rfl <| en_det (opT_move rfl) rfl <| en_g_yes rfl rfl <| en_det (opT_len rfl) rfl <| en_g_yes rfl rfl <| en_det (opT_fieldAddr rfl) rfl <| en_g_yes rfl rfl <| en_det (opT_load_own rfl rfl) rfl <| en_g_yes rfl rfl <| en_det (opT_len rfl) rfl <| en_g_yes rfl rfl <| en_det (opT_neq_f rfl rfl (by omega)) rfl <| ?_
    first | refine en_det (opT_pick_t rfl rfl) rfl ?_ | refine en_det (opT_pick_f rfl rfl) rfl ?_
    refine en_nil <| en_then <| en_cond_f rfl <| en_skip <| en_then <| en_seq <| en_region <| en_alloc rfl fun b18 => ?_
    refine en_alloc rfl fun b19 => ?_
    refine en_nil <| en_then <| en_seq <| en_region <| en_det (opT_assign rfl) rfl <| en_nil <| en_then <| en_seq <| en_seq <| en_region <| en_det (opT_move rfl) rfl <| en_det (opT_len rfl) rfl <| en_det (opT_move rfl) rfl <| en_nil <| en_then <| en_block <| ?_
    have e18 : trayL (fun _ : Nat => (0 : Int)) = trayL (tot 0 b.tray) := rfl
    have e19 : trayL (fun _ : Nat => (0 : Int)) = trayL (tot 0 L) := rfl
    refine en_loop (fun x : Nat => x ≤ b.nt) (fun x => [(2, .int .u8 w), (7, pt b7), (8, pt b8), (12, .int .i64 mo), (16, .slice pad b.nh pcp), (18, pt b18), (19, pt b19), (20, .int .i64 0), (110, .slice (some ⟨lq, loff, none⟩) b.nt lcp), (111, .int .i64 b.nt), (112, .int .i64 x)]) (fun _ => h11) (fun x => [box b19 31 (trayL (tot x L)), box b18 31 (trayL (tot x b.tray)), box b8 26 [.slice oad b.nt otc, .slice oha b.nh ohc], box b7 26 [.slice (some ⟨tq, toff, none⟩) b.nt tcp, .slice had b.nh hcp]]) (fun x => b.nt - x) 0 (by simp) ⟨rfl, rfl, rfl, rfl, rfl, rfl, rfl, rfl, rfl, rfl, rfl, trivial⟩ (.refl _) (tkAll _) fun t ht => ?_
    refine en_seq <| en_region <| ?_
    first | refine en_det (opT_lss_t rfl rfl (by omega)) rfl ?_ | refine en_det (opT_lss_f rfl rfl (by omega)) rfl ?_ | refine en_det (opT_lss rfl rfl) rfl ?_
    refine en_nil <| en_then <| en_seq <| ?_
    refine en_if rfl (fun hlt2 => ?_) (fun hlt2 => ?_)
    · skip
      have htl : t < b.nt := by omega
      have hrow : CellsH h11 lq (loff + t * 5) (trayL (L t)) := lcells.row htl
      refine en_skip <| en_then <| en_seq <| en_block <| en_seq <| en_region <| en_det (opT_move rfl) rfl <| ?_
      first | refine en_det (opT_idx1 rfl rfl (by omega) (by omega)) rfl ?_ | refine en_det (opT_idx (ks := 0) rfl rfl (by omega) (by omega)) rfl ?_
      refine en_det (opT_loadA_h rfl hrow (row_length _ _)) rfl <| en_alloc rfl fun b22 => ?_
      refine en_det (opT_assign rfl) rfl <| en_det0 (opT_storeW rfl rfl rfl rfl (one_trayL (L t))) <| en_nil <| en_then <| en_seq <| en_region <| en_det (opT_loadW_own rfl (row_length _ _)) rfl <| en_det (opT_move rfl) rfl <| en_nil <| en_then <| en_block <| ?_
      refine en_keep [box b19 31 (trayL (tot t L)), box b18 31 (trayL (tot t b.tray)), box b8 26 [.slice oad b.nt otc, .slice oha b.nh ohc], box b7 26 [.slice (some ⟨tq, toff, none⟩) b.nt tcp, .slice had b.nh hcp]] ?_
      rw [tstep_zero L, tstep_zero b.tray]
      refine en_loop (fun x : Nat => x ≤ 5) (fun x => [(2, .int .u8 w), (7, pt b7), (8, pt b8), (12, .int .i64 mo), (16, .slice pad b.nh pcp), (18, pt b18), (19, pt b19), (20, .int .i64 0), (110, .slice (some ⟨lq, loff, none⟩) b.nt lcp), (111, .int .i64 b.nt), (112, .int .i64 t), (21, .int .i64 t), (117, .agg (trayL (L t)).toArray), (118, .int .i64 x)]) (fun _ => h11) (fun x => [box b19 31 (trayL (tstep L t x)), box b18 31 (trayL (tstep b.tray t x)), box b8 26 [.slice oad b.nt otc, .slice oha b.nh ohc], box b7 26 [.slice (some ⟨tq, toff, none⟩) b.nt tcp, .slice had b.nh hcp]]) (fun x => 5 - x) 0 (by simp) ⟨rfl, rfl, rfl, rfl, rfl, rfl, rfl, rfl, rfl, rfl, rfl, rfl, rfl, rfl, trivial⟩ (.refl _) (tkAll _) fun m hm => ?_
      refine en_seq <| en_region <| ?_
      first | refine en_det (opT_lss_t rfl rfl (by omega)) rfl ?_ | refine en_det (opT_lss_f rfl rfl (by omega)) rfl ?_ | refine en_det (opT_lss rfl rfl) rfl ?_
      refine en_nil <| en_then <| en_seq <| ?_
      refine en_if rfl (fun hlt3 => ?_) (fun hlt3 => ?_)
      · skip
        have hm5 : m < 5 := by omega
        have hg : (trayL (L t))[m]? = some (.int .i64 (L t m)) := row_get hm5
        have htc : cellH h11 tq (toff + t * 5 + m) = some (.int .i64 (b.tray t m)) := T11.cell htl hm5
        have hlr := lr t m htl hm5
        have hw0 : (trayL (tstep b.tray t m))[m]? = some (.int .i64 (tot t b.tray m)) := by rw [row_get hm5]; simp [tstep]
        have hw1 : (trayL (tstep L t m))[m]? = some (.int .i64 (tot t L m)) := by rw [row_get hm5]; simp [tstep]
        have hb0 := wasb t m (by omega) hm5
        have hb1 := isb t m (by omega) hm5
        have ht14 := htr t m htl hm5
        have hn0 := tstep_next b.tray t m
        have hn1 := tstep_next L t m
        generalize L t m = x at hg hlr hn1
        generalize b.tray t m = y at htc hlr ht14 hn0
        refine en_skip <| en_then <| en_seq <| en_block <| en_seq <| en_region <| en_det (opT_move rfl) rfl <| en_det (opT_index rfl rfl (by omega) (by omega) hg) rfl <| en_det (opT_assign rfl) rfl <| en_det (opT_assign rfl) rfl <| en_nil <| en_then <| en_seq <| en_seq <| en_region <| en_det (opT_move rfl) rfl <| en_det (opT_lss_f rfl rfl (by omega)) rfl <| en_det (opT_move rfl) rfl <| en_g_yes rfl rfl <| en_det (opT_move rfl) rfl <| en_g_yes rfl rfl <| en_det (opT_fieldAddr rfl) rfl <| en_g_yes rfl rfl <| en_det (opT_load_own rfl rfl) rfl <| en_g_yes rfl rfl <| en_det (opT_move rfl) rfl <| en_g_yes rfl rfl <| en_det (opT_move rfl) rfl <| en_g_yes rfl rfl <| ?_
        first | refine en_det (opT_idx1 rfl rfl (by omega) (by omega)) rfl ?_ | refine en_det (opT_idx (ks := 0) rfl rfl (by omega) (by omega)) rfl ?_
        refine en_g_yes rfl rfl <| en_det (opT_idxArr rfl rfl (by omega) (by omega)) rfl <| en_g_yes rfl rfl <| ?_
        first | refine en_det (opT_load_h rfl (by assumption)) rfl ?_ | refine en_det (opT_load_own rfl rfl) rfl ?_
        refine en_g_yes rfl rfl <| en_det (opT_gtr_f rfl rfl (by omega)) rfl <| ?_
        first | refine en_det (opT_pick_t rfl rfl) rfl ?_ | refine en_det (opT_pick_f rfl rfl) rfl ?_
        refine en_nil <| en_then <| en_cond_f rfl <| en_skip <| en_then <| en_seq <| en_draw0 [0, 1, 2, 3, 4, 5, 6, 7, 8, 9, 10, 11, 12] (by kernel_rfl) (by decide +kernel) (by decide +kernel) (by decide) <| dp_p rfl (fun _ _ => opT_move rfl) rfl rfl rfl <| dp_p rfl (fun _ _ => opT_idxArr rfl rfl (by omega) (by omega)) rfl rfl rfl <| dp_q rfl (opT_load_own rfl hw0) rfl rfl rfl <| dp_p rfl (fun _ _ => opT_fieldAddr rfl) rfl rfl rfl <| dp_q rfl (opT_load_own rfl rfl) rfl rfl rfl <| dp_p rfl (fun _ _ => opT_move rfl) rfl rfl rfl <| dp_p rfl (fun _ _ => opT_move rfl) rfl rfl rfl <| ?_
        first | refine dp_p rfl (fun _ _ => opT_idx1 rfl rfl (by omega) (by omega)) rfl rfl rfl ?_ | refine dp_p rfl (fun _ _ => opT_idx (ks := 0) rfl rfl (by omega) (by omega)) rfl rfl rfl ?_
        refine dp_p rfl (fun _ _ => opT_idxArr rfl rfl (by omega) (by omega)) rfl rfl rfl <| dp_q rfl (opT_load_h rfl htc) rfl rfl rfl <| dp_p rfl (fun _ _ => opT_add rfl rfl (by constructor <;> omega)) rfl rfl rfl <| dp_p rfl (fun _ _ => opT_idxArr rfl rfl (by omega) (by omega)) rfl rfl rfl <| dp_td0 rfl (opT_store1s rfl rfl rfl (by rw [row_length]; omega)) rfl rfl rfl rfl rfl <| dp_done0 <| en_then <| en_region <| en_det (opT_move rfl) rfl <| en_det (opT_idxArr rfl rfl (by omega) (by omega)) rfl <| en_det (opT_load_own rfl hw1) rfl <| en_det (opT_move rfl) rfl <| en_det (opT_add rfl rfl (by constructor <;> omega)) rfl <| en_det (opT_idxArr rfl rfl (by omega) (by omega)) rfl <| en_det0 (opT_store1s rfl rfl rfl (by rw [row_length]; omega)) <| en_nil <| en_blk <| en_then <| en_region <| en_det (opT_add rfl rfl (by constructor <;> omega)) rfl <| en_det (opT_move rfl) rfl <| en_nil <| en_then <| ?_
        rw [left_set, left_set, hn0, hn1]
        exact en_again (m + 1) (by omega) (by omega) ⟨rfl, rfl, rfl, rfl, rfl, rfl, rfl, rfl, rfl, rfl, rfl, rfl, rfl, gi rfl (by simp), trivial⟩ (.refl _) inferInstance
      · skip
        obtain rfl : m = 5 := by omega
        rw [tstep_five, tstep_five]
        refine en_exit <| en_then_exit <| en_then_exit <| en_blk_hit <| en_blk <| en_then <| en_region <| en_det (opT_add rfl rfl (by constructor <;> omega)) rfl <| en_det (opT_move rfl) rfl <| en_nil <| en_then <| ?_
        exact en_again (t + 1) (by omega) (by omega) ⟨rfl, rfl, rfl, rfl, rfl, rfl, rfl, rfl, rfl, rfl, gi rfl (by simp), trivial⟩ (.refl _) (tkAll _)
    · skip
      obtain rfl : t = b.nt := by omega
      refine en_exit <| en_then_exit <| en_then_exit <| en_blk_hit <| en_then <| en_seq <| en_seq <| en_region <| en_det (opT_move rfl) rfl <| en_det (opT_len rfl) rfl <| en_det (opT_move rfl) rfl <| en_nil <| en_then <| en_block <| ?_
      have e20 : trayL (tot b.nt L) = trayL (fun m => tot b.nt L m + tot 0 P m) := row_congr fun m _ => by simp [tot, sumN]
      rw [e20]
      refine en_loop (fun x : Nat × Heap => x.1 ≤ b.nh ∧ h11.sub x.2) (fun x => [(2, .int .u8 w), (7, pt b7), (8, pt b8), (12, .int .i64 mo), (18, pt b18), (19, pt b19), (20, .int .i64 (sumN x.1 fun h => sum5 (P h))), (155, .slice pad b.nh pcp), (156, .int .i64 b.nh), (157, .int .i64 x.1)]) (fun x => x.2) (fun x => [box b19 31 (trayL (fun m => tot b.nt L m + tot x.1 P m)), box b18 31 (trayL (tot b.nt b.tray)), box b8 26 [.slice oad b.nt otc, .slice oha b.nh ohc], box b7 26 [.slice (some ⟨tq, toff, none⟩) b.nt tcp, .slice had b.nh hcp]]) (fun x => b.nh - x.1) (0, h11) ⟨by simp, .refl _⟩ ⟨rfl, rfl, rfl, rfl, rfl, rfl, rfl, rfl, rfl, rfl, trivial⟩ (.refl _) (tkAll _) fun x hx => ?_
      obtain ⟨g, h12⟩ := x
      obtain ⟨hg, s12⟩ := hx
      simp only at hg s12
      change En _ _ _ [(2, .int .u8 w), (7, pt b7), (8, pt b8), (12, .int .i64 mo), (18, pt b18), (19, pt b19), (20, .int .i64 (sumN g fun h => sum5 (P h))), (155, .slice pad b.nh pcp), (156, .int .i64 b.nh), (157, .int .i64 g)] h12 [box b19 31 (trayL (fun m => tot b.nt L m + tot g P m)), box b18 31 (trayL (tot b.nt b.tray)), box b8 26 [.slice oad b.nt otc, .slice oha b.nh ohc], box b7 26 [.slice (some ⟨tq, toff, none⟩) b.nt tcp, .slice had b.nh hcp]]
      refine en_seq <| en_region <| ?_
      first | refine en_det (opT_lss_t rfl rfl (by omega)) rfl ?_ | refine en_det (opT_lss_f rfl rfl (by omega)) rfl ?_ | refine en_det (opT_lss rfl rfl) rfl ?_
      refine en_nil <| en_then <| en_seq <| ?_
      refine en_if rfl (fun hlt4 => ?_) (fun hlt4 => ?_)
      · skip
        have hgl : g < b.nh := by omega
        obtain ⟨pq, poff, rfl, pcells⟩ := pp (by omega)
        have hrow : CellsH h12 pq (poff + g * 5) (trayL (P g)) := (pcells.row hgl).mono s12
        refine en_skip <| en_then <| en_seq <| en_block <| en_seq <| en_region <| en_det (opT_move rfl) rfl <| ?_
        first | refine en_det (opT_idx1 rfl rfl (by omega) (by omega)) rfl ?_ | refine en_det (opT_idx (ks := 0) rfl rfl (by omega) (by omega)) rfl ?_
        refine en_det (opT_loadA_h rfl hrow (row_length _ _)) rfl <| en_alloc rfl fun b26 => ?_
        refine en_det (opT_assign rfl) rfl <| en_det0 (opT_storeW rfl rfl rfl rfl (one_trayL (P g))) <| ?_
        refine en_nil <| en_then <| en_seq <| en_region <| en_det (opT_assign rfl) rfl <| en_nil <| en_then <| en_seq <| en_seq <| en_region <| en_det (opT_fieldAddr rfl) rfl <| en_det (opT_load_own rfl rfl) rfl <| en_det (opT_len rfl) rfl <| en_det (opT_move rfl) rfl <| en_nil <| en_then <| en_block <| ?_
        refine en_loop (fun x : Nat × Heap => x.1 ≤ b.nt ∧ h12.sub x.2) (fun x => [(2, .int .u8 w), (7, pt b7), (8, pt b8), (12, .int .i64 mo), (18, pt b18), (19, pt b19), (20, .int .i64 (sumN g fun h => sum5 (P h))), (155, .slice (some ⟨pq, poff, none⟩) b.nh pcp), (156, .int .i64 b.nh), (157, .int .i64 g), (25, .int .i64 g), (26, pt b26), (27, .int .i64 (sumN x.1 fun t => forceD (H g) t)), (164, .int .i64 b.nt), (165, .int .i64 x.1)]) (fun x => x.2) (fun x => [box b26 31 (trayL (P g)), box b19 31 (trayL (fun m => tot b.nt L m + tot g P m)), box b18 31 (trayL (tot b.nt b.tray)), box b8 26 [.slice oad b.nt otc, .slice oha b.nh ohc], box b7 26 [.slice (some ⟨tq, toff, none⟩) b.nt tcp, .slice had b.nh hcp]]) (fun x => b.nt - x.1) (0, h12) ⟨by simp, .refl _⟩ ⟨rfl, rfl, rfl, rfl, rfl, rfl, rfl, rfl, rfl, rfl, rfl, rfl, rfl, rfl, rfl, trivial⟩ (.refl _) (tkAll _) fun x hx => ?_
        obtain ⟨t, h13⟩ := x
        obtain ⟨ht, s13⟩ := hx
        simp only at ht s13
        change En _ _ _ [(2, .int .u8 w), (7, pt b7), (8, pt b8), (12, .int .i64 mo), (18, pt b18), (19, pt b19), (20, .int .i64 (sumN g fun h => sum5 (P h))), (155, .slice (some ⟨pq, poff, none⟩) b.nh pcp), (156, .int .i64 b.nh), (157, .int .i64 g), (25, .int .i64 g), (26, pt b26), (27, .int .i64 (sumN t fun t => forceD (H g) t)), (164, .int .i64 b.nt), (165, .int .i64 t)] h13 [box b26 31 (trayL (P g)), box b19 31 (trayL (fun m => tot b.nt L m + tot g P m)), box b18 31 (trayL (tot b.nt b.tray)), box b8 26 [.slice oad b.nt otc, .slice oha b.nh ohc], box b7 26 [.slice (some ⟨tq, toff, none⟩) b.nt tcp, .slice had b.nh hcp]]
        have hfn := sumN_bound (n := t) (f := fun t => forceD (H g) t) (B := 40) fun t _ => hfo g t hgl
        obtain ⟨_, _, e99, _, ⟨orw, ⟨_, oad2, ocp2, e98, _, _, ohp⟩, _⟩⟩ := id B11
        simp only [Value.agg.injEq, Array.mk.injEq, List.cons.injEq, and_true] at e99
        obtain ⟨_, rfl⟩ := e99
        cases e98
        obtain ⟨oq, ooff, rfl, ocells⟩ := ohp (by show 0 < b.nh; omega)
        replace ocells : CellsH h11 oq ooff (rows b.nh 9 fun i => hcell (H i) (orw i)) := ocells
        refine en_seq <| en_region <| ?_
        first | refine en_det (opT_lss_t rfl rfl (by omega)) rfl ?_ | refine en_det (opT_lss_f rfl rfl (by omega)) rfl ?_ | refine en_det (opT_lss rfl rfl) rfl ?_
        refine en_nil <| en_then <| en_seq <| ?_
        refine en_if rfl (fun hlt5 => ?_) (fun hlt5 => ?_)
        · skip
          have htl : t < b.nt := by omega
          have hfe : forceE (mkB b H) g t = 0 := by
            have h1 : inD (g : Int) 0 ((mkB b H).nh - 1) = true := by show inD (g : Int) 0 (b.nh - 1) = true; simp only [inD, decide_eq_true_eq]; omega
            have h2 : inD (t : Int) 0 ((mkB b H).nt - 1) = true := by show inD (t : Int) 0 (b.nt - 1) = true; simp only [inD, decide_eq_true_eq]; omega
            simp [forceE, hco, h1, h2]
          have cF := force37_ct h13 _ _ (mkB b H) g t (B11.mono (s12.trans s13))
          rw [hfe, if_pos rfl, Int.toNat_natCast, Int.toNat_natCast] at cF
          have hf0 := hfo g t hgl
          have hfs := hstr g t hgl
          have hfsum : sumN (t + 1) (fun t => forceD (H g) t) = sumN t (fun t => forceD (H g) t) + forceD (H g) t := rfl
          have e97 : forceD ((mkB b H).hand g) t = forceD (H g) t := rfl
          rw [e97] at cF
          have hcs : cellH h13 oq (ooff + g * 9 + 5) = some (.int .i64 (H g).str) := cellH_sub (s12.trans s13) (ocells.cell hgl (by omega))
          generalize forceD (H g) t = f at cF hf0 hfs hfsum
          refine en_skip <| en_then <| en_seq <| en_block <| en_seq <| en_region <| en_det (opT_move rfl) rfl <| en_det (opT_assign rfl) rfl <| en_nil <| en_then <| en_seq <| en_region <| ?_
          first | refine en_det (opT_loadW_own rfl rfl) rfl ?_ | refine en_det (opT_loadA_own rfl) rfl ?_
          refine en_det (opT_move rfl) rfl <| en_det (opT_move rfl) rfl <| ?_
          refine en_call cF rfl rfl rfl rfl fun v h14 Γ' s14 hv => ?_
          obtain ⟨rfl, rfl⟩ := hv
          refine en_norm ?_
          have hcs := cellH_sub s14 hcs
          refine en_det (opT_move rfl) rfl <| en_det (opT_extract rfl rfl) rfl <| en_det (opT_extract rfl rfl) rfl <| en_det (opT_assign rfl) rfl <| en_det (opT_assign rfl) rfl <| en_nil <| en_then <| en_seq <| en_seq <| en_region <| en_det (opT_move rfl) rfl <| en_det (opT_neq_f rfl rfl (by omega)) rfl <| en_det (opT_move rfl) rfl <| en_g_yes rfl rfl <| en_det (opT_move rfl) rfl <| en_g_yes rfl rfl <| en_det (opT_lss_f rfl rfl (by omega)) rfl <| ?_
          first | refine en_det (opT_pick_t rfl rfl) rfl ?_ | refine en_det (opT_pick_f rfl rfl) rfl ?_
          refine en_det (opT_move rfl) rfl <| en_g_yes rfl rfl <| en_det (opT_move rfl) rfl <| en_g_yes rfl rfl <| en_det (opT_fieldAddr rfl) rfl <| en_g_yes rfl rfl <| en_det (opT_load_own rfl rfl) rfl <| en_g_yes rfl rfl <| en_det (opT_move rfl) rfl <| en_g_yes rfl rfl <| ?_
          first | refine en_det (opT_idx1 rfl rfl (by omega) (by omega)) rfl ?_ | refine en_det (opT_idx (ks := 0) rfl rfl (by omega) (by omega)) rfl ?_
          refine en_g_yes rfl rfl <| en_det (opT_fieldAddr rfl) rfl <| en_g_yes rfl rfl <| en_det (opT_load_h rfl hcs) rfl <| en_g_yes rfl rfl <| en_det (opT_gtr_f rfl rfl (by omega)) rfl <| ?_
          first | refine en_det (opT_pick_t rfl rfl) rfl ?_ | refine en_det (opT_pick_f rfl rfl) rfl ?_
          refine en_nil <| en_then <| en_cond_f rfl <| en_skip <| en_then <| en_region <| en_det (opT_move rfl) rfl <| en_det (opT_move rfl) rfl <| en_det (opT_add rfl rfl (by constructor <;> omega)) rfl <| en_det (opT_assign rfl) rfl <| en_nil <| en_blk <| en_then <| en_region <| en_det (opT_add rfl rfl (by constructor <;> omega)) rfl <| en_det (opT_move rfl) rfl <| en_nil <| en_then <| ?_
          exact en_again (t + 1, h14) ⟨by simp only; omega, s13.trans s14⟩ (by simp only; omega) ⟨rfl, rfl, rfl, rfl, rfl, rfl, rfl, rfl, rfl, rfl, rfl, rfl, gi rfl hfsum.symm, rfl, gi rfl (by simp), trivial⟩ (.refl _) inferInstance
        · skip
          obtain rfl : t = b.nt := by omega
          have hpg := pfo g hgl
          have hpg0 := pb g hgl
          have hps := sumN_nn (n := 5) (f := P g) fun m hm => pn g m hgl hm
          have hps2 : 0 ≤ sumN g (fun h => sum5 (P h)) ∧ sumN g (fun h => sum5 (P h)) ≤ 320 * g := sumN_bound fun i hi => ⟨sumN_nn (n := 5) (f := P i) fun m hm => pn i m (by omega) hm, pb i (by omega)⟩
          have hpsum : sumN (g + 1) (fun h => sum5 (P h)) = sumN g (fun h => sum5 (P h)) + sum5 (P g) := rfl
          generalize sumN b.nt (fun t => forceD (H g) t) = F at hpg hfn ⊢
          refine en_exit <| en_then_exit <| en_then_exit <| en_blk_hit <| en_then <| en_seq <| en_seq <| en_region <| en_det (opT_loadW_own rfl (row_length _ _)) rfl <| en_det (opT_move rfl) rfl <| en_nil <| en_then <| en_block <| ?_
          rw [istep_zero]
          refine en_loop (fun x : Nat => x ≤ 5) (fun x => [(2, .int .u8 w), (7, pt b7), (8, pt b8), (12, .int .i64 mo), (18, pt b18), (19, pt b19), (20, .int .i64 (sumN g fun h => sum5 (P h))), (155, .slice (some ⟨pq, poff, none⟩) b.nh pcp), (156, .int .i64 b.nh), (157, .int .i64 g), (25, .int .i64 g), (26, pt b26), (27, .int .i64 F), (195, .agg (trayL (P g)).toArray), (196, .int .i64 x)]) (fun _ => h13) (fun x => [box b26 31 (trayL (P g)), box b19 31 (trayL (istep (tot b.nt L) P g x)), box b18 31 (trayL (tot b.nt b.tray)), box b8 26 [.slice oad b.nt otc, .slice (some ⟨oq, ooff, none⟩) b.nh ohc], box b7 26 [.slice (some ⟨tq, toff, none⟩) b.nt tcp, .slice had b.nh hcp]]) (fun x => 5 - x) 0 (by simp) ⟨rfl, rfl, rfl, rfl, rfl, rfl, rfl, rfl, rfl, rfl, rfl, rfl, rfl, rfl, rfl, trivial⟩ (.refl _) (tkAll _) fun m hm => ?_
          refine en_seq <| en_region <| ?_
          first | refine en_det (opT_lss_t rfl rfl (by omega)) rfl ?_ | refine en_det (opT_lss_f rfl rfl (by omega)) rfl ?_ | refine en_det (opT_lss rfl rfl) rfl ?_
          refine en_nil <| en_then <| en_seq <| ?_
          refine en_if rfl (fun hlt6 => ?_) (fun hlt6 => ?_)
          · skip
            have hm5 : m < 5 := by omega
            have hgm : (trayL (P g))[m]? = some (.int .i64 (P g m)) := row_get hm5
            have hpm := pm g m hgl hm5
            have hpt := ptk g m hgl hm5
            have hw1 : (trayL (istep (tot b.nt L) P g m))[m]? = some (.int .i64 (tot b.nt L m + tot g P m)) := by rw [row_get hm5]; simp [istep, tstep]
            have hb1 := isb b.nt m (Nat.le_refl _) hm5
            have hb2 := ppb g m (by omega) hm5
            have hn1 := istep_next (tot b.nt L) P g m
            have hce : cellH h13 oq (ooff + g * 9 + m) = some (hcell (H g) (orw g) m) := cellH_sub (s12.trans s13) (ocells.cell hgl (by omega))
            have hcv : hcell (H g) (orw g) m = .bool ((H g).takes m) := by simp [hcell, hm5]
            rw [hcv] at hce
            generalize P g m = x at hgm hpm hpt hn1
            skip
            by_cases hx0 : 0 < x
            · rw [hpt hx0] at hce
              refine en_skip <| en_then <| en_seq <| en_block <| en_seq <| en_region <| en_det (opT_move rfl) rfl <| en_det (opT_index rfl rfl (by omega) (by omega) hgm) rfl <| en_det (opT_assign rfl) rfl <| en_det (opT_assign rfl) rfl <| en_nil <| en_then <| en_seq <| en_seq <| en_region <| en_det (opT_move rfl) rfl <| en_det (opT_lss_f rfl rfl (by omega)) rfl <| en_det (opT_move rfl) rfl <| en_g_yes rfl rfl <| en_det (opT_move rfl) rfl <| en_g_yes rfl rfl <| en_det (opT_gtr_t rfl rfl (by omega)) rfl <| en_g_yes rfl rfl <| en_det (opT_move rfl) rfl <| en_g_yes rfl rfl <| en_det (opT_fieldAddr rfl) rfl <| en_g_yes rfl rfl <| en_det (opT_load_own rfl rfl) rfl <| en_g_yes rfl rfl <| en_det (opT_move rfl) rfl <| en_g_yes rfl rfl <| en_det (opT_move rfl) rfl <| en_g_yes rfl rfl <| ?_
              first | refine en_det (opT_idx1 rfl rfl (by omega) (by omega)) rfl ?_ | refine en_det (opT_idx (ks := 0) rfl rfl (by omega) (by omega)) rfl ?_
              refine en_g_yes rfl rfl <| en_det (opT_fieldAddr rfl) rfl <| en_g_yes rfl rfl <| en_det (opT_idxArr rfl rfl (by omega) (by omega)) rfl <| en_g_yes rfl rfl <| ?_
              first | refine en_det (opT_load_h rfl (by assumption)) rfl ?_ | refine en_det (opT_load_own rfl rfl) rfl ?_
              refine en_g_yes rfl rfl <| ?_
              first | refine en_det (opT_not_t rfl) rfl ?_ | refine en_det (opT_not_f rfl) rfl ?_ | refine en_det (opT_not rfl) rfl ?_
              refine en_g_yes rfl rfl <| ?_
              first | refine en_det (opT_pick_t rfl rfl) rfl ?_ | refine en_det (opT_pick_f rfl rfl) rfl ?_
              first | refine en_det (opT_pick_t rfl rfl) rfl ?_ | refine en_det (opT_pick_f rfl rfl) rfl ?_
              refine en_nil <| en_then <| en_cond_f rfl <| en_skip <| en_then <| en_region <| en_det (opT_move rfl) rfl <| en_det (opT_idxArr rfl rfl (by omega) (by omega)) rfl <| en_det (opT_load_own rfl hw1) rfl <| en_det (opT_move rfl) rfl <| en_det (opT_add rfl rfl (by constructor <;> omega)) rfl <| en_det (opT_idxArr rfl rfl (by omega) (by omega)) rfl <| en_det0 (opT_store1s rfl rfl rfl (by rw [row_length]; omega)) <| en_nil <| en_blk <| en_then <| en_region <| en_det (opT_add rfl rfl (by constructor <;> omega)) rfl <| en_det (opT_move rfl) rfl <| en_nil <| en_then <| ?_
              rw [left_set, hn1]
              exact en_again (m + 1) (by omega) (by omega) ⟨rfl, rfl, rfl, rfl, rfl, rfl, rfl, rfl, rfl, rfl, rfl, rfl, rfl, rfl, gi rfl (by simp), trivial⟩ (.refl _) inferInstance
            · skip
              refine en_skip <| en_then <| en_seq <| en_block <| en_seq <| en_region <| en_det (opT_move rfl) rfl <| en_det (opT_index rfl rfl (by omega) (by omega) hgm) rfl <| en_det (opT_assign rfl) rfl <| en_det (opT_assign rfl) rfl <| en_nil <| en_then <| en_seq <| en_seq <| en_region <| en_det (opT_move rfl) rfl <| en_det (opT_lss_f rfl rfl (by omega)) rfl <| en_det (opT_move rfl) rfl <| en_g_yes rfl rfl <| en_det (opT_move rfl) rfl <| en_g_yes rfl rfl <| en_det (opT_gtr_f rfl rfl (by omega)) rfl <| en_g_yes rfl rfl <| en_det (opT_move rfl) rfl <| en_g_no rfl rfl rfl <| en_g_no rfl rfl rfl <| en_g_no rfl rfl rfl <| en_g_no rfl rfl rfl <| en_g_no rfl rfl rfl <| en_g_no rfl rfl rfl <| en_g_no rfl rfl rfl <| en_g_no rfl rfl rfl <| en_g_no rfl rfl rfl <| en_g_yes rfl rfl <| ?_
              first | refine en_det (opT_pick_t rfl rfl) rfl ?_ | refine en_det (opT_pick_f rfl rfl) rfl ?_
              first | refine en_det (opT_pick_t rfl rfl) rfl ?_ | refine en_det (opT_pick_f rfl rfl) rfl ?_
              refine en_nil <| en_then <| en_cond_f rfl <| en_skip <| en_then <| en_region <| en_det (opT_move rfl) rfl <| en_det (opT_idxArr rfl rfl (by omega) (by omega)) rfl <| en_det (opT_load_own rfl hw1) rfl <| en_det (opT_move rfl) rfl <| en_det (opT_add rfl rfl (by constructor <;> omega)) rfl <| en_det (opT_idxArr rfl rfl (by omega) (by omega)) rfl <| en_det0 (opT_store1s rfl rfl rfl (by rw [row_length]; omega)) <| en_nil <| en_blk <| en_then <| en_region <| en_det (opT_add rfl rfl (by constructor <;> omega)) rfl <| en_det (opT_move rfl) rfl <| en_nil <| en_then <| ?_
              rw [left_set, hn1]
              exact en_again (m + 1) (by omega) (by omega) ⟨rfl, rfl, rfl, rfl, rfl, rfl, rfl, rfl, rfl, rfl, rfl, rfl, rfl, rfl, gi rfl (by simp), trivial⟩ (.refl _) inferInstance
          · skip
            obtain rfl : m = 5 := by omega
            rw [istep_five]
            have cS := sum40_ct h13 (P g) (fun m hm => by have := pm g m hgl hm; omega)
            have hps : 0 ≤ sum5 (P g) := hps
            generalize sum5 (P g) = S at hpg hpg0 hps hpsum cS
            refine en_exit <| en_then_exit <| en_then_exit <| en_blk_hit <| en_then <| en_seq <| en_seq <| en_region <| en_det (opT_loadW_own rfl (row_length _ _)) rfl <| en_calld (cS) rfl rfl rfl rfl <| en_det (opT_move rfl) rfl <| en_det (opT_gtr_f rfl rfl (by omega)) rfl <| en_nil <| en_then <| en_cond_f rfl <| en_skip <| en_then <| en_region <| en_det (opT_move rfl) rfl <| en_det (opT_loadW_own rfl (row_length _ _)) rfl <| en_calld (cS) rfl rfl rfl rfl <| en_det (opT_add rfl rfl (by constructor <;> omega)) rfl <| en_det (opT_assign rfl) rfl <| en_nil <| en_blk <| en_then <| en_region <| en_det (opT_add rfl rfl (by constructor <;> omega)) rfl <| en_det (opT_move rfl) rfl <| en_nil <| en_then <| ?_
            exact en_again (g + 1, h13) ⟨by simp only; omega, s12.trans s13⟩ (by simp only; omega) ⟨rfl, rfl, rfl, rfl, rfl, rfl, gi rfl hpsum.symm, rfl, rfl, gi rfl (by simp), trivial⟩ (.refl _) inferInstance
      · skip
        obtain rfl : g = b.nh := by omega
        have heq5 : row5 (tot b.nt b.tray) = row5 (fun m => tot b.nt L m + tot b.nh P m) := row5_congr peq
        have hne5 : decide (row5 (tot b.nt b.tray) ≠ row5 (fun m => tot b.nt L m + tot b.nh P m)) = false := decide_eq_false (by simp [heq5])
        have B12 := B11.mono s12
        refine en_exit <| en_then_exit <| en_then_exit <| en_blk_hit <| en_then <| en_seq <| en_seq <| en_region <| en_det (opT_loadW_own rfl (row_length _ _)) rfl <| en_det (opT_loadW_own rfl (row_length _ _)) rfl <| en_det ((hne5 ▸ opT_neArr (xs := row5 (tot b.nt b.tray)) (ys := row5 (fun m => tot b.nt L m + tot b.nh P m)) (mk := Value.int .i64) (fun w dep a b => eq_ints (P := Try.prog) (e := 3) inferInstance w dep a b) eg31 (by simp only [row, row5, List.map_map]; rfl) (by simp only [row, row5, List.map_map]; rfl) rfl rfl)) rfl <| en_det (opT_move rfl) rfl <| en_g_yes rfl rfl <| en_det (opT_move rfl) rfl <| en_g_yes rfl rfl <| en_det (opT_move rfl) rfl <| en_g_yes rfl rfl <| en_det (opT_gtr_f rfl rfl (by omega)) rfl <| ?_
        first | refine en_det (opT_pick_t rfl rfl) rfl ?_ | refine en_det (opT_pick_f rfl rfl) rfl ?_
        refine en_nil <| en_then <| en_cond_f rfl <| en_skip <| en_then <| en_seq <| en_region <| ?_
        first | refine en_det (opT_loadW_own rfl rfl) rfl ?_ | refine en_det (opT_loadA_own rfl) rfl ?_
        refine en_call (clone_ct h12 _ (mkB b H) B12 hko.small) rfl rfl rfl rfl fun v h14 Γ' s14 hv => ?_
        obtain ⟨nad, ntc, nha, nhc, nrv, rfl, hnr, rfl⟩ : ∃ (nad : Option Addr) (ntc : Nat) (nha : Option Addr) (nhc : Nat) (nrv : Nat → Value), v = .agg #[.slice nad b.nt ntc, .slice nha b.nh nhc] ∧ (∀ i, i < b.nh → IsInts h14 (nrv i) (H i).rests) ∧ Γ' = [own 31 5 (.slice nad b.nt ntc) b.nt (rows b.nt 5 (icell b.tray)), own 41 9 (.slice nha b.nh nhc) b.nh (rows b.nh 9 fun i => hcell (H i) (nrv i))] := hv
        refine en_norm ?_
        have hr0 : 0 ≤ w % (b.nt : Int) := Int.emod_nonneg _ (by omega)
        have hr1 : w % (b.nt : Int) < b.nt := Int.emod_lt_of_pos _ (by omega)
        obtain ⟨t, ht0⟩ := Int.eq_ofNat_of_zero_le hr0
        rw [ht0] at hr1
        have ht : t < b.nt := by omega
        change En _ _ _ _ h14 [own 31 5 (.slice nad b.nt ntc) b.nt (rows b.nt 5 (icell b.tray)), own 41 9 (.slice nha b.nh nhc) b.nh (rows b.nh 9 fun i => hcell (H i) (nrv i)), box b19 31 (trayL (fun m => tot b.nt L m + tot b.nh P m)), box b18 31 (trayL (tot b.nt b.tray)), box b8 26 [.slice oad b.nt otc, .slice oha b.nh ohc], box b7 26 [.slice (some ⟨tq, toff, none⟩) b.nt tcp, .slice had b.nh hcp]]
        refine en_freeze_own fun h15 s15 hnt _ => ?_
        obtain ⟨_, _, _, e96, hnc1, _, hntp⟩ := hnt
        cases e96
        obtain ⟨nq, noff, rfl, ncells⟩ := hntp (by omega)
        refine en_alloc rfl fun b33 => ?_
        refine en_det0 (opT_storeW rfl rfl rfl rfl (by simp [Value.oneCell'])) <| en_nil <| en_then <| en_seq <| en_region <| en_det (opT_move rfl) rfl <| en_det (opT_conv rfl (wrap_i64 (by constructor <;> omega))) rfl <| en_det (opT_fieldAddr rfl) rfl <| en_det (opT_load_own rfl rfl) rfl <| en_det (opT_len rfl) rfl <| en_det ((ht0 ▸ opT_remk rfl rfl (by omega) (by omega))) rfl <| en_det (opT_assign rfl) rfl <| en_nil <| en_then <| en_seq <| en_region <| en_det (opT_fieldAddr rfl) rfl <| en_det (opT_load_own rfl rfl) rfl <| en_det (opT_move rfl) rfl <| en_det (opT_move rfl) rfl <| en_det (opT_add rfl rfl (by constructor <;> omega)) rfl <| ?_
        refine en_det (opT_slLH rfl rfl rfl (by omega) (by omega) (by omega)) rfl ?_
        rw [show ((t : Int)).toNat = t from Int.toNat_natCast t, if_neg (by omega : ¬ ntc = t), show ((t : Int) + 1).toNat - t = 1 by omega]
        refine en_keep [box b33 26 [.slice (some ⟨nq, noff, none⟩) b.nt ntc, .slice nha b.nh nhc], own 41 9 (.slice nha b.nh nhc) b.nh (rows b.nh 9 fun i => hcell (H i) (nrv i))] ?_
        refine en_det (opT_fieldAddr rfl) rfl <| en_det0 (opT_store1 rfl rfl rfl) <| en_nil <| en_then <| en_seq <| en_seq <| en_region <| en_det (opT_fieldAddr rfl) rfl <| en_det (opT_load_own rfl rfl) rfl <| en_det (opT_len rfl) rfl <| en_det (opT_move rfl) rfl <| en_nil <| en_then <| en_block <| ?_
        refine en_pick (own 41 9 (.slice nha b.nh nhc) b.nh (rows b.nh 9 fun i => hcell (H i) (nrv i))) ?_
        have e95 : rows b.nh 9 (fun i => hcell (H i) (nrv i)) = rows b.nh 9 (fun i => hcell (H i) (rxK nrv 0 i)) := rows_congr fun i j _ _ => by simp [rxK]
        rw [e95]
        refine en_loop (fun x : Nat => x ≤ b.nh) (fun x => [(33, pt b33), (258, .int .i64 b.nh), (259, .int .i64 x)]) (fun _ => h15) (fun x => [own 41 9 (.slice nha b.nh nhc) b.nh (rows b.nh 9 fun i => hcell (H i) (rxK nrv x i)), box b33 26 [.slice (some ⟨nq, noff + t * 5, none⟩) 1 (ntc - t), .slice nha b.nh nhc]]) (fun x => b.nh - x) 0 (by simp) ⟨rfl, rfl, rfl, trivial⟩ (.refl _) (tkAll _) fun k hk' => ?_
        refine en_seq <| en_region <| ?_
        first | refine en_det (opT_lss_t rfl rfl (by omega)) rfl ?_ | refine en_det (opT_lss_f rfl rfl (by omega)) rfl ?_ | refine en_det (opT_lss rfl rfl) rfl ?_
        refine en_nil <| en_then <| en_seq <| ?_
        refine en_if rfl (fun hlt7 => ?_) (fun hlt7 => ?_)
        · skip
          have hkl : k < b.nh := by omega
          refine en_own_shape fun _ _ e17 hoc1 hoc2 _ => ?_
          cases e17
          refine en_own_box (by omega) fun nb ntail enad hntl _ => ?_
          subst enad
          rw [List.length_append, rows_length] at hntl
          have hoff := row_lt (w := 9) (j := 8) hkl (by omega)
          refine en_skip <| en_then <| en_seq <| en_block <| en_seq <| en_region <| en_det (opT_move rfl) rfl <| en_det (opT_assign rfl) rfl <| en_nil <| en_then <| en_region <| en_det (opT_fieldAddr rfl) rfl <| en_det (opT_load_own (v := .slice (some ⟨nb, 0, none⟩) b.nh nhc) rfl rfl) rfl <| en_det (opT_move rfl) rfl <| ?_
          first | refine en_det (opT_idx1 rfl rfl (by omega) (by omega)) rfl ?_ | refine en_det (opT_idx (ks := 0) rfl rfl (by omega) (by omega)) rfl ?_
          refine en_det (opT_fieldAddr rfl) rfl <| en_det0 (opT_store1s rfl rfl rfl (by rw [List.length_append, rows_length]; omega)) <| en_nil <| en_blk <| en_then <| en_region <| en_det (opT_add rfl rfl (by constructor <;> omega)) rfl <| en_det (opT_move rfl) rfl <| en_nil <| en_then <| ?_
          rw [rows_app_set hkl (by omega), rxK_next]
          refine en_box_own (T := 41) (m := b.nh) (cp := nhc) (sz := 9) hoc1 hoc2 (by rw [List.length_append, rows_length]; exact hntl) (rows_length _ _ _) ?_
          exact en_again (k + 1) (by omega) (by omega) ⟨rfl, rfl, gi rfl (by simp), trivial⟩ (.refl _) inferInstance
        · skip
          obtain rfl : k = b.nh := by omega
          refine en_freeze_own fun h16 s16 hnh _ => ?_
          have hk1 := oneB_ok hko ht
          have h1c : checkD (oneB (mkB b H) t) = 0 := check_ok.2 hk1
          have hB1 : IsBelt h16 (.agg #[.slice (some ⟨nq, noff + t * 5, none⟩) 1 (ntc - t), .slice nha b.nh nhc]) (oneB (mkB b H) t) := by
            refine ⟨_, _, rfl, ⟨rows_length _ _ _, _, ntc - t, rfl, (by show 1 ≤ ntc - t; omega), (by omega), fun _ => ⟨nq, noff + t * 5, rfl, ?_⟩⟩, rxK nrv b.nh, hnh, fun i hi => ?_⟩
            · show CellsH h16 nq (noff + t * 5) (rows 1 5 (icell (oneB (mkB b H) t).tray))
              have e : rows 1 5 (icell (oneB (mkB b H) t).tray) = row 5 (icell b.tray t) := by rw [show (1 : Nat) = 0 + 1 from rfl, rows_succ, rows_zero]; rfl
              rw [e]
              exact (ncells.row ht).mono s16
            · have : rxK nrv b.nh i = nilS := by unfold rxK; rw [if_pos (show i < b.nh from hi)]
              rw [this]; exact SlH.nil _ _
          have hF1 := ruledF hk1
          have hsp := h1F t ht
          refine en_exit <| en_then_exit <| en_then_exit <| en_blk_hit <| en_then <| en_seq <| en_region <| ?_
          first | refine en_det (opT_loadW_own rfl rfl) rfl ?_ | refine en_det (opT_loadA_own rfl) rfl ?_
          refine en_call (run28_ct h16 _ _ _ hB1) rfl rfl rfl rfl fun v h17 Γ' s17 hv => ?_
          obtain ⟨rfl, ⟨_, lv4, rfl, hL1⟩ | ⟨hne, _⟩⟩ := hv
          case inr => exact absurd h1c hne
          refine en_norm ?_
          have hB1' := hB1.mono s17
          refine en_det (opT_move rfl) rfl <| en_det (opT_extract rfl rfl) rfl <| en_det (opT_extract rfl rfl) rfl <| en_det (opT_assign rfl) rfl <| en_det (opT_assign rfl) rfl <| en_nil <| en_then <| en_seq <| en_region <| ?_
          first | refine en_det (opT_loadW_own rfl rfl) rfl ?_ | refine en_det (opT_loadA_own rfl) rfl ?_
          refine en_call (run29_ct h17 _ _ _ hB1') rfl rfl rfl rfl fun v h18 Γ' s18' hv => ?_
          obtain ⟨rfl, ⟨_, lv5, rfl, hP1⟩ | ⟨hne, _⟩⟩ := hv
          case inr => exact absurd h1c hne
          refine en_norm ?_
          replace hL1 := hL1.mono s18'
          have hpf : ∀ g, g < b.nh → sum5 ((ruleN (oneB (mkB b H) t).hand (oneB (mkB b H) t).tray (allH (oneB (mkB b H) t)) 1).2 g) ≤ 40 := fun g hg => by
            have h1 := hF1.force g hg
            have h2 := (forceD_bound (hk1.ok g hg) 0).2
            have h3 : sumN (oneB (mkB b H) t).nt (fun t' => forceD ((oneB (mkB b H) t).hand g) t') = forceD ((oneB (mkB b H) t).hand g) 0 := by
              show sumN 1 _ = _; simp [sumN]
            rw [h3] at h1
            exact Int.le_trans h1 h2
          have hpn : ∀ g m, g < b.nh → m < 5 → 0 ≤ (ruleN (oneB (mkB b H) t).hand (oneB (mkB b H) t).tray (allH (oneB (mkB b H) t)) 1).2 g m := fun g m hg hm => hF1.pn g m hg hm
          change IsTrays h18 lv4 1 (ruleN (oneB (mkB b H) t).hand (oneB (mkB b H) t).tray (allH (oneB (mkB b H) t)) 1).1 at hL1
          change IsTrays h18 lv5 b.nh (ruleN (oneB (mkB b H) t).hand (oneB (mkB b H) t).tray (allH (oneB (mkB b H) t)) 1).2 at hP1
          clear hF1
          generalize (ruleN (oneB (mkB b H) t).hand (oneB (mkB b H) t).tray (allH (oneB (mkB b H) t)) 1).1 = L1 at hL1 hsp
          generalize (ruleN (oneB (mkB b H) t).hand (oneB (mkB b H) t).tray (allH (oneB (mkB b H) t)) 1).2 = P1 at hP1 hsp hpf hpn
          obtain ⟨_, l1ad, l1cp, rfl, _, _, l1p⟩ := hL1
          obtain ⟨l1q, l1off, rfl, l1cells⟩ := l1p (by omega)
          obtain ⟨_, p1ad, p1cp, rfl, _, _, p1p⟩ := hP1
          obtain ⟨_, _, e99, _, ⟨xrv, ⟨_, xad, xcp, e98, _, _, xp⟩, _⟩⟩ := id (hB1'.mono s18')
          simp only [Value.agg.injEq, Array.mk.injEq, List.cons.injEq, and_true] at e99
          obtain ⟨_, rfl⟩ := e99
          cases e98
          refine en_keep [box b33 26 [.slice (some ⟨nq, noff + t * 5, none⟩) 1 (ntc - t), .slice nha b.nh nhc]] ?_
          refine en_det (opT_move rfl) rfl <| en_det (opT_extract rfl rfl) rfl <| en_det (opT_extract rfl rfl) rfl <| en_det (opT_assign rfl) rfl <| en_det (opT_assign rfl) rfl <| en_nil <| en_then <| en_seq <| en_seq <| en_region <| en_det (opT_move rfl) rfl <| en_det (opT_neq_f rfl rfl (by omega)) rfl <| en_det (opT_move rfl) rfl <| en_g_yes rfl rfl <| en_det (opT_move rfl) rfl <| en_g_yes rfl rfl <| en_det (opT_neq_f rfl rfl (by omega)) rfl <| ?_
          first | refine en_det (opT_pick_t rfl rfl) rfl ?_ | refine en_det (opT_pick_f rfl rfl) rfl ?_
          refine en_det (opT_move rfl) rfl <| en_g_yes rfl rfl <| en_det (opT_move rfl) rfl <| en_g_yes rfl rfl <| en_det (opT_len rfl) rfl <| en_g_yes rfl rfl <| en_det (opT_neq_f rfl rfl (by omega)) rfl <| ?_
          first | refine en_det (opT_pick_t rfl rfl) rfl ?_ | refine en_det (opT_pick_f rfl rfl) rfl ?_
          refine en_det (opT_move rfl) rfl <| en_g_yes rfl rfl <| en_det (opT_move rfl) rfl <| en_g_yes rfl rfl <| en_det (opT_len rfl) rfl <| en_g_yes rfl rfl <| en_det (opT_fieldAddr rfl) rfl <| en_g_yes rfl rfl <| en_det (opT_load_own rfl rfl) rfl <| en_g_yes rfl rfl <| en_det (opT_len rfl) rfl <| en_g_yes rfl rfl <| en_det (opT_neq_f rfl rfl (by omega)) rfl <| ?_
          first | refine en_det (opT_pick_t rfl rfl) rfl ?_ | refine en_det (opT_pick_f rfl rfl) rfl ?_
          refine en_nil <| en_then <| en_cond_f rfl <| en_skip <| en_then <| en_seq <| en_seq <| en_region <| en_det (opT_move rfl) rfl <| en_det (opT_len rfl) rfl <| en_det (opT_move rfl) rfl <| en_nil <| en_then <| en_block <| ?_
          refine en_loop (fun x : Nat => x ≤ b.nh) (fun x => [(14, .slice (some ⟨l1q, l1off, none⟩) 1 l1cp), (33, pt b33), (297, .slice p1ad b.nh p1cp), (298, .int .i64 b.nh), (299, .int .i64 x)]) (fun _ => h18) (fun x => [box b33 26 [.slice (some ⟨nq, noff + t * 5, none⟩) 1 (ntc - t), .slice nha b.nh nhc]]) (fun x => b.nh - x) 0 (by simp) ⟨rfl, rfl, rfl, rfl, rfl, trivial⟩ (.refl _) (tkAll _) fun g hg => ?_
          refine en_seq <| en_region <| ?_
          first | refine en_det (opT_lss_t rfl rfl (by omega)) rfl ?_ | refine en_det (opT_lss_f rfl rfl (by omega)) rfl ?_ | refine en_det (opT_lss rfl rfl) rfl ?_
          refine en_nil <| en_then <| en_seq <| ?_
          refine en_if rfl (fun hlt8 => ?_) (fun hlt8 => ?_)
          · skip
            have hgl : g < b.nh := by omega
            obtain ⟨p1q, p1off, rfl, p1cells⟩ := p1p (by omega)
            have hrow : CellsH h18 p1q (p1off + g * 5) (trayL (P1 g)) := p1cells.row hgl
            have hrow2 : CellsH h18 l1q (l1off + 0 * 5) (trayL (L1 0)) := l1cells.row (by omega)
            obtain ⟨xq, xoff, rfl, xcells⟩ := xp (by show 0 < b.nh; omega)
            replace xcells : CellsH h18 xq xoff (rows b.nh 9 fun i => hcell (freshH (H i)) (xrv i)) := xcells
            have hcs : cellH h18 xq (xoff + g * 9 + 5) = some (.int .i64 (H g).str) := xcells.cell hgl (by omega)
            have hp40 := hpf g hgl
            have hpg : ∀ m, m < 5 → 0 ≤ P1 g m ∧ P1 g m ≤ 1000000 := fun m hm => by
              have h1 := sumN_one (n := 5) (f := P1 g) (fun j hj => hpn g j hgl hj) hm
              exact ⟨hpn g m hgl hm, by unfold sum5 at hp40; omega⟩
            have cS := sum40_ct h18 (P1 g) hpg
            refine en_skip <| en_then <| en_seq <| en_block <| en_seq <| en_region <| en_det (opT_move rfl) rfl <| ?_
            first | refine en_det (opT_idx1 rfl rfl (by omega) (by omega)) rfl ?_ | refine en_det (opT_idx (ks := 0) rfl rfl (by omega) (by omega)) rfl ?_
            refine en_det (opT_loadA_h rfl hrow (row_length _ _)) rfl <| en_alloc rfl fun b37 => ?_
            refine en_det (opT_assign rfl) rfl <| en_det0 (opT_storeW rfl rfl rfl rfl (one_trayL (P1 g))) <| en_nil <| en_then <| en_seq <| en_region <| en_det (opT_move rfl) rfl <| ?_
            first | refine en_det (opT_idx1 rfl rfl (by omega) (by omega)) rfl ?_ | refine en_det (opT_idx (ks := 0) rfl rfl (by omega) (by omega)) rfl ?_
            refine en_det (opT_loadA_h rfl hrow2 (row_length _ _)) rfl <| en_det (opT_move rfl) rfl <| en_nil <| en_then <| en_block <| ?_
            refine en_loop (fun x : Nat => x ≤ 5) (fun x => [(14, .slice (some ⟨l1q, l1off, none⟩) 1 l1cp), (33, pt b33), (297, .slice (some ⟨p1q, p1off, none⟩) b.nh p1cp), (298, .int .i64 b.nh), (299, .int .i64 g), (36, .int .i64 g), (37, pt b37), (306, .agg (trayL (L1 0)).toArray), (307, .int .i64 x)]) (fun _ => h18) (fun x => [box b37 31 (trayL (P1 g)), box b33 26 [.slice (some ⟨nq, noff + t * 5, none⟩) 1 (ntc - t), .slice (some ⟨xq, xoff, none⟩) b.nh nhc]]) (fun x => 5 - x) 0 (by simp) ⟨rfl, rfl, rfl, rfl, rfl, rfl, rfl, rfl, rfl, trivial⟩ (.refl _) (tkAll _) fun m hm => ?_
            refine en_seq <| en_region <| ?_
            first | refine en_det (opT_lss_t rfl rfl (by omega)) rfl ?_ | refine en_det (opT_lss_f rfl rfl (by omega)) rfl ?_ | refine en_det (opT_lss rfl rfl) rfl ?_
            refine en_nil <| en_then <| en_seq <| ?_
            refine en_if rfl (fun hlt9 => ?_) (fun hlt9 => ?_)
            · skip
              have hm5 : m < 5 := by omega
              have hgm : (trayL (L1 0))[m]? = some (.int .i64 (L1 0 m)) := row_get hm5
              have hce : cellH h18 xq (xoff + g * 9 + m) = some (hcell (freshH (H g)) (xrv g) m) := xcells.cell hgl (by omega)
              have hcv : hcell (freshH (H g)) (xrv g) m = .bool ((H g).takes m) := by simp [hcell, hm5, freshH]
              rw [hcv] at hce
              have hsg : 0 < L1 0 m → (H g).takes m = true → sum5 (P1 g) = (H g).str := fun h1 h2 => hsp g m hgl hm5 h2 h1
              generalize L1 0 m = x at hgm hsg
              generalize sum5 (P1 g) = S at cS hsg
              generalize (H g).str = R at hcs hsg
              skip
              by_cases hx0 : 0 < x
              · cases htk : (H g).takes m with
                | true =>
                  rw [htk] at hce
                  have hSR := hsg hx0 htk
                  refine en_skip <| en_then <| en_seq <| en_block <| en_seq <| en_region <| en_det (opT_move rfl) rfl <| en_det (opT_index rfl rfl (by omega) (by omega) hgm) rfl <| en_det (opT_assign rfl) rfl <| en_det (opT_assign rfl) rfl <| en_nil <| en_then <| en_seq <| en_draw0 [0, 1, 2, 3, 4, 5, 6, 7, 8, 9, 10, 11, 12, 13, 15, 16, 17, 18, 19, 20, 14, 21, 22] (by kernel_rfl) (by decide +kernel) (by decide +kernel) (by decide) <| dp_p rfl (fun _ _ => opT_move rfl) rfl rfl rfl <| dp_p rfl (fun _ _ => opT_gtr_t rfl rfl (by omega)) rfl rfl rfl <| dp_p rfl (fun _ _ => opT_move rfl) rfl rfl rfl <| dp_q_yes rfl rfl rfl (opT_fieldAddr rfl) rfl rfl rfl <| dp_q_yes rfl rfl rfl (opT_load_own rfl rfl) rfl rfl rfl <| dp_q_yes rfl rfl rfl (opT_move rfl) rfl rfl rfl <| dp_q_yes rfl rfl rfl (opT_move rfl) rfl rfl rfl <| ?_
                  first | refine dp_q_yes rfl rfl rfl (opT_idx1 rfl rfl (by omega) (by omega)) rfl rfl rfl ?_ | refine dp_q_yes rfl rfl rfl (opT_idx (ks := 0) rfl rfl (by omega) (by omega)) rfl rfl rfl ?_
                  refine dp_q_yes rfl rfl rfl (opT_fieldAddr rfl) rfl rfl rfl <| dp_q_yes rfl rfl rfl (opT_idxArr rfl rfl (by omega) (by omega)) rfl rfl rfl <| ?_
                  first | refine dp_q_yes rfl rfl rfl (opT_load_h rfl (by assumption)) rfl rfl rfl ?_ | refine dp_q_yes rfl rfl rfl (opT_load_own rfl rfl) rfl rfl rfl ?_
                  first | refine dp_p rfl (fun _ _ => opT_pick_t rfl rfl) rfl rfl rfl ?_ | refine dp_p rfl (fun _ _ => opT_pick_f rfl rfl) rfl rfl rfl ?_
                  refine dp_p rfl (fun _ _ => opT_move rfl) rfl rfl rfl <| dp_q_yes rfl rfl rfl (opT_loadW_own rfl (row_length _ _)) rfl rfl rfl <| dp_q_yes rfl rfl rfl (opT_fieldAddr rfl) rfl rfl rfl <| dp_q_yes rfl rfl rfl (opT_load_own rfl rfl) rfl rfl rfl <| dp_q_yes rfl rfl rfl (opT_move rfl) rfl rfl rfl <| ?_
                  first | refine dp_q_yes rfl rfl rfl (opT_idx1 rfl rfl (by omega) (by omega)) rfl rfl rfl ?_ | refine dp_q_yes rfl rfl rfl (opT_idx (ks := 0) rfl rfl (by omega) (by omega)) rfl rfl rfl ?_
                  refine dp_q_yes rfl rfl rfl (opT_fieldAddr rfl) rfl rfl rfl <| ?_
                  first | refine dp_q_yes rfl rfl rfl (opT_load_h rfl (by assumption)) rfl rfl rfl ?_ | refine dp_q_yes rfl rfl rfl (opT_load_own rfl rfl) rfl rfl rfl ?_
                  refine dp_q_yes rfl rfl rfl (opT_callw (cS) rfl rfl rfl) rfl rfl rfl <| dp_q_yes rfl rfl rfl (opT_neq_f rfl rfl (by omega)) rfl rfl rfl <| ?_
                  first | refine dp_p rfl (fun _ _ => opT_pick_t rfl rfl) rfl rfl rfl ?_ | refine dp_p rfl (fun _ _ => opT_pick_f rfl rfl) rfl rfl rfl ?_
                  refine dp_done0 <| en_then <| en_cond_f rfl <| en_skip <| en_blk <| en_then <| en_region <| en_det (opT_add rfl rfl (by constructor <;> omega)) rfl <| en_det (opT_move rfl) rfl <| en_nil <| en_then <| ?_
                  exact en_again (m + 1) (by omega) (by omega) ⟨rfl, rfl, rfl, rfl, rfl, rfl, rfl, rfl, gi rfl (by simp), trivial⟩ (.refl _) inferInstance
                | false =>
                  rw [htk] at hce
                  refine en_skip <| en_then <| en_seq <| en_block <| en_seq <| en_region <| en_det (opT_move rfl) rfl <| en_det (opT_index rfl rfl (by omega) (by omega) hgm) rfl <| en_det (opT_assign rfl) rfl <| en_det (opT_assign rfl) rfl <| en_nil <| en_then <| en_seq <| en_draw0 [0, 1, 2, 3, 4, 5, 6, 7, 8, 9, 10, 11, 12, 13, 15, 16, 17, 18, 19, 20, 14, 21, 22] (by kernel_rfl) (by decide +kernel) (by decide +kernel) (by decide) <| dp_p rfl (fun _ _ => opT_move rfl) rfl rfl rfl <| dp_p rfl (fun _ _ => opT_gtr_t rfl rfl (by omega)) rfl rfl rfl <| dp_p rfl (fun _ _ => opT_move rfl) rfl rfl rfl <| dp_q_yes rfl rfl rfl (opT_fieldAddr rfl) rfl rfl rfl <| dp_q_yes rfl rfl rfl (opT_load_own rfl rfl) rfl rfl rfl <| dp_q_yes rfl rfl rfl (opT_move rfl) rfl rfl rfl <| dp_q_yes rfl rfl rfl (opT_move rfl) rfl rfl rfl <| ?_
                  first | refine dp_q_yes rfl rfl rfl (opT_idx1 rfl rfl (by omega) (by omega)) rfl rfl rfl ?_ | refine dp_q_yes rfl rfl rfl (opT_idx (ks := 0) rfl rfl (by omega) (by omega)) rfl rfl rfl ?_
                  refine dp_q_yes rfl rfl rfl (opT_fieldAddr rfl) rfl rfl rfl <| dp_q_yes rfl rfl rfl (opT_idxArr rfl rfl (by omega) (by omega)) rfl rfl rfl <| ?_
                  first | refine dp_q_yes rfl rfl rfl (opT_load_h rfl (by assumption)) rfl rfl rfl ?_ | refine dp_q_yes rfl rfl rfl (opT_load_own rfl rfl) rfl rfl rfl ?_
                  first | refine dp_p rfl (fun _ _ => opT_pick_t rfl rfl) rfl rfl rfl ?_ | refine dp_p rfl (fun _ _ => opT_pick_f rfl rfl) rfl rfl rfl ?_
                  refine dp_p rfl (fun _ _ => opT_move rfl) rfl rfl rfl <| dp_q_no rfl rfl rfl rfl rfl <| dp_q_no rfl rfl rfl rfl rfl <| dp_q_no rfl rfl rfl rfl rfl <| dp_q_no rfl rfl rfl rfl rfl <| dp_q_no rfl rfl rfl rfl rfl <| dp_q_no rfl rfl rfl rfl rfl <| dp_q_no rfl rfl rfl rfl rfl <| dp_q_no rfl rfl rfl rfl rfl <| dp_q_no rfl rfl rfl rfl rfl <| ?_
                  first | refine dp_p rfl (fun _ _ => opT_pick_t rfl rfl) rfl rfl rfl ?_ | refine dp_p rfl (fun _ _ => opT_pick_f rfl rfl) rfl rfl rfl ?_
                  refine dp_done0 <| en_then <| en_cond_f rfl <| en_skip <| en_blk <| en_then <| en_region <| en_det (opT_add rfl rfl (by constructor <;> omega)) rfl <| en_det (opT_move rfl) rfl <| en_nil <| en_then <| ?_
                  exact en_again (m + 1) (by omega) (by omega) ⟨rfl, rfl, rfl, rfl, rfl, rfl, rfl, rfl, gi rfl (by simp), trivial⟩ (.refl _) inferInstance
              · skip
                refine en_skip <| en_then <| en_seq <| en_block <| en_seq <| en_region <| en_det (opT_move rfl) rfl <| en_det (opT_index rfl rfl (by omega) (by omega) hgm) rfl <| en_det (opT_assign rfl) rfl <| en_det (opT_assign rfl) rfl <| en_nil <| en_then <| en_seq <| en_draw0 [0, 1, 2, 3, 4, 5, 6, 7, 8, 9, 10, 11, 12, 13, 15, 16, 17, 18, 19, 20, 14, 21, 22] (by kernel_rfl) (by decide +kernel) (by decide +kernel) (by decide) <| dp_p rfl (fun _ _ => opT_move rfl) rfl rfl rfl <| dp_p rfl (fun _ _ => opT_gtr_f rfl rfl (by omega)) rfl rfl rfl <| dp_p rfl (fun _ _ => opT_move rfl) rfl rfl rfl <| dp_q_no rfl rfl rfl rfl rfl <| dp_q_no rfl rfl rfl rfl rfl <| dp_q_no rfl rfl rfl rfl rfl <| dp_q_no rfl rfl rfl rfl rfl <| dp_q_no rfl rfl rfl rfl rfl <| dp_q_no rfl rfl rfl rfl rfl <| dp_q_no rfl rfl rfl rfl rfl <| dp_q_no rfl rfl rfl rfl rfl <| ?_
                first | refine dp_p rfl (fun _ _ => opT_pick_t rfl rfl) rfl rfl rfl ?_ | refine dp_p rfl (fun _ _ => opT_pick_f rfl rfl) rfl rfl rfl ?_
                refine dp_p rfl (fun _ _ => opT_move rfl) rfl rfl rfl <| dp_q_no rfl rfl rfl rfl rfl <| dp_q_no rfl rfl rfl rfl rfl <| dp_q_no rfl rfl rfl rfl rfl <| dp_q_no rfl rfl rfl rfl rfl <| dp_q_no rfl rfl rfl rfl rfl <| dp_q_no rfl rfl rfl rfl rfl <| dp_q_no rfl rfl rfl rfl rfl <| dp_q_no rfl rfl rfl rfl rfl <| dp_q_no rfl rfl rfl rfl rfl <| ?_
                first | refine dp_p rfl (fun _ _ => opT_pick_t rfl rfl) rfl rfl rfl ?_ | refine dp_p rfl (fun _ _ => opT_pick_f rfl rfl) rfl rfl rfl ?_
                refine dp_done0 <| en_then <| en_cond_f rfl <| en_skip <| en_blk <| en_then <| en_region <| en_det (opT_add rfl rfl (by constructor <;> omega)) rfl <| en_det (opT_move rfl) rfl <| en_nil <| en_then <| ?_
                exact en_again (m + 1) (by omega) (by omega) ⟨rfl, rfl, rfl, rfl, rfl, rfl, rfl, rfl, gi rfl (by simp), trivial⟩ (.refl _) inferInstance
            · skip
              refine en_exit <| en_then_exit <| en_then_exit <| en_blk_hit <| en_blk <| en_then <| en_region <| en_det (opT_add rfl rfl (by constructor <;> omega)) rfl <| en_det (opT_move rfl) rfl <| en_nil <| en_then <| ?_
              exact en_again (g + 1) (by omega) (by omega) ⟨rfl, rfl, rfl, rfl, gi rfl (by simp), trivial⟩ (.refl _) inferInstance
          · skip
            refine en_exit <| en_then_exit <| en_then_exit <| en_blk_hit <| en_then <| en_seq <| en_region <| ?_
            refine en_call (awake_ct h18) rfl rfl rfl rfl fun v h19 Γ' s19 hv => ?_
            obtain ⟨rfl, rfl⟩ := hv
            refine en_norm ?_
            refine en_det (opT_assign rfl) rfl <| en_nil <| en_then <| en_ret <| ?_
            refine en_return (rs := [.tmp 6]) rfl (.cons (.tmp rfl) .nil) (s18.trans (s9.trans (s10.trans (s11.trans (s12.trans (s14.trans (s15.trans (s16.trans (s17.trans (s18'.trans s19)))))))))) (Γ1 := []) ⟨rfl, rfl⟩
end Go.Sx

/- The reference: numbers allowed, rests, the force of a hand, sums, hands. -/
namespace Go.Sx
open Go.Proofs
set_option maxRecDepth 100000
theorem force_run {H : HandD} {base : Nat} (h0 : (forceN H base).2 = 0) : ∀ i, (∀ j : Nat, base ≤ j → j ≤ base + i → H.rests.contains (j : Int) = false) → forceN H (base + i + 1) = (max 0 (H.str - H.tire * i), (i : Int) + 1)
  | 0, h => by
    rw [Nat.add_zero, forceN_succ]; unfold forceS
    rw [h base (by omega) (by omega), h0]; simp
  | i + 1, h => by
    have ih := force_run h0 i fun j h1 h2 => h j h1 (by omega)
    rw [show base + (i + 1) + 1 = (base + i + 1) + 1 by omega, forceN_succ, ih]; unfold forceS
    rw [h (base + i + 1) (by omega) (by omega)]; simp
theorem force_base {H : HandD} {base : Nat} (h : base = 0 ∨ H.rests.contains ((base : Int) - 1) = true) : (forceN H base).2 = 0 := by
  cases base with
  | zero => rfl
  | succ n =>
    rw [forceN_succ]; unfold forceS
    rcases h with h | h
    · omega
    · rw [show ((n + 1 : Nat) : Int) - 1 = n by omega] at h
      rw [h]; rfl
/-- The force, told from the last rest. -/
theorem force_back {H : HandD} {t k : Nat} (hk : k ≤ t) (hno : ∀ j : Nat, t - k ≤ j → j ≤ t → H.rests.contains (j : Int) = false) (hb : k = t ∨ H.rests.contains ((t : Int) - 1 - k) = true) : forceD H t = max 0 (H.str - H.tire * k) := by
  have e : t + 1 = (t - k) + k + 1 := by omega
  have h0 : (forceN H (t - k)).2 = 0 := force_base (by
    rcases hb with rfl | hb
    · left; omega
    · right; rw [show ((t - k : Nat) : Int) - 1 = (t : Int) - 1 - k by omega]; exact hb)
  unfold forceD
  rw [e, force_run h0 k fun j h1 h2 => hno j h1 (by omega)]
theorem force_at_rest {H : HandD} {t : Nat} (h : H.rests.contains (t : Int) = true) : forceD H t = 0 := by
  unfold forceD; rw [forceN_succ]; unfold forceS; rw [h]; rfl
theorem contains_at {l : List Int} {i : Nat} {x : Int} (hi : i < l.length) (h : l[i] = x) : l.contains x = true := by
  rw [List.contains_iff_mem]; subst h; exact List.getElem_mem hi
theorem contains_not {l : List Int} {x : Int} (h : ∀ i (hi : i < l.length), l[i] ≠ x) : l.contains x = false := by
  rw [Bool.eq_false_iff]; intro hc
  rw [List.contains_iff_mem] at hc
  obtain ⟨i, hi, e⟩ := List.getElem_of_mem hc
  exact h i hi e
attribute [local irreducible] Code.wpIn wpListIn Exit.then Exit.inBlock BQ Again Hd St En OpT box blk RQ BQ0 fmap own Desk Chute
theorem off_ct (n lo hi : Int) (h : Heap) : CT Try.prog 79 [.int .i64 n, .int .i64 lo, .int .i64 hi] h [] (DetW (.bool (!inD n lo hi)) []) := by
  refine ct_intro Try.func79 rfl rfl rfl rfl fun Φ => ?_
  skip
  by_cases h1 : n < lo
  · refine en_seq <| en_region <| en_det (opT_assign rfl) rfl <| en_nil <| en_then <| en_seq <| en_region <| en_det (opT_move rfl) rfl <| en_det (opT_move rfl) rfl <| en_det (opT_lss_t rfl rfl (by omega)) rfl <| en_det (opT_move rfl) rfl <| en_g_no rfl rfl rfl <| en_g_no rfl rfl rfl <| en_g_no rfl rfl rfl <| ?_
    first | refine en_det (opT_pick_t rfl rfl) rfl ?_ | refine en_det (opT_pick_f rfl rfl) rfl ?_
    refine en_det (opT_assign rfl) rfl <| en_nil <| en_then <| en_ret <| ?_
    refine en_return (rs := [.tmp 6]) rfl (.cons (.tmp rfl) .nil) (.refl _) (Γ1 := []) ⟨by simp [resVal, inD]; omega, rfl⟩
  · by_cases h2 : hi < n
    · skip
      refine en_seq <| en_region <| en_det (opT_assign rfl) rfl <| en_nil <| en_then <| en_seq <| en_region <| en_det (opT_move rfl) rfl <| en_det (opT_move rfl) rfl <| en_det (opT_lss_f rfl rfl (by omega)) rfl <| en_det (opT_move rfl) rfl <| en_g_yes rfl rfl <| en_det (opT_move rfl) rfl <| en_g_yes rfl rfl <| en_det (opT_move rfl) rfl <| en_g_yes rfl rfl <| en_det (opT_gtr_t rfl rfl (by omega)) rfl <| ?_
      first | refine en_det (opT_pick_t rfl rfl) rfl ?_ | refine en_det (opT_pick_f rfl rfl) rfl ?_
      refine en_det (opT_assign rfl) rfl <| en_nil <| en_then <| en_ret <| ?_
      refine en_return (rs := [.tmp 6]) rfl (.cons (.tmp rfl) .nil) (.refl _) (Γ1 := []) ⟨by simp [resVal, inD]; omega, rfl⟩
    · skip
      refine en_seq <| en_region <| en_det (opT_assign rfl) rfl <| en_nil <| en_then <| en_seq <| en_region <| en_det (opT_move rfl) rfl <| en_det (opT_move rfl) rfl <| en_det (opT_lss_f rfl rfl (by omega)) rfl <| en_det (opT_move rfl) rfl <| en_g_yes rfl rfl <| en_det (opT_move rfl) rfl <| en_g_yes rfl rfl <| en_det (opT_move rfl) rfl <| en_g_yes rfl rfl <| en_det (opT_gtr_f rfl rfl (by omega)) rfl <| ?_
      first | refine en_det (opT_pick_t rfl rfl) rfl ?_ | refine en_det (opT_pick_f rfl rfl) rfl ?_
      refine en_det (opT_assign rfl) rfl <| en_nil <| en_then <| en_ret <| ?_
      refine en_return (rs := [.tmp 6]) rfl (.cons (.tmp rfl) .nil) (.refl _) (Γ1 := []) ⟨by simp [resVal, inD]; omega, rfl⟩
theorem rests_ct (h : Heap) (H : HandD) (r : Value) (t : Int) (hr : IsInts h r H.rests) : CT Try.prog 91 [.agg (handL H r).toArray, .int .i64 t] h [] (DetW (.bool (H.rests.contains t)) []) := by
  obtain ⟨ad, cp, rfl, hl, hc, hp⟩ := hr.shape
  refine ct_intro Try.func91 rfl rfl rfl rfl fun Φ => ?_
  refine en_seq <| en_region <| en_box rfl rfl rfl fun b2 => en_det (opT_assign rfl) rfl <| en_nil <| en_then <| en_seq <| en_seq <| en_region <| en_det (opT_assign rfl) rfl <| en_nil <| en_then <| en_block <| ?_
  refine en_loop (fun k => k ≤ H.rests.length ∧ ∀ i (hi : i < H.rests.length), i < k → H.rests[i] ≠ t) (fun k : Nat => [(1, .int .i64 t), (2, pt b2), (5, .int .i64 k)]) (fun _ => h) (fun _ => [box b2 127 (handL H (.slice ad H.rests.length cp))]) (fun k => H.rests.length - k) 0 ⟨by omega, fun i _ hi => by omega⟩ ⟨rfl, rfl, rfl, trivial⟩ (.refl _) (tkAll _) fun k ⟨hk, hb⟩ => ?_
  refine en_seq <| en_seq <| en_region <| en_det (opT_move rfl) rfl <| en_det (opT_fieldAddr rfl) rfl <| en_det (opT_load_own rfl rfl) rfl <| en_det (opT_len rfl) rfl <| ?_
  first | refine en_det (opT_lss_t rfl rfl (by omega)) rfl ?_ | refine en_det (opT_lss_f rfl rfl (by omega)) rfl ?_ | refine en_det (opT_lss rfl rfl) rfl ?_
  refine en_nil <| en_then <| ?_
  refine en_if rfl (fun hlt => ?_) (fun hlt => ?_)
  · skip
    have hkl : k < H.rests.length := by omega
    obtain ⟨q, off, rfl, hcc⟩ := hp (by omega)
    have hck := hcc k hkl
    skip
    by_cases hx : H.rests[k] = t
    · refine en_skip <| en_then <| en_seq <| en_block <| en_seq <| en_region <| en_det (opT_fieldAddr rfl) rfl <| en_det (opT_load_own rfl rfl) rfl <| en_det (opT_move rfl) rfl <| ?_
      first | refine en_det (opT_idx1 rfl rfl (by omega) (by omega)) rfl ?_ | refine en_det (opT_idx (ks := 0) rfl rfl (by omega) (by omega)) rfl ?_
      first | refine en_det (opT_load_h rfl (by assumption)) rfl ?_ | refine en_det (opT_load_own rfl rfl) rfl ?_
      refine en_det (opT_move rfl) rfl <| en_det (opT_eql_t rfl rfl (by omega)) rfl <| en_nil <| en_then <| en_cond_t rfl <| en_seq <| en_region <| en_det (opT_assign rfl) rfl <| en_nil <| en_then <| en_ret <| en_blk_ret <| en_then_ret <| en_then_ret <| en_blk_ret <| en_then_ret <| ?_
      refine en_return (rs := [.tmp 4]) rfl (.cons (.tmp rfl) .nil) (.refl _) (Γ1 := []) ⟨by rw [contains_at hkl hx]; rfl, rfl⟩
    · skip
      refine en_skip <| en_then <| en_seq <| en_block <| en_seq <| en_region <| en_det (opT_fieldAddr rfl) rfl <| en_det (opT_load_own rfl rfl) rfl <| en_det (opT_move rfl) rfl <| ?_
      first | refine en_det (opT_idx1 rfl rfl (by omega) (by omega)) rfl ?_ | refine en_det (opT_idx (ks := 0) rfl rfl (by omega) (by omega)) rfl ?_
      first | refine en_det (opT_load_h rfl (by assumption)) rfl ?_ | refine en_det (opT_load_own rfl rfl) rfl ?_
      refine en_det (opT_move rfl) rfl <| en_det (opT_eql_f rfl rfl (by omega)) rfl <| en_nil <| en_then <| en_cond_f rfl <| en_skip <| en_blk <| en_then <| en_region <| en_det (opT_move rfl) rfl <| en_det (opT_add rfl rfl (by constructor <;> omega)) rfl <| en_det (opT_assign rfl) rfl <| en_nil <| en_then <| ?_
      refine en_again (k + 1) ⟨by omega, fun i hi h1 => ?_⟩ (by omega) ⟨rfl, rfl, gi rfl (by simp), trivial⟩ (.refl _) inferInstance
      rcases Nat.lt_succ_iff_lt_or_eq.1 h1 with h2 | rfl
      · exact hb i hi h2
      · exact hx
  · skip
    have e := contains_not (l := H.rests) (x := t) fun i hi => hb i hi (by omega)
    refine en_exit <| en_then_exit <| en_then_exit <| en_blk_hit <| en_then <| en_seq <| en_region <| en_det (opT_assign rfl) rfl <| en_nil <| en_then <| en_ret <| ?_
    refine en_return (rs := [.tmp 4]) rfl (.cons (.tmp rfl) .nil) (.refl _) (Γ1 := []) ⟨by rw [e]; rfl, rfl⟩
theorem forceR_ct (h : Heap) (tv hv : Value) (H : Nat → HandD) (nh hand tray : Nat) (hH : IsHands h hv nh H) (hh : hand < nh) (ok : OKH (H hand)) (ht : tray < 1000) :
    CT Try.prog 36 [.agg #[tv, hv], .int .i64 hand, .int .i64 tray] h [] (DetW (.int .i64 (forceD (H hand) tray)) []) := by
  obtain ⟨rv, ⟨_, ad, cp, rfl, hm, hc, hp⟩, hr⟩ := hH
  obtain ⟨bh, off, rfl, hcells⟩ := hp (by omega)
  have hrow := hcells.row hh
  have hri := hr hand hh
  have hone := hri.one
  generalize H hand = H at *
  generalize rv hand = r at *
  have cR := fun t => rests_ct h H r t hri
  have hone' := List.all_eq_true.1 (one_handV (H := H) hone)
  refine ct_intro Try.func36 rfl rfl rfl rfl fun Φ => ?_
  refine en_seq <| en_region <| en_box rfl rfl rfl fun b3 => en_det (opT_assign rfl) rfl <| en_nil <| en_then <| en_seq <| en_region <| en_det (opT_fieldAddr rfl) rfl <| en_det (opT_load_own rfl rfl) rfl <| en_det (opT_move rfl) rfl <| ?_
  first | refine en_det (opT_idx1 rfl rfl (by omega) (by omega)) rfl ?_ | refine en_det (opT_idx (ks := 0) rfl rfl (by omega) (by omega)) rfl ?_
  refine en_det (opT_loadA_h rfl hrow (row_length _ _)) rfl <| en_alloc rfl fun b7 => ?_
  refine en_det0 (opT_storeW rfl rfl (row_length _ _) rfl hone') <| en_nil <| en_then <| en_seq <| en_seq <| en_region <| en_det (opT_loadW_own rfl (row_length _ _)) rfl <| en_det (opT_move rfl) rfl <| en_calld (cR tray) rfl rfl rfl rfl <| en_nil <| en_then <| ?_
  obtain ⟨s0, s1, t0, t1⟩ := ok
  skip
  cases h0 : H.rests.contains (tray : Int) with
  | true =>
    refine en_cond_t rfl <| en_seq <| en_region <| en_det (opT_assign rfl) rfl <| en_nil <| en_then <| en_ret <| en_then_ret <| ?_
    refine en_return (rs := [.tmp 6]) rfl (.cons (.tmp rfl) .nil) (.refl _) (Γ1 := []) ⟨by rw [force_at_rest h0]; rfl, rfl⟩
  | false =>
    refine en_cond_f rfl <| en_skip <| en_then <| en_seq <| en_region <| en_det (opT_fieldAddr rfl) rfl <| en_det (opT_load_own rfl rfl) rfl <| en_det (opT_assign rfl) rfl <| en_nil <| en_then <| en_seq <| en_seq <| en_region <| en_det (opT_move rfl) rfl <| en_det (opT_sub rfl rfl (by constructor <;> omega)) rfl <| en_det (opT_assign rfl) rfl <| en_nil <| en_then <| en_block <| ?_
    refine en_loop (fun k => k ≤ tray ∧ ∀ j : Nat, tray - k ≤ j → j ≤ tray → H.rests.contains (j : Int) = false) (fun k : Nat => [(7, pt b7), (8, .int .i64 (H.str - H.tire * k)), (9, .int .i64 ((tray : Int) - 1 - k))]) (fun _ => h) (fun _ => [box b7 127 (handL H r), box b3 59 [tv, .slice (some ⟨bh, off, none⟩) nh cp]]) (fun k => tray - k) 0 ⟨by omega, fun j h1 h2 => by rw [show j = tray by omega]; exact h0⟩ ⟨rfl, gi rfl (by simp), gi rfl (by simp), trivial⟩ (.refl _) (tkAll _) fun k ⟨hk, hno⟩ => ?_
    have hm0 : 0 ≤ H.tire * (k : Int) := Int.mul_nonneg t0 (by omega)
    have hm1 : H.tire * (k : Int) ≤ 10 * 1000 := Int.mul_le_mul t1 (by omega) (by omega) (by omega)
    skip
    by_cases hkt : k = tray
    · have hF := force_back hk hno (.inl hkt)
      by_cases hn : H.str - H.tire * (k : Int) < 0
      · skip
        refine en_seq <| en_seq <| en_region <| en_det (opT_move rfl) rfl <| en_det (opT_geq_f rfl rfl (by omega)) rfl <| en_det (opT_move rfl) rfl <| en_g_no rfl rfl rfl <| en_g_no rfl rfl rfl <| en_g_no rfl rfl rfl <| en_g_no rfl rfl rfl <| ?_
        first | refine en_det (opT_pick_t rfl rfl) rfl ?_ | refine en_det (opT_pick_f rfl rfl) rfl ?_
        refine en_nil <| en_then <| en_cond_f rfl <| en_exit <| en_then_exit <| en_then_exit <| en_blk_hit <| en_then <| en_seq <| en_seq <| en_region <| en_det (opT_move rfl) rfl <| en_det (opT_lss_t rfl rfl (by omega)) rfl <| en_nil <| en_then <| en_cond_t rfl <| en_seq <| en_region <| en_det (opT_assign rfl) rfl <| en_nil <| en_then <| en_ret <| en_then_ret <| ?_
        refine en_return (rs := [.tmp 6]) rfl (.cons (.tmp rfl) .nil) (.refl _) (Γ1 := []) ⟨by rw [hF]; simp [resVal]; omega, rfl⟩
      · skip
        refine en_seq <| en_seq <| en_region <| en_det (opT_move rfl) rfl <| en_det (opT_geq_f rfl rfl (by omega)) rfl <| en_det (opT_move rfl) rfl <| en_g_no rfl rfl rfl <| en_g_no rfl rfl rfl <| en_g_no rfl rfl rfl <| en_g_no rfl rfl rfl <| ?_
        first | refine en_det (opT_pick_t rfl rfl) rfl ?_ | refine en_det (opT_pick_f rfl rfl) rfl ?_
        refine en_nil <| en_then <| en_cond_f rfl <| en_exit <| en_then_exit <| en_then_exit <| en_blk_hit <| en_then <| en_seq <| en_seq <| en_region <| en_det (opT_move rfl) rfl <| en_det (opT_lss_f rfl rfl (by omega)) rfl <| en_nil <| en_then <| en_cond_f rfl <| en_skip <| en_then <| en_seq <| en_region <| en_det (opT_move rfl) rfl <| en_det (opT_assign rfl) rfl <| en_nil <| en_then <| en_ret <| ?_
        refine en_return (rs := [.tmp 6]) rfl (.cons (.tmp rfl) .nil) (.refl _) (Γ1 := []) ⟨by rw [hF]; simp [resVal]; omega, rfl⟩
    · cases hc1 : H.rests.contains ((tray : Int) - 1 - k) with
      | true =>
        have hF := force_back hk hno (.inr hc1)
        have cR' := cR ((tray : Int) - 1 - k)
        rw [hc1] at cR'
        by_cases hn : H.str - H.tire * (k : Int) < 0
        · skip
          refine en_seq <| en_seq <| en_region <| en_det (opT_move rfl) rfl <| en_det (opT_geq_t rfl rfl (by omega)) rfl <| en_det (opT_move rfl) rfl <| en_g_yes rfl rfl <| en_det (opT_loadW_own rfl (row_length _ _)) rfl <| en_g_yes rfl rfl <| en_det (opT_move rfl) rfl <| en_g_yes rfl rfl <| en_calld (cR') rfl rfl rfl rfl <| en_g_yes rfl rfl <| ?_
          first | refine en_det (opT_not_t rfl) rfl ?_ | refine en_det (opT_not_f rfl) rfl ?_ | refine en_det (opT_not rfl) rfl ?_
          first | refine en_det (opT_pick_t rfl rfl) rfl ?_ | refine en_det (opT_pick_f rfl rfl) rfl ?_
          refine en_nil <| en_then <| en_cond_f rfl <| en_exit <| en_then_exit <| en_then_exit <| en_blk_hit <| en_then <| en_seq <| en_seq <| en_region <| en_det (opT_move rfl) rfl <| en_det (opT_lss_t rfl rfl (by omega)) rfl <| en_nil <| en_then <| en_cond_t rfl <| en_seq <| en_region <| en_det (opT_assign rfl) rfl <| en_nil <| en_then <| en_ret <| en_then_ret <| ?_
          refine en_return (rs := [.tmp 6]) rfl (.cons (.tmp rfl) .nil) (.refl _) (Γ1 := []) ⟨by rw [hF]; simp [resVal]; omega, rfl⟩
        · skip
          refine en_seq <| en_seq <| en_region <| en_det (opT_move rfl) rfl <| en_det (opT_geq_t rfl rfl (by omega)) rfl <| en_det (opT_move rfl) rfl <| en_g_yes rfl rfl <| en_det (opT_loadW_own rfl (row_length _ _)) rfl <| en_g_yes rfl rfl <| en_det (opT_move rfl) rfl <| en_g_yes rfl rfl <| en_calld (cR') rfl rfl rfl rfl <| en_g_yes rfl rfl <| ?_
          first | refine en_det (opT_not_t rfl) rfl ?_ | refine en_det (opT_not_f rfl) rfl ?_ | refine en_det (opT_not rfl) rfl ?_
          first | refine en_det (opT_pick_t rfl rfl) rfl ?_ | refine en_det (opT_pick_f rfl rfl) rfl ?_
          refine en_nil <| en_then <| en_cond_f rfl <| en_exit <| en_then_exit <| en_then_exit <| en_blk_hit <| en_then <| en_seq <| en_seq <| en_region <| en_det (opT_move rfl) rfl <| en_det (opT_lss_f rfl rfl (by omega)) rfl <| en_nil <| en_then <| en_cond_f rfl <| en_skip <| en_then <| en_seq <| en_region <| en_det (opT_move rfl) rfl <| en_det (opT_assign rfl) rfl <| en_nil <| en_then <| en_ret <| ?_
          refine en_return (rs := [.tmp 6]) rfl (.cons (.tmp rfl) .nil) (.refl _) (Γ1 := []) ⟨by rw [hF]; simp [resVal]; omega, rfl⟩
      | false =>
        have cR' := cR ((tray : Int) - 1 - k)
        rw [hc1] at cR'
        refine en_seq <| en_seq <| en_region <| en_det (opT_move rfl) rfl <| en_det (opT_geq_t rfl rfl (by omega)) rfl <| en_det (opT_move rfl) rfl <| en_g_yes rfl rfl <| en_det (opT_loadW_own rfl (row_length _ _)) rfl <| en_g_yes rfl rfl <| en_det (opT_move rfl) rfl <| en_g_yes rfl rfl <| en_calld (cR') rfl rfl rfl rfl <| en_g_yes rfl rfl <| ?_
        first | refine en_det (opT_not_t rfl) rfl ?_ | refine en_det (opT_not_f rfl) rfl ?_ | refine en_det (opT_not rfl) rfl ?_
        first | refine en_det (opT_pick_t rfl rfl) rfl ?_ | refine en_det (opT_pick_f rfl rfl) rfl ?_
        refine en_nil <| en_then <| en_cond_t rfl <| en_skip <| en_then <| en_seq <| en_block <| en_region <| en_det (opT_move rfl) rfl <| en_det (opT_fieldAddr rfl) rfl <| en_det (opT_load_own rfl rfl) rfl <| en_det (opT_sub rfl rfl (by constructor <;> omega)) rfl <| en_det (opT_assign rfl) rfl <| en_nil <| en_blk <| en_then <| en_region <| en_det (opT_move rfl) rfl <| en_det (opT_sub rfl rfl (by constructor <;> omega)) rfl <| en_det (opT_assign rfl) rfl <| en_nil <| en_then <| ?_
        refine en_again (k + 1) ⟨by omega, fun j h1 h2 => ?_⟩ (by omega) ⟨rfl, gi rfl (by rw [Int.natCast_add, Int.mul_add]; simp; omega), gi rfl (by omega), trivial⟩ (.refl _) inferInstance
        rcases Nat.lt_or_ge j (tray - k) with h3 | h3
        · rw [show (j : Int) = (tray : Int) - 1 - k by omega]; exact hc1
        · exact hno j h3 h2
theorem sumR_ct (h : Heap) (t : Nat → Int) (ht : ∀ m, m < 5 → 0 ≤ t m ∧ t m ≤ 1000000) : CT Try.prog 35 [.agg (trayL t).toArray] h [] (DetW (.int .i64 (sum5 t)) []) := by
  have h0 := ht 0 (by omega)
  have h1 := ht 1 (by omega)
  have h2 := ht 2 (by omega)
  have h3 := ht 3 (by omega)
  have h4 := ht 4 (by omega)
  have e : trayL t = [.int .i64 (t 0), .int .i64 (t 1), .int .i64 (t 2), .int .i64 (t 3), .int .i64 (t 4)] := rfl
  have e5 : sum5 t = t 0 + t 1 + t 2 + t 3 + t 4 := by simp [sum5, sumN]
  rw [e, e5]
  generalize t 0 = a0 at *
  generalize t 1 = a1 at *
  generalize t 2 = a2 at *
  generalize t 3 = a3 at *
  generalize t 4 = a4 at *
  refine ct_intro Try.func35 rfl rfl rfl rfl fun Φ => ?_
  refine en_seq <| en_region <| en_box rfl rfl rfl fun b1 => en_det (opT_assign rfl) rfl <| en_nil <| en_then <| en_seq <| en_region <| en_det (opT_idxArr rfl rfl (by omega) (by omega)) rfl <| en_det (opT_load_own rfl rfl) rfl <| en_det (opT_idxArr rfl rfl (by omega) (by omega)) rfl <| en_det (opT_load_own rfl rfl) rfl <| en_det (opT_add rfl rfl (by constructor <;> omega)) rfl <| en_det (opT_idxArr rfl rfl (by omega) (by omega)) rfl <| en_det (opT_load_own rfl rfl) rfl <| en_det (opT_add rfl rfl (by constructor <;> omega)) rfl <| en_det (opT_idxArr rfl rfl (by omega) (by omega)) rfl <| en_det (opT_load_own rfl rfl) rfl <| en_det (opT_add rfl rfl (by constructor <;> omega)) rfl <| en_det (opT_idxArr rfl rfl (by omega) (by omega)) rfl <| en_det (opT_load_own rfl rfl) rfl <| en_det (opT_add rfl rfl (by constructor <;> omega)) rfl <| en_det (opT_assign rfl) rfl <| en_nil <| en_then <| en_ret <| ?_
  refine en_return (rs := [.tmp 2]) rfl (.cons (.tmp rfl) .nil) (.refl _) (Γ1 := []) ⟨rfl, rfl⟩
theorem handsR_ct (h : Heap) (tv hv : Value) (H : Nat → HandD) (nh : Nat) (hH : IsHands h hv nh H) (hn : nh ≤ 1000) :
    CT Try.prog 32 [.agg #[tv, hv]] h [] (fun v h' Γ' => IsInts h' v (upto nh) ∧ Γ' = []) := by
  obtain ⟨rv, ⟨_, ad, cp, rfl, hm, hc, hp⟩, hr⟩ := hH
  refine ct_intro Try.func32 rfl rfl rfl rfl fun Φ => ?_
  refine en_seq <| en_region <| en_box rfl rfl rfl fun b1 => en_det (opT_assign rfl) rfl <| en_nil <| en_then <| en_seq <| en_region <| en_det (opT_assign rfl) rfl <| en_nil <| en_then <| en_seq <| en_seq <| en_region <| en_det (opT_assign rfl) rfl <| en_nil <| en_then <| en_block <| ?_
  refine en_own_nil 3 1 ?_
  refine en_loop (fun x : Nat × Value => x.1 ≤ nh) (fun x => [(1, pt b1), (3, x.2), (4, .int .i64 x.1)]) (fun _ => h) (fun x => [own 3 1 x.2 x.1 ((upto x.1).map (Value.int .i64)), box b1 59 [tv, .slice ad nh cp]]) (fun x => nh - x.1) (0, .slice none 0 0) (by simp) ⟨rfl, rfl, rfl, trivial⟩ (.refl _) (tkAll _) fun x hk => ?_
  obtain ⟨k, v⟩ := x
  change En _ _ _ [(1, pt b1), (3, v), (4, .int .i64 k)] h [own 3 1 v k ((upto k).map (Value.int .i64)), box b1 59 [tv, .slice ad nh cp]]
  simp only at hk
  refine en_seq <| en_seq <| en_region <| en_det (opT_move rfl) rfl <| en_det (opT_fieldAddr rfl) rfl <| en_det (opT_load_own rfl rfl) rfl <| en_det (opT_len rfl) rfl <| ?_
  first | refine en_det (opT_lss_t rfl rfl (by omega)) rfl ?_ | refine en_det (opT_lss_f rfl rfl (by omega)) rfl ?_ | refine en_det (opT_lss rfl rfl) rfl ?_
  refine en_nil <| en_then <| ?_
  refine en_if rfl (fun hlt => ?_) (fun hlt => ?_)
  · skip
    refine en_skip <| en_then <| en_seq <| en_block <| en_region <| en_det (opT_move rfl) rfl <| en_det (opT_move rfl) rfl <| ?_
    refine en_op (opT_buildSlice (cs := [.int .i64 k]) rfl rfl (by kernel_rfl)) rfl fun _ _ _ _ ⟨b14, e1, e2, e3⟩ => ?_
    subst e1 e3; replace e2 := e2.symm; subst e2
    refine en_app1 rfl rfl rfl rfl rfl rfl rfl (by omega) fun ad15 cp15 hm15 hc15 => ?_
    refine en_det (opT_assign rfl) rfl <| en_nil <| en_blk <| en_then <| en_region <| en_det (opT_move rfl) rfl <| en_det (opT_add rfl rfl (by constructor <;> omega)) rfl <| en_det (opT_assign rfl) rfl <| en_nil <| en_then <| ?_
    exact en_again (k + 1, .slice ad15 (k + 1) cp15) (by simp only; omega) (by simp only; omega) ⟨rfl, rfl, gi rfl (by simp), trivial⟩ (.refl _) (by
      simp only [upto_succ, List.map_append, List.map_cons, List.map_nil]; exact inferInstance)
  · skip
    obtain rfl : k = nh := by omega
    refine en_exit <| en_then_exit <| en_then_exit <| en_blk_hit <| en_then <| en_seq <| en_region <| en_det (opT_move rfl) rfl <| en_det (opT_assign rfl) rfl <| en_nil <| en_then <| en_ret <| ?_
    refine en_freeze_own fun h1 hs1 hsl _ => ?_
    refine en_return (rs := [.tmp 2]) rfl (.cons (.tmp rfl) .nil) hs1 (Γ1 := []) ⟨by simpa [IsInts, upto_length, resVal] using hsl, rfl⟩
end Go.Sx

/- The reference: which belts are right. -/
namespace Go.Sx
open Go.Proofs
set_option maxRecDepth 100000
theorem allI_no {n i : Nat} {p : Nat → Bool} (hi : i < n) (h : p i = false) : allI n p = false := by
  simp only [allI, List.all_eq_false, List.mem_range]; exact ⟨i, hi, by simp [h]⟩
theorem allI_yes {n : Nat} {p : Nat → Bool} (h : ∀ i, i < n → p i = true) : allI n p = true := allI_iff.2 h
attribute [local irreducible] Code.wpIn wpListIn Exit.then Exit.inBlock BQ Again Hd St En OpT box blk RQ BQ0 fmap own Desk Chute
theorem piecesR_ct (h : Heap) (t : Nat → Int) : CT Try.prog 45 [.agg (trayL t).toArray] h [] (DetW (.bool (piecesD t)) []) := by
  refine ct_intro Try.func45 rfl rfl rfl rfl fun Φ => ?_
  refine en_seq <| en_region <| en_box rfl rfl rfl fun b1 => en_det (opT_assign rfl) rfl <| en_nil <| en_then <| en_seq <| en_seq <| en_region <| en_det (opT_assign rfl) rfl <| en_nil <| en_then <| en_block <| ?_
  refine en_loop (fun k : Nat => k ≤ 5 ∧ ∀ m, m < k → inD (t m) 0 60 = true) (fun k => [(1, pt b1), (3, .int .i64 k)]) (fun _ => h) (fun _ => [box b1 70 (trayL t)]) (fun k => 5 - k) 0 ⟨by omega, fun m hm => by omega⟩ ⟨rfl, rfl, trivial⟩ (.refl _) (tkAll _) fun k ⟨hk, hb⟩ => ?_
  refine en_seq <| en_seq <| en_region <| en_det (opT_move rfl) rfl <| ?_
  first | refine en_det (opT_lss_t rfl rfl (by omega)) rfl ?_ | refine en_det (opT_lss_f rfl rfl (by omega)) rfl ?_ | refine en_det (opT_lss rfl rfl) rfl ?_
  refine en_nil <| en_then <| ?_
  refine en_if rfl (fun hlt => ?_) (fun hlt => ?_)
  · skip
    have hk5 : k < 5 := by omega
    have hg : (trayL t)[k]? = some (.int .i64 (t k)) := row_get hk5
    have cO := off_ct (t k) 0 60 h
    skip
    cases hx : inD (t k) 0 60 with
    | true =>
      rw [hx] at cO
      refine en_skip <| en_then <| en_seq <| en_block <| en_seq <| en_region <| en_det (opT_move rfl) rfl <| en_det (opT_idxArr rfl rfl (by omega) (by omega)) rfl <| en_det (opT_load_own rfl hg) rfl <| en_calld (cO) rfl rfl rfl rfl <| en_nil <| en_then <| en_cond_f rfl <| en_skip <| en_blk <| en_then <| en_region <| en_det (opT_move rfl) rfl <| en_det (opT_add rfl rfl (by constructor <;> omega)) rfl <| en_det (opT_assign rfl) rfl <| en_nil <| en_then <| ?_
      refine en_again (k + 1) ⟨by omega, fun m h1 => ?_⟩ (by omega) ⟨rfl, gi rfl (by simp), trivial⟩ (.refl _) inferInstance
      rcases Nat.lt_succ_iff_lt_or_eq.1 h1 with h2 | rfl
      · exact hb m h2
      · exact hx
    | false =>
      rw [hx] at cO
      have e : piecesD t = false := allI_no hk5 hx
      refine en_skip <| en_then <| en_seq <| en_block <| en_seq <| en_region <| en_det (opT_move rfl) rfl <| en_det (opT_idxArr rfl rfl (by omega) (by omega)) rfl <| en_det (opT_load_own rfl hg) rfl <| en_calld (cO) rfl rfl rfl rfl <| en_nil <| en_then <| en_cond_t rfl <| en_seq <| en_region <| en_det (opT_assign rfl) rfl <| en_nil <| en_then <| en_ret <| en_blk_ret <| en_then_ret <| en_then_ret <| en_blk_ret <| en_then_ret <| ?_
      refine en_return (rs := [.tmp 2]) rfl (.cons (.tmp rfl) .nil) (.refl _) (Γ1 := []) ⟨by rw [e]; rfl, rfl⟩
  · skip
    obtain rfl : k = 5 := by omega
    have e : piecesD t = true := allI_yes hb
    refine en_exit <| en_then_exit <| en_then_exit <| en_blk_hit <| en_then <| en_seq <| en_region <| en_det (opT_assign rfl) rfl <| en_nil <| en_then <| en_ret <| ?_
    refine en_return (rs := [.tmp 2]) rfl (.cons (.tmp rfl) .nil) (.refl _) (Γ1 := []) ⟨by rw [e]; rfl, rfl⟩
theorem checkR_ct (h : Heap) (v : Value) (b : BeltD) (hb : IsBelt h v b) : CT Try.prog 26 [v] h [] (DetW (.int .i64 (checkD b)) []) := by
  obtain ⟨tv, hv, rfl, ⟨_, tad, tcp, rfl, tm1, tc1, tp1⟩, rv, ⟨_, had, hcp, rfl, hm1, hc1, hp1⟩, hr⟩ := hb
  refine ct_intro Try.func26 rfl rfl rfl rfl fun Φ => ?_
  skip
  by_cases hn1 : b.nt < 1
  · have hz : checkD b = 3 := by unfold checkD; rw [if_pos]; simp [inD]; omega
    refine en_seq <| en_region <| en_box rfl rfl rfl fun b1 => en_det (opT_assign rfl) rfl <| en_nil <| en_then <| en_seq <| en_seq <| en_region <| en_det (opT_fieldAddr rfl) rfl <| en_det (opT_load_own rfl rfl) rfl <| en_det (opT_len rfl) rfl <| en_det (opT_lss_t rfl rfl (by omega)) rfl <| en_det (opT_move rfl) rfl <| en_g_no rfl rfl rfl <| en_g_no rfl rfl rfl <| en_g_no rfl rfl rfl <| en_g_no rfl rfl rfl <| ?_
    first | refine en_det (opT_pick_t rfl rfl) rfl ?_ | refine en_det (opT_pick_f rfl rfl) rfl ?_
    refine en_det (opT_move rfl) rfl <| en_g_no rfl rfl rfl <| en_g_no rfl rfl rfl <| en_g_no rfl rfl rfl <| en_g_no rfl rfl rfl <| ?_
    first | refine en_det (opT_pick_t rfl rfl) rfl ?_ | refine en_det (opT_pick_f rfl rfl) rfl ?_
    refine en_nil <| en_then <| en_cond_t rfl <| en_seq <| en_region <| en_det (opT_assign rfl) rfl <| en_nil <| en_then <| en_ret <| en_then_ret <| ?_
    refine en_return (rs := [.tmp 2]) rfl (.cons (.tmp rfl) .nil) (.refl _) (Γ1 := []) ⟨by rw [hz]; rfl, rfl⟩
  by_cases hn8 : 8 < b.nt
  · have hz : checkD b = 3 := by unfold checkD; rw [if_pos]; simp [inD]; omega
    refine en_seq <| en_region <| en_box rfl rfl rfl fun b1 => en_det (opT_assign rfl) rfl <| en_nil <| en_then <| en_seq <| en_seq <| en_region <| en_det (opT_fieldAddr rfl) rfl <| en_det (opT_load_own rfl rfl) rfl <| en_det (opT_len rfl) rfl <| en_det (opT_lss_f rfl rfl (by omega)) rfl <| en_det (opT_move rfl) rfl <| en_g_yes rfl rfl <| en_det (opT_fieldAddr rfl) rfl <| en_g_yes rfl rfl <| en_det (opT_load_own rfl rfl) rfl <| en_g_yes rfl rfl <| en_det (opT_len rfl) rfl <| en_g_yes rfl rfl <| en_det (opT_gtr_t rfl rfl (by omega)) rfl <| ?_
    first | refine en_det (opT_pick_t rfl rfl) rfl ?_ | refine en_det (opT_pick_f rfl rfl) rfl ?_
    refine en_det (opT_move rfl) rfl <| en_g_no rfl rfl rfl <| en_g_no rfl rfl rfl <| en_g_no rfl rfl rfl <| en_g_no rfl rfl rfl <| ?_
    first | refine en_det (opT_pick_t rfl rfl) rfl ?_ | refine en_det (opT_pick_f rfl rfl) rfl ?_
    refine en_nil <| en_then <| en_cond_t rfl <| en_seq <| en_region <| en_det (opT_assign rfl) rfl <| en_nil <| en_then <| en_ret <| en_then_ret <| ?_
    refine en_return (rs := [.tmp 2]) rfl (.cons (.tmp rfl) .nil) (.refl _) (Γ1 := []) ⟨by rw [hz]; rfl, rfl⟩
  by_cases hh5 : 5 < b.nh
  · have hz : checkD b = 3 := by unfold checkD; rw [if_pos]; simp [inD]; omega
    refine en_seq <| en_region <| en_box rfl rfl rfl fun b1 => en_det (opT_assign rfl) rfl <| en_nil <| en_then <| en_seq <| en_seq <| en_region <| en_det (opT_fieldAddr rfl) rfl <| en_det (opT_load_own rfl rfl) rfl <| en_det (opT_len rfl) rfl <| en_det (opT_lss_f rfl rfl (by omega)) rfl <| en_det (opT_move rfl) rfl <| en_g_yes rfl rfl <| en_det (opT_fieldAddr rfl) rfl <| en_g_yes rfl rfl <| en_det (opT_load_own rfl rfl) rfl <| en_g_yes rfl rfl <| en_det (opT_len rfl) rfl <| en_g_yes rfl rfl <| en_det (opT_gtr_f rfl rfl (by omega)) rfl <| ?_
    first | refine en_det (opT_pick_t rfl rfl) rfl ?_ | refine en_det (opT_pick_f rfl rfl) rfl ?_
    refine en_det (opT_move rfl) rfl <| en_g_yes rfl rfl <| en_det (opT_fieldAddr rfl) rfl <| en_g_yes rfl rfl <| en_det (opT_load_own rfl rfl) rfl <| en_g_yes rfl rfl <| en_det (opT_len rfl) rfl <| en_g_yes rfl rfl <| en_det (opT_gtr_t rfl rfl (by omega)) rfl <| ?_
    first | refine en_det (opT_pick_t rfl rfl) rfl ?_ | refine en_det (opT_pick_f rfl rfl) rfl ?_
    refine en_nil <| en_then <| en_cond_t rfl <| en_seq <| en_region <| en_det (opT_assign rfl) rfl <| en_nil <| en_then <| en_ret <| en_then_ret <| ?_
    refine en_return (rs := [.tmp 2]) rfl (.cons (.tmp rfl) .nil) (.refl _) (Γ1 := []) ⟨by rw [hz]; rfl, rfl⟩
  have z1 : (!(inD b.nt 1 8) || decide (b.nh > 5)) = false := by simp [inD]; omega
  refine en_seq <| en_region <| en_box rfl rfl rfl fun b1 => en_det (opT_assign rfl) rfl <| en_nil <| en_then <| en_seq <| en_seq <| en_region <| en_det (opT_fieldAddr rfl) rfl <| en_det (opT_load_own rfl rfl) rfl <| en_det (opT_len rfl) rfl <| en_det (opT_lss_f rfl rfl (by omega)) rfl <| en_det (opT_move rfl) rfl <| en_g_yes rfl rfl <| en_det (opT_fieldAddr rfl) rfl <| en_g_yes rfl rfl <| en_det (opT_load_own rfl rfl) rfl <| en_g_yes rfl rfl <| en_det (opT_len rfl) rfl <| en_g_yes rfl rfl <| en_det (opT_gtr_f rfl rfl (by omega)) rfl <| ?_
  first | refine en_det (opT_pick_t rfl rfl) rfl ?_ | refine en_det (opT_pick_f rfl rfl) rfl ?_
  refine en_det (opT_move rfl) rfl <| en_g_yes rfl rfl <| en_det (opT_fieldAddr rfl) rfl <| en_g_yes rfl rfl <| en_det (opT_load_own rfl rfl) rfl <| en_g_yes rfl rfl <| en_det (opT_len rfl) rfl <| en_g_yes rfl rfl <| en_det (opT_gtr_f rfl rfl (by omega)) rfl <| ?_
  first | refine en_det (opT_pick_t rfl rfl) rfl ?_ | refine en_det (opT_pick_f rfl rfl) rfl ?_
  refine en_nil <| en_then <| en_cond_f rfl <| en_skip <| en_then <| en_seq <| en_seq <| en_region <| en_det (opT_assign rfl) rfl <| en_nil <| en_then <| en_block <| ?_
  refine en_loop (fun k : Nat => k ≤ b.nt ∧ ∀ i, i < k → piecesD (b.tray i) = true) (fun k => [(1, pt b1), (3, .int .i64 k)]) (fun _ => h) (fun _ => [box b1 59 [.slice tad b.nt tcp, .slice had b.nh hcp]]) (fun k => b.nt - k) 0 ⟨by omega, fun m hm => by omega⟩ ⟨rfl, rfl, trivial⟩ (.refl _) (tkAll _) fun k ⟨hk, hb⟩ => ?_
  refine en_seq <| en_seq <| en_region <| en_det (opT_move rfl) rfl <| en_det (opT_fieldAddr rfl) rfl <| en_det (opT_load_own rfl rfl) rfl <| en_det (opT_len rfl) rfl <| ?_
  first | refine en_det (opT_lss_t rfl rfl (by omega)) rfl ?_ | refine en_det (opT_lss_f rfl rfl (by omega)) rfl ?_ | refine en_det (opT_lss rfl rfl) rfl ?_
  refine en_nil <| en_then <| ?_
  refine en_if rfl (fun hlt => ?_) (fun hlt => ?_)
  · skip
    have hkl : k < b.nt := by omega
    obtain ⟨tq, toff, rfl, tcells⟩ := tp1 (by omega)
    have hrow : CellsH h tq (toff + k * 5) (trayL (b.tray k)) := tcells.row hkl
    have cO := piecesR_ct h (b.tray k)
    skip
    cases hx : piecesD (b.tray k) with
    | true =>
      rw [hx] at cO
      refine en_skip <| en_then <| en_seq <| en_block <| en_seq <| en_region <| en_det (opT_fieldAddr rfl) rfl <| en_det (opT_load_own rfl rfl) rfl <| en_det (opT_move rfl) rfl <| ?_
      first | refine en_det (opT_idx1 rfl rfl (by omega) (by omega)) rfl ?_ | refine en_det (opT_idx (ks := 0) rfl rfl (by omega) (by omega)) rfl ?_
      refine en_det (opT_loadA_h rfl hrow (row_length _ _)) rfl <| en_calld (cO) rfl rfl rfl rfl <| ?_
      first | refine en_det (opT_not_t rfl) rfl ?_ | refine en_det (opT_not_f rfl) rfl ?_ | refine en_det (opT_not rfl) rfl ?_
      refine en_nil <| en_then <| en_cond_f rfl <| en_skip <| en_blk <| en_then <| en_region <| en_det (opT_move rfl) rfl <| en_det (opT_add rfl rfl (by constructor <;> omega)) rfl <| en_det (opT_assign rfl) rfl <| en_nil <| en_then <| ?_
      refine en_again (k + 1) ⟨by omega, fun m h1 => ?_⟩ (by omega) ⟨rfl, gi rfl (by simp), trivial⟩ (.refl _) inferInstance
      rcases Nat.lt_succ_iff_lt_or_eq.1 h1 with h2 | rfl
      · exact hb m h2
      · exact hx
    | false =>
      rw [hx] at cO
      have hz : checkD b = 4 := by unfold checkD; rw [if_neg (by simp [z1]), if_pos (by rw [allI_no hkl hx]; rfl)]
      refine en_skip <| en_then <| en_seq <| en_block <| en_seq <| en_region <| en_det (opT_fieldAddr rfl) rfl <| en_det (opT_load_own rfl rfl) rfl <| en_det (opT_move rfl) rfl <| ?_
      first | refine en_det (opT_idx1 rfl rfl (by omega) (by omega)) rfl ?_ | refine en_det (opT_idx (ks := 0) rfl rfl (by omega) (by omega)) rfl ?_
      refine en_det (opT_loadA_h rfl hrow (row_length _ _)) rfl <| en_calld (cO) rfl rfl rfl rfl <| ?_
      first | refine en_det (opT_not_t rfl) rfl ?_ | refine en_det (opT_not_f rfl) rfl ?_ | refine en_det (opT_not rfl) rfl ?_
      refine en_nil <| en_then <| en_cond_t rfl <| en_seq <| en_region <| en_det (opT_assign rfl) rfl <| en_nil <| en_then <| en_ret <| en_blk_ret <| en_then_ret <| en_then_ret <| en_blk_ret <| en_then_ret <| ?_
      refine en_return (rs := [.tmp 2]) rfl (.cons (.tmp rfl) .nil) (.refl _) (Γ1 := []) ⟨by rw [hz]; rfl, rfl⟩
  obtain rfl : k = b.nt := by omega
  have z2 : (allI b.nt fun i => piecesD (b.tray i)) = true := allI_yes hb
  clear hb hlt hk
  refine en_exit <| en_then_exit <| en_then_exit <| en_blk_hit <| en_then <| en_seq <| en_seq <| en_region <| en_det (opT_assign rfl) rfl <| en_nil <| en_then <| en_block <| ?_
  refine en_loop (fun k : Nat => k ≤ b.nh ∧ ∀ i, i < k → (inD (b.hand i).str 0 40 && inD (b.hand i).tire 0 10 && inD (b.hand i).slip 0 100) = true) (fun k => [(1, pt b1), (4, .int .i64 k)]) (fun _ => h) (fun _ => [box b1 59 [.slice tad b.nt tcp, .slice had b.nh hcp]]) (fun k => b.nh - k) 0 ⟨by omega, fun m hm => by omega⟩ ⟨rfl, rfl, trivial⟩ (.refl _) (tkAll _) fun k ⟨hk, hb⟩ => ?_
  refine en_seq <| en_seq <| en_region <| en_det (opT_move rfl) rfl <| en_det (opT_fieldAddr rfl) rfl <| en_det (opT_load_own rfl rfl) rfl <| en_det (opT_len rfl) rfl <| ?_
  first | refine en_det (opT_lss_t rfl rfl (by omega)) rfl ?_ | refine en_det (opT_lss_f rfl rfl (by omega)) rfl ?_ | refine en_det (opT_lss rfl rfl) rfl ?_
  refine en_nil <| en_then <| ?_
  refine en_if rfl (fun hlt => ?_) (fun hlt => ?_)
  · skip
    have hkl : k < b.nh := by omega
    obtain ⟨hq, hoff, rfl, hcells⟩ := hp1 (by omega)
    have hrow : CellsH h hq (hoff + k * 9) (handL (b.hand k) (rv k)) := hcells.row hkl
    have hone := List.all_eq_true.1 (one_handV (H := b.hand k) (hr k hkl).one)
    have cA := off_ct (b.hand k).str 0 40 h
    have cB := off_ct (b.hand k).tire 0 10 h
    have cC := off_ct (b.hand k).slip 0 100 h
    have hz0 : (inD (b.hand k).str 0 40 && inD (b.hand k).tire 0 10 && inD (b.hand k).slip 0 100) = false → checkD b = 4 := fun hx => by unfold checkD; rw [if_neg (by simp [z1]), if_neg (by simp [z2]), if_pos (by rw [allI_no hkl hx]; rfl)]
    have hby : inD (b.hand k).str 0 40 = true → inD (b.hand k).tire 0 10 = true → inD (b.hand k).slip 0 100 = true → ∀ i, i < k + 1 → (inD (b.hand i).str 0 40 && inD (b.hand i).tire 0 10 && inD (b.hand i).slip 0 100) = true := fun ha hb' hc i hi => by
      rcases Nat.lt_succ_iff_lt_or_eq.1 hi with h2 | rfl
      · exact hb i h2
      · rw [ha, hb', hc]; rfl
    generalize inD (b.hand k).str 0 40 = p1 at cA hz0 hby
    generalize inD (b.hand k).tire 0 10 = p2 at cB hz0 hby
    generalize inD (b.hand k).slip 0 100 = p3 at cC hz0 hby
    skip
    cases p1 with
    | false =>
      refine en_skip <| en_then <| en_seq <| en_block <| en_seq <| en_region <| en_det (opT_fieldAddr rfl) rfl <| en_det (opT_load_own rfl rfl) rfl <| en_det (opT_move rfl) rfl <| ?_
      first | refine en_det (opT_idx1 rfl rfl (by omega) (by omega)) rfl ?_ | refine en_det (opT_idx (ks := 0) rfl rfl (by omega) (by omega)) rfl ?_
      refine en_det (opT_loadA_h rfl hrow (row_length _ _)) rfl <| en_alloc rfl fun b5 => ?_
      refine en_det0 (opT_storeW rfl rfl (row_length _ _) rfl hone) <| en_nil <| en_then <| en_seq <| en_region <| en_det (opT_fieldAddr rfl) rfl <| en_det (opT_load_own rfl rfl) rfl <| en_calld (cA) rfl rfl rfl rfl <| en_det (opT_move rfl) rfl <| en_g_no rfl rfl rfl <| en_g_no rfl rfl rfl <| en_g_no rfl rfl rfl <| ?_
      first | refine en_det (opT_pick_t rfl rfl) rfl ?_ | refine en_det (opT_pick_f rfl rfl) rfl ?_
      refine en_det (opT_move rfl) rfl <| en_g_no rfl rfl rfl <| en_g_no rfl rfl rfl <| en_g_no rfl rfl rfl <| ?_
      first | refine en_det (opT_pick_t rfl rfl) rfl ?_ | refine en_det (opT_pick_f rfl rfl) rfl ?_
      refine en_nil <| en_then <| en_cond_t rfl <| en_seq <| en_region <| en_det (opT_assign rfl) rfl <| en_nil <| en_then <| en_ret <| en_blk_ret <| en_then_ret <| en_then_ret <| en_blk_ret <| en_then_ret <| ?_
      refine en_return (rs := [.tmp 2]) rfl (.cons (.tmp rfl) .nil) (.refl _) (Γ1 := []) ⟨by rw [hz0 rfl]; rfl, rfl⟩
    | true =>
      cases p2 with
      | false =>
        refine en_skip <| en_then <| en_seq <| en_block <| en_seq <| en_region <| en_det (opT_fieldAddr rfl) rfl <| en_det (opT_load_own rfl rfl) rfl <| en_det (opT_move rfl) rfl <| ?_
        first | refine en_det (opT_idx1 rfl rfl (by omega) (by omega)) rfl ?_ | refine en_det (opT_idx (ks := 0) rfl rfl (by omega) (by omega)) rfl ?_
        refine en_det (opT_loadA_h rfl hrow (row_length _ _)) rfl <| en_alloc rfl fun b5 => ?_
        refine en_det0 (opT_storeW rfl rfl (row_length _ _) rfl hone) <| en_nil <| en_then <| en_seq <| en_region <| en_det (opT_fieldAddr rfl) rfl <| en_det (opT_load_own rfl rfl) rfl <| en_calld (cA) rfl rfl rfl rfl <| en_det (opT_move rfl) rfl <| en_g_yes rfl rfl <| en_det (opT_fieldAddr rfl) rfl <| en_g_yes rfl rfl <| en_det (opT_load_own rfl rfl) rfl <| en_g_yes rfl rfl <| en_calld (cB) rfl rfl rfl rfl <| ?_
        first | refine en_det (opT_pick_t rfl rfl) rfl ?_ | refine en_det (opT_pick_f rfl rfl) rfl ?_
        refine en_det (opT_move rfl) rfl <| en_g_no rfl rfl rfl <| en_g_no rfl rfl rfl <| en_g_no rfl rfl rfl <| ?_
        first | refine en_det (opT_pick_t rfl rfl) rfl ?_ | refine en_det (opT_pick_f rfl rfl) rfl ?_
        refine en_nil <| en_then <| en_cond_t rfl <| en_seq <| en_region <| en_det (opT_assign rfl) rfl <| en_nil <| en_then <| en_ret <| en_blk_ret <| en_then_ret <| en_then_ret <| en_blk_ret <| en_then_ret <| ?_
        refine en_return (rs := [.tmp 2]) rfl (.cons (.tmp rfl) .nil) (.refl _) (Γ1 := []) ⟨by rw [hz0 rfl]; rfl, rfl⟩
      | true =>
        cases p3 with
        | false =>
          refine en_skip <| en_then <| en_seq <| en_block <| en_seq <| en_region <| en_det (opT_fieldAddr rfl) rfl <| en_det (opT_load_own rfl rfl) rfl <| en_det (opT_move rfl) rfl <| ?_
          first | refine en_det (opT_idx1 rfl rfl (by omega) (by omega)) rfl ?_ | refine en_det (opT_idx (ks := 0) rfl rfl (by omega) (by omega)) rfl ?_
          refine en_det (opT_loadA_h rfl hrow (row_length _ _)) rfl <| en_alloc rfl fun b5 => ?_
          refine en_det0 (opT_storeW rfl rfl (row_length _ _) rfl hone) <| en_nil <| en_then <| en_seq <| en_region <| en_det (opT_fieldAddr rfl) rfl <| en_det (opT_load_own rfl rfl) rfl <| en_calld (cA) rfl rfl rfl rfl <| en_det (opT_move rfl) rfl <| en_g_yes rfl rfl <| en_det (opT_fieldAddr rfl) rfl <| en_g_yes rfl rfl <| en_det (opT_load_own rfl rfl) rfl <| en_g_yes rfl rfl <| en_calld (cB) rfl rfl rfl rfl <| ?_
          first | refine en_det (opT_pick_t rfl rfl) rfl ?_ | refine en_det (opT_pick_f rfl rfl) rfl ?_
          refine en_det (opT_move rfl) rfl <| en_g_yes rfl rfl <| en_det (opT_fieldAddr rfl) rfl <| en_g_yes rfl rfl <| en_det (opT_load_own rfl rfl) rfl <| en_g_yes rfl rfl <| en_calld (cC) rfl rfl rfl rfl <| ?_
          first | refine en_det (opT_pick_t rfl rfl) rfl ?_ | refine en_det (opT_pick_f rfl rfl) rfl ?_
          refine en_nil <| en_then <| en_cond_t rfl <| en_seq <| en_region <| en_det (opT_assign rfl) rfl <| en_nil <| en_then <| en_ret <| en_blk_ret <| en_then_ret <| en_then_ret <| en_blk_ret <| en_then_ret <| ?_
          refine en_return (rs := [.tmp 2]) rfl (.cons (.tmp rfl) .nil) (.refl _) (Γ1 := []) ⟨by rw [hz0 rfl]; rfl, rfl⟩
        | true =>
          refine en_skip <| en_then <| en_seq <| en_block <| en_seq <| en_region <| en_det (opT_fieldAddr rfl) rfl <| en_det (opT_load_own rfl rfl) rfl <| en_det (opT_move rfl) rfl <| ?_
          first | refine en_det (opT_idx1 rfl rfl (by omega) (by omega)) rfl ?_ | refine en_det (opT_idx (ks := 0) rfl rfl (by omega) (by omega)) rfl ?_
          refine en_det (opT_loadA_h rfl hrow (row_length _ _)) rfl <| en_alloc rfl fun b5 => ?_
          refine en_det0 (opT_storeW rfl rfl (row_length _ _) rfl hone) <| en_nil <| en_then <| en_seq <| en_region <| en_det (opT_fieldAddr rfl) rfl <| en_det (opT_load_own rfl rfl) rfl <| en_calld (cA) rfl rfl rfl rfl <| en_det (opT_move rfl) rfl <| en_g_yes rfl rfl <| en_det (opT_fieldAddr rfl) rfl <| en_g_yes rfl rfl <| en_det (opT_load_own rfl rfl) rfl <| en_g_yes rfl rfl <| en_calld (cB) rfl rfl rfl rfl <| ?_
          first | refine en_det (opT_pick_t rfl rfl) rfl ?_ | refine en_det (opT_pick_f rfl rfl) rfl ?_
          refine en_det (opT_move rfl) rfl <| en_g_yes rfl rfl <| en_det (opT_fieldAddr rfl) rfl <| en_g_yes rfl rfl <| en_det (opT_load_own rfl rfl) rfl <| en_g_yes rfl rfl <| en_calld (cC) rfl rfl rfl rfl <| ?_
          first | refine en_det (opT_pick_t rfl rfl) rfl ?_ | refine en_det (opT_pick_f rfl rfl) rfl ?_
          refine en_nil <| en_then <| en_cond_f rfl <| en_skip <| en_blk <| en_then <| en_region <| en_det (opT_move rfl) rfl <| en_det (opT_add rfl rfl (by constructor <;> omega)) rfl <| en_det (opT_assign rfl) rfl <| en_nil <| en_then <| ?_
          exact en_again (k + 1) ⟨by omega, hby rfl rfl rfl⟩ (by omega) ⟨rfl, gi rfl (by simp), trivial⟩ (.refl _) inferInstance
  obtain rfl : k = b.nh := by omega
  have z3 : (allI b.nh fun i => inD (b.hand i).str 0 40 && inD (b.hand i).tire 0 10 && inD (b.hand i).slip 0 100) = true := allI_yes hb
  clear hb hlt hk
  refine en_exit <| en_then_exit <| en_then_exit <| en_blk_hit <| en_then <| en_seq <| en_seq <| en_region <| en_det (opT_assign rfl) rfl <| en_nil <| en_then <| en_block <| ?_
  refine en_loop (fun k : Nat => k ≤ b.nh ∧ ∀ i, i < k → (allI (b.hand i).rests.length fun j => inD ((b.hand i).rests.getD j 0) 0 (b.nt - 1)) = true) (fun k => [(1, pt b1), (6, .int .i64 k)]) (fun _ => h) (fun _ => [box b1 59 [.slice tad b.nt tcp, .slice had b.nh hcp]]) (fun k => b.nh - k) 0 ⟨by omega, fun m hm => by omega⟩ ⟨rfl, rfl, trivial⟩ (.refl _) (tkAll _) fun k ⟨hk, hb⟩ => ?_
  refine en_seq <| en_seq <| en_region <| en_det (opT_move rfl) rfl <| en_det (opT_fieldAddr rfl) rfl <| en_det (opT_load_own rfl rfl) rfl <| en_det (opT_len rfl) rfl <| ?_
  first | refine en_det (opT_lss_t rfl rfl (by omega)) rfl ?_ | refine en_det (opT_lss_f rfl rfl (by omega)) rfl ?_ | refine en_det (opT_lss rfl rfl) rfl ?_
  refine en_nil <| en_then <| ?_
  refine en_if rfl (fun hlt => ?_) (fun hlt => ?_)
  · skip
    have hkl : k < b.nh := by omega
    obtain ⟨hq, hoff, rfl, hcells⟩ := hp1 (by omega)
    obtain ⟨rad, rcp, hre, rl, rc, rp⟩ := (hr k hkl).shape
    have hcr : cellH h hq (hoff + k * 9 + 8) = some (.slice rad (b.hand k).rests.length rcp) := by
      have := hcells.cell hkl (show 8 < 9 by omega)
      rw [this, ← hre]; rfl
    refine en_skip <| en_then <| en_seq <| en_block <| en_seq <| en_region <| en_det (opT_assign rfl) rfl <| en_nil <| en_then <| en_block <| ?_
    refine en_loop (fun j : Nat => j ≤ (b.hand k).rests.length ∧ ∀ i, i < j → inD ((b.hand k).rests.getD i 0) 0 (b.nt - 1) = true) (fun j => [(1, pt b1), (6, .int .i64 k), (7, .int .i64 j)]) (fun _ => h) (fun _ => [box b1 59 [.slice tad b.nt tcp, .slice (some ⟨hq, hoff, none⟩) b.nh hcp]]) (fun j => (b.hand k).rests.length - j) 0 ⟨by omega, fun m hm => by omega⟩ ⟨rfl, rfl, rfl, trivial⟩ (.refl _) (tkAll _) fun j ⟨hj, hjb⟩ => ?_
    refine en_seq <| en_seq <| en_region <| en_det (opT_move rfl) rfl <| en_det (opT_fieldAddr rfl) rfl <| en_det (opT_load_own rfl rfl) rfl <| en_det (opT_move rfl) rfl <| ?_
    first | refine en_det (opT_idx1 rfl rfl (by omega) (by omega)) rfl ?_ | refine en_det (opT_idx (ks := 0) rfl rfl (by omega) (by omega)) rfl ?_
    refine en_det (opT_fieldAddr rfl) rfl <| ?_
    first | refine en_det (opT_load_h rfl (by assumption)) rfl ?_ | refine en_det (opT_load_own rfl rfl) rfl ?_
    refine en_det (opT_len rfl) rfl <| ?_
    first | refine en_det (opT_lss_t rfl rfl (by omega)) rfl ?_ | refine en_det (opT_lss_f rfl rfl (by omega)) rfl ?_ | refine en_det (opT_lss rfl rfl) rfl ?_
    refine en_nil <| en_then <| ?_
    refine en_if rfl (fun hlt2 => ?_) (fun hlt2 => ?_)
    · skip
      have hjl : j < (b.hand k).rests.length := by omega
      obtain ⟨rq, roff, rfl, rcc⟩ := rp (by omega)
      have hcj := rcc j hjl
      rw [← getD_lt hjl] at hcj
      have cO := off_ct ((b.hand k).rests.getD j 0) 0 (b.nt - 1) h
      skip
      cases hx : inD ((b.hand k).rests.getD j 0) 0 (b.nt - 1) with
      | true =>
        rw [hx] at cO
        refine en_skip <| en_then <| en_seq <| en_block <| en_seq <| en_draw0 [0, 1, 2, 3, 4, 5, 6, 7, 8, 9, 10, 11, 12, 13] (by kernel_rfl) (by decide +kernel) (by decide +kernel) (by decide) <| dp_p rfl (fun _ _ => opT_fieldAddr rfl) rfl rfl rfl <| dp_q rfl (opT_load_own rfl rfl) rfl rfl rfl <| dp_p rfl (fun _ _ => opT_move rfl) rfl rfl rfl <| ?_
        first | refine dp_p rfl (fun _ _ => opT_idx1 rfl rfl (by omega) (by omega)) rfl rfl rfl ?_ | refine dp_p rfl (fun _ _ => opT_idx (ks := 0) rfl rfl (by omega) (by omega)) rfl rfl rfl ?_
        refine dp_p rfl (fun _ _ => opT_fieldAddr rfl) rfl rfl rfl <| ?_
        first | refine dp_q rfl (opT_load_h rfl (by assumption)) rfl rfl rfl ?_ | refine dp_q rfl (opT_load_own rfl rfl) rfl rfl rfl ?_
        refine dp_p rfl (fun _ _ => opT_move rfl) rfl rfl rfl <| ?_
        first | refine dp_p rfl (fun _ _ => opT_idx1 rfl rfl (by omega) (by omega)) rfl rfl rfl ?_ | refine dp_p rfl (fun _ _ => opT_idx (ks := 0) rfl rfl (by omega) (by omega)) rfl rfl rfl ?_
        first | refine dp_q rfl (opT_load_h rfl (by assumption)) rfl rfl rfl ?_ | refine dp_q rfl (opT_load_own rfl rfl) rfl rfl rfl ?_
        refine dp_p rfl (fun _ _ => opT_fieldAddr rfl) rfl rfl rfl <| dp_q rfl (opT_load_own rfl rfl) rfl rfl rfl <| dp_p rfl (fun _ _ => opT_len rfl) rfl rfl rfl <| dp_p rfl (fun _ _ => opT_sub rfl rfl (by constructor <;> omega)) rfl rfl rfl <| dp_ed0 rfl (opT_callw (cO) rfl rfl rfl) rfl rfl rfl rfl <| dp_done0 <| en_then <| en_cond_f rfl <| en_skip <| en_blk <| en_then <| en_region <| en_det (opT_move rfl) rfl <| en_det (opT_add rfl rfl (by constructor <;> omega)) rfl <| en_det (opT_assign rfl) rfl <| en_nil <| en_then <| ?_
        refine en_again (j + 1) ⟨by omega, fun m h1 => ?_⟩ (by omega) ⟨rfl, rfl, gi rfl (by simp), trivial⟩ (.refl _) inferInstance
        rcases Nat.lt_succ_iff_lt_or_eq.1 h1 with h2 | rfl
        · exact hjb m h2
        · exact hx
      | false =>
        rw [hx] at cO
        have hz : checkD b = 2 := by unfold checkD; rw [if_neg (by simp [z1]), if_neg (by simp [z2]), if_neg (by simp [z3]), if_pos (by rw [allI_no hkl (allI_no hjl hx)]; rfl)]
        refine en_skip <| en_then <| en_seq <| en_block <| en_seq <| en_draw0 [0, 1, 2, 3, 4, 5, 6, 7, 8, 9, 10, 11, 12, 13] (by kernel_rfl) (by decide +kernel) (by decide +kernel) (by decide) <| dp_p rfl (fun _ _ => opT_fieldAddr rfl) rfl rfl rfl <| dp_q rfl (opT_load_own rfl rfl) rfl rfl rfl <| dp_p rfl (fun _ _ => opT_move rfl) rfl rfl rfl <| ?_
        first | refine dp_p rfl (fun _ _ => opT_idx1 rfl rfl (by omega) (by omega)) rfl rfl rfl ?_ | refine dp_p rfl (fun _ _ => opT_idx (ks := 0) rfl rfl (by omega) (by omega)) rfl rfl rfl ?_
        refine dp_p rfl (fun _ _ => opT_fieldAddr rfl) rfl rfl rfl <| ?_
        first | refine dp_q rfl (opT_load_h rfl (by assumption)) rfl rfl rfl ?_ | refine dp_q rfl (opT_load_own rfl rfl) rfl rfl rfl ?_
        refine dp_p rfl (fun _ _ => opT_move rfl) rfl rfl rfl <| ?_
        first | refine dp_p rfl (fun _ _ => opT_idx1 rfl rfl (by omega) (by omega)) rfl rfl rfl ?_ | refine dp_p rfl (fun _ _ => opT_idx (ks := 0) rfl rfl (by omega) (by omega)) rfl rfl rfl ?_
        first | refine dp_q rfl (opT_load_h rfl (by assumption)) rfl rfl rfl ?_ | refine dp_q rfl (opT_load_own rfl rfl) rfl rfl rfl ?_
        refine dp_p rfl (fun _ _ => opT_fieldAddr rfl) rfl rfl rfl <| dp_q rfl (opT_load_own rfl rfl) rfl rfl rfl <| dp_p rfl (fun _ _ => opT_len rfl) rfl rfl rfl <| dp_p rfl (fun _ _ => opT_sub rfl rfl (by constructor <;> omega)) rfl rfl rfl <| dp_ed0 rfl (opT_callw (cO) rfl rfl rfl) rfl rfl rfl rfl <| dp_done0 <| en_then <| en_cond_t rfl <| en_seq <| en_region <| en_det (opT_assign rfl) rfl <| en_nil <| en_then <| en_ret <| en_blk_ret <| en_then_ret <| en_then_ret <| en_blk_ret <| en_blk_ret <| en_then_ret <| en_then_ret <| en_blk_ret <| en_then_ret <| ?_
        refine en_return (rs := [.tmp 2]) rfl (.cons (.tmp rfl) .nil) (.refl _) (Γ1 := []) ⟨by rw [hz]; rfl, rfl⟩
    · skip
      obtain rfl : j = (b.hand k).rests.length := by omega
      refine en_exit <| en_then_exit <| en_then_exit <| en_blk_hit <| en_blk <| en_then <| en_region <| en_det (opT_move rfl) rfl <| en_det (opT_add rfl rfl (by constructor <;> omega)) rfl <| en_det (opT_assign rfl) rfl <| en_nil <| en_then <| ?_
      refine en_again (k + 1) ⟨by omega, fun m h1 => ?_⟩ (by omega) ⟨rfl, gi rfl (by simp), trivial⟩ (.refl _) inferInstance
      rcases Nat.lt_succ_iff_lt_or_eq.1 h1 with h2 | rfl
      · exact hb m h2
      · exact allI_yes hjb
  obtain rfl : k = b.nh := by omega
  have z4 : (allI b.nh fun i => allI (b.hand i).rests.length fun j => inD ((b.hand i).rests.getD j 0) 0 (b.nt - 1)) = true := allI_yes hb
  clear hb hlt hk
  refine en_exit <| en_then_exit <| en_then_exit <| en_blk_hit <| en_then <| en_seq <| en_seq <| en_region <| en_det (opT_assign rfl) rfl <| en_nil <| en_then <| en_block <| ?_
  refine en_loop (fun k : Nat => k ≤ b.nh ∧ ∀ i, i < k → risesD (b.hand i).rests = true) (fun k => [(1, pt b1), (8, .int .i64 k)]) (fun _ => h) (fun _ => [box b1 59 [.slice tad b.nt tcp, .slice had b.nh hcp]]) (fun k => b.nh - k) 0 ⟨by omega, fun m hm => by omega⟩ ⟨rfl, rfl, trivial⟩ (.refl _) (tkAll _) fun k ⟨hk, hb⟩ => ?_
  refine en_seq <| en_seq <| en_region <| en_det (opT_move rfl) rfl <| en_det (opT_fieldAddr rfl) rfl <| en_det (opT_load_own rfl rfl) rfl <| en_det (opT_len rfl) rfl <| ?_
  first | refine en_det (opT_lss_t rfl rfl (by omega)) rfl ?_ | refine en_det (opT_lss_f rfl rfl (by omega)) rfl ?_ | refine en_det (opT_lss rfl rfl) rfl ?_
  refine en_nil <| en_then <| ?_
  refine en_if rfl (fun hlt => ?_) (fun hlt => ?_)
  · skip
    have hkl : k < b.nh := by omega
    obtain ⟨hq, hoff, rfl, hcells⟩ := hp1 (by omega)
    obtain ⟨rad, rcp, hre, rl, rc, rp⟩ := (hr k hkl).shape
    have hcr : cellH h hq (hoff + k * 9 + 8) = some (.slice rad (b.hand k).rests.length rcp) := by
      have := hcells.cell hkl (show 8 < 9 by omega)
      rw [this, ← hre]; rfl
    refine en_skip <| en_then <| en_seq <| en_block <| en_seq <| en_region <| en_det (opT_assign rfl) rfl <| en_nil <| en_then <| en_block <| ?_
    refine en_loop (fun j : Nat => 1 ≤ j ∧ (j ≤ (b.hand k).rests.length ∨ j = 1) ∧ ∀ i, i + 1 < j → (b.hand k).rests.getD i 0 < (b.hand k).rests.getD (i + 1) 0) (fun j => [(1, pt b1), (8, .int .i64 k), (9, .int .i64 j)]) (fun _ => h) (fun _ => [box b1 59 [.slice tad b.nt tcp, .slice (some ⟨hq, hoff, none⟩) b.nh hcp]]) (fun j => (b.hand k).rests.length - j) 1 ⟨by omega, by omega, fun i hi => by omega⟩ ⟨rfl, rfl, rfl, trivial⟩ (.refl _) (tkAll _) fun j ⟨hj1, hj, hjb⟩ => ?_
    refine en_seq <| en_seq <| en_region <| en_det (opT_move rfl) rfl <| en_det (opT_fieldAddr rfl) rfl <| en_det (opT_load_own rfl rfl) rfl <| en_det (opT_move rfl) rfl <| ?_
    first | refine en_det (opT_idx1 rfl rfl (by omega) (by omega)) rfl ?_ | refine en_det (opT_idx (ks := 0) rfl rfl (by omega) (by omega)) rfl ?_
    refine en_det (opT_fieldAddr rfl) rfl <| ?_
    first | refine en_det (opT_load_h rfl (by assumption)) rfl ?_ | refine en_det (opT_load_own rfl rfl) rfl ?_
    refine en_det (opT_len rfl) rfl <| ?_
    first | refine en_det (opT_lss_t rfl rfl (by omega)) rfl ?_ | refine en_det (opT_lss_f rfl rfl (by omega)) rfl ?_ | refine en_det (opT_lss rfl rfl) rfl ?_
    refine en_nil <| en_then <| ?_
    refine en_if rfl (fun hlt2 => ?_) (fun hlt2 => ?_)
    · skip
      have hjl : j < (b.hand k).rests.length := by omega
      obtain ⟨rq, roff, rfl, rcc⟩ := rp (by omega)
      have hcj := rcc j hjl
      have hcj' := rcc (j - 1) (by omega)
      skip
      by_cases hx : (b.hand k).rests[j] ≤ (b.hand k).rests[j - 1]
      · have hnot : risesD (b.hand k).rests = false := risesD_not (i := j - 1) (by omega) (by
          rw [getD_lt (by omega : j - 1 < (b.hand k).rests.length)]
          have e : j - 1 + 1 = j := by omega
          simp only [e]
          rw [getD_lt hjl]; omega)
        have hz : checkD b = 6 := by unfold checkD; rw [if_neg (by simp [z1]), if_neg (by simp [z2]), if_neg (by simp [z3]), if_neg (by rw [z4]; simp), if_pos (by rw [allI_no hkl hnot]; rfl)]
        refine en_skip <| en_then <| en_seq <| en_block <| en_seq <| en_draw0 [0, 1, 2, 3, 4, 5, 6, 7, 8, 9, 10, 11, 12, 13, 14, 15, 16, 17, 18, 19] (by kernel_rfl) (by decide +kernel) (by decide +kernel) (by decide) <| dp_p rfl (fun _ _ => opT_fieldAddr rfl) rfl rfl rfl <| dp_q rfl (opT_load_own rfl rfl) rfl rfl rfl <| dp_p rfl (fun _ _ => opT_move rfl) rfl rfl rfl <| ?_
        first | refine dp_p rfl (fun _ _ => opT_idx1 rfl rfl (by omega) (by omega)) rfl rfl rfl ?_ | refine dp_p rfl (fun _ _ => opT_idx (ks := 0) rfl rfl (by omega) (by omega)) rfl rfl rfl ?_
        refine dp_p rfl (fun _ _ => opT_fieldAddr rfl) rfl rfl rfl <| ?_
        first | refine dp_q rfl (opT_load_h rfl (by assumption)) rfl rfl rfl ?_ | refine dp_q rfl (opT_load_own rfl rfl) rfl rfl rfl ?_
        refine dp_p rfl (fun _ _ => opT_move rfl) rfl rfl rfl <| ?_
        first | refine dp_p rfl (fun _ _ => opT_idx1 rfl rfl (by omega) (by omega)) rfl rfl rfl ?_ | refine dp_p rfl (fun _ _ => opT_idx (ks := 0) rfl rfl (by omega) (by omega)) rfl rfl rfl ?_
        first | refine dp_q rfl (opT_load_h rfl (by assumption)) rfl rfl rfl ?_ | refine dp_q rfl (opT_load_own rfl rfl) rfl rfl rfl ?_
        refine dp_p rfl (fun _ _ => opT_fieldAddr rfl) rfl rfl rfl <| dp_q rfl (opT_load_own rfl rfl) rfl rfl rfl <| dp_p rfl (fun _ _ => opT_move rfl) rfl rfl rfl <| ?_
        first | refine dp_p rfl (fun _ _ => opT_idx1 rfl rfl (by omega) (by omega)) rfl rfl rfl ?_ | refine dp_p rfl (fun _ _ => opT_idx (ks := 0) rfl rfl (by omega) (by omega)) rfl rfl rfl ?_
        refine dp_p rfl (fun _ _ => opT_fieldAddr rfl) rfl rfl rfl <| ?_
        first | refine dp_q rfl (opT_load_h rfl (by assumption)) rfl rfl rfl ?_ | refine dp_q rfl (opT_load_own rfl rfl) rfl rfl rfl ?_
        refine dp_p rfl (fun _ _ => opT_move rfl) rfl rfl rfl <| ?_
        refine dp_p rfl (fun _ _ => opT_sub_to (c := ((j - 1 : Nat) : Int)) rfl rfl (by constructor <;> omega) (by omega)) rfl rfl rfl ?_
        first | refine dp_p rfl (fun _ _ => opT_idx1 rfl rfl (by omega) (by omega)) rfl rfl rfl ?_ | refine dp_p rfl (fun _ _ => opT_idx (ks := 0) rfl rfl (by omega) (by omega)) rfl rfl rfl ?_
        first | refine dp_q rfl (opT_load_h rfl (by assumption)) rfl rfl rfl ?_ | refine dp_q rfl (opT_load_own rfl rfl) rfl rfl rfl ?_
        refine dp_p rfl (fun _ _ => opT_leq_t rfl rfl (by omega)) rfl rfl rfl <| dp_done0 <| en_then <| en_cond_t rfl <| en_seq <| en_region <| en_det (opT_assign rfl) rfl <| en_nil <| en_then <| en_ret <| en_blk_ret <| en_then_ret <| en_then_ret <| en_blk_ret <| en_blk_ret <| en_then_ret <| en_then_ret <| en_blk_ret <| en_then_ret <| ?_
        refine en_return (rs := [.tmp 2]) rfl (.cons (.tmp rfl) .nil) (.refl _) (Γ1 := []) ⟨by rw [hz]; rfl, rfl⟩
      · skip
        refine en_skip <| en_then <| en_seq <| en_block <| en_seq <| en_draw0 [0, 1, 2, 3, 4, 5, 6, 7, 8, 9, 10, 11, 12, 13, 14, 15, 16, 17, 18, 19] (by kernel_rfl) (by decide +kernel) (by decide +kernel) (by decide) <| dp_p rfl (fun _ _ => opT_fieldAddr rfl) rfl rfl rfl <| dp_q rfl (opT_load_own rfl rfl) rfl rfl rfl <| dp_p rfl (fun _ _ => opT_move rfl) rfl rfl rfl <| ?_
        first | refine dp_p rfl (fun _ _ => opT_idx1 rfl rfl (by omega) (by omega)) rfl rfl rfl ?_ | refine dp_p rfl (fun _ _ => opT_idx (ks := 0) rfl rfl (by omega) (by omega)) rfl rfl rfl ?_
        refine dp_p rfl (fun _ _ => opT_fieldAddr rfl) rfl rfl rfl <| ?_
        first | refine dp_q rfl (opT_load_h rfl (by assumption)) rfl rfl rfl ?_ | refine dp_q rfl (opT_load_own rfl rfl) rfl rfl rfl ?_
        refine dp_p rfl (fun _ _ => opT_move rfl) rfl rfl rfl <| ?_
        first | refine dp_p rfl (fun _ _ => opT_idx1 rfl rfl (by omega) (by omega)) rfl rfl rfl ?_ | refine dp_p rfl (fun _ _ => opT_idx (ks := 0) rfl rfl (by omega) (by omega)) rfl rfl rfl ?_
        first | refine dp_q rfl (opT_load_h rfl (by assumption)) rfl rfl rfl ?_ | refine dp_q rfl (opT_load_own rfl rfl) rfl rfl rfl ?_
        refine dp_p rfl (fun _ _ => opT_fieldAddr rfl) rfl rfl rfl <| dp_q rfl (opT_load_own rfl rfl) rfl rfl rfl <| dp_p rfl (fun _ _ => opT_move rfl) rfl rfl rfl <| ?_
        first | refine dp_p rfl (fun _ _ => opT_idx1 rfl rfl (by omega) (by omega)) rfl rfl rfl ?_ | refine dp_p rfl (fun _ _ => opT_idx (ks := 0) rfl rfl (by omega) (by omega)) rfl rfl rfl ?_
        refine dp_p rfl (fun _ _ => opT_fieldAddr rfl) rfl rfl rfl <| ?_
        first | refine dp_q rfl (opT_load_h rfl (by assumption)) rfl rfl rfl ?_ | refine dp_q rfl (opT_load_own rfl rfl) rfl rfl rfl ?_
        refine dp_p rfl (fun _ _ => opT_move rfl) rfl rfl rfl <| ?_
        refine dp_p rfl (fun _ _ => opT_sub_to (c := ((j - 1 : Nat) : Int)) rfl rfl (by constructor <;> omega) (by omega)) rfl rfl rfl ?_
        first | refine dp_p rfl (fun _ _ => opT_idx1 rfl rfl (by omega) (by omega)) rfl rfl rfl ?_ | refine dp_p rfl (fun _ _ => opT_idx (ks := 0) rfl rfl (by omega) (by omega)) rfl rfl rfl ?_
        first | refine dp_q rfl (opT_load_h rfl (by assumption)) rfl rfl rfl ?_ | refine dp_q rfl (opT_load_own rfl rfl) rfl rfl rfl ?_
        refine dp_p rfl (fun _ _ => opT_leq_f rfl rfl (by omega)) rfl rfl rfl <| dp_done0 <| en_then <| en_cond_f rfl <| en_skip <| en_blk <| en_then <| en_region <| en_det (opT_move rfl) rfl <| en_det (opT_add rfl rfl (by constructor <;> omega)) rfl <| en_det (opT_assign rfl) rfl <| en_nil <| en_then <| ?_
        refine en_again (j + 1) ⟨by omega, by omega, fun i hi => ?_⟩ (by omega) ⟨rfl, rfl, gi rfl (by simp), trivial⟩ (.refl _) inferInstance
        rcases Nat.lt_succ_iff_lt_or_eq.1 hi with h1 | h1
        · exact hjb i h1
        · have e : j - 1 = i := by omega
          subst h1
          rw [getD_lt (by omega : i < (b.hand k).rests.length), getD_lt hjl]
          simp only [e] at hx
          omega
    · skip
      refine en_exit <| en_then_exit <| en_then_exit <| en_blk_hit <| en_blk <| en_then <| en_region <| en_det (opT_move rfl) rfl <| en_det (opT_add rfl rfl (by constructor <;> omega)) rfl <| en_det (opT_assign rfl) rfl <| en_nil <| en_then <| ?_
      refine en_again (k + 1) ⟨by omega, fun m h1 => ?_⟩ (by omega) ⟨rfl, gi rfl (by simp), trivial⟩ (.refl _) inferInstance
      rcases Nat.lt_succ_iff_lt_or_eq.1 h1 with h2 | rfl
      · exact hb m h2
      · exact risesD_of fun i hi => hjb i (by omega)
  obtain rfl : k = b.nh := by omega
  have z5 : (allI b.nh fun i => risesD (b.hand i).rests) = true := allI_yes hb
  have hz : checkD b = 0 := by unfold checkD; rw [if_neg (by simp [z1]), if_neg (by simp [z2]), if_neg (by simp [z3]), if_neg (by rw [z4]; simp), if_neg (by simp [z5])]
  refine en_exit <| en_then_exit <| en_then_exit <| en_blk_hit <| en_then <| en_seq <| en_region <| en_det (opT_assign rfl) rfl <| en_nil <| en_then <| en_ret <| ?_
  refine en_return (rs := [.tmp 2]) rfl (.cons (.tmp rfl) .nil) (.refl _) (Γ1 := []) ⟨by rw [hz]; rfl, rfl⟩
end Go.Sx

/- Piece by piece, and at once: plain. -/
namespace Go.Sx
def avD (takes : Nat → Bool) (L : Nat → Int) (m : Nat) : Int := if takes m = true then L m else 0
def takD (takes : Nat → Bool) (L : Nat → Int) (f : Int) (m : Nat) : Int := min (max 0 (f - sumN m (avD takes L))) (avD takes L m)
def leftF (L0 : Nat → Nat → Int) (t : Nat) (x : Nat → Int) (k : Nat) : Nat → Nat → Int := fun a b => if a = t ∧ b < k then L0 a b - x b else L0 a b
def heapF (P0 : Nat → Nat → Int) (h : Nat) (x : Nat → Int) (k : Nat) : Nat → Nat → Int := fun a b => if a = h ∧ b < k then P0 a b + x b else P0 a b
theorem takD_bound {takes : Nat → Bool} {L : Nat → Int} {f : Int} {m : Nat} (hL : 0 ≤ L m) : 0 ≤ takD takes L f m ∧ takD takes L f m ≤ avD takes L m ∧ avD takes L m ≤ L m ∧ 0 ≤ avD takes L m := by
  unfold takD avD; split <;> omega
theorem takD_no {takes : Nat → Bool} {L : Nat → Int} {f : Int} {m : Nat} (h : takes m = false) : takD takes L f m = 0 := by
  unfold takD avD; rw [h]; simp; omega
theorem steps_closed {takes : Nat → Bool} {h t : Nat} {f : Int} {L0 P0 : Nat → Nat → Int} (hf : 0 ≤ f) (hl : ∀ m, m < 5 → 0 ≤ L0 t m) : ∀ k, k ≤ 5 →
    stepsM takes h t ⟨f, L0, P0⟩ k = ⟨max 0 (f - sumN k (avD takes (L0 t))), leftF L0 t (takD takes (L0 t) f) k, heapF P0 h (takD takes (L0 t) f) k⟩
  | 0, _ => by
    have e1 : leftF L0 t (takD takes (L0 t) f) 0 = L0 := by funext a b; simp [leftF]
    have e2 : heapF P0 h (takD takes (L0 t) f) 0 = P0 := by funext a b; simp [heapF]
    rw [e1, e2]
    have e3 : max 0 (f - sumN 0 (avD takes (L0 t))) = f := by simp [sumN]; omega
    rw [e3]; rfl
  | k + 1, hk => by
    rw [stepsM_succ, steps_closed hf hl k (by omega)]
    have hlk := hl k (by omega)
    unfold stepM
    cases htk : takes k with
    | true =>
      simp only [if_true]
      have eL : leftF L0 t (takD takes (L0 t) f) k t k = L0 t k := by simp [leftF]
      have eA : avD takes (L0 t) k = L0 t k := by simp [avD, htk]
      have eT : takD takes (L0 t) f k = min (max 0 (f - sumN k (avD takes (L0 t)))) (L0 t k) := by unfold takD; rw [eA]
      rw [eL, ← eT]
      congr 1
      · rw [eT]; simp only [sumN]; rw [eA]; omega
      · funext a b
        unfold upd2 leftF
        by_cases h1 : a = t
        · subst h1
          by_cases h2 : b = k
          · subst h2; simp
          · have : b < k + 1 ↔ b < k := by omega
            simp [h2, this]
        · simp [h1]
      · funext a b
        unfold upd2 heapF
        by_cases h1 : a = h
        · subst h1
          by_cases h2 : b = k
          · subst h2; simp
          · have : b < k + 1 ↔ b < k := by omega
            simp [h2, this]
        · simp [h1]
    | false =>
      simp only [Bool.false_eq_true, if_false]
      have eA : avD takes (L0 t) k = 0 := by simp [avD, htk]
      have eT : takD takes (L0 t) f k = 0 := takD_no htk
      congr 1
      · simp only [sumN]; rw [eA]; simp
      · funext a b
        unfold leftF
        by_cases h2 : b = k
        · subst h2; simp [eT]
        · have : b < k + 1 ↔ b < k := by omega
          simp [this]
      · funext a b
        unfold heapF
        by_cases h2 : b = k
        · subst h2; simp [eT]
        · have : b < k + 1 ↔ b < k := by omega
          simp [this]
theorem handT_closed {H : Nat → HandD} {h t : Nat} {L0 P0 : Nat → Nat → Int} (hf : 0 ≤ forceD (H h) t) (hl : ∀ m, m < 5 → 0 ≤ L0 t m) :
    handT H t (L0, P0) h = (leftF L0 t (takD (H h).takes (L0 t) (forceD (H h) t)) 5, heapF P0 h (takD (H h).takes (L0 t) (forceD (H h) t)) 5) := by
  unfold handT
  rw [steps_closed hf hl 5 (by omega)]
theorem sumN_upto {f : Nat → Int} {m : Nat} : ∀ {n : Nat}, m ≤ n → (∀ i, i < n → 0 ≤ f i) → sumN m f ≤ sumN n f
  | 0, h, _ => by rw [show m = 0 by omega]; exact Int.le_refl _
  | n + 1, h, hn => by
    rcases Nat.lt_or_ge m (n + 1) with h1 | h1
    · have := sumN_upto (f := f) (show m ≤ n by omega) fun i hi => hn i (by omega)
      have := hn n (by omega)
      simp only [sumN]; omega
    · rw [show m = n + 1 by omega]; exact Int.le_refl _
section
variable {takes : Nat → Bool} {L : Nat → Int} {i : Nat} {m : Nat}
theorem taken_all (hL : ∀ j, j < 5 → 0 ≤ L j) (hno : ∀ j, j < m → ¬ (takes j = true ∧ 0 < L j - takD takes L i j)) : ∀ k, k ≤ m → k ≤ 5 → sumN k (avD takes L) ≤ i ∧ ∀ j, j < k → takD takes L i j = avD takes L j
  | 0, _, _ => ⟨by simp [sumN], fun j hj => by omega⟩
  | k + 1, h1, h2 => by
    obtain ⟨a, b⟩ := taken_all hL hno k (by omega) (by omega)
    have hb := takD_bound (takes := takes) (L := L) (f := i) (hL k (by omega))
    have hk := hno k (by omega)
    have e : takD takes L i k = avD takes L k := by
      cases ht : takes k with
      | false => rw [takD_no ht]; simp [avD, ht]
      | true =>
        have eA : avD takes L k = L k := by simp [avD, ht]
        have : ¬ 0 < L k - takD takes L i k := fun hh => hk ⟨ht, hh⟩
        omega
    refine ⟨?_, fun j hj => ?_⟩
    · simp only [sumN]
      unfold takD at e
      omega
    · rcases Nat.lt_succ_iff_lt_or_eq.1 hj with h3 | rfl
      · exact b j h3
      · exact e
theorem taken_next (hL : ∀ j, j < 5 → 0 ≤ L j) (hno : ∀ j, j < m → ¬ (takes j = true ∧ 0 < L j - takD takes L i j)) (hm : m < 5) (ht : takes m = true) (hp : 0 < L m - takD takes L i m) :
    ∀ j, j < 5 → takD takes L ((i + 1 : Nat) : Int) j = if j = m then takD takes L i j + 1 else takD takes L i j := fun j hj => by
  obtain ⟨hS, hA⟩ := taken_all hL hno m (Nat.le_refl _) (by omega)
  have hnn : ∀ k, k < 5 → 0 ≤ avD takes L k := fun k hk => (takD_bound (f := 0) (hL k hk)).2.2.2
  have eA : avD takes L m = L m := by simp [avD, ht]
  have hSm : sumN (m + 1) (avD takes L) = sumN m (avD takes L) + L m := by simp only [sumN]; rw [eA]
  rcases Nat.lt_trichotomy j m with h | h | h
  · have e1 := hA j h
    have h1 : sumN (j + 1) (avD takes L) ≤ sumN m (avD takes L) := sumN_upto (by omega) fun k hk => hnn k (by omega)
    simp only [sumN] at h1
    rw [if_neg (by omega), e1]
    have := hnn j hj
    unfold takD
    omega
  · subst h
    rw [if_pos rfl]
    unfold takD at hp ⊢
    rw [eA] at hp ⊢
    omega
  · have h1 : sumN (m + 1) (avD takes L) ≤ sumN j (avD takes L) := sumN_upto (by omega) fun k hk => hnn k (by omega)
    rw [if_neg (by omega)]
    have := hnn j hj
    unfold takD at hp ⊢
    rw [eA] at hp
    omega
theorem taken_none (hL : ∀ j, j < 5 → 0 ≤ L j) (hno : ∀ j, j < 5 → ¬ (takes j = true ∧ 0 < L j - takD takes L i j)) : ∀ j, j < 5 → takD takes L ((i + 1 : Nat) : Int) j = takD takes L i j := fun j hj => by
  obtain ⟨hS, hA⟩ := taken_all (m := 5) hL hno 5 (Nat.le_refl _) (Nat.le_refl _)
  have hnn : ∀ k, k < 5 → 0 ≤ avD takes L k := fun k hk => (takD_bound (f := 0) (hL k hk)).2.2.2
  have e1 := hA j hj
  have h1 : sumN (j + 1) (avD takes L) ≤ sumN 5 (avD takes L) := sumN_upto (by omega) fun k hk => hnn k (by omega)
  simp only [sumN] at h1
  have hS' : sumN 5 (avD takes L) ≤ i := hS
  simp only [sumN] at hS'
  rw [e1]
  have := hnn j hj
  unfold takD
  omega
end
end Go.Sx
