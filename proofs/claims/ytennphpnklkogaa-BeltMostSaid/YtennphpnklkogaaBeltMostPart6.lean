/- BeltMost: for every input the law answers true and its arguments read as before; no condition. Part 6 of 6: W41, W42, W43, MostEnd. -/
import Derived.Test.YtennphpnklkogaaBeltMostPart5
set_option linter.unusedSimpArgs false
set_option linter.unusedVariables false
/- A sharing, looked at. -/
namespace Go.Sx
open Go.Proofs
set_option maxRecDepth 100000
def shM (b : BeltD) (X : Nat → Nat → Int) (h m : Nat) : Bool := inD (X h m) 0 60 && (!decide (0 < X h m) || (b.hand h).takes m)
def shH (b : BeltD) (t : Nat) (X : Nat → Nat → Int) (h : Nat) : Bool := allI 5 (shM b X h) && decide (sum5 (X h) ≤ forceD (b.hand h) t)
def shOK (b : BeltD) (t : Nat) (X : Nat → Nat → Int) : Bool := allI b.nh (shH b t X) && allI 5 fun m => decide (tot b.nh X m ≤ b.tray t m)
def shE (b : BeltD) (tray : Int) (n : Nat) (X : Nat → Nat → Int) : Int := if atD b tray = 0 then (if n = b.nh then (if shOK b tray.toNat X = true then 0 else 8) else 3) else atD b tray
def shV (b : BeltD) (X : Nat → Nat → Int) : Int := sum5 (tot b.nh X)
def tstep (X : Nat → Nat → Int) (h k : Nat) : Nat → Int := fun m => if m < k then tot (h + 1) X m else tot h X m
theorem tot_succ (X : Nat → Nat → Int) (h m : Nat) : tot (h + 1) X m = tot h X m + X h m := rfl
theorem tstep_zero (X : Nat → Nat → Int) (h : Nat) : trayL (tot h X) = trayL (tstep X h 0) := row_congr fun m _ => by simp [tstep]
theorem tstep_five (X : Nat → Nat → Int) (h : Nat) : trayL (tstep X h 5) = trayL (tot (h + 1) X) := row_congr fun m hm => by simp [tstep, hm]
theorem tstep_next (X : Nat → Nat → Int) (h k : Nat) : (fun m => if m = k then tot h X k + X h k else tstep X h k m) = tstep X h (k + 1) := by
  funext m
  unfold tstep
  by_cases e : m = k
  · subst e; simp [tot_succ]
  · by_cases h1 : m < k
    · simp [e, h1, show m < k + 1 by omega]
    · simp [e, h1, show ¬ m < k + 1 by omega]
theorem shM_rng {b : BeltD} {X : Nat → Nat → Int} {h m : Nat} (e : shM b X h m = true) : 0 ≤ X h m ∧ X h m ≤ 60 := by
  unfold shM inD at e
  simp only [Bool.and_eq_true, decide_eq_true_eq] at e
  exact e.1
theorem allI_false {n : Nat} {p : Nat → Bool} {i : Nat} (hi : i < n) (h : p i = false) : allI n p = false := by
  cases e : allI n p with
  | false => rfl
  | true => rw [allI_iff] at e; have := e i hi; rw [h] at this; cases this
theorem shE_wrong {b : BeltD} {tray : Int} {n : Nat} {X : Nat → Nat → Int} (h1 : atD b tray = 0) (h2 : n = b.nh) (h3 : shOK b tray.toNat X = false) : shE b tray n X = 8 := by
  unfold shE; rw [if_pos h1, if_pos h2, h3]; rfl
theorem tot_bound {X : Nat → Nat → Int} {m : Nat} : ∀ {h : Nat}, (∀ i, i < h → 0 ≤ X i m ∧ X i m ≤ 60) → 0 ≤ tot h X m ∧ tot h X m ≤ 60 * h := fun {h} hx => sumN_bound hx
attribute [local irreducible] Code.wpIn wpListIn Exit.then Exit.inBlock BQ Again Hd St En OpT box blk RQ BQ0 fmap own Desk Chute
theorem shared_ct (h : Heap) (v sv : Value) (b : BeltD) (tray : Int) (n : Nat) (X : Nat → Nat → Int) (hb : IsBelt h v b) (hs : IsTrays h sv n X) (hn : n ≤ 1000) : CT Try.prog 64 [v, .int .i64 tray, sv] h []
    (fun v _ Γ' => v = .tuple #[.int .i64 (if shE b tray n X = 0 then shV b X else 0), .int .i64 (shE b tray n X)] ∧ Γ' = []) := by
  obtain ⟨tv, hv, rfl, hT, hH⟩ := id hb
  have hH0 := hH
  obtain ⟨rv, ⟨_, had, hcp, rfl, hm1, hc1, hp1⟩, hr⟩ := hH
  obtain ⟨_, tad, tcp, rfl, tm1, tc1, tp1⟩ := hT
  obtain ⟨sl, sad, scp, rfl, sm1, sc1, sp1⟩ := hs
  have cA := at_ct h _ _ b tray hb
  refine ct_intro Try.func64 rfl rfl rfl rfl fun Φ => ?_
  refine en_seq <| en_region <| en_box rfl rfl rfl fun b3 => en_det (opT_assign rfl) rfl <| en_det (opT_assign rfl) rfl <| en_nil <| en_then <| en_seq <| en_region <| ?_
  first | refine en_det (opT_loadW_own rfl rfl) rfl ?_ | refine en_det (opT_loadA_own rfl) rfl ?_
  refine en_det (opT_move rfl) rfl <| ?_
  refine en_call cA rfl rfl rfl rfl fun v h1 Γ' s1 hv => ?_
  skip
  rcases hv with ⟨hz, hi, d, rfl, rfl⟩ | ⟨hz, rfl, rfl⟩
  · refine en_norm ?_
    have hk := check_ok.1 hz
    have h5 := hk.h5
    have h8 := hk.n8
    have haz := atD_zero hz hi
    obtain ⟨t, rfl, htn⟩ := at_nat hi
    by_cases hnn : n = b.nh
    · subst hnn
      have hwr := fun e => shE_wrong (X := X) haz rfl e
      rw [Int.toNat_natCast] at hwr
      refine en_det (opT_move rfl) rfl <| en_det (opT_extract rfl rfl) rfl <| en_det (opT_extract rfl rfl) rfl <| en_det (opT_assign rfl) rfl <| en_det (opT_assign rfl) rfl <| en_nil <| en_then <| en_seq <| en_block <| en_seq <| en_region <| en_det (opT_move rfl) rfl <| en_det (opT_neq_f rfl rfl (by omega)) rfl <| en_det (opT_assign rfl) rfl <| en_nil <| en_then <| en_cond_f rfl <| en_seq <| en_region <| en_det (opT_move rfl) rfl <| en_det (opT_len rfl) rfl <| en_det (opT_fieldAddr rfl) rfl <| en_det (opT_load_own rfl rfl) rfl <| en_det (opT_len rfl) rfl <| en_det (opT_neq_f rfl rfl (by omega)) rfl <| en_det (opT_assign rfl) rfl <| en_nil <| en_then <| en_cond_f rfl <| en_skip <| en_blk <| en_then <| en_seq <| en_region <| en_alloc rfl fun b10 => ?_
      refine en_nil <| en_then <| en_seq <| en_seq <| en_region <| en_det (opT_move rfl) rfl <| en_det (opT_len rfl) rfl <| en_det (opT_move rfl) rfl <| en_nil <| en_then <| en_block <| ?_
      have e0 : trayL (fun _ : Nat => (0 : Int)) = trayL (tot 0 X) := rfl
      change En _ _ _ _ h1 [box b10 31 (trayL (tot 0 X)), Desk d (.slice tad b.nt tcp) (.slice had b.nh hcp) wholeV b.hand, box b3 26 [.slice tad b.nt tcp, .slice had b.nh hcp]]
      refine en_loop (fun x : Nat × Heap => x.1 ≤ b.nh ∧ h1.sub x.2 ∧ ∀ i, i < x.1 → shH b t X i = true) (fun x => [(1, .int .i64 t), (3, pt b3), (8, pt d), (10, pt b10), (34, .slice sad b.nh scp), (35, .int .i64 b.nh), (36, .int .i64 x.1)]) (fun x => x.2) (fun x => [box b10 31 (trayL (tot x.1 X)), Desk d (.slice tad b.nt tcp) (.slice had b.nh hcp) wholeV b.hand, box b3 26 [.slice tad b.nt tcp, .slice had b.nh hcp]]) (fun x => b.nh - x.1) (0, h1) ⟨by simp, .refl _, fun i hi => by simp at hi⟩ ⟨rfl, rfl, rfl, rfl, rfl, rfl, rfl, trivial⟩ (.refl _) (tkAll _) fun x hx => ?_
      obtain ⟨k, h2⟩ := x
      obtain ⟨hkn, s2, hok⟩ := hx
      simp only at hkn s2 hok
      change En _ _ _ [(1, .int .i64 t), (3, pt b3), (8, pt d), (10, pt b10), (34, .slice sad b.nh scp), (35, .int .i64 b.nh), (36, .int .i64 k)] h2 [box b10 31 (trayL (tot k X)), Desk d (.slice tad b.nt tcp) (.slice had b.nh hcp) wholeV b.hand, box b3 26 [.slice tad b.nt tcp, .slice had b.nh hcp]]
      have hXb : ∀ i, i < k → ∀ m, m < 5 → 0 ≤ X i m ∧ X i m ≤ 60 := fun i hi m hm => by
        have := hok i hi
        unfold shH at this
        rw [Bool.and_eq_true, allI_iff] at this
        exact shM_rng (this.1 m hm)
      refine en_seq <| en_region <| ?_
      first | refine en_det (opT_lss_t rfl rfl (by omega)) rfl ?_ | refine en_det (opT_lss_f rfl rfl (by omega)) rfl ?_ | refine en_det (opT_lss rfl rfl) rfl ?_
      refine en_nil <| en_then <| en_seq <| ?_
      refine en_if rfl (fun hlt1 => ?_) (fun hlt1 => ?_)
      · skip
        have hkl : k < b.nh := by omega
        obtain ⟨sb, soff, rfl, scells⟩ := sp1 (by omega)
        obtain ⟨hbb, hoff, rfl, hcells⟩ := hp1 (by omega)
        have hrow : CellsH h2 sb (soff + k * 5) (trayL (X k)) := (scells.row hkl).mono (s1.trans s2)
        refine en_skip <| en_then <| en_seq <| en_block <| en_seq <| en_region <| en_det (opT_move rfl) rfl <| ?_
        first | refine en_det (opT_idx1 rfl rfl (by omega) (by omega)) rfl ?_ | refine en_det (opT_idx (ks := 0) rfl rfl (by omega) (by omega)) rfl ?_
        refine en_det (opT_loadA_h rfl hrow (row_length _ _)) rfl <| en_alloc rfl fun b12 => ?_
        refine en_det (opT_assign rfl) rfl <| en_det0 (opT_storeW rfl rfl rfl rfl (one_trayL (X k))) <| en_nil <| en_then <| en_seq <| en_seq <| en_region <| en_det (opT_loadW_own rfl (row_length _ _)) rfl <| en_det (opT_move rfl) rfl <| en_nil <| en_then <| en_block <| ?_
        rw [tstep_zero]
        refine en_loop (fun x : Nat => x ≤ 5 ∧ ∀ i, i < x → shM b X k i = true) (fun x => [(1, .int .i64 t), (3, pt b3), (8, pt d), (10, pt b10), (34, .slice (some ⟨sb, soff, none⟩) b.nh scp), (35, .int .i64 b.nh), (36, .int .i64 k), (11, .int .i64 k), (12, pt b12), (41, .agg (trayL (X k)).toArray), (42, .int .i64 x)]) (fun _ => h2) (fun x => [box b12 31 (trayL (X k)), box b10 31 (trayL (tstep X k x)), Desk d (.slice tad b.nt tcp) (.slice (some ⟨hbb, hoff, none⟩) b.nh hcp) wholeV b.hand, box b3 26 [.slice tad b.nt tcp, .slice (some ⟨hbb, hoff, none⟩) b.nh hcp]]) (fun x => 5 - x) 0 ⟨by simp, fun i hi => by simp at hi⟩ ⟨rfl, rfl, rfl, rfl, rfl, rfl, rfl, rfl, rfl, rfl, rfl, trivial⟩ (.refl _) (tkAll _) fun m hx => ?_
        obtain ⟨hm, hmok⟩ := hx
        refine en_seq <| en_region <| ?_
        first | refine en_det (opT_lss_t rfl rfl (by omega)) rfl ?_ | refine en_det (opT_lss_f rfl rfl (by omega)) rfl ?_ | refine en_det (opT_lss rfl rfl) rfl ?_
        refine en_nil <| en_then <| en_seq <| ?_
        refine en_if rfl (fun hlt2 => ?_) (fun hlt2 => ?_)
        · skip
          have hm5 : m < 5 := by omega
          have hg : (trayL (X k))[m]? = some (.int .i64 (X k m)) := row_get hm5
          have cI := in_ct (X k m) 0 60 h2
          have hce := cellH_sub (s1.trans s2) (hcells.cell hkl (by omega : m < 9))
          have hcv : hcell (b.hand k) (rv k) m = .bool ((b.hand k).takes m) := by simp [hcell, hm5]
          rw [hcv] at hce
          have hbad : shM b X k m = false → shE b t b.nh X = 8 := fun e => hwr (by
            have h1 : allI b.nh (shH b t X) = false := allI_false hkl (by unfold shH; rw [allI_false hm5 e]; rfl)
            unfold shOK; rw [h1]; rfl)
          have hgood : shM b X k m = true → ∀ i, i < m + 1 → shM b X k i = true := fun e i hi => by
            by_cases h1 : i = m
            · subst h1; exact e
            · exact hmok i (by omega)
          have hsM : shM b X k m = (inD (X k m) 0 60 && (!decide (0 < X k m) || (b.hand k).takes m)) := rfl
          have htb := tot_bound (X := X) (m := m) (h := k) fun i hi => hXb i hi m hm5
          have hg2 : (trayL (tstep X k m))[m]? = some (.int .i64 (tot k X m)) := by rw [row_get hm5]; simp [tstep]
          have hnx := tstep_next X k m
          generalize X k m = q at hg cI hsM hnx
          generalize (b.hand k).takes m = tk at hce hsM
          skip
          cases hin : inD q 0 60 with
          | false =>
            rw [hin] at cI hsM
            have e8 := hbad (by rw [hsM]; rfl)
            rw [e8]
            refine en_skip <| en_then <| en_seq <| en_block <| en_seq <| en_region <| en_det (opT_move rfl) rfl <| en_det (opT_index rfl rfl (by omega) (by omega) hg) rfl <| en_det (opT_assign rfl) rfl <| en_det (opT_assign rfl) rfl <| en_nil <| en_then <| en_seq <| en_seq <| en_region <| en_det (opT_move rfl) rfl <| en_calld (cI) rfl rfl rfl rfl <| ?_
            first | refine en_det (opT_not_t rfl) rfl ?_ | refine en_det (opT_not_f rfl) rfl ?_ | refine en_det (opT_not rfl) rfl ?_
            refine en_det (opT_move rfl) rfl <| en_g_no rfl rfl rfl <| en_g_no rfl rfl rfl <| en_g_no rfl rfl rfl <| en_g_undef rfl rfl rfl <| en_g_undef rfl rfl rfl <| en_g_undef rfl rfl rfl <| en_g_undef rfl rfl rfl <| en_g_undef rfl rfl rfl <| en_g_undef rfl rfl rfl <| en_g_undef rfl rfl rfl <| en_g_undef rfl rfl rfl <| en_g_undef rfl rfl rfl <| en_g_no rfl rfl rfl <| ?_
            first | refine en_det (opT_pick_t rfl rfl) rfl ?_ | refine en_det (opT_pick_f rfl rfl) rfl ?_
            refine en_nil <| en_then <| en_cond_t rfl <| en_seq <| en_region <| en_det (opT_assign rfl) rfl <| en_det (opT_assign rfl) rfl <| en_nil <| en_then <| en_ret <| en_then_ret <| en_blk_ret <| en_then_ret <| en_then_ret <| en_blk_ret <| en_then_ret <| en_blk_ret <| en_then_ret <| en_then_ret <| en_blk_ret <| en_then_ret <| ?_
            refine en_return (rs := [.tmp 6, .tmp 7]) rfl (.cons (.tmp rfl) (.cons (.tmp rfl) .nil)) (s1.trans s2) (Γ1 := []) ⟨rfl, rfl⟩
          | true =>
            rw [hin] at cI hsM
            have hq : 0 ≤ q ∧ q ≤ 60 := by simpa [inD] using hin
            by_cases h0 : 0 < q
            · cases tk with
              | false =>
                have e8 := hbad (by rw [hsM]; simp [h0])
                rw [e8]
                refine en_skip <| en_then <| en_seq <| en_block <| en_seq <| en_region <| en_det (opT_move rfl) rfl <| en_det (opT_index rfl rfl (by omega) (by omega) hg) rfl <| en_det (opT_assign rfl) rfl <| en_det (opT_assign rfl) rfl <| en_nil <| en_then <| en_seq <| en_seq <| en_region <| en_det (opT_move rfl) rfl <| en_calld (cI) rfl rfl rfl rfl <| ?_
                first | refine en_det (opT_not_t rfl) rfl ?_ | refine en_det (opT_not_f rfl) rfl ?_ | refine en_det (opT_not rfl) rfl ?_
                refine en_det (opT_move rfl) rfl <| en_g_yes rfl rfl <| en_det (opT_move rfl) rfl <| en_g_yes rfl rfl <| en_det (opT_gtr_t rfl rfl (by omega)) rfl <| en_g_yes rfl rfl <| en_det (opT_move rfl) rfl <| en_g_yes rfl rfl <| en_det (opT_fieldAddr rfl) rfl <| en_g_yes rfl rfl <| en_det (opT_load_own rfl rfl) rfl <| en_g_yes rfl rfl <| en_det (opT_move rfl) rfl <| en_g_yes rfl rfl <| en_det (opT_move rfl) rfl <| en_g_yes rfl rfl <| ?_
                first | refine en_det (opT_idx1 rfl rfl (by omega) (by omega)) rfl ?_ | refine en_det (opT_idx (ks := 0) rfl rfl (by omega) (by omega)) rfl ?_
                refine en_g_yes rfl rfl <| en_det (opT_fieldAddr rfl) rfl <| en_g_yes rfl rfl <| en_det (opT_idxArr rfl rfl (by omega) (by omega)) rfl <| en_g_yes rfl rfl <| ?_
                first | refine en_det (opT_desk0 rfl) rfl ?_ | refine en_det (opT_desk1 rfl) rfl ?_ | refine en_det (opT_desk3 rfl) rfl ?_ | refine en_det (opT_load_h rfl (by assumption)) rfl ?_ | refine en_det (opT_load_own rfl rfl) rfl ?_
                refine en_g_yes rfl rfl <| ?_
                first | refine en_det (opT_not_t rfl) rfl ?_ | refine en_det (opT_not_f rfl) rfl ?_ | refine en_det (opT_not rfl) rfl ?_
                refine en_g_yes rfl rfl <| ?_
                first | refine en_det (opT_pick_t rfl rfl) rfl ?_ | refine en_det (opT_pick_f rfl rfl) rfl ?_
                first | refine en_det (opT_pick_t rfl rfl) rfl ?_ | refine en_det (opT_pick_f rfl rfl) rfl ?_
                refine en_nil <| en_then <| en_cond_t rfl <| en_seq <| en_region <| en_det (opT_assign rfl) rfl <| en_det (opT_assign rfl) rfl <| en_nil <| en_then <| en_ret <| en_then_ret <| en_blk_ret <| en_then_ret <| en_then_ret <| en_blk_ret <| en_then_ret <| en_blk_ret <| en_then_ret <| en_then_ret <| en_blk_ret <| en_then_ret <| ?_
                refine en_return (rs := [.tmp 6, .tmp 7]) rfl (.cons (.tmp rfl) (.cons (.tmp rfl) .nil)) (s1.trans s2) (Γ1 := []) ⟨rfl, rfl⟩
              | true =>
                have hgd := hgood (by rw [hsM]; simp)
                refine en_skip <| en_then <| en_seq <| en_block <| en_seq <| en_region <| en_det (opT_move rfl) rfl <| en_det (opT_index rfl rfl (by omega) (by omega) hg) rfl <| en_det (opT_assign rfl) rfl <| en_det (opT_assign rfl) rfl <| en_nil <| en_then <| en_seq <| en_seq <| en_region <| en_det (opT_move rfl) rfl <| en_calld (cI) rfl rfl rfl rfl <| ?_
                first | refine en_det (opT_not_t rfl) rfl ?_ | refine en_det (opT_not_f rfl) rfl ?_ | refine en_det (opT_not rfl) rfl ?_
                refine en_det (opT_move rfl) rfl <| en_g_yes rfl rfl <| en_det (opT_move rfl) rfl <| en_g_yes rfl rfl <| en_det (opT_gtr_t rfl rfl (by omega)) rfl <| en_g_yes rfl rfl <| en_det (opT_move rfl) rfl <| en_g_yes rfl rfl <| en_det (opT_fieldAddr rfl) rfl <| en_g_yes rfl rfl <| en_det (opT_load_own rfl rfl) rfl <| en_g_yes rfl rfl <| en_det (opT_move rfl) rfl <| en_g_yes rfl rfl <| en_det (opT_move rfl) rfl <| en_g_yes rfl rfl <| ?_
                first | refine en_det (opT_idx1 rfl rfl (by omega) (by omega)) rfl ?_ | refine en_det (opT_idx (ks := 0) rfl rfl (by omega) (by omega)) rfl ?_
                refine en_g_yes rfl rfl <| en_det (opT_fieldAddr rfl) rfl <| en_g_yes rfl rfl <| en_det (opT_idxArr rfl rfl (by omega) (by omega)) rfl <| en_g_yes rfl rfl <| ?_
                first | refine en_det (opT_desk0 rfl) rfl ?_ | refine en_det (opT_desk1 rfl) rfl ?_ | refine en_det (opT_desk3 rfl) rfl ?_ | refine en_det (opT_load_h rfl (by assumption)) rfl ?_ | refine en_det (opT_load_own rfl rfl) rfl ?_
                refine en_g_yes rfl rfl <| ?_
                first | refine en_det (opT_not_t rfl) rfl ?_ | refine en_det (opT_not_f rfl) rfl ?_ | refine en_det (opT_not rfl) rfl ?_
                refine en_g_yes rfl rfl <| ?_
                first | refine en_det (opT_pick_t rfl rfl) rfl ?_ | refine en_det (opT_pick_f rfl rfl) rfl ?_
                first | refine en_det (opT_pick_t rfl rfl) rfl ?_ | refine en_det (opT_pick_f rfl rfl) rfl ?_
                refine en_nil <| en_then <| en_cond_f rfl <| en_skip <| en_then <| en_region <| en_det (opT_move rfl) rfl <| en_det (opT_idxArr rfl rfl (by omega) (by omega)) rfl <| en_det (opT_load_own rfl hg2) rfl <| en_det (opT_move rfl) rfl <| en_det (opT_add rfl rfl (by constructor <;> omega)) rfl <| en_det (opT_idxArr rfl rfl (by omega) (by omega)) rfl <| en_det0 (opT_store1s rfl rfl rfl (by rw [row_length]; omega)) <| en_nil <| en_blk <| en_then <| en_region <| en_det (opT_add rfl rfl (by constructor <;> omega)) rfl <| en_det (opT_move rfl) rfl <| en_nil <| en_then <| ?_
                rw [left_set, hnx]
                exact en_again (m + 1) ⟨by omega, hgd⟩ (by omega) ⟨rfl, rfl, rfl, rfl, rfl, rfl, rfl, rfl, rfl, rfl, gi rfl (by simp), trivial⟩ (.refl _) inferInstance
            · have hgd := hgood (by rw [hsM]; simp [h0])
              refine en_skip <| en_then <| en_seq <| en_block <| en_seq <| en_region <| en_det (opT_move rfl) rfl <| en_det (opT_index rfl rfl (by omega) (by omega) hg) rfl <| en_det (opT_assign rfl) rfl <| en_det (opT_assign rfl) rfl <| en_nil <| en_then <| en_seq <| en_seq <| en_region <| en_det (opT_move rfl) rfl <| en_calld (cI) rfl rfl rfl rfl <| ?_
              first | refine en_det (opT_not_t rfl) rfl ?_ | refine en_det (opT_not_f rfl) rfl ?_ | refine en_det (opT_not rfl) rfl ?_
              refine en_det (opT_move rfl) rfl <| en_g_yes rfl rfl <| en_det (opT_move rfl) rfl <| en_g_yes rfl rfl <| en_det (opT_gtr_f rfl rfl (by omega)) rfl <| en_g_yes rfl rfl <| en_det (opT_move rfl) rfl <| en_g_no rfl rfl rfl <| en_g_no rfl rfl rfl <| en_g_no rfl rfl rfl <| en_g_no rfl rfl rfl <| en_g_no rfl rfl rfl <| en_g_no rfl rfl rfl <| en_g_no rfl rfl rfl <| en_g_no rfl rfl rfl <| en_g_no rfl rfl rfl <| en_g_yes rfl rfl <| ?_
              first | refine en_det (opT_pick_t rfl rfl) rfl ?_ | refine en_det (opT_pick_f rfl rfl) rfl ?_
              first | refine en_det (opT_pick_t rfl rfl) rfl ?_ | refine en_det (opT_pick_f rfl rfl) rfl ?_
              refine en_nil <| en_then <| en_cond_f rfl <| en_skip <| en_then <| en_region <| en_det (opT_move rfl) rfl <| en_det (opT_idxArr rfl rfl (by omega) (by omega)) rfl <| en_det (opT_load_own rfl hg2) rfl <| en_det (opT_move rfl) rfl <| en_det (opT_add rfl rfl (by constructor <;> omega)) rfl <| en_det (opT_idxArr rfl rfl (by omega) (by omega)) rfl <| en_det0 (opT_store1s rfl rfl rfl (by rw [row_length]; omega)) <| en_nil <| en_blk <| en_then <| en_region <| en_det (opT_add rfl rfl (by constructor <;> omega)) rfl <| en_det (opT_move rfl) rfl <| en_nil <| en_then <| ?_
              rw [left_set, hnx]
              exact en_again (m + 1) ⟨by omega, hgd⟩ (by omega) ⟨rfl, rfl, rfl, rfl, rfl, rfl, rfl, rfl, rfl, rfl, gi rfl (by simp), trivial⟩ (.refl _) inferInstance
        · skip
          obtain rfl : m = 5 := by omega
          rw [tstep_five]
          have hXk : ∀ m, m < 5 → 0 ≤ X k m ∧ X k m ≤ 60 := fun m hm => shM_rng (hmok m hm)
          have cS : CT Try.prog 76 [.slice (some ⟨b12, 0, none⟩) 5 5] h2 [box b12 31 (trayL (X k))] (DetW (.int .i64 (sum5 (X k))) [box b12 31 (trayL (X k))]) :=
            add_own_ct h2 b12 0 5 5 31 _ (X k) (by omega) (fun j hj => by have := hXk j hj; omega) (fun j hj => by rw [Nat.zero_add]; exact row_get hj)
          have cF := force_ct h2 d (.slice tad b.nt tcp) (.slice (some ⟨hbb, hoff, none⟩) b.nh hcp) wholeV b.hand b.nh k t (hH0.mono (s1.trans s2)) hkl (by omega) (hk.ok k hkl) (by omega)
          have hsH : shH b t X k = decide (sum5 (X k) ≤ forceD (b.hand k) t) := by
            unfold shH; rw [allI_iff.2 hmok]; rfl
          generalize sum5 (X k) = S at cS hsH
          generalize forceD (b.hand k) t = f at cF hsH
          skip
          by_cases hsf : f < S
          · have e8 : shE b t b.nh X = 8 := hwr (by
              have h1 : allI b.nh (shH b t X) = false := allI_false hkl (by rw [hsH, decide_eq_false (by omega)])
              unfold shOK; rw [h1]; rfl)
            rw [e8]
            refine en_exit <| en_then_exit <| en_then_exit <| en_blk_hit <| en_then <| en_seq <| en_region <| en_det (opT_sliceArr (by omega) rfl) rfl <| en_calld (cS) rfl rfl rfl rfl <| en_det (opT_move rfl) rfl <| en_det (opT_move rfl) rfl <| en_det (opT_move rfl) rfl <| en_calld (cF) rfl rfl rfl rfl <| en_det (opT_gtr_t rfl rfl (by omega)) rfl <| en_nil <| en_then <| en_cond_t rfl <| en_seq <| en_region <| en_det (opT_assign rfl) rfl <| en_det (opT_assign rfl) rfl <| en_nil <| en_then <| en_ret <| en_blk_ret <| en_then_ret <| en_then_ret <| en_blk_ret <| en_then_ret <| ?_
            refine en_return (rs := [.tmp 6, .tmp 7]) rfl (.cons (.tmp rfl) (.cons (.tmp rfl) .nil)) (s1.trans s2) (Γ1 := []) ⟨rfl, rfl⟩
          · skip
            refine en_exit <| en_then_exit <| en_then_exit <| en_blk_hit <| en_then <| en_seq <| en_region <| en_det (opT_sliceArr (by omega) rfl) rfl <| en_calld (cS) rfl rfl rfl rfl <| en_det (opT_move rfl) rfl <| en_det (opT_move rfl) rfl <| en_det (opT_move rfl) rfl <| en_calld (cF) rfl rfl rfl rfl <| en_det (opT_gtr_f rfl rfl (by omega)) rfl <| en_nil <| en_then <| en_cond_f rfl <| en_skip <| en_blk <| en_then <| en_region <| en_det (opT_add rfl rfl (by constructor <;> omega)) rfl <| en_det (opT_move rfl) rfl <| en_nil <| en_then <| ?_
            refine en_again (k + 1, h2) ⟨by simp only; omega, s2, fun i hi => ?_⟩ (by simp only; omega) ⟨rfl, rfl, rfl, rfl, rfl, rfl, gi rfl (by simp), trivial⟩ (.refl _) inferInstance
            by_cases e : i = k
            · subst e; rw [hsH, decide_eq_true (by omega)]
            · exact hok i (by simp only at hi; omega)
      · skip
        obtain rfl : k = b.nh := by omega
        have hA : allI b.nh (shH b t X) = true := allI_iff.2 hok
        obtain ⟨tb, toff, rfl, tcells⟩ := tp1 (by omega)
        refine en_exit <| en_then_exit <| en_then_exit <| en_blk_hit <| en_then <| en_seq <| en_seq <| en_region <| en_det (opT_loadW_own rfl (row_length _ _)) rfl <| en_det (opT_move rfl) rfl <| en_nil <| en_then <| en_block <| ?_
        refine en_loop (fun x : Nat => x ≤ 5 ∧ ∀ i, i < x → tot b.nh X i ≤ b.tray t i) (fun x => [(1, .int .i64 t), (3, pt b3), (10, pt b10), (79, .agg (trayL (tot b.nh X)).toArray), (80, .int .i64 x)]) (fun _ => h2) (fun x => [box b10 31 (trayL (tot b.nh X)), box b3 26 [.slice (some ⟨tb, toff, none⟩) b.nt tcp, .slice had b.nh hcp]]) (fun x => 5 - x) 0 ⟨by simp, fun i hi => by simp at hi⟩ ⟨rfl, rfl, rfl, rfl, rfl, trivial⟩ (.refl _) inferInstance fun m hx => ?_
        obtain ⟨hm, hmok⟩ := hx
        refine en_seq <| en_region <| ?_
        first | refine en_det (opT_lss_t rfl rfl (by omega)) rfl ?_ | refine en_det (opT_lss_f rfl rfl (by omega)) rfl ?_ | refine en_det (opT_lss rfl rfl) rfl ?_
        refine en_nil <| en_then <| en_seq <| ?_
        refine en_if rfl (fun hlt3 => ?_) (fun hlt3 => ?_)
        · skip
          have hm5 : m < 5 := by omega
          have hg : (trayL (tot b.nh X))[m]? = some (.int .i64 (tot b.nh X m)) := row_get hm5
          have hc9 : cellH h2 tb (toff + t * 5 + m) = some (.int .i64 (b.tray t m)) := cellH_sub (s1.trans s2) (tcells.cell htn hm5)
          have hbad : ¬ tot b.nh X m ≤ b.tray t m → shE b t b.nh X = 8 := fun e => hwr (by
            unfold shOK; rw [hA, allI_false hm5 (decide_eq_false e)]; rfl)
          have hgood : tot b.nh X m ≤ b.tray t m → ∀ i, i < m + 1 → tot b.nh X i ≤ b.tray t i := fun e i hi => by
            by_cases h1 : i = m
            · subst h1; exact e
            · exact hmok i (by omega)
          generalize tot b.nh X m = q at hg hbad hgood
          generalize b.tray t m = r at hc9 hbad hgood
          skip
          by_cases hqr : r < q
          · rw [hbad (by omega)]
            refine en_skip <| en_then <| en_seq <| en_block <| en_seq <| en_region <| en_det (opT_move rfl) rfl <| en_det (opT_index rfl rfl (by omega) (by omega) hg) rfl <| en_det (opT_assign rfl) rfl <| en_det (opT_assign rfl) rfl <| en_nil <| en_then <| en_seq <| en_region <| en_det (opT_move rfl) rfl <| en_det (opT_fieldAddr rfl) rfl <| en_det (opT_load_own rfl rfl) rfl <| en_det (opT_move rfl) rfl <| en_det (opT_move rfl) rfl <| ?_
            first | refine en_det (opT_idx1 rfl rfl (by omega) (by omega)) rfl ?_ | refine en_det (opT_idx (ks := 0) rfl rfl (by omega) (by omega)) rfl ?_
            refine en_det (opT_idxArr rfl rfl (by omega) (by omega)) rfl <| ?_
            first | refine en_det (opT_desk0 rfl) rfl ?_ | refine en_det (opT_desk1 rfl) rfl ?_ | refine en_det (opT_desk3 rfl) rfl ?_ | refine en_det (opT_load_h rfl (by assumption)) rfl ?_ | refine en_det (opT_load_own rfl rfl) rfl ?_
            refine en_det (opT_gtr_t rfl rfl (by omega)) rfl <| en_nil <| en_then <| en_cond_t rfl <| en_seq <| en_region <| en_det (opT_assign rfl) rfl <| en_det (opT_assign rfl) rfl <| en_nil <| en_then <| en_ret <| en_blk_ret <| en_then_ret <| en_then_ret <| en_blk_ret <| en_then_ret <| ?_
            refine en_return (rs := [.tmp 6, .tmp 7]) rfl (.cons (.tmp rfl) (.cons (.tmp rfl) .nil)) (s1.trans s2) (Γ1 := []) ⟨rfl, rfl⟩
          · have hgd := hgood (by omega)
            refine en_skip <| en_then <| en_seq <| en_block <| en_seq <| en_region <| en_det (opT_move rfl) rfl <| en_det (opT_index rfl rfl (by omega) (by omega) hg) rfl <| en_det (opT_assign rfl) rfl <| en_det (opT_assign rfl) rfl <| en_nil <| en_then <| en_seq <| en_region <| en_det (opT_move rfl) rfl <| en_det (opT_fieldAddr rfl) rfl <| en_det (opT_load_own rfl rfl) rfl <| en_det (opT_move rfl) rfl <| en_det (opT_move rfl) rfl <| ?_
            first | refine en_det (opT_idx1 rfl rfl (by omega) (by omega)) rfl ?_ | refine en_det (opT_idx (ks := 0) rfl rfl (by omega) (by omega)) rfl ?_
            refine en_det (opT_idxArr rfl rfl (by omega) (by omega)) rfl <| ?_
            first | refine en_det (opT_desk0 rfl) rfl ?_ | refine en_det (opT_desk1 rfl) rfl ?_ | refine en_det (opT_desk3 rfl) rfl ?_ | refine en_det (opT_load_h rfl (by assumption)) rfl ?_ | refine en_det (opT_load_own rfl rfl) rfl ?_
            refine en_det (opT_gtr_f rfl rfl (by omega)) rfl <| en_nil <| en_then <| en_cond_f rfl <| en_skip <| en_blk <| en_then <| en_region <| en_det (opT_add rfl rfl (by constructor <;> omega)) rfl <| en_det (opT_move rfl) rfl <| en_nil <| en_then <| ?_
            exact en_again (m + 1) ⟨by omega, hgd⟩ (by omega) ⟨rfl, rfl, rfl, rfl, gi rfl (by simp), trivial⟩ (.refl _) inferInstance
        · skip
          obtain rfl : m = 5 := by omega
          have e0 : shE b t b.nh X = 0 := by
            unfold shE
            rw [if_pos haz, if_pos rfl, Int.toNat_natCast, if_pos]
            unfold shOK
            rw [hA, allI_iff.2 fun m hm => decide_eq_true (hmok m hm)]; rfl
          have htb : ∀ m, m < 5 → 0 ≤ tot b.nh X m ∧ tot b.nh X m ≤ 60 * b.nh := fun m hm => tot_bound fun i hi => hXb i hi m hm
          have cS : CT Try.prog 76 [.slice (some ⟨b10, 0, none⟩) 5 5] h2 [box b10 31 (trayL (tot b.nh X))] (DetW (.int .i64 (shV b X)) [box b10 31 (trayL (tot b.nh X))]) :=
            add_own_ct h2 b10 0 5 5 31 _ (tot b.nh X) (by omega) (fun j hj => by have := htb j hj; omega) (fun j hj => by rw [Nat.zero_add]; exact row_get hj)
          rw [e0, if_pos rfl]
          refine en_exit <| en_then_exit <| en_then_exit <| en_blk_hit <| en_then <| en_seq <| en_region <| en_det (opT_sliceArr (by omega) rfl) rfl <| en_calld (cS) rfl rfl rfl rfl <| en_det (opT_assign rfl) rfl <| en_det (opT_assign rfl) rfl <| en_nil <| en_then <| en_ret <| ?_
          refine en_return (rs := [.tmp 6, .tmp 7]) rfl (.cons (.tmp rfl) (.cons (.tmp rfl) .nil)) (s1.trans s2) (Γ1 := []) ⟨rfl, rfl⟩
    · have e : shE b t n X = 3 := by unfold shE; rw [if_pos haz, if_neg hnn]
      rw [e]
      refine en_det (opT_move rfl) rfl <| en_det (opT_extract rfl rfl) rfl <| en_det (opT_extract rfl rfl) rfl <| en_det (opT_assign rfl) rfl <| en_det (opT_assign rfl) rfl <| en_nil <| en_then <| en_seq <| en_block <| en_seq <| en_region <| en_det (opT_move rfl) rfl <| en_det (opT_neq_f rfl rfl (by omega)) rfl <| en_det (opT_assign rfl) rfl <| en_nil <| en_then <| en_cond_f rfl <| en_seq <| en_region <| en_det (opT_move rfl) rfl <| en_det (opT_len rfl) rfl <| en_det (opT_fieldAddr rfl) rfl <| en_det (opT_load_own rfl rfl) rfl <| en_det (opT_len rfl) rfl <| en_det (opT_neq_t rfl rfl (by omega)) rfl <| en_det (opT_assign rfl) rfl <| en_nil <| en_then <| en_cond_t rfl <| en_seq <| en_region <| en_det (opT_assign rfl) rfl <| en_det (opT_assign rfl) rfl <| en_nil <| en_then <| en_ret <| en_blk_ret <| en_then_ret <| ?_
      refine en_return (rs := [.tmp 6, .tmp 7]) rfl (.cons (.tmp rfl) (.cons (.tmp rfl) .nil)) s1 (Γ1 := []) ⟨rfl, rfl⟩
  · refine en_norm ?_
    have e : shE b tray n X = atD b tray := by unfold shE; rw [if_neg hz]
    rw [e, if_neg hz]
    refine en_det (opT_move rfl) rfl <| en_det (opT_extract rfl rfl) rfl <| en_det (opT_extract rfl rfl) rfl <| en_det (opT_assign rfl) rfl <| en_det (opT_assign rfl) rfl <| en_nil <| en_then <| en_seq <| en_block <| en_seq <| en_region <| en_det (opT_move rfl) rfl <| en_det (opT_neq_t rfl rfl (by omega)) rfl <| en_det (opT_assign rfl) rfl <| en_nil <| en_then <| en_cond_t rfl <| en_seq <| en_region <| en_det (opT_move rfl) rfl <| en_det (opT_assign rfl) rfl <| en_det (opT_assign rfl) rfl <| en_nil <| en_then <| en_ret <| en_blk_ret <| en_then_ret <| ?_
    refine en_return (rs := [.tmp 6, .tmp 7]) rfl (.cons (.tmp rfl) (.cons (.tmp rfl) .nil)) s1 (Γ1 := []) ⟨rfl, rfl⟩
end Go.Sx

/- Sharings that are tried. -/
namespace Go.Sx
open Go.Proofs
set_option maxRecDepth 100000
structure Feas (b : BeltD) (t : Nat) (X : Nat → Nat → Int) : Prop where
  nn : ∀ i m, i < b.nh → m < 5 → 0 ≤ X i m
  tk : ∀ i m, i < b.nh → m < 5 → 0 < X i m → (b.hand i).takes m = true
  le : ∀ i, i < b.nh → sum5 (X i) ≤ forceD (b.hand i) t
  tr : ∀ m, m < 5 → tot b.nh X m ≤ b.tray t m
theorem Feas.ok {b : BeltD} {t : Nat} {X : Nat → Nat → Int} (f : Feas b t X) : OutOK b.nh (takesB b) (forceB b t) X := ⟨fun i m hi hm => f.nn i m hi hm, fun i hi => f.le i hi, fun i m hi hm hp => f.tk i m hi hm hp⟩
theorem Feas.zero {b : BeltD} (hk : BOK b) {t : Nat} (ht : t < b.nt) : Feas b t (fun _ _ => 0) :=
  ⟨fun _ _ _ _ => Int.le_refl _, fun _ _ _ _ h => by omega, fun i hi => by rw [sum5_eq]; have := (forceD_bound (hk.ok i hi) t).1; omega, fun m hm => by unfold tot; rw [sumN_zero]; exact (hk.tr t m ht hm).1⟩
theorem Feas.cell {b : BeltD} (hk : BOK b) {t : Nat} {X : Nat → Nat → Int} (f : Feas b t X) {i m : Nat} (hi : i < b.nh) (hm : m < 5) : 0 ≤ X i m ∧ X i m ≤ 40 := by
  have h1 := f.nn i m hi hm
  have h2 := sumN_one (n := 5) (f := X i) (fun j hj => f.nn i j hi hj) hm
  have h3 := f.le i hi
  have h4 := (forceD_bound (hk.ok i hi) t).2
  exact ⟨h1, by unfold sum5 at h3; omega⟩
/-- A sharing that can be is not wrong. -/
theorem Feas.sh {b : BeltD} (hk : BOK b) {t : Nat} {X : Nat → Nat → Int} (f : Feas b t X) : shOK b t X = true := by
  unfold shOK
  rw [Bool.and_eq_true, allI_iff, allI_iff]
  refine ⟨fun i hi => ?_, fun m hm => decide_eq_true (f.tr m hm)⟩
  unfold shH
  rw [Bool.and_eq_true, allI_iff]
  refine ⟨fun m hm => ?_, decide_eq_true (f.le i hi)⟩
  have h1 := f.cell hk hi hm
  unfold shM
  rw [Bool.and_eq_true]
  refine ⟨by simp only [inD, decide_eq_true_eq]; omega, ?_⟩
  by_cases h0 : 0 < X i m
  · rw [f.tk i m hi hm h0]; simp
  · simp [h0]
/-- It takes no more than the most. -/
theorem Feas.most {b : BeltD} (hk : BOK b) {t : Nat} (ht : t < b.nt) {X : Nat → Nat → Int} (f : Feas b t X) : shV b X ≤ mostT b t := by
  rw [most_eq hk ht]
  have h1 := share_le (hands := allH b) f.ok (fun h hh hn m _ => absurd (by simpa [allH] using hh) hn) (w := b.tray t) f.tr (heldB b wholeD t (allH b))
  have e1 : sumN b.nh (fun h => sum5 (X h)) = shV b X := by unfold shV sum5 tot; rw [sumN_swap]
  rw [e1] at h1
  exact h1
theorem Feas.add {b : BeltD} {t : Nat} {X : Nat → Nat → Int} (f : Feas b t X) {i m : Nat} (hi : i < b.nh) (hm : m < 5) {k : Int} (h0 : 0 ≤ k) (htk : (b.hand i).takes m = true) (h1 : k ≤ forceD (b.hand i) t - sum5 (X i)) (h2 : k ≤ b.tray t m - tot b.nh X m) : Feas b t (upd2 X i m (X i m + k)) := by
  have htot : ∀ j, tot b.nh (upd2 X i m (X i m + k)) j = tot b.nh X j + if j = m then k else 0 := fun j => tot_upd2 hi
  refine ⟨fun a j ha hj => ?_, fun a j ha hj hp => ?_, fun a ha => ?_, fun j hj => ?_⟩
  · have := f.nn a j ha hj
    unfold upd2; split
    · rename_i e; obtain ⟨rfl, rfl⟩ := e; omega
    · exact this
  · by_cases e : a = i ∧ j = m
    · obtain ⟨rfl, rfl⟩ := e; exact htk
    · rw [upd2_ne e] at hp; exact f.tk a j ha hj hp
  · by_cases e : a = i
    · subst e
      have : sum5 (upd2 X a m (X a m + k) a) = sum5 (X a) + k := by
        unfold sum5
        exact sumN_upd hm (fun j _ hj => by simp [upd2, hj]) (by simp [upd2])
      omega
    · rw [upd2_row_ne e]; exact f.le a ha
  · rw [htot j]
    have := f.tr j hj
    split
    · rename_i e; subst e; omega
    · omega
def leftT (b : BeltD) (t : Nat) (X : Nat → Nat → Int) : Nat → Int := fun m => b.tray t m - tot b.nh X m
theorem leftT_add {b : BeltD} {t : Nat} {X : Nat → Nat → Int} {i m : Nat} (hi : i < b.nh) (k : Int) : (fun j => if j = m then leftT b t X m - k else leftT b t X j) = leftT b t (upd2 X i m (X i m + k)) := by
  funext j
  unfold leftT
  rw [tot_upd2 hi]
  by_cases e : j = m
  · subst e; simp; omega
  · simp [e]
theorem icell_upd (X : Nat → Nat → Int) (i m : Nat) (v : Int) : (fun a c => if a = i ∧ c = m then Value.int .i64 v else icell X a c) = icell (upd2 X i m v) := by
  funext a c
  unfold icell upd2
  split <;> rfl
attribute [local irreducible] Code.wpIn wpListIn Exit.then Exit.inBlock BQ Again Hd St En OpT box blk RQ BQ0 fmap own Desk Chute
theorem tries_ct (h : Heap) (c : Nat) (lv : Value) (bytes : List Int) (v : Value) (b : BeltD) (t : Nat) (hy : IsBytes h lv bytes) (hb : IsBelt h v b) (hk : BOK b) (ht : t < b.nt) : CT Try.prog 66 [pt c, v, .int .i64 t] h [Chute c lv bytes.length]
    (fun v' h' Γ' => (∃ X, IsTrays h' v' b.nh X ∧ Feas b t X) ∧ Γ' = [Chute c lv bytes.length]) := by
  obtain ⟨tv, hv, rfl, hT, hH⟩ := id hb
  obtain ⟨rv, ⟨_, had, hcp, rfl, hm1, hc1, hp1⟩, hr⟩ := hH
  obtain ⟨_, tad, tcp, rfl, tm1, tc1, tp1⟩ := hT
  obtain ⟨tb, toff, rfl, tcells⟩ := tp1 (by omega)
  have hk5 := hk.h5
  have hn8 := hk.n8
  have hc0 : checkD b = 0 := check_ok.2 hk
  have trow : CellsH h tb (toff + t * 5) (trayL (b.tray t)) := tcells.row ht
  refine ct_intro Try.func66 rfl rfl rfl rfl fun Φ => ?_
  refine en_seq <| en_region <| en_box rfl rfl rfl fun b4 => en_det (opT_assign rfl) rfl <| en_nil <| en_then <| en_seq <| en_region <| en_det (opT_fieldAddr rfl) rfl <| en_det (opT_load_own rfl rfl) rfl <| en_det (opT_len rfl) rfl <| ?_
  refine en_op (opT_make (T := 23) (e := 31) (sz := 5) (by_ := 40) (z0 := .int .i64 0) (m := (b.nh : Int)) rfl (by decide) rfl (by omega) (by omega) (by omega)) rfl fun v h' Γ' _ ⟨bo, e1, e2, e3⟩ => ?_
  subst e1 e3
  replace e2 := e2.symm; subst e2
  rw [zero_rows, Int.toNat_natCast]
  have e0 : trayL (b.tray t) = trayL (leftT b t fun _ _ => 0) := row_congr fun m _ => by unfold leftT tot; rw [sumN_zero]; simp
  refine en_det (opT_assign rfl) rfl <| en_nil <| en_then <| en_seq <| en_region <| en_det (opT_fieldAddr rfl) rfl <| en_det (opT_load_own rfl rfl) rfl <| en_det (opT_move rfl) rfl <| ?_
  first | refine en_det (opT_idx1 rfl rfl (by omega) (by omega)) rfl ?_ | refine en_det (opT_idx (ks := 0) rfl rfl (by omega) (by omega)) rfl ?_
  refine en_det (opT_loadA_h rfl trow (row_length _ _)) rfl <| en_alloc rfl fun b8 => ?_
  refine en_det0 (opT_storeW rfl rfl rfl rfl (one_trayL (b.tray t))) <| en_nil <| en_then <| ?_
  rw [e0]
  refine en_meet (ι := (Nat → Nat → Int) × Heap) (fun x => h.sub x.2 ∧ Feas b t x.1) (fun x => [(7, .slice (some ⟨bo, 0, none⟩) b.nh b.nh)]) (fun x => x.2) (fun x => [box bo 31 (rows b.nh 5 (icell x.1)), Chute c lv bytes.length]) ?_ (fun x hx => ?_)
  · skip
    refine en_seq <| en_region <| en_det (opT_move rfl) rfl <| en_nil <| en_then <| en_block <| ?_
    refine en_loop (fun x : Nat × (Nat → Nat → Int) × Heap => x.1 ≤ 40 ∧ h.sub x.2.2 ∧ Feas b t x.2.1) (fun x => [(0, pt c), (2, .int .i64 t), (4, pt b4), (7, .slice (some ⟨bo, 0, none⟩) b.nh b.nh), (8, pt b8), (23, .int .i64 x.1)]) (fun x => x.2.2) (fun x => [box b8 31 (trayL (leftT b t x.2.1)), box bo 31 (rows b.nh 5 (icell x.2.1)), box b4 26 [.slice (some ⟨tb, toff, none⟩) b.nt tcp, .slice had b.nh hcp], Chute c lv bytes.length]) (fun x => 40 - x.1) (0, (fun _ _ => 0), h) ⟨by simp, .refl _, Feas.zero hk ht⟩ ⟨rfl, rfl, rfl, rfl, rfl, rfl, trivial⟩ (.refl _) inferInstance fun x hx => ?_
    obtain ⟨k, X, h1⟩ := x
    obtain ⟨hk40, s1, hF⟩ := hx
    simp only at hk40 s1 hF
    change En _ _ _ [(0, pt c), (2, .int .i64 t), (4, pt b4), (7, .slice (some ⟨bo, 0, none⟩) b.nh b.nh), (8, pt b8), (23, .int .i64 k)] h1 [box b8 31 (trayL (leftT b t X)), box bo 31 (rows b.nh 5 (icell X)), box b4 26 [.slice (some ⟨tb, toff, none⟩) b.nt tcp, .slice had b.nh hcp], Chute c lv bytes.length]
    refine en_seq <| en_region <| ?_
    first | refine en_det (opT_lss_t rfl rfl (by omega)) rfl ?_ | refine en_det (opT_lss_f rfl rfl (by omega)) rfl ?_ | refine en_det (opT_lss rfl rfl) rfl ?_
    refine en_nil <| en_then <| en_seq <| ?_
    refine en_if rfl (fun hlt1 => ?_) (fun hlt1 => ?_)
    · skip
      skip
      by_cases h0 : b.nh = 0
      · refine en_skip <| en_then <| en_seq <| en_block <| en_seq <| en_seq <| en_region <| en_det (opT_fieldAddr rfl) rfl <| en_det (opT_load_own rfl rfl) rfl <| en_det (opT_len rfl) rfl <| en_det (opT_eql_t rfl rfl (by omega)) rfl <| en_nil <| en_then <| en_cond_t rfl <| en_exit <| en_then_exit <| en_blk_miss rfl <| en_then_exit <| en_then_exit <| en_blk_hit <| en_then <| ?_
        exact en_met (X, h1) ⟨s1, hF⟩ ⟨rfl, trivial⟩ (.refl _) inferInstance
      · skip
        refine en_skip <| en_then <| en_seq <| en_block <| en_seq <| en_seq <| en_region <| en_det (opT_fieldAddr rfl) rfl <| en_det (opT_load_own rfl rfl) rfl <| en_det (opT_len rfl) rfl <| en_det (opT_eql_f rfl rfl (by omega)) rfl <| en_nil <| en_then <| en_cond_f rfl <| en_skip <| en_then <| en_seq <| en_region <| en_det (opT_move rfl) rfl <| en_det (opT_fieldAddr rfl) rfl <| en_det (opT_load_own rfl rfl) rfl <| en_det (opT_len rfl) rfl <| ?_
        refine en_callq (pull_ct h1 c lv bytes b.nh (hy.mono s1) (by omega)) rfl rfl rfl rfl fun v h2 s2 hv => ?_
        obtain ⟨i0, rfl, hi0, hi1, hi2⟩ := hv
        obtain ⟨i, rfl⟩ := Int.eq_ofNat_of_zero_le hi0
        have hi : i < b.nh := by
          by_cases e : (b.nh : Int) < 2
          · have := hi1 e; omega
          · have := hi2 (by omega); omega
        clear hi1 hi2
        refine en_det (opT_move rfl) rfl <| ?_
        refine en_callq (pull_ct h2 c lv bytes 5 (hy.mono (s1.trans s2)) (by omega)) rfl rfl rfl rfl fun v h3 s3 hv => ?_
        obtain ⟨m0, rfl, hm0, _, hm2⟩ := hv
        obtain ⟨m, rfl⟩ := Int.eq_ofNat_of_zero_le hm0
        have hm5 : m < 5 := by have := hm2 (by omega); omega
        have hfe : forceE b i t = 0 := by
          have h1 : inD (i : Int) 0 (b.nh - 1) = true := by simp only [inD, decide_eq_true_eq]; omega
          have h2 : inD (t : Int) 0 (b.nt - 1) = true := by simp only [inD, decide_eq_true_eq]; omega
          simp [forceE, hc0, h1, h2]
        have s13 := s1.trans (s2.trans s3)
        have cF := force37_ct h3 _ _ b i t (hb.mono s13)
        rw [hfe, if_pos rfl, Int.toNat_natCast, Int.toNat_natCast] at cF
        refine en_det (opT_assign rfl) rfl <| en_det (opT_assign rfl) rfl <| en_nil <| en_then <| en_seq <| en_region <| ?_
        first | refine en_det (opT_loadW_own rfl rfl) rfl ?_ | refine en_det (opT_loadA_own rfl) rfl ?_
        refine en_det (opT_move rfl) rfl <| en_det (opT_move rfl) rfl <| ?_
        refine en_call cF rfl rfl rfl rfl fun v h4 Γ' s4 hv => ?_
        obtain ⟨rfl, rfl⟩ := hv
        refine en_norm ?_
        have hg : (trayL (leftT b t X))[m]? = some (.int .i64 (leftT b t X m)) := row_get hm5
        have hXc : ∀ j, j < 5 → 0 ≤ X i j ∧ X i j ≤ 1000000 := fun j hj => by have := hF.cell hk hi hj; omega
        have hfo := forceD_bound (hk.ok i hi) t
        have hS := sumN_bound (n := 5) (f := X i) (B := 40) fun j hj => hF.cell hk hi hj
        have hS5 : sumN 5 (X i) = sum5 (X i) := rfl
        rw [hS5] at hS
        have hlt := hk.tr t m ht hm5
        have htx : 0 ≤ tot b.nh X m := sumN_nn fun j hj => hF.nn j m hj hm5
        have hadd := fun k h0 ht h1 h2 => hF.add (k := k) hi hm5 h0 ht h1 h2
        have hlm : leftT b t X m = b.tray t m - tot b.nh X m := rfl
        rw [← hlm] at hadd
        have cS := sum40_ct h4 (X i) hXc
        obtain ⟨hbb, hoff, rfl, hcells⟩ := hp1 (by omega)
        have hce := cellH_sub (s13.trans s4) (hcells.cell hi (by omega : m < 9))
        have hcv : hcell (b.hand i) (rv i) m = .bool ((b.hand i).takes m) := by simp [hcell, hm5]
        rw [hcv] at hce
        have hXm := hF.cell hk hi hm5
        have hg2 : (rows b.nh 5 (icell X))[i * 5 + m]? = some (.int .i64 (X i m)) := rows_get hi hm5
        have hlu := leftT_add (b := b) (t := t) (X := X) (m := m) hi
        have hoi := row_lt hi hm5
        generalize leftT b t X m = lm at hg hadd hlm hlu
        generalize sum5 (X i) = S at cS hadd hS
        generalize forceD (b.hand i) t = f at cS hadd hfo ⊢
        have trt := rows_take (w := 5) (f := icell X) hi
        skip
        cases htk : (b.hand i).takes m with
        | false =>
          rw [htk] at hce
          refine en_det (opT_move rfl) rfl <| en_det (opT_extract rfl rfl) rfl <| en_det (opT_extract rfl rfl) rfl <| en_det (opT_assign rfl) rfl <| en_det (opT_assign rfl) rfl <| en_nil <| en_then <| en_seq <| en_draw0 [0, 1, 2, 3, 4, 5, 6, 7, 8, 9, 10, 11] (by kernel_rfl) (by decide +kernel) (by decide +kernel) (by decide) <| dp_p rfl (fun _ _ => opT_move rfl) rfl rfl rfl <| dp_p rfl (fun _ _ => opT_idxArr rfl rfl (by omega) (by omega)) rfl rfl rfl <| dp_q rfl (opT_load_own rfl hg) rfl rfl rfl <| dp_p rfl (fun _ _ => opT_move rfl) rfl rfl rfl <| dp_p rfl (fun _ _ => opT_move rfl) rfl rfl rfl <| dp_p rfl (fun _ _ => opT_move rfl) rfl rfl rfl <| ?_
          first | refine dp_p rfl (fun _ _ => opT_idx1 rfl rfl (by omega) (by omega)) rfl rfl rfl ?_ | refine dp_p rfl (fun _ _ => opT_idx (ks := 0) rfl rfl (by omega) (by omega)) rfl rfl rfl ?_
          refine dp_q rfl (opT_loadA_own (t := trt) rfl) rfl rfl rfl <| dp_ed0 rfl (opT_callw (cS) rfl rfl rfl) rfl rfl rfl rfl <| dp_p rfl (fun _ _ => opT_sub rfl rfl (by constructor <;> omega)) rfl rfl rfl <| dp_p rfl (fun _ _ => opT_min2 rfl rfl) rfl rfl rfl <| dp_p rfl (fun _ _ => opT_assign rfl) rfl rfl rfl <| dp_done0 <| en_then <| en_seq <| en_region <| en_det (opT_move rfl) rfl <| en_det (opT_eql_t rfl rfl (by omega)) rfl <| en_det (opT_move rfl) rfl <| en_g_yes rfl rfl <| en_det (opT_fieldAddr rfl) rfl <| en_g_yes rfl rfl <| en_det (opT_load_own rfl rfl) rfl <| en_g_yes rfl rfl <| en_det (opT_move rfl) rfl <| en_g_yes rfl rfl <| en_det (opT_move rfl) rfl <| en_g_yes rfl rfl <| ?_
          first | refine en_det (opT_idx1 rfl rfl (by omega) (by omega)) rfl ?_ | refine en_det (opT_idx (ks := 0) rfl rfl (by omega) (by omega)) rfl ?_
          refine en_g_yes rfl rfl <| en_det (opT_fieldAddr rfl) rfl <| en_g_yes rfl rfl <| en_det (opT_idxArr rfl rfl (by omega) (by omega)) rfl <| en_g_yes rfl rfl <| ?_
          first | refine en_det (opT_load_h rfl (by assumption)) rfl ?_ | refine en_det (opT_load_own rfl rfl) rfl ?_
          first | refine en_det (opT_pick_t rfl rfl) rfl ?_ | refine en_det (opT_pick_f rfl rfl) rfl ?_
          refine en_det (opT_move rfl) rfl <| en_g_no rfl rfl rfl <| en_g_no rfl rfl rfl <| ?_
          first | refine en_det (opT_pick_t rfl rfl) rfl ?_ | refine en_det (opT_pick_f rfl rfl) rfl ?_
          refine en_nil <| en_then <| en_cond_f rfl <| en_skip <| en_blk <| en_then <| en_region <| en_det (opT_add rfl rfl (by constructor <;> omega)) rfl <| en_det (opT_move rfl) rfl <| en_nil <| en_then <| ?_
          exact en_again (k + 1, X, h4) ⟨by simp only; omega, s13.trans s4, hF⟩ (by simp only; omega) ⟨rfl, rfl, rfl, rfl, rfl, gi rfl (by simp), trivial⟩ (.refl _) inferInstance
        | true =>
          rw [htk] at hce
          by_cases hkp : 0 < min lm (f - S)
          · skip
            refine en_det (opT_move rfl) rfl <| en_det (opT_extract rfl rfl) rfl <| en_det (opT_extract rfl rfl) rfl <| en_det (opT_assign rfl) rfl <| en_det (opT_assign rfl) rfl <| en_nil <| en_then <| en_seq <| en_draw0 [0, 1, 2, 3, 4, 5, 6, 7, 8, 9, 10, 11] (by kernel_rfl) (by decide +kernel) (by decide +kernel) (by decide) <| dp_p rfl (fun _ _ => opT_move rfl) rfl rfl rfl <| dp_p rfl (fun _ _ => opT_idxArr rfl rfl (by omega) (by omega)) rfl rfl rfl <| dp_q rfl (opT_load_own rfl hg) rfl rfl rfl <| dp_p rfl (fun _ _ => opT_move rfl) rfl rfl rfl <| dp_p rfl (fun _ _ => opT_move rfl) rfl rfl rfl <| dp_p rfl (fun _ _ => opT_move rfl) rfl rfl rfl <| ?_
            first | refine dp_p rfl (fun _ _ => opT_idx1 rfl rfl (by omega) (by omega)) rfl rfl rfl ?_ | refine dp_p rfl (fun _ _ => opT_idx (ks := 0) rfl rfl (by omega) (by omega)) rfl rfl rfl ?_
            refine dp_q rfl (opT_loadA_own (t := trt) rfl) rfl rfl rfl <| dp_ed0 rfl (opT_callw (cS) rfl rfl rfl) rfl rfl rfl rfl <| dp_p rfl (fun _ _ => opT_sub rfl rfl (by constructor <;> omega)) rfl rfl rfl <| dp_p rfl (fun _ _ => opT_min2 rfl rfl) rfl rfl rfl <| dp_p rfl (fun _ _ => opT_assign rfl) rfl rfl rfl <| dp_done0 <| en_then <| en_seq <| en_region <| en_det (opT_move rfl) rfl <| en_det (opT_eql_t rfl rfl (by omega)) rfl <| en_det (opT_move rfl) rfl <| en_g_yes rfl rfl <| en_det (opT_fieldAddr rfl) rfl <| en_g_yes rfl rfl <| en_det (opT_load_own rfl rfl) rfl <| en_g_yes rfl rfl <| en_det (opT_move rfl) rfl <| en_g_yes rfl rfl <| en_det (opT_move rfl) rfl <| en_g_yes rfl rfl <| ?_
            first | refine en_det (opT_idx1 rfl rfl (by omega) (by omega)) rfl ?_ | refine en_det (opT_idx (ks := 0) rfl rfl (by omega) (by omega)) rfl ?_
            refine en_g_yes rfl rfl <| en_det (opT_fieldAddr rfl) rfl <| en_g_yes rfl rfl <| en_det (opT_idxArr rfl rfl (by omega) (by omega)) rfl <| en_g_yes rfl rfl <| ?_
            first | refine en_det (opT_load_h rfl (by assumption)) rfl ?_ | refine en_det (opT_load_own rfl rfl) rfl ?_
            first | refine en_det (opT_pick_t rfl rfl) rfl ?_ | refine en_det (opT_pick_f rfl rfl) rfl ?_
            refine en_det (opT_move rfl) rfl <| en_g_yes rfl rfl <| en_det (opT_move rfl) rfl <| en_g_yes rfl rfl <| en_det (opT_gtr_t rfl rfl (by omega)) rfl <| ?_
            first | refine en_det (opT_pick_t rfl rfl) rfl ?_ | refine en_det (opT_pick_f rfl rfl) rfl ?_
            refine en_nil <| en_then <| en_cond_t rfl <| en_seq <| en_region <| en_det (opT_move rfl) rfl <| en_det (opT_move rfl) rfl <| ?_
            refine en_callq (between_ct h4 c lv bytes 1 (min lm (f - S)) (hy.mono (s13.trans s4)) (by omega) (by omega) (by omega)) rfl rfl rfl rfl fun v h5 s5 hv => ?_
            obtain ⟨q, rfl, hq1, hq2⟩ := hv
            have hF2 := hadd q (by omega) htk (by omega) (by omega)
            refine en_det (opT_assign rfl) rfl <| en_nil <| en_then <| en_seq <| en_draw0 [0, 1, 2, 3, 4, 5, 6, 7, 8, 9, 10] (by kernel_rfl) (by decide +kernel) (by decide +kernel) (by decide) <| dp_p rfl (fun _ _ => opT_move rfl) rfl rfl rfl <| dp_p rfl (fun _ _ => opT_move rfl) rfl rfl rfl <| dp_p rfl (fun _ _ => opT_move rfl) rfl rfl rfl <| ?_
            first | refine dp_p rfl (fun _ _ => opT_idx1 rfl rfl (by omega) (by omega)) rfl rfl rfl ?_ | refine dp_p rfl (fun _ _ => opT_idx (ks := 0) rfl rfl (by omega) (by omega)) rfl rfl rfl ?_
            refine dp_p rfl (fun _ _ => opT_idxArr rfl rfl (by omega) (by omega)) rfl rfl rfl <| dp_q rfl (opT_load_own rfl hg2) rfl rfl rfl <| dp_p rfl (fun _ _ => opT_move rfl) rfl rfl rfl <| dp_p rfl (fun _ _ => opT_add rfl rfl (by constructor <;> omega)) rfl rfl rfl <| ?_
            first | refine dp_p rfl (fun _ _ => opT_idx1 rfl rfl (by omega) (by omega)) rfl rfl rfl ?_ | refine dp_p rfl (fun _ _ => opT_idx (ks := 0) rfl rfl (by omega) (by omega)) rfl rfl rfl ?_
            refine dp_p rfl (fun _ _ => opT_idxArr rfl rfl (by omega) (by omega)) rfl rfl rfl <| dp_td0 rfl (opT_store1s rfl rfl rfl (by rw [rows_length]; omega)) rfl rfl rfl rfl rfl <| dp_done0 <| en_then <| en_region <| en_det (opT_move rfl) rfl <| en_det (opT_idxArr rfl rfl (by omega) (by omega)) rfl <| en_det (opT_load_own rfl hg) rfl <| en_det (opT_move rfl) rfl <| en_det (opT_sub rfl rfl (by constructor <;> omega)) rfl <| en_det (opT_idxArr rfl rfl (by omega) (by omega)) rfl <| en_det0 (opT_store1s rfl rfl rfl (by rw [row_length]; omega)) <| en_nil <| en_blk <| en_then <| en_region <| en_det (opT_add rfl rfl (by constructor <;> omega)) rfl <| en_det (opT_move rfl) rfl <| en_nil <| en_then <| ?_
            rw [left_set, rows_set hm5, icell_upd, hlu q]
            exact en_again (k + 1, upd2 X i m (X i m + q), h5) ⟨by simp only; omega, s13.trans (s4.trans s5), hF2⟩ (by simp only; omega) ⟨rfl, rfl, rfl, rfl, rfl, gi rfl (by simp), trivial⟩ (.refl _) inferInstance
          · skip
            refine en_det (opT_move rfl) rfl <| en_det (opT_extract rfl rfl) rfl <| en_det (opT_extract rfl rfl) rfl <| en_det (opT_assign rfl) rfl <| en_det (opT_assign rfl) rfl <| en_nil <| en_then <| en_seq <| en_draw0 [0, 1, 2, 3, 4, 5, 6, 7, 8, 9, 10, 11] (by kernel_rfl) (by decide +kernel) (by decide +kernel) (by decide) <| dp_p rfl (fun _ _ => opT_move rfl) rfl rfl rfl <| dp_p rfl (fun _ _ => opT_idxArr rfl rfl (by omega) (by omega)) rfl rfl rfl <| dp_q rfl (opT_load_own rfl hg) rfl rfl rfl <| dp_p rfl (fun _ _ => opT_move rfl) rfl rfl rfl <| dp_p rfl (fun _ _ => opT_move rfl) rfl rfl rfl <| dp_p rfl (fun _ _ => opT_move rfl) rfl rfl rfl <| ?_
            first | refine dp_p rfl (fun _ _ => opT_idx1 rfl rfl (by omega) (by omega)) rfl rfl rfl ?_ | refine dp_p rfl (fun _ _ => opT_idx (ks := 0) rfl rfl (by omega) (by omega)) rfl rfl rfl ?_
            refine dp_q rfl (opT_loadA_own (t := trt) rfl) rfl rfl rfl <| dp_ed0 rfl (opT_callw (cS) rfl rfl rfl) rfl rfl rfl rfl <| dp_p rfl (fun _ _ => opT_sub rfl rfl (by constructor <;> omega)) rfl rfl rfl <| dp_p rfl (fun _ _ => opT_min2 rfl rfl) rfl rfl rfl <| dp_p rfl (fun _ _ => opT_assign rfl) rfl rfl rfl <| dp_done0 <| en_then <| en_seq <| en_region <| en_det (opT_move rfl) rfl <| en_det (opT_eql_t rfl rfl (by omega)) rfl <| en_det (opT_move rfl) rfl <| en_g_yes rfl rfl <| en_det (opT_fieldAddr rfl) rfl <| en_g_yes rfl rfl <| en_det (opT_load_own rfl rfl) rfl <| en_g_yes rfl rfl <| en_det (opT_move rfl) rfl <| en_g_yes rfl rfl <| en_det (opT_move rfl) rfl <| en_g_yes rfl rfl <| ?_
            first | refine en_det (opT_idx1 rfl rfl (by omega) (by omega)) rfl ?_ | refine en_det (opT_idx (ks := 0) rfl rfl (by omega) (by omega)) rfl ?_
            refine en_g_yes rfl rfl <| en_det (opT_fieldAddr rfl) rfl <| en_g_yes rfl rfl <| en_det (opT_idxArr rfl rfl (by omega) (by omega)) rfl <| en_g_yes rfl rfl <| ?_
            first | refine en_det (opT_load_h rfl (by assumption)) rfl ?_ | refine en_det (opT_load_own rfl rfl) rfl ?_
            first | refine en_det (opT_pick_t rfl rfl) rfl ?_ | refine en_det (opT_pick_f rfl rfl) rfl ?_
            refine en_det (opT_move rfl) rfl <| en_g_yes rfl rfl <| en_det (opT_move rfl) rfl <| en_g_yes rfl rfl <| en_det (opT_gtr_f rfl rfl (by omega)) rfl <| ?_
            first | refine en_det (opT_pick_t rfl rfl) rfl ?_ | refine en_det (opT_pick_f rfl rfl) rfl ?_
            refine en_nil <| en_then <| en_cond_f rfl <| en_skip <| en_blk <| en_then <| en_region <| en_det (opT_add rfl rfl (by constructor <;> omega)) rfl <| en_det (opT_move rfl) rfl <| en_nil <| en_then <| ?_
            exact en_again (k + 1, X, h4) ⟨by simp only; omega, s13.trans s4, hF⟩ (by simp only; omega) ⟨rfl, rfl, rfl, rfl, rfl, gi rfl (by simp), trivial⟩ (.refl _) inferInstance
    · skip
      refine en_exit <| en_then_exit <| en_then_exit <| en_blk_hit <| en_then <| ?_
      exact en_met (X, h1) ⟨s1, hF⟩ ⟨rfl, trivial⟩ (.refl _) inferInstance
  · skip
    obtain ⟨X, h1⟩ := x
    obtain ⟨s1, hF⟩ := hx
    simp only at s1 hF
    change En _ _ _ [(7, .slice (some ⟨bo, 0, none⟩) b.nh b.nh)] h1 [box bo 31 (rows b.nh 5 (icell X)), Chute c lv bytes.length]
    refine en_fzb fun h2 s2 hb2 => ?_
    refine en_seq <| en_region <| en_det (opT_move rfl) rfl <| en_det (opT_assign rfl) rfl <| en_nil <| en_then <| en_ret <| ?_
    refine en_return (rs := [.tmp 6]) rfl (.cons (.tmp rfl) .nil) (s1.trans s2) ⟨⟨X, slH_box hb2 (rows_length _ _ _) (by omega), hF⟩, rfl⟩
end Go.Sx

/- The law BeltMost: the walk. -/
namespace Go.Sx
open Go.Proofs
set_option maxRecDepth 100000
theorem compl_tb : ∀ s : Fin 32, ∀ m : Fin 5, (31 - (s : Nat)).testBit (m : Nat) = !((s : Nat).testBit (m : Nat)) := by decide +kernel
theorem compl_sum {s : Nat} (hs : s < 32) (f : Nat → Int) : sumL (setL (31 - s)) f = exS s f := by
  rw [inS_sumL]
  unfold inS exS
  refine sumN_congr fun m hm => ?_
  have := compl_tb ⟨s, hs⟩ ⟨m, hm⟩
  simp only at this
  rw [this]
  cases s.testBit m <;> simp
theorem bdN_cut (b : BeltD) (t : Nat) {s : Nat} (hs : s < 32) : bdN b t s = cutB b t s := by
  unfold bdN cutB
  rw [compl_sum hs, beh_eq]
theorem share_feas {b : BeltD} (hk : BOK b) {t : Nat} (ht : t < b.nt) : Feas b t (shB b wholeD t (allH b)).1 := by
  have ok := out_ok b hk wholeD t (allH b) (allH_lt b)
  have htot := shareS_tot (takes := takesB b) hk.h5 (allH_lt b) (force_nn hk t) (fun m => (wholeD (b.tray t) m).toNat) 5 (Nat.le_refl _)
  have e0 : shareS (takesB b) (forceB b t) (allH b) (fun m => (wholeD (b.tray t) m).toNat) 5 = shB b wholeD t (allH b) := rfl
  rw [e0] at htot
  refine ⟨ok.pos, ok.tk, ok.le, fun m hm => ?_⟩
  have h2 := htot m
  have h5 := hk.tr t m ht hm
  have h6 : (((wholeD (b.tray t) m).toNat : Nat) : Int) = b.tray t m := by unfold wholeD; omega
  omega
theorem share_val (b : BeltD) (t : Nat) : shV b (shB b wholeD t (allH b)).1 = mostT b t := by
  unfold shV mostT sum5 tot
  rw [sumN_swap]
theorem most_tray {b : BeltD} (hk : BOK b) {t : Nat} (ht : t < b.nt) : mostT b t ≤ sum5 (b.tray t) := by
  have h1 := most_le hk ht 0
  have h2 : behL b.nh (takesB b) (forceB b t) (allH b) 0 = 0 := by
    rw [beh_sum, ← sumN_zero b.nh]
    refine sumN_congr fun i _ => ?_
    unfold hitF
    rw [if_neg]
    intro h
    obtain ⟨m, _, h2, _⟩ := anyT_iff.1 h
    simp at h2
  have h3 : exS 0 (b.tray t) = sum5 (b.tray t) := sumN_congr fun m _ => by simp
  unfold cutB at h1
  omega
theorem atD_in {b : BeltD} (hk : BOK b) {t : Nat} (ht : t < b.nt) : atD b t = 0 := by
  have : inD (t : Int) 0 (b.nt - 1) = true := by simp only [inD, decide_eq_true_eq]; omega
  simp [atD, check_ok.2 hk, this]
attribute [local irreducible] Code.wpIn wpListIn Exit.then Exit.inBlock BQ Again Hd St En OpT box blk RQ BQ0 fmap own Desk Chute
theorem mostlaw_ct (h : Heap) (v1 v2 : Value) (y1 y2 : List Int) (w : Int) (hy1 : IsBytes h v1 y1) (hy2 : IsBytes h v2 y2) (hw : 0 ≤ w ∧ w ≤ 255) : CT Try.prog 11 [v1, v2, .int .u8 w] h [] (DetW (.bool true) []) := by
  refine ct_intro Try.func11 rfl rfl rfl rfl fun Φ => ?_
  refine en_seq <| en_region <| en_det (opT_assign rfl) rfl <| en_nil <| en_then <| en_seq <| en_region <| en_det (opT_move rfl) rfl <| ?_
  refine en_call (fill_ct h v1 y1 hy1) rfl rfl rfl rfl fun v h1 Γ' s1 hv => ?_
  obtain ⟨c1, rfl, rfl⟩ := hv
  refine en_norm ?_
  refine en_callq (made_ct h1 c1 v1 y1 6 5 (hy1.mono s1) (by omega) (by omega) (by omega) (by omega)) rfl rfl rfl rfl fun v h2 s2 hv => ?_
  obtain ⟨b, hB, hM⟩ := hv
  have hk := hM.ok (by omega) (by omega)
  have hk5 := hk.h5
  have hn1 := hk.n1
  have hn8 := hk.n8
  obtain ⟨tv, hv, rfl, ⟨tl, tad, tcp, rfl, _, _, tp1⟩, ⟨rv, ⟨hl0, had, hcp, rfl, hq⟩, hr⟩⟩ := id hB
  clear tl hl0 hq hr
  obtain ⟨tq, toff, rfl, tcells⟩ := tp1 (by omega)
  refine en_drop ?_
  have hc0 : checkD b = 0 := check_ok.2 hk
  have hnb := mostA_bound hk
  refine en_alloc rfl fun b7 => ?_
  refine en_det0 (opT_storeW rfl rfl rfl rfl (by simp [Value.oneCell'])) <| en_nil <| en_then <| en_seq <| en_region <| en_det (opT_move rfl) rfl <| ?_
  refine en_call (fill_ct h2 v2 y2 (hy2.mono (s1.trans s2))) rfl rfl rfl rfl fun v h3 Γ' s3 hv => ?_
  obtain ⟨c2, rfl, rfl⟩ := hv
  refine en_norm ?_
  have z3 := hy2.mono (s1.trans (s2.trans s3))
  have B3 := hB.mono s3
  refine en_det (opT_assign rfl) rfl <| en_nil <| en_then <| en_seq <| en_region <| ?_
  first | refine en_det (opT_loadW_own rfl rfl) rfl ?_ | refine en_det (opT_loadA_own rfl) rfl ?_
  refine en_call (most21_ct h3 _ _ b B3) rfl rfl rfl rfl fun v h4 Γ' s4 hv => ?_
  obtain ⟨rfl, ⟨_, lv, rfl, hl⟩ | ⟨hne, _⟩⟩ := hv
  case inr => exact absurd hc0 hne
  refine en_norm ?_
  have B4 := B3.mono s4
  have z4 := z3.mono s4
  have hlen := mostL_length b
  obtain ⟨lad, lcp, rfl, _, _, lp⟩ := hl.shape
  obtain ⟨lq, loff, rfl, lcells⟩ := lp (by omega)
  refine en_det (opT_move rfl) rfl <| en_det (opT_extract rfl rfl) rfl <| en_det (opT_extract rfl rfl) rfl <| en_det (opT_extract rfl rfl) rfl <| en_det (opT_assign rfl) rfl <| en_det (opT_assign rfl) rfl <| en_det (opT_assign rfl) rfl <| en_nil <| en_then <| en_seq <| en_seq <| en_region <| en_det (opT_move rfl) rfl <| en_det (opT_neq_f rfl rfl (by omega)) rfl <| en_det (opT_move rfl) rfl <| en_g_yes rfl rfl <| en_det (opT_move rfl) rfl <| en_g_yes rfl rfl <| en_det (opT_len rfl) rfl <| en_g_yes rfl rfl <| en_det (opT_fieldAddr rfl) rfl <| en_g_yes rfl rfl <| en_det (opT_load_own rfl rfl) rfl <| en_g_yes rfl rfl <| en_det (opT_len rfl) rfl <| en_g_yes rfl rfl <| en_det (opT_neq_f rfl rfl (by omega)) rfl <| ?_
  first | refine en_det (opT_pick_t rfl rfl) rfl ?_ | refine en_det (opT_pick_f rfl rfl) rfl ?_
  refine en_nil <| en_then <| en_cond_f rfl <| en_skip <| en_then <| en_seq <| en_region <| en_det (opT_assign rfl) rfl <| en_nil <| en_then <| en_seq <| en_seq <| en_region <| en_det (opT_move rfl) rfl <| en_det (opT_len rfl) rfl <| en_det (opT_move rfl) rfl <| en_nil <| en_then <| en_block <| ?_
  refine en_loop (fun x : Nat => x ≤ b.nt) (fun x => [(2, .int .u8 w), (7, pt b7), (8, pt c2), (9, .slice (some ⟨lq, loff, none⟩) (mostL b).length lcp), (10, .int .i64 (mostA b)), (12, .int .i64 (sumN x (mostT b))), (49, .slice (some ⟨lq, loff, none⟩) (mostL b).length lcp), (50, .int .i64 (mostL b).length), (51, .int .i64 x)]) (fun _ => h4) (fun _ => [Chute c2 v2 y2.length, box b7 26 [.slice (some ⟨tq, toff, none⟩) b.nt tcp, .slice had b.nh hcp]]) (fun x => b.nt - x) 0 (by simp) ⟨rfl, rfl, rfl, rfl, rfl, rfl, rfl, rfl, rfl, trivial⟩ (.refl _) inferInstance fun k hk' => ?_
  refine en_seq <| en_region <| ?_
  first | refine en_det (opT_lss_t rfl rfl (by omega)) rfl ?_ | refine en_det (opT_lss_f rfl rfl (by omega)) rfl ?_ | refine en_det (opT_lss rfl rfl) rfl ?_
  refine en_nil <| en_then <| en_seq <| ?_
  refine en_if rfl (fun hlt1 => ?_) (fun hlt1 => ?_)
  · skip
    have hkn : k < b.nt := by omega
    have hck : cellH h4 lq (loff + k) = some (.int .i64 (mostT b k)) := by rw [← mostL_get (b := b) (i := k) (by omega)]; exact lcells k (by omega)
    have hb1 := sumN_bound (n := k) (f := mostT b) (B := 200) fun i _ => mostT_bound hk i
    have hb2 := mostT_bound hk k
    refine en_skip <| en_then <| en_seq <| en_block <| en_seq <| en_region <| ?_
    first | refine en_det (opT_idx1 rfl rfl (by omega) (by omega)) rfl ?_ | refine en_det (opT_idx (ks := 0) rfl rfl (by omega) (by omega)) rfl ?_
    first | refine en_det (opT_load_h rfl (by assumption)) rfl ?_ | refine en_det (opT_load_own rfl rfl) rfl ?_
    refine en_det (opT_assign rfl) rfl <| en_nil <| en_then <| en_region <| en_det (opT_move rfl) rfl <| en_det (opT_move rfl) rfl <| en_det (opT_add rfl rfl (by constructor <;> omega)) rfl <| en_det (opT_assign rfl) rfl <| en_nil <| en_blk <| en_then <| en_region <| en_det (opT_add rfl rfl (by constructor <;> omega)) rfl <| en_det (opT_move rfl) rfl <| en_nil <| en_then <| ?_
    exact en_again (k + 1) (by omega) (by omega) ⟨rfl, rfl, rfl, rfl, rfl, rfl, rfl, rfl, gi rfl (by simp), trivial⟩ (.refl _) inferInstance
  · skip
    obtain rfl : k = b.nt := by omega
    rw [show sumN b.nt (mostT b) = mostA b from rfl]
    have hr0 : 0 ≤ w % (b.nt : Int) := Int.emod_nonneg _ (by omega)
    have hr1 : w % (b.nt : Int) < b.nt := Int.emod_lt_of_pos _ (by omega)
    obtain ⟨t, ht0⟩ := Int.eq_ofNat_of_zero_le hr0
    rw [ht0] at hr1
    have ht : t < b.nt := by omega
    have haz := atD_in hk ht
    have hF := share_feas hk ht
    have hv0 := share_val b t
    have hmt := most_tray hk ht
    have hmb := mostT_bound hk t
    have hcl := fun s hs => (bdN_cut b t (s := s) hs) ▸ most_le hk ht s
    have hs32 := heldB_lt b wholeD t (allH b)
    have hce := most_eq hk ht
    rw [← bdN_cut b t hs32] at hce
    have hfm := fun X (f : Feas b t X) => f.most hk ht
    have hcm : cellH h4 lq (loff + t) = some (.int .i64 (mostT b t)) := by rw [← mostL_get (b := b) (i := t) (by omega)]; exact lcells t (by omega)
    refine en_exit <| en_then_exit <| en_then_exit <| en_blk_hit <| en_then <| en_seq <| en_region <| en_det (opT_move rfl) rfl <| en_det (opT_conv rfl (wrap_i64 (by constructor <;> omega))) rfl <| en_det (opT_fieldAddr rfl) rfl <| en_det (opT_load_own rfl rfl) rfl <| en_det (opT_len rfl) rfl <| en_det ((ht0 ▸ opT_remk rfl rfl (by omega) (by omega))) rfl <| en_det (opT_assign rfl) rfl <| en_nil <| en_then <| en_seq <| en_region <| ?_
    first | refine en_det (opT_loadW_own rfl rfl) rfl ?_ | refine en_det (opT_loadA_own rfl) rfl ?_
    refine en_det (opT_move rfl) rfl <| ?_
    refine en_call (share62_ct h4 _ _ b t B4) rfl rfl rfl rfl fun v h5 Γ' s5 hv => ?_
    obtain ⟨rfl, ⟨_, sv, rfl, hsv⟩ | ⟨hne, _⟩⟩ := hv
    case inr => exact absurd haz hne
    refine en_norm ?_
    rw [Int.toNat_natCast] at hsv
    have B5 := B4.mono s5
    have hse : shE b t b.nh (shB b wholeD t (allH b)).1 = 0 := by
      unfold shE
      rw [if_pos haz, if_pos rfl, Int.toNat_natCast, if_pos (hF.sh hk)]
    have cS := shared_ct h5 _ sv b t b.nh _ B5 hsv (by omega)
    rw [hse, if_pos rfl, hv0] at cS
    refine en_det (opT_move rfl) rfl <| en_det (opT_extract rfl rfl) rfl <| en_det (opT_extract rfl rfl) rfl <| en_det (opT_assign rfl) rfl <| en_det (opT_assign rfl) rfl <| en_nil <| en_then <| en_seq <| en_region <| ?_
    first | refine en_det (opT_loadW_own rfl rfl) rfl ?_ | refine en_det (opT_loadA_own rfl) rfl ?_
    refine en_det (opT_move rfl) rfl <| en_det (opT_move rfl) rfl <| ?_
    refine en_call cS rfl rfl rfl rfl fun v h6 Γ' s6 hv => ?_
    obtain ⟨rfl, rfl⟩ := hv
    refine en_norm ?_
    have B6 := B5.mono s6
    refine en_det (opT_move rfl) rfl <| en_det (opT_extract rfl rfl) rfl <| en_det (opT_extract rfl rfl) rfl <| en_det (opT_assign rfl) rfl <| en_det (opT_assign rfl) rfl <| en_nil <| en_then <| en_seq <| en_region <| ?_
    first | refine en_det (opT_loadW_own rfl rfl) rfl ?_ | refine en_det (opT_loadA_own rfl) rfl ?_
    refine en_det (opT_move rfl) rfl <| ?_
    refine en_call (cut_ct h6 _ _ b t B6) rfl rfl rfl rfl fun v h7 Γ' s7 hv => ?_
    obtain ⟨rfl, ⟨_, cv, rfl, hcv⟩ | ⟨hne, _⟩⟩ := hv
    case inr => exact absurd haz hne
    refine en_norm ?_
    rw [Int.toNat_natCast] at hcv
    have B7 := B6.mono s7
    have hbs := bits_set ⟨heldB b wholeD t (allH b), hs32⟩
    simp only at hbs
    have hbde : ∀ s, s < 32 → bdE b t (setI s) = 0 := fun s hs => by
      have := (bits_set ⟨s, hs⟩).2
      unfold bdE; rw [if_pos haz]; exact this
    have cB := bounds_ct h7 _ _ cv b t _ B7 hcv
    rw [hbde _ hs32, if_pos rfl, Int.toNat_natCast, hbs.1, ← hce] at cB
    have s47 := s5.trans (s6.trans s7)
    have hcm7 := cellH_sub s47 hcm
    have hrow : CellsH h7 tq (toff + t * 5) (trayL (b.tray t)) := (tcells.row ht).mono (s3.trans (s4.trans s47))
    have htr := fun m hm => hM.tr t m ht hm
    have z7 := z4.mono s47
    generalize mostT b t = M at hmt hmb hcl hfm hcm7 cB cS hcm hv0 ⊢
    refine en_det (opT_move rfl) rfl <| en_det (opT_extract rfl rfl) rfl <| en_det (opT_extract rfl rfl) rfl <| en_det (opT_assign rfl) rfl <| en_det (opT_assign rfl) rfl <| en_nil <| en_then <| en_seq <| en_region <| ?_
    first | refine en_det (opT_loadW_own rfl rfl) rfl ?_ | refine en_det (opT_loadA_own rfl) rfl ?_
    refine en_det (opT_move rfl) rfl <| en_det (opT_move rfl) rfl <| ?_
    refine en_call cB rfl rfl rfl rfl fun v h8 Γ' s8 hv => ?_
    obtain ⟨rfl, rfl⟩ := hv
    refine en_norm ?_
    have hcm8 := cellH_sub s8 hcm7
    have hrow := hrow.mono s8
    have B8 := B7.mono s8
    have z8 := z7.mono s8
    refine en_det (opT_move rfl) rfl <| en_det (opT_extract rfl rfl) rfl <| en_det (opT_extract rfl rfl) rfl <| en_det (opT_assign rfl) rfl <| en_det (opT_assign rfl) rfl <| en_nil <| en_then <| en_seq <| en_seq <| en_region <| en_det (opT_move rfl) rfl <| en_det (opT_move rfl) rfl <| en_det (opT_neq_f rfl rfl (by omega)) rfl <| en_det (opT_move rfl) rfl <| en_g_yes rfl rfl <| en_det (opT_move rfl) rfl <| en_g_yes rfl rfl <| en_det (opT_neq_f rfl rfl (by omega)) rfl <| ?_
    first | refine en_det (opT_pick_t rfl rfl) rfl ?_ | refine en_det (opT_pick_f rfl rfl) rfl ?_
    refine en_det (opT_move rfl) rfl <| en_g_yes rfl rfl <| en_det (opT_move rfl) rfl <| en_g_yes rfl rfl <| en_det (opT_neq_f rfl rfl (by omega)) rfl <| ?_
    first | refine en_det (opT_pick_t rfl rfl) rfl ?_ | refine en_det (opT_pick_f rfl rfl) rfl ?_
    refine en_det (opT_move rfl) rfl <| en_g_yes rfl rfl <| en_det (opT_move rfl) rfl <| en_g_yes rfl rfl <| en_det (opT_neq_f rfl rfl (by omega)) rfl <| ?_
    first | refine en_det (opT_pick_t rfl rfl) rfl ?_ | refine en_det (opT_pick_f rfl rfl) rfl ?_
    refine en_det (opT_move rfl) rfl <| en_g_yes rfl rfl <| en_det (opT_move rfl) rfl <| en_g_yes rfl rfl <| en_det (opT_neq_f rfl rfl (by omega)) rfl <| ?_
    first | refine en_det (opT_pick_t rfl rfl) rfl ?_ | refine en_det (opT_pick_f rfl rfl) rfl ?_
    refine en_det (opT_move rfl) rfl <| en_g_yes rfl rfl <| en_det (opT_move rfl) rfl <| en_g_yes rfl rfl <| en_det (opT_move rfl) rfl <| en_g_yes rfl rfl <| en_det (opT_move rfl) rfl <| en_g_yes rfl rfl <| ?_
    first | refine en_det (opT_idx1 rfl rfl (by omega) (by omega)) rfl ?_ | refine en_det (opT_idx (ks := 0) rfl rfl (by omega) (by omega)) rfl ?_
    refine en_g_yes rfl rfl <| ?_
    first | refine en_det (opT_load_h rfl (by assumption)) rfl ?_ | refine en_det (opT_load_own rfl rfl) rfl ?_
    refine en_g_yes rfl rfl <| en_det (opT_neq_f rfl rfl (by omega)) rfl <| ?_
    first | refine en_det (opT_pick_t rfl rfl) rfl ?_ | refine en_det (opT_pick_f rfl rfl) rfl ?_
    refine en_det (opT_move rfl) rfl <| en_g_yes rfl rfl <| en_det (opT_move rfl) rfl <| en_g_yes rfl rfl <| en_det (opT_move rfl) rfl <| en_g_yes rfl rfl <| en_det (opT_move rfl) rfl <| en_g_yes rfl rfl <| ?_
    first | refine en_det (opT_idx1 rfl rfl (by omega) (by omega)) rfl ?_ | refine en_det (opT_idx (ks := 0) rfl rfl (by omega) (by omega)) rfl ?_
    refine en_g_yes rfl rfl <| ?_
    first | refine en_det (opT_load_h rfl (by assumption)) rfl ?_ | refine en_det (opT_load_own rfl rfl) rfl ?_
    refine en_g_yes rfl rfl <| en_det (opT_neq_f rfl rfl (by omega)) rfl <| ?_
    first | refine en_det (opT_pick_t rfl rfl) rfl ?_ | refine en_det (opT_pick_f rfl rfl) rfl ?_
    refine en_det (opT_move rfl) rfl <| en_g_yes rfl rfl <| en_det (opT_move rfl) rfl <| en_g_yes rfl rfl <| en_det (opT_fieldAddr rfl) rfl <| en_g_yes rfl rfl <| en_det (opT_load_own rfl rfl) rfl <| en_g_yes rfl rfl <| en_det (opT_move rfl) rfl <| en_g_yes rfl rfl <| ?_
    first | refine en_det (opT_idx1 rfl rfl (by omega) (by omega)) rfl ?_ | refine en_det (opT_idx (ks := 0) rfl rfl (by omega) (by omega)) rfl ?_
    refine en_g_yes rfl rfl <| en_det (opT_loadA_h rfl hrow (row_length _ _)) rfl <| en_g_yes rfl rfl <| en_calld (sum40_ct h8 (b.tray t) (fun m hm => by have := htr m hm; omega)) rfl rfl rfl rfl <| en_g_yes rfl rfl <| en_det (opT_gtr_f rfl rfl (by omega)) rfl <| ?_
    first | refine en_det (opT_pick_t rfl rfl) rfl ?_ | refine en_det (opT_pick_f rfl rfl) rfl ?_
    refine en_nil <| en_then <| en_cond_f rfl <| en_skip <| en_then <| en_seq <| en_seq <| en_region <| en_det (opT_move rfl) rfl <| en_nil <| en_then <| en_block <| ?_
    refine en_loop (fun x : Nat × Heap => x.1 ≤ 4 ∧ h8.sub x.2) (fun x => [(7, pt b7), (8, pt c2), (15, .int .i64 t), (17, .int .i64 M), (136, .int .i64 x.1)]) (fun x => x.2) (fun _ => [Chute c2 v2 y2.length, box b7 26 [.slice (some ⟨tq, toff, none⟩) b.nt tcp, .slice had b.nh hcp]]) (fun x => 4 - x.1) (0, h8) ⟨by simp, .refl _⟩ ⟨rfl, rfl, rfl, rfl, rfl, trivial⟩ (.refl _) inferInstance fun x hx => ?_
    obtain ⟨j, h9⟩ := x
    obtain ⟨hj, s9⟩ := hx
    simp only at hj s9
    change En _ _ _ [(7, pt b7), (8, pt c2), (15, .int .i64 t), (17, .int .i64 M), (136, .int .i64 j)] h9 [Chute c2 v2 y2.length, box b7 26 [.slice (some ⟨tq, toff, none⟩) b.nt tcp, .slice had b.nh hcp]]
    refine en_seq <| en_region <| ?_
    first | refine en_det (opT_lss_t rfl rfl (by omega)) rfl ?_ | refine en_det (opT_lss_f rfl rfl (by omega)) rfl ?_ | refine en_det (opT_lss rfl rfl) rfl ?_
    refine en_nil <| en_then <| en_seq <| ?_
    refine en_if rfl (fun hlt2 => ?_) (fun hlt2 => ?_)
    · skip
      have B9 := B8.mono s9
      refine en_skip <| en_then <| en_seq <| en_block <| en_seq <| en_draw0 [0, 1, 2, 3, 4, 5, 6, 7, 8, 9, 10, 11] (by kernel_rfl) (by decide +kernel) (by decide +kernel) (by decide) <| ?_
      first | refine dp_q rfl (opT_loadW_own rfl rfl) rfl rfl rfl ?_ | refine dp_q rfl (opT_loadA_own rfl) rfl rfl rfl ?_
      refine dp_p rfl (fun _ _ => opT_move rfl) rfl rfl rfl <| dp_p rfl (fun _ _ => opT_move rfl) rfl rfl rfl <| ?_
      first | refine dp_q rfl (opT_loadW_own rfl rfl) rfl rfl rfl ?_ | refine dp_q rfl (opT_loadA_own rfl) rfl rfl rfl ?_
      refine dp_p rfl (fun _ _ => opT_move rfl) rfl rfl rfl <| ?_
      refine dp_callq (tries_ct h9 c2 v2 y2 _ b t (z8.mono s9) B9 hk ht) rfl rfl rfl rfl rfl rfl rfl fun v h10 s10 hv => ?_; obtain ⟨X, hX, hFX⟩ := hv; have hxe : shE b t b.nh X = 0 := (by unfold shE; rw [if_pos haz, if_pos rfl, Int.toNat_natCast, if_pos (hFX.sh hk)]); have cX := shared_ct h10 _ v b t b.nh X (B9.mono s10) hX (by omega); rw [hxe, if_pos rfl] at cX; have hXm := hfm X hFX
      refine dp_callq cX rfl rfl rfl rfl rfl rfl rfl fun v' h11 s11 hv' => ?_; replace hv' : v' = .tuple #[.int .i64 (shV b X), .int .i64 0] := hv'; subst hv'
      refine dp_p rfl (fun _ _ => opT_move rfl) rfl rfl rfl <| dp_p rfl (fun _ _ => opT_extract rfl rfl) rfl rfl rfl <| dp_p rfl (fun _ _ => opT_extract rfl rfl) rfl rfl rfl <| dp_p rfl (fun _ _ => opT_assign rfl) rfl rfl rfl <| dp_p rfl (fun _ _ => opT_assign rfl) rfl rfl rfl <| dp_done0 <| en_then <| en_seq <| en_region <| en_det (opT_move rfl) rfl <| en_det (opT_neq_f rfl rfl (by omega)) rfl <| en_det (opT_move rfl) rfl <| en_g_yes rfl rfl <| en_det (opT_move rfl) rfl <| en_g_yes rfl rfl <| en_det (opT_move rfl) rfl <| en_g_yes rfl rfl <| en_det (opT_gtr_f rfl rfl (by omega)) rfl <| ?_
      first | refine en_det (opT_pick_t rfl rfl) rfl ?_ | refine en_det (opT_pick_f rfl rfl) rfl ?_
      refine en_nil <| en_then <| en_cond_f rfl <| en_skip <| en_blk <| en_then <| en_region <| en_det (opT_add rfl rfl (by constructor <;> omega)) rfl <| en_det (opT_move rfl) rfl <| en_nil <| en_then <| ?_
      exact en_again (j + 1, h11) ⟨by simp only; omega, s9.trans (s10.trans s11)⟩ (by simp only; omega) ⟨rfl, rfl, rfl, rfl, gi rfl (by simp), trivial⟩ (.refl _) inferInstance
    · skip
      refine en_exit <| en_then_exit <| en_then_exit <| en_blk_hit <| en_then <| en_seq <| en_seq <| en_region <| en_det (opT_move rfl) rfl <| en_nil <| en_then <| en_block <| ?_
      refine en_loop (fun x : Nat × Heap => x.1 ≤ 32 ∧ h9.sub x.2) (fun x => [(7, pt b7), (15, .int .i64 t), (17, .int .i64 M), (156, .int .i64 x.1)]) (fun x => x.2) (fun _ => [Chute c2 v2 y2.length, box b7 26 [.slice (some ⟨tq, toff, none⟩) b.nt tcp, .slice had b.nh hcp]]) (fun x => 32 - x.1) (0, h9) ⟨by simp, .refl _⟩ ⟨rfl, rfl, rfl, rfl, trivial⟩ (.refl _) inferInstance fun x hx => ?_
      obtain ⟨s, h10⟩ := x
      obtain ⟨hs, s10⟩ := hx
      simp only at hs s10
      change En _ _ _ [(7, pt b7), (15, .int .i64 t), (17, .int .i64 M), (156, .int .i64 s)] h10 [Chute c2 v2 y2.length, box b7 26 [.slice (some ⟨tq, toff, none⟩) b.nt tcp, .slice had b.nh hcp]]
      refine en_seq <| en_region <| ?_
      first | refine en_det (opT_lss_t rfl rfl (by omega)) rfl ?_ | refine en_det (opT_lss_f rfl rfl (by omega)) rfl ?_ | refine en_det (opT_lss rfl rfl) rfl ?_
      refine en_nil <| en_then <| en_seq <| ?_
      refine en_if rfl (fun hlt3 => ?_) (fun hlt3 => ?_)
      · skip
        have hsl : s < 32 := by omega
        have hbs2 := (bits_set ⟨s, hsl⟩).1
        simp only at hbs2
        have hle := hcl s hsl
        have B10 := B8.mono (s9.trans s10)
        have hbd := hbde s hsl
        have cBs := fun v h11 (s11 : h10.sub h11) hv => bounds_ct h11 _ _ v b t (setI s) (B10.mono s11) hv
        simp only [hbd, if_true, Int.toNat_natCast, hbs2] at cBs
        generalize bdN b t s = N at hle cBs
        refine en_skip <| en_then <| en_seq <| en_block <| en_seq <| en_region <| en_det (opT_move rfl) rfl <| en_det (opT_assign rfl) rfl <| en_nil <| en_then <| en_seq <| en_draw0 [0, 1, 2, 3, 4, 5, 6, 7, 8, 9] (by kernel_rfl) (by decide +kernel) (by decide +kernel) (by decide) <| ?_
        first | refine dp_q rfl (opT_loadW_own rfl rfl) rfl rfl rfl ?_ | refine dp_q rfl (opT_loadA_own rfl) rfl rfl rfl ?_
        refine dp_p rfl (fun _ _ => opT_move rfl) rfl rfl rfl <| dp_p rfl (fun _ _ => opT_move rfl) rfl rfl rfl <| ?_
        refine dp_callq (set43_ct h10 s hsl) rfl rfl rfl rfl rfl rfl rfl fun v h11 s11 hv => ?_
        refine dp_callq (cBs v h11 s11 hv) rfl rfl rfl rfl rfl rfl rfl fun v' h12 s12 hv' => ?_; replace hv' : v' = .tuple #[.int .i64 N, .int .i64 0] := hv'; subst hv'
        refine dp_p rfl (fun _ _ => opT_move rfl) rfl rfl rfl <| dp_p rfl (fun _ _ => opT_extract rfl rfl) rfl rfl rfl <| dp_p rfl (fun _ _ => opT_extract rfl rfl) rfl rfl rfl <| dp_p rfl (fun _ _ => opT_assign rfl) rfl rfl rfl <| dp_p rfl (fun _ _ => opT_assign rfl) rfl rfl rfl <| dp_done0 <| en_then <| en_seq <| en_region <| en_det (opT_move rfl) rfl <| en_det (opT_neq_f rfl rfl (by omega)) rfl <| en_det (opT_move rfl) rfl <| en_g_yes rfl rfl <| en_det (opT_move rfl) rfl <| en_g_yes rfl rfl <| en_det (opT_move rfl) rfl <| en_g_yes rfl rfl <| en_det (opT_lss_f rfl rfl (by omega)) rfl <| ?_
        first | refine en_det (opT_pick_t rfl rfl) rfl ?_ | refine en_det (opT_pick_f rfl rfl) rfl ?_
        refine en_nil <| en_then <| en_cond_f rfl <| en_skip <| en_blk <| en_then <| en_region <| en_det (opT_add rfl rfl (by constructor <;> omega)) rfl <| en_det (opT_move rfl) rfl <| en_nil <| en_then <| ?_
        exact en_again (s + 1, h12) ⟨by simp only; omega, s10.trans (s11.trans s12)⟩ (by simp only; omega) ⟨rfl, rfl, rfl, gi rfl (by simp), trivial⟩ (.refl _) inferInstance
      · skip
        refine en_exit <| en_then_exit <| en_then_exit <| en_blk_hit <| en_then <| en_seq <| en_region <| ?_
        refine en_call (awake_ct h10) rfl rfl rfl rfl fun v h11 Γ' s11 hv => ?_
        obtain ⟨rfl, rfl⟩ := hv
        refine en_norm ?_
        refine en_det (opT_assign rfl) rfl <| en_nil <| en_then <| en_ret <| ?_
        refine en_return (rs := [.tmp 6]) rfl (.cons (.tmp rfl) .nil) (s1.trans (s2.trans (s3.trans (s4.trans (s47.trans (s8.trans (s9.trans (s10.trans s11)))))))) (Γ1 := []) ⟨rfl, rfl⟩
end Go.Sx

/- BeltMost: whatever the input, the law answers true; no condition. -/
namespace Go.Proofs.Ytennphpnklkogaa
open Go.Sx Go.ChangeShapes Go.WideShapes Go.ChangeAt Go.RowKit
set_option maxRecDepth 100000
theorem own_none : ownKnob Try.prog.godebug = none := by kernel_rfl
theorem laid_out : laidOutB Try.prog = true := by kernel_rfl
theorem cells_u8 : Try.prog.cellsOf 5 = 1 := by kernel_rfl
theorem bytes_u8 : Try.prog.bytesOf 5 = 1 := by kernel_rfl
theorem law_lifted (os : Os) (started : os.Started) (H : Type) (enc : TypeId × Value → H) :
    ReturnsInHanded {} Try.checked os 11 .any (Rows.beltMostSpec.pre6 enc Try.prog Try.f11 Rows.beltMostRow.domain false) (Rows.beltMostSpec.post enc Try.prog Try.f11 false true false false) := by
  refine returnsInHanded_of_change_sized (C := Try.checked) own_none started (by kernel_rfl) Try.func11
    (ChangeSpec.witness6 (enc := enc) (C := Try.checked) false ⟨#[], #[.slice none 0 0, .slice none 0 0, .int .u8 0], []⟩ 8 (by kernel_rfl) (by kernel_rfl) (by kernel_rfl) (by kernel_rfl)) ?_
  intro W base args ds gs before hval0 hW _ hsz0 _
  have hsz : (DataW.weightsEach Try.prog (Try.f11.params.toList ++ Rows.beltMostSpec.plain.varTypes Try.prog) (ds ++ gs)).all (· ≤ reachBytes) = true := hsz0
  have hval : ∀ (j : Nat) t v, Try.f11.params[j]? = some t → args[j]? = some v → Value.okWide Try.prog W .any base t v := hval0
  clear hsz0 hval0
  have hW' := hW
  obtain ⟨p, q, hA0, hV, rfl, _, _⟩ := hW
  have hA : DataW.TrodAll enc Try.prog W 0 (fun _ => true) true Try.f11.params.toList args.toList ds p := hA0
  rw [Try.params11] at hA hval hsz
  obtain ⟨v1, vs1, d1, ds1, p1, q1, e1, rfl, rfl, h1, r1⟩ := trodAll_cons hA
  obtain ⟨v2, vs2, d2, ds2, p2, q2, rfl, rfl, rfl, h2, r2⟩ := trodAll_cons r1
  obtain ⟨v3, vs3, d3, ds3, p3, q3, rfl, rfl, rfl, h3, r3⟩ := trodAll_cons r2
  obtain ⟨rfl, rfl, rfl⟩ := trodAll_nil r3
  obtain rfl : args = #[v1, v2, v3] := by cases args; simp_all
  obtain ⟨y1, hy1⟩ := open_bytes Try.underlying22 Try.underlying5 cells_u8 bytes_u8 (hval 0 22 v1 rfl rfl) h1 (fun el sp hd => sized_slice hsz (j := 0) (t := 22) (e := 5) rfl (by simp [hd]) Try.underlying22)
  obtain ⟨y2, hy2⟩ := open_bytes Try.underlying22 Try.underlying5 cells_u8 bytes_u8 (hval 1 22 v2 rfl rfl) h2 (fun el sp hd => sized_slice hsz (j := 1) (t := 22) (e := 5) rfl (by simp [hd]) Try.underlying22)
  obtain ⟨w, rfl, rfl, rfl, hw⟩ := open_int Try.underlying5 (hval 2 5 v3 rfl rfl) h3
  have hw' : 0 ≤ w ∧ w ≤ 255 := by simpa [Lit.wf, IntKind.min, IntKind.max, IntKind.signed, IntKind.bits] using hw
  exact law_calls laid_out (by kernel_rfl) rfl ⟨4, rfl, Try.underlying4⟩ rfl hW' (Go.Sx.mostlaw_ct _ v1 v2 y1 y2 w hy1 hy2 hw')
theorem beltMost_holds : Rows.BeltMostSaid :=
  OpenClaim.holds_of_wide 11 Try.f11 rfl rfl rfl rfl rfl rfl rfl ⟨rfl, rfl, rfl, rfl, rfl⟩ rfl rfl rfl rfl rfl (by kernel_rfl) Try.func11 (by kernel_rfl)
    (of_decide_eq_true (by kernel_rfl)) (by unfold Func.isWrapper; first | (rw [if_pos (by decide +kernel)]; kernel_rfl) | (rw [if_neg (by decide +kernel)]; exact ⟨rfl, rfl⟩))
    (fun os started H enc _ => law_lifted os started H enc)
end Go.Proofs.Ytennphpnklkogaa
