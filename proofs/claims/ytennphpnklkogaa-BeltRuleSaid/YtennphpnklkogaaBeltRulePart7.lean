/- BeltRule: for every input the law answers true and its arguments read as before; no condition. Part 7 of 7: W48, W49, SepO, W50, RuleEnd. -/
import Derived.Test.YtennphpnklkogaaBeltRulePart6
set_option linter.unusedSimpArgs false
set_option linter.unusedVariables false
/- The reference: the rule, piece by piece. -/
namespace Go.Sx
open Go.Proofs
set_option maxRecDepth 100000
theorem app_out_set {n i j : Nat} {f : Nat → Nat → Int} {v : Int} {tail : List Value} (hi : i < n) (hj : j < 5) : (rows n 5 (icell f) ++ tail).set (i * 5 + j) (.int .i64 v) = rows n 5 (icell (upd2 f i j v)) ++ tail := by
  rw [List.set_append_left _ _ (by rw [rows_length]; exact row_lt hi hj), out_set hj]
theorem left_next {L0 : Nat → Nat → Int} {t m n : Nat} {x y : Nat → Int} (hm : m < 5) (h : ∀ j, j < 5 → y j = if j = m then x j + 1 else x j) : rows n 5 (icell (upd2 (leftF L0 t x 5) t m (L0 t m - x m - 1))) = rows n 5 (icell (leftF L0 t y 5)) := by
  refine rows_congr fun a b _ hb => ?_
  unfold icell
  congr 1
  unfold upd2 leftF
  have := h b hb
  by_cases h1 : a = t
  · subst h1
    by_cases h2 : b = m
    · subst h2; rw [if_pos rfl] at this; simp [hb, this]; omega
    · rw [if_neg h2] at this; simp [hb, this, h2]
  · simp [h1]
theorem heap_next {P0 : Nat → Nat → Int} {h' m n : Nat} {x y : Nat → Int} (hm : m < 5) (h : ∀ j, j < 5 → y j = if j = m then x j + 1 else x j) : rows n 5 (icell (upd2 (heapF P0 h' x 5) h' m (P0 h' m + x m + 1))) = rows n 5 (icell (heapF P0 h' y 5)) := by
  refine rows_congr fun a b _ hb => ?_
  unfold icell
  congr 1
  unfold upd2 heapF
  have := h b hb
  by_cases h1 : a = h'
  · subst h1
    by_cases h2 : b = m
    · subst h2; rw [if_pos rfl] at this; simp [hb, this]; omega
    · rw [if_neg h2] at this; simp [hb, this, h2]
  · simp [h1]
theorem left_same {L0 : Nat → Nat → Int} {t n : Nat} {x y : Nat → Int} (h : ∀ j, j < 5 → y j = x j) : rows n 5 (icell (leftF L0 t x 5)) = rows n 5 (icell (leftF L0 t y 5)) := by
  refine rows_congr fun a b _ hb => ?_
  unfold icell leftF; rw [h b hb]
theorem heap_same {P0 : Nat → Nat → Int} {t n : Nat} {x y : Nat → Int} (h : ∀ j, j < 5 → y j = x j) : rows n 5 (icell (heapF P0 t x 5)) = rows n 5 (icell (heapF P0 t y 5)) := by
  refine rows_congr fun a b _ hb => ?_
  unfold icell heapF; rw [h b hb]
theorem takD_zero {takes : Nat → Bool} {L : Nat → Int} (hl : ∀ m, m < 5 → 0 ≤ L m) : ∀ j, j < 5 → takD takes L ((0 : Nat) : Int) j = 0 := fun j hj => by
  have h1 : 0 ≤ sumN j (avD takes L) := sumN_nn fun i hi => (takD_bound (f := 0) (hl i (by omega))).2.2.2
  have h2 := (takD_bound (takes := takes) (f := 0) (hl j hj)).2.2.2
  unfold takD; simp only [Int.ofNat_zero]; omega
attribute [local irreducible] Code.wpIn wpListIn Exit.then Exit.inBlock BQ Again Hd St En OpT box blk RQ BQ0 fmap own Desk Chute
theorem runR_ct (h : Heap) (nh nt : Nat) (tv hv ov : Value) (T : Nat → Nat → Int) (H : Nat → HandD) (order : List Nat) (h5 : nh ≤ 1000) (hlt : ∀ x ∈ order, x < nh) (hlen : order.length ≤ 1000) (ok : ∀ i, i < nh → OKH (H i)) (hn0 : 0 < nt) (hnt : nt < 1000)
    (hT : IsTrays h tv nt T) (hH : IsHands h hv nh H) (ho : IsInts h ov (natsI order)) (hTb : ∀ i m, i < nt → m < 5 → 0 ≤ T i m ∧ T i m ≤ 60) :
    CT Try.prog 31 [.agg #[tv, hv], ov] h []
      (fun v h' Γ' => (∃ lv pv, v = .tuple #[lv, pv] ∧ IsTrays h' lv nt (ruleN H T order nt).1 ∧ IsTrays h' pv nh (ruleN H T order nt).2) ∧ Γ' = []) := by
  have hH0 := hH
  have hT0 := hT
  obtain ⟨rv, ⟨_, had, hcp, rfl, hm1, hc1, hp1⟩, hr⟩ := hH
  obtain ⟨_, tad, tcp, rfl, tm1, tc1, tp1⟩ := hT
  obtain ⟨iad, icp, rfl, hm2, hc2, hp2⟩ := ho.shape
  have hlenI : (natsI order).length = order.length := by simp [natsI]
  simp only [hlenI] at hm2 hp2
  have hnt' : (nt : Int) ≤ 1000 := by omega
  have hnh' : (nh : Int) ≤ 1000 := by omega
  refine ct_intro Try.func31 rfl rfl rfl rfl fun Φ => ?_
  refine en_seq <| en_region <| en_box rfl rfl rfl fun b2 => en_det (opT_assign rfl) rfl <| en_det (opT_assign rfl) rfl <| en_nil <| en_then <| en_seq <| en_region <| ?_
  refine en_op (opT_buildSlice (cs := []) rfl rfl (by kernel_rfl)) rfl fun _ _ _ _ ⟨b13, e1, e2, e3⟩ => ?_
  subst e1 e3; replace e2 := e2.symm; subst e2
  refine en_to_own 5 0 0 (by omega) (by omega) rfl ?_
  rw [show (List.take (0 * 5) ([] : List Value)) = [] from rfl]
  refine en_det (opT_fieldAddr rfl) rfl <| en_det (opT_load_own rfl rfl) rfl <| ?_
  refine en_op (opT_shape (opT_append (m := 0) (k := nt) (xs := []) (news := rows nt 5 (icell T)) (sz := 5) (e := 70) (v := .slice (some ⟨b13, 0, none⟩) 0 0) rfl rfl (src_h hT0) (one_ints _ _ _) (by omega) (by omega) (by omega))) rfl fun v16 _ _ _ hv16 => ?_
  obtain ⟨ad16, cp16, rfl, hmc, hcc, e1, rfl⟩ := hv16
  replace e1 := e1.symm; subst e1
  rw [Nat.zero_add, List.nil_append]
  refine en_det (opT_assign rfl) rfl <| en_nil <| en_then <| en_seq <| en_region <| en_det (opT_fieldAddr rfl) rfl <| en_det (opT_load_own rfl rfl) rfl <| en_det (opT_len rfl) rfl <| ?_
  refine en_op (opT_make (T := 56) (e := 70) (sz := 5) (by_ := 40) (z0 := .int .i64 0) (m := (nh : Int)) rfl (by decide) rfl (by omega) (by omega) (by omega)) rfl fun _ _ _ _ ⟨bh, e1, e2, e3⟩ => ?_
  subst e1 e3; replace e2 := e2.symm; subst e2
  rw [zero_rows, Int.toNat_natCast]
  refine en_pick (own 70 5 (.slice ad16 nt cp16) nt (rows nt 5 (icell T))) ?_
  refine en_own_box hn0 fun bl tail el htl _ => ?_
  subst el
  rw [List.length_append, rows_length] at htl
  refine en_keep [box bh 70 (rows nh 5 (icell fun _ _ => 0)), box bl 70 (rows nt 5 (icell T) ++ tail), box b2 59 [.slice tad nt tcp, .slice had nh hcp]] ?_
  refine en_det (opT_assign rfl) rfl <| en_nil <| en_then <| en_seq <| en_seq <| en_region <| en_det (opT_assign rfl) rfl <| en_nil <| en_then <| en_block <| ?_
  refine en_loop (fun t : Nat => t ≤ nt ∧ RInv nt nh (t * order.length) (ruleN H T order t).1 (ruleN H T order t).2) (fun t : Nat => [(1, .slice iad order.length icp), (2, pt b2), (6, .slice (some ⟨bl, 0, none⟩) nt cp16), (7, .slice (some ⟨bh, 0, none⟩) nh nh), (8, .int .i64 t)]) (fun _ => h) (fun t => [box bh 70 (rows nh 5 (icell (ruleN H T order t).2)), box bl 70 (rows nt 5 (icell (ruleN H T order t).1) ++ tail), box b2 59 [.slice tad nt tcp, .slice had nh hcp]]) (fun t => nt - t) 0 ⟨by omega, ⟨fun i m hi hm => hTb i m hi hm, fun i m _ _ => by simp [ruleN]⟩⟩ ⟨by rw [← hlenI]; rfl, rfl, rfl, rfl, rfl, trivial⟩ (.refl _) (tkAll _) fun t ⟨ht, hinv⟩ => ?_
  refine en_seq <| en_seq <| en_region <| en_det (opT_move rfl) rfl <| en_det (opT_move rfl) rfl <| en_det (opT_len rfl) rfl <| ?_
  first | refine en_det (opT_lss_t rfl rfl (by omega)) rfl ?_ | refine en_det (opT_lss_f rfl rfl (by omega)) rfl ?_ | refine en_det (opT_lss rfl rfl) rfl ?_
  refine en_nil <| en_then <| ?_
  refine en_if rfl (fun hlt1 => ?_) (fun hlt1 => ?_)
  · skip
    have htn : t < nt := by omega
    have hsucc := ruleN_succ H T order t
    unfold trayT at hsucc
    generalize ruleN H T order t = S0 at hinv hsucc ⊢
    refine en_skip <| en_then <| en_seq <| en_block <| en_seq <| en_region <| en_det (opT_assign rfl) rfl <| en_nil <| en_then <| en_block <| ?_
    refine en_loop (fun i : Nat => i ≤ order.length ∧ RInv nt nh (t * order.length + i) ((order.take i).foldl (handT H t) S0).1 ((order.take i).foldl (handT H t) S0).2) (fun i : Nat => [(1, .slice iad order.length icp), (2, pt b2), (6, .slice (some ⟨bl, 0, none⟩) nt cp16), (7, .slice (some ⟨bh, 0, none⟩) nh nh), (8, .int .i64 t), (9, .int .i64 i)]) (fun _ => h) (fun i => [box bh 70 (rows nh 5 (icell ((order.take i).foldl (handT H t) S0).2)), box bl 70 (rows nt 5 (icell ((order.take i).foldl (handT H t) S0).1) ++ tail), box b2 59 [.slice tad nt tcp, .slice had nh hcp]]) (fun i => order.length - i) 0 ⟨by omega, hinv⟩ ⟨rfl, rfl, rfl, rfl, rfl, rfl, trivial⟩ (.refl _) (tkAll _) fun i ⟨hi, hinv2⟩ => ?_
    refine en_seq <| en_seq <| en_region <| en_det (opT_move rfl) rfl <| en_det (opT_move rfl) rfl <| en_det (opT_len rfl) rfl <| ?_
    first | refine en_det (opT_lss_t rfl rfl (by omega)) rfl ?_ | refine en_det (opT_lss_f rfl rfl (by omega)) rfl ?_ | refine en_det (opT_lss rfl rfl) rfl ?_
    refine en_nil <| en_then <| ?_
    refine en_if rfl (fun hlt2 => ?_) (fun hlt2 => ?_)
    · skip
      have hil : i < order.length := by omega
      have hhn : order[i] < nh := hlt _ (List.getElem_mem hil)
      obtain ⟨hb, hoff, rfl, hcells⟩ := hp1 (by omega)
      obtain ⟨ib, ioff, rfl, hints⟩ := hp2 (by omega)
      have hgi := hints i hil
      have e1 : (natsI order)[i]'(by rw [hlenI]; exact hil) = ((order[i] : Nat) : Int) := by simp [natsI]
      rw [e1] at hgi
      have hnext : (order.take (i + 1)).foldl (handT H t) S0 = handT H t ((order.take i).foldl (handT H t) S0) order[i] := by
        rw [List.take_succ_eq_append_getElem hil, List.foldl_append]; rfl
      generalize order[i] = hd at hhn hgi hnext
      generalize (order.take i).foldl (handT H t) S0 = S1 at hinv2 hnext ⊢
      obtain ⟨l1, p1⟩ := S1
      simp only at hinv2
      have hfb := forceD_bound (ok hd hhn) t
      have hinv3 := hinv2.hand (ok hd hhn) htn hhn
      have hl1 : ∀ m, m < 5 → 0 ≤ l1 t m := fun m hm => (hinv2.l0 t m htn hm).1
      rw [← hnext] at hinv3
      rw [handT_closed hfb.1 hl1] at hnext
      have cF := forceR_ct h (.slice tad nt tcp) (.slice (some ⟨hb, hoff, none⟩) nh hcp) H nh hd t hH0 hhn (ok hd hhn) (by omega)
      have hc0 : 60 * ((t * order.length + i : Nat) + 1 : Int) ≤ 100000000 := by
        have : t * order.length ≤ 1000 * 1000 := Nat.mul_le_mul (by omega) hlen
        omega
      have eL0 : rows nt 5 (icell l1) = rows nt 5 (icell (leftF l1 t (takD (H hd).takes (l1 t) ((0 : Nat) : Int)) 5)) := rows_congr fun a b _ hb => by
        unfold icell leftF; rw [takD_zero hl1 b hb]; simp
      have eP0 : rows nh 5 (icell p1) = rows nh 5 (icell (heapF p1 hd (takD (H hd).takes (l1 t) ((0 : Nat) : Int)) 5)) := rows_congr fun a b _ hb => by
        unfold icell heapF; rw [takD_zero hl1 b hb]; simp
      simp only
      rw [eL0, eP0]
      refine en_skip <| en_then <| en_seq <| en_block <| en_seq <| en_region <| en_det (opT_move rfl) rfl <| en_det (opT_move rfl) rfl <| ?_
      first | refine en_det (opT_idx1 rfl rfl (by omega) (by omega)) rfl ?_ | refine en_det (opT_idx (ks := 0) rfl rfl (by omega) (by omega)) rfl ?_
      first | refine en_det (opT_load_h rfl (by assumption)) rfl ?_ | refine en_det (opT_load_own rfl rfl) rfl ?_
      refine en_det (opT_assign rfl) rfl <| en_nil <| en_then <| en_seq <| en_region <| en_det (opT_assign rfl) rfl <| en_nil <| en_then <| en_block <| ?_
      refine en_loop (fun x : Nat => (x : Int) ≤ forceD (H hd) t) (fun x : Nat => [(1, .slice (some ⟨ib, ioff, none⟩) order.length icp), (2, pt b2), (6, .slice (some ⟨bl, 0, none⟩) nt cp16), (7, .slice (some ⟨bh, 0, none⟩) nh nh), (8, .int .i64 t), (9, .int .i64 i), (10, .int .i64 hd), (11, .int .i64 x)]) (fun _ => h) (fun x => [box bh 70 (rows nh 5 (icell (heapF p1 hd (takD (H hd).takes (l1 t) (x : Int)) 5))), box bl 70 (rows nt 5 (icell (leftF l1 t (takD (H hd).takes (l1 t) (x : Int)) 5)) ++ tail), box b2 59 [.slice tad nt tcp, .slice (some ⟨hb, hoff, none⟩) nh hcp]]) (fun x => (forceD (H hd) t).toNat - x) 0 (by simpa using hfb.1) ⟨rfl, rfl, rfl, rfl, rfl, rfl, rfl, rfl, trivial⟩ (.refl _) (tkAll _) fun x hx => ?_
      refine en_seq <| en_seq <| en_region <| en_det (opT_move rfl) rfl <| en_det (opT_loadW_own rfl rfl) rfl <| en_det (opT_move rfl) rfl <| en_det (opT_move rfl) rfl <| en_calld (cF) rfl rfl rfl rfl <| ?_
      first | refine en_det (opT_lss_t rfl rfl (by omega)) rfl ?_ | refine en_det (opT_lss_f rfl rfl (by omega)) rfl ?_ | refine en_det (opT_lss rfl rfl) rfl ?_
      refine en_nil <| en_then <| ?_
      refine en_if rfl (fun hlt3 => ?_) (fun hlt3 => ?_)
      · skip
        refine en_skip <| en_then <| en_seq <| en_block <| en_seq <| en_region <| en_det (opT_assign rfl) rfl <| en_nil <| en_then <| en_block <| ?_
        refine en_loop (fun m : Nat => m ≤ 5 ∧ ∀ j, j < m → ¬ ((H hd).takes j = true ∧ 0 < l1 t j - takD (H hd).takes (l1 t) x j)) (fun m : Nat => [(1, .slice (some ⟨ib, ioff, none⟩) order.length icp), (2, pt b2), (6, .slice (some ⟨bl, 0, none⟩) nt cp16), (7, .slice (some ⟨bh, 0, none⟩) nh nh), (8, .int .i64 t), (9, .int .i64 i), (10, .int .i64 hd), (11, .int .i64 x), (12, .int .i64 m)]) (fun _ => h) (fun m => [box bh 70 (rows nh 5 (icell (heapF p1 hd (takD (H hd).takes (l1 t) (x : Int)) 5))), box bl 70 (rows nt 5 (icell (leftF l1 t (takD (H hd).takes (l1 t) (x : Int)) 5)) ++ tail), box b2 59 [.slice tad nt tcp, .slice (some ⟨hb, hoff, none⟩) nh hcp]]) (fun m => 5 - m) 0 ⟨by omega, fun j hj => by omega⟩ ⟨rfl, rfl, rfl, rfl, rfl, rfl, rfl, rfl, rfl, trivial⟩ (.refl _) (tkAll _) fun m ⟨hm, hno⟩ => ?_
        refine en_seq <| en_seq <| en_region <| en_det (opT_move rfl) rfl <| ?_
        first | refine en_det (opT_lss_t rfl rfl (by omega)) rfl ?_ | refine en_det (opT_lss_f rfl rfl (by omega)) rfl ?_ | refine en_det (opT_lss rfl rfl) rfl ?_
        refine en_nil <| en_then <| ?_
        refine en_if rfl (fun hlt4 => ?_) (fun hlt4 => ?_)
        · skip
          have hm5 : m < 5 := by omega
          have hce := hcells.cell hhn (by omega : m < 9)
          have hcv : hcell (H hd) (rv hd) m = .bool ((H hd).takes m) := by simp [hcell, hm5]
          rw [hcv] at hce
          have htb := takD_bound (takes := (H hd).takes) (f := (x : Int)) (hl1 m hm5)
          have hl0 := hinv2.l0 t m htn hm5
          have hh0 := hinv2.h0 hd m hhn hm5
          have hgL : (rows nt 5 (icell (leftF l1 t (takD (H hd).takes (l1 t) (x : Int)) 5)) ++ tail)[t * 5 + m]? = some (.int .i64 (l1 t m - takD (H hd).takes (l1 t) x m)) := by
            rw [app_get (out_get htn hm5)]; simp [leftF, hm5]
          have hgP : (rows nh 5 (icell (heapF p1 hd (takD (H hd).takes (l1 t) (x : Int)) 5)))[hd * 5 + m]? = some (.int .i64 (p1 hd m + takD (H hd).takes (l1 t) x m)) := by
            rw [out_get hhn hm5]; simp [heapF, hm5]
          have hlx := row_lt htn hm5
          skip
          cases htk : (H hd).takes m with
          | false =>
            rw [htk] at hce
            refine en_skip <| en_then <| en_seq <| en_block <| en_seq <| en_region <| en_det (opT_fieldAddr rfl) rfl <| en_det (opT_load_own rfl rfl) rfl <| en_det (opT_move rfl) rfl <| en_det (opT_move rfl) rfl <| ?_
            first | refine en_det (opT_idx1 rfl rfl (by omega) (by omega)) rfl ?_ | refine en_det (opT_idx (ks := 0) rfl rfl (by omega) (by omega)) rfl ?_
            refine en_det (opT_fieldAddr rfl) rfl <| en_det (opT_idxArr rfl rfl (by omega) (by omega)) rfl <| ?_
            first | refine en_det (opT_load_h rfl (by assumption)) rfl ?_ | refine en_det (opT_load_own rfl rfl) rfl ?_
            refine en_det (opT_move rfl) rfl <| en_g_no rfl rfl rfl <| en_g_no rfl rfl rfl <| en_g_no rfl rfl rfl <| en_g_no rfl rfl rfl <| en_g_no rfl rfl rfl <| en_g_no rfl rfl rfl <| en_g_no rfl rfl rfl <| ?_
            first | refine en_det (opT_pick_t rfl rfl) rfl ?_ | refine en_det (opT_pick_f rfl rfl) rfl ?_
            refine en_nil <| en_then <| en_cond_f rfl <| en_skip <| en_blk <| en_then <| en_region <| en_det (opT_move rfl) rfl <| en_det (opT_add rfl rfl (by constructor <;> omega)) rfl <| en_det (opT_assign rfl) rfl <| en_nil <| en_then <| ?_
            exact en_again (m + 1) ⟨by omega, fun j hj => by
              rcases Nat.lt_succ_iff_lt_or_eq.1 hj with h1 | rfl
              · exact hno j h1
              · rw [htk]; simp⟩ (by omega) ⟨rfl, rfl, rfl, rfl, rfl, rfl, rfl, rfl, gi rfl (by simp), trivial⟩ (.refl _) (tkAll _)
          | true =>
            rw [htk] at hce
            by_cases hpos : 0 < l1 t m - takD (H hd).takes (l1 t) x m
            · have hnx := taken_next (i := x) hl1 hno hm5 htk hpos
              have e8 := left_next (n := nt) (L0 := l1) (t := t) hm5 hnx
              have e9 := heap_next (n := nh) (P0 := p1) (h' := hd) hm5 hnx
              refine en_skip <| en_then <| en_seq <| en_block <| en_seq <| en_region <| en_det (opT_fieldAddr rfl) rfl <| en_det (opT_load_own rfl rfl) rfl <| en_det (opT_move rfl) rfl <| en_det (opT_move rfl) rfl <| ?_
              first | refine en_det (opT_idx1 rfl rfl (by omega) (by omega)) rfl ?_ | refine en_det (opT_idx (ks := 0) rfl rfl (by omega) (by omega)) rfl ?_
              refine en_det (opT_fieldAddr rfl) rfl <| en_det (opT_idxArr rfl rfl (by omega) (by omega)) rfl <| ?_
              first | refine en_det (opT_load_h rfl (by assumption)) rfl ?_ | refine en_det (opT_load_own rfl rfl) rfl ?_
              refine en_det (opT_move rfl) rfl <| en_g_yes rfl rfl <| en_det (opT_move rfl) rfl <| en_g_yes rfl rfl <| en_det (opT_move rfl) rfl <| en_g_yes rfl rfl <| en_det (opT_move rfl) rfl <| en_g_yes rfl rfl <| ?_
              first | refine en_det (opT_idx1 rfl rfl (by omega) (by omega)) rfl ?_ | refine en_det (opT_idx (ks := 0) rfl rfl (by omega) (by omega)) rfl ?_
              refine en_g_yes rfl rfl <| en_det (opT_idxArr rfl rfl (by omega) (by omega)) rfl <| en_g_yes rfl rfl <| en_det (opT_load_own rfl hgL) rfl <| en_g_yes rfl rfl <| en_det (opT_gtr_t rfl rfl (by omega)) rfl <| ?_
              first | refine en_det (opT_pick_t rfl rfl) rfl ?_ | refine en_det (opT_pick_f rfl rfl) rfl ?_
              refine en_nil <| en_then <| en_cond_t rfl <| en_seq <| en_draw0 [0, 1, 2, 3, 4, 5, 6, 7, 8, 9, 10, 11, 12] (by kernel_rfl) (by decide +kernel) (by decide +kernel) (by decide) <| dp_p rfl (fun _ _ => opT_move rfl) rfl rfl rfl <| dp_p rfl (fun _ _ => opT_move rfl) rfl rfl rfl <| dp_p rfl (fun _ _ => opT_move rfl) rfl rfl rfl <| dp_p rfl (fun _ _ => opT_move rfl) rfl rfl rfl <| dp_p rfl (fun _ _ => opT_move rfl) rfl rfl rfl <| dp_p rfl (fun _ _ => opT_move rfl) rfl rfl rfl <| ?_
              first | refine dp_p rfl (fun _ _ => opT_idx1 rfl rfl (by omega) (by omega)) rfl rfl rfl ?_ | refine dp_p rfl (fun _ _ => opT_idx (ks := 0) rfl rfl (by omega) (by omega)) rfl rfl rfl ?_
              refine dp_p rfl (fun _ _ => opT_idxArr rfl rfl (by omega) (by omega)) rfl rfl rfl <| dp_q rfl (opT_load_own rfl hgL) rfl rfl rfl <| dp_p rfl (fun _ _ => opT_sub rfl rfl (by constructor <;> omega)) rfl rfl rfl <| ?_
              first | refine dp_p rfl (fun _ _ => opT_idx1 rfl rfl (by omega) (by omega)) rfl rfl rfl ?_ | refine dp_p rfl (fun _ _ => opT_idx (ks := 0) rfl rfl (by omega) (by omega)) rfl rfl rfl ?_
              refine dp_p rfl (fun _ _ => opT_idxArr rfl rfl (by omega) (by omega)) rfl rfl rfl <| dp_td0 rfl (opT_store1s rfl rfl rfl (by rw [List.length_append, rows_length]; omega)) rfl rfl rfl rfl rfl <| dp_done0 <| ?_
              rw [app_out_set htn hm5, e8]
              refine en_then <| en_seq <| en_draw0 [0, 1, 2, 3, 4, 5, 6, 7, 8, 9, 10, 11, 12] (by kernel_rfl) (by decide +kernel) (by decide +kernel) (by decide) <| dp_p rfl (fun _ _ => opT_move rfl) rfl rfl rfl <| dp_p rfl (fun _ _ => opT_move rfl) rfl rfl rfl <| dp_p rfl (fun _ _ => opT_move rfl) rfl rfl rfl <| dp_p rfl (fun _ _ => opT_move rfl) rfl rfl rfl <| dp_p rfl (fun _ _ => opT_move rfl) rfl rfl rfl <| dp_p rfl (fun _ _ => opT_move rfl) rfl rfl rfl <| ?_
              first | refine dp_p rfl (fun _ _ => opT_idx1 rfl rfl (by omega) (by omega)) rfl rfl rfl ?_ | refine dp_p rfl (fun _ _ => opT_idx (ks := 0) rfl rfl (by omega) (by omega)) rfl rfl rfl ?_
              refine dp_p rfl (fun _ _ => opT_idxArr rfl rfl (by omega) (by omega)) rfl rfl rfl <| dp_q rfl (opT_load_own rfl hgP) rfl rfl rfl <| dp_p rfl (fun _ _ => opT_add rfl rfl (by constructor <;> omega)) rfl rfl rfl <| ?_
              first | refine dp_p rfl (fun _ _ => opT_idx1 rfl rfl (by omega) (by omega)) rfl rfl rfl ?_ | refine dp_p rfl (fun _ _ => opT_idx (ks := 0) rfl rfl (by omega) (by omega)) rfl rfl rfl ?_
              refine dp_p rfl (fun _ _ => opT_idxArr rfl rfl (by omega) (by omega)) rfl rfl rfl <| dp_td0 rfl (opT_store1s rfl rfl rfl (by rw [rows_length]; exact row_lt hhn hm5)) rfl rfl rfl rfl rfl <| dp_done0 <| ?_
              rw [out_set hm5, e9]
              refine en_then <| en_exit <| en_blk_miss rfl <| en_then_exit <| en_then_exit <| en_blk_hit <| en_blk <| en_then <| en_region <| en_det (opT_move rfl) rfl <| en_det (opT_add rfl rfl (by constructor <;> omega)) rfl <| en_det (opT_assign rfl) rfl <| en_nil <| en_then <| ?_
              exact en_again (x + 1) (by omega) (by omega) ⟨rfl, rfl, rfl, rfl, rfl, rfl, rfl, gi rfl (by simp), trivial⟩ (.refl _) (tkAll _)
            · skip
              refine en_skip <| en_then <| en_seq <| en_block <| en_seq <| en_region <| en_det (opT_fieldAddr rfl) rfl <| en_det (opT_load_own rfl rfl) rfl <| en_det (opT_move rfl) rfl <| en_det (opT_move rfl) rfl <| ?_
              first | refine en_det (opT_idx1 rfl rfl (by omega) (by omega)) rfl ?_ | refine en_det (opT_idx (ks := 0) rfl rfl (by omega) (by omega)) rfl ?_
              refine en_det (opT_fieldAddr rfl) rfl <| en_det (opT_idxArr rfl rfl (by omega) (by omega)) rfl <| ?_
              first | refine en_det (opT_load_h rfl (by assumption)) rfl ?_ | refine en_det (opT_load_own rfl rfl) rfl ?_
              refine en_det (opT_move rfl) rfl <| en_g_yes rfl rfl <| en_det (opT_move rfl) rfl <| en_g_yes rfl rfl <| en_det (opT_move rfl) rfl <| en_g_yes rfl rfl <| en_det (opT_move rfl) rfl <| en_g_yes rfl rfl <| ?_
              first | refine en_det (opT_idx1 rfl rfl (by omega) (by omega)) rfl ?_ | refine en_det (opT_idx (ks := 0) rfl rfl (by omega) (by omega)) rfl ?_
              refine en_g_yes rfl rfl <| en_det (opT_idxArr rfl rfl (by omega) (by omega)) rfl <| en_g_yes rfl rfl <| en_det (opT_load_own rfl hgL) rfl <| en_g_yes rfl rfl <| en_det (opT_gtr_f rfl rfl (by omega)) rfl <| ?_
              first | refine en_det (opT_pick_t rfl rfl) rfl ?_ | refine en_det (opT_pick_f rfl rfl) rfl ?_
              refine en_nil <| en_then <| en_cond_f rfl <| en_skip <| en_blk <| en_then <| en_region <| en_det (opT_move rfl) rfl <| en_det (opT_add rfl rfl (by constructor <;> omega)) rfl <| en_det (opT_assign rfl) rfl <| en_nil <| en_then <| ?_
              exact en_again (m + 1) ⟨by omega, fun j hj => by
                rcases Nat.lt_succ_iff_lt_or_eq.1 hj with h1 | rfl
                · exact hno j h1
                · exact fun hh => hpos hh.2⟩ (by omega) ⟨rfl, rfl, rfl, rfl, rfl, rfl, rfl, rfl, gi rfl (by simp), trivial⟩ (.refl _) (tkAll _)
        · skip
          obtain rfl : m = 5 := by omega
          have hnx := taken_none (i := x) hl1 hno
          rw [left_same (n := nt) (L0 := l1) (t := t) hnx, heap_same (n := nh) (P0 := p1) (t := hd) hnx]
          refine en_exit <| en_then_exit <| en_then_exit <| en_blk_hit <| en_blk <| en_then <| en_region <| en_det (opT_move rfl) rfl <| en_det (opT_add rfl rfl (by constructor <;> omega)) rfl <| en_det (opT_assign rfl) rfl <| en_nil <| en_then <| ?_
          exact en_again (x + 1) (by omega) (by omega) ⟨rfl, rfl, rfl, rfl, rfl, rfl, rfl, gi rfl (by simp), trivial⟩ (.refl _) (tkAll _)
      · skip
        have ex : (x : Int) = forceD (H hd) t := by omega
        rw [ex]
        have e6 := congrArg Prod.fst hnext
        have e7 := congrArg Prod.snd hnext
        simp only at e6 e7
        rw [← e6, ← e7]
        refine en_exit <| en_then_exit <| en_then_exit <| en_blk_hit <| en_blk <| en_then <| en_region <| en_det (opT_move rfl) rfl <| en_det (opT_add rfl rfl (by constructor <;> omega)) rfl <| en_det (opT_assign rfl) rfl <| en_nil <| en_then <| ?_
        exact en_again (i + 1) ⟨by omega, hinv3⟩ (by omega) ⟨rfl, rfl, rfl, rfl, rfl, gi rfl (by simp), trivial⟩ (.refl _) (tkAll _)
    · skip
      obtain rfl : i = order.length := by omega
      rw [List.take_length] at hinv2 ⊢
      rw [← hsucc] at hinv2 ⊢
      refine en_exit <| en_then_exit <| en_then_exit <| en_blk_hit <| en_blk <| en_then <| en_region <| en_det (opT_move rfl) rfl <| en_det (opT_add rfl rfl (by constructor <;> omega)) rfl <| en_det (opT_assign rfl) rfl <| en_nil <| en_then <| ?_
      refine en_again (t + 1) ⟨by omega, ?_⟩ (by omega) ⟨rfl, rfl, rfl, rfl, gi rfl (by simp), trivial⟩ (.refl _) (tkAll _)
      rw [Nat.add_mul, Nat.one_mul]; exact hinv2
  · skip
    obtain rfl : t = nt := by omega
    refine en_fzb fun h1 hs1 hb1 => ?_
    refine en_box_own (T := 70) (m := t) (cp := cp16) (sz := 5) (by omega) hcc (by rw [List.length_append, rows_length]; exact htl) (rows_length _ _ _) ?_
    refine en_freeze_own fun h2 hs2 hsl _ => ?_
    refine en_exit <| en_then_exit <| en_then_exit <| en_blk_hit <| en_then <| en_seq <| en_region <| en_det (opT_move rfl) rfl <| en_det (opT_move rfl) rfl <| en_det (opT_assign rfl) rfl <| en_det (opT_assign rfl) rfl <| en_nil <| en_then <| en_ret <| ?_
    refine en_return (rs := [.tmp 4, .tmp 5]) rfl (.cons (.tmp rfl) (.cons (.tmp rfl) .nil)) (hs1.trans hs2) (Γ1 := []) ⟨⟨_, _, rfl, hsl, SlH.mono hs2 (slH_box hb1 (rows_length _ _ _) (by omega))⟩, rfl⟩
end Go.Sx

/- The law's own helpers: which belts are big, the reference's belt, belts that are the same. -/
namespace Go.Sx
open Go.Proofs
set_option maxRecDepth 100000
def bigD (b : BeltD) : Bool := decide (10 < b.nt) || decide (7 < b.nh) || !(allI b.nh fun i => decide ((b.hand i).rests.length ≤ 10))
structure Tame (b : BeltD) : Prop where
  nt : b.nt ≤ 10
  nh : b.nh ≤ 7
  re : ∀ i, i < b.nh → (b.hand i).rests.length ≤ 10
theorem bigD_no {b : BeltD} (h : bigD b = false) : Tame b := by
  simp only [bigD, Bool.or_eq_false_iff, decide_eq_false_iff_not, Bool.not_eq_false', allI_iff, decide_eq_true_eq] at h
  exact ⟨by omega, by omega, h.2⟩
theorem Tame.small {b : BeltD} (h : Tame b) : Small b := ⟨by have := h.nt; omega, by have := h.nh; omega, fun i hi => by have := h.re i hi; omega⟩
theorem eg70 : Try.prog.eqGuardType Try.prog.depth 70 = false := by kernel_rfl
theorem tk5_take (H : HandD) (r : Value) : TakeAt (handL H r) 0 5 ((tk5 H).map Value.bool) := ⟨rfl, by rw [row_length]; omega⟩
attribute [local irreducible] Code.wpIn wpListIn Exit.then Exit.inBlock BQ Again Hd St En OpT box blk RQ BQ0 fmap own Desk Chute
theorem big_ct (h : Heap) (v : Value) (b : BeltD) (hb : IsBelt h v b) : CT Try.prog 24 [v] h [] (DetW (.bool (bigD b)) []) := by
  obtain ⟨tv, hv, rfl, ⟨_, tad, tcp, rfl, tm1, tc1, tp1⟩, rv, ⟨_, had, hcp, rfl, hm1, hc1, hp1⟩, hr⟩ := hb
  refine ct_intro Try.func24 rfl rfl rfl rfl fun Φ => ?_
  skip
  by_cases h1 : 10 < b.nt
  · have e : bigD b = true := by simp [bigD, h1]
    refine en_seq <| en_region <| en_box rfl rfl rfl fun b1 => en_det (opT_assign rfl) rfl <| en_nil <| en_then <| en_seq <| en_seq <| en_region <| en_det (opT_fieldAddr rfl) rfl <| en_det (opT_load_own rfl rfl) rfl <| en_det (opT_len rfl) rfl <| en_det (opT_gtr_t rfl rfl (by omega)) rfl <| en_det (opT_move rfl) rfl <| en_g_no rfl rfl rfl <| en_g_no rfl rfl rfl <| en_g_no rfl rfl rfl <| en_g_no rfl rfl rfl <| ?_
    first | refine en_det (opT_pick_t rfl rfl) rfl ?_ | refine en_det (opT_pick_f rfl rfl) rfl ?_
    refine en_nil <| en_then <| en_cond_t rfl <| en_seq <| en_region <| en_det (opT_assign rfl) rfl <| en_nil <| en_then <| en_ret <| en_then_ret <| ?_
    refine en_return (rs := [.tmp 2]) rfl (.cons (.tmp rfl) .nil) (.refl _) (Γ1 := []) ⟨by rw [e]; rfl, rfl⟩
  by_cases h2 : 7 < b.nh
  · have e : bigD b = true := by simp [bigD, h2]
    refine en_seq <| en_region <| en_box rfl rfl rfl fun b1 => en_det (opT_assign rfl) rfl <| en_nil <| en_then <| en_seq <| en_seq <| en_region <| en_det (opT_fieldAddr rfl) rfl <| en_det (opT_load_own rfl rfl) rfl <| en_det (opT_len rfl) rfl <| en_det (opT_gtr_f rfl rfl (by omega)) rfl <| en_det (opT_move rfl) rfl <| en_g_yes rfl rfl <| en_det (opT_fieldAddr rfl) rfl <| en_g_yes rfl rfl <| en_det (opT_load_own rfl rfl) rfl <| en_g_yes rfl rfl <| en_det (opT_len rfl) rfl <| en_g_yes rfl rfl <| en_det (opT_gtr_t rfl rfl (by omega)) rfl <| ?_
    first | refine en_det (opT_pick_t rfl rfl) rfl ?_ | refine en_det (opT_pick_f rfl rfl) rfl ?_
    refine en_nil <| en_then <| en_cond_t rfl <| en_seq <| en_region <| en_det (opT_assign rfl) rfl <| en_nil <| en_then <| en_ret <| en_then_ret <| ?_
    refine en_return (rs := [.tmp 2]) rfl (.cons (.tmp rfl) .nil) (.refl _) (Γ1 := []) ⟨by rw [e]; rfl, rfl⟩
  refine en_seq <| en_region <| en_box rfl rfl rfl fun b1 => en_det (opT_assign rfl) rfl <| en_nil <| en_then <| en_seq <| en_seq <| en_region <| en_det (opT_fieldAddr rfl) rfl <| en_det (opT_load_own rfl rfl) rfl <| en_det (opT_len rfl) rfl <| en_det (opT_gtr_f rfl rfl (by omega)) rfl <| en_det (opT_move rfl) rfl <| en_g_yes rfl rfl <| en_det (opT_fieldAddr rfl) rfl <| en_g_yes rfl rfl <| en_det (opT_load_own rfl rfl) rfl <| en_g_yes rfl rfl <| en_det (opT_len rfl) rfl <| en_g_yes rfl rfl <| en_det (opT_gtr_f rfl rfl (by omega)) rfl <| ?_
  first | refine en_det (opT_pick_t rfl rfl) rfl ?_ | refine en_det (opT_pick_f rfl rfl) rfl ?_
  refine en_nil <| en_then <| en_cond_f rfl <| en_skip <| en_then <| en_seq <| en_seq <| en_region <| en_det (opT_fieldAddr rfl) rfl <| en_det (opT_load_own rfl rfl) rfl <| en_det (opT_len rfl) rfl <| en_det (opT_move rfl) rfl <| en_nil <| en_then <| en_block <| ?_
  refine en_loop (fun k : Nat => k ≤ b.nh ∧ ∀ i, i < k → (b.hand i).rests.length ≤ 10) (fun k => [(1, pt b1), (16, .slice had b.nh hcp), (17, .int .i64 b.nh), (18, .int .i64 k)]) (fun _ => h) (fun _ => [box b1 26 [.slice tad b.nt tcp, .slice had b.nh hcp]]) (fun k => b.nh - k) 0 ⟨by omega, fun i hi => by omega⟩ ⟨rfl, rfl, rfl, rfl, trivial⟩ (.refl _) (tkAll _) fun k ⟨hk, hb⟩ => ?_
  refine en_seq <| en_region <| ?_
  first | refine en_det (opT_lss_t rfl rfl (by omega)) rfl ?_ | refine en_det (opT_lss_f rfl rfl (by omega)) rfl ?_ | refine en_det (opT_lss rfl rfl) rfl ?_
  refine en_nil <| en_then <| en_seq <| ?_
  refine en_if rfl (fun hlt => ?_) (fun hlt => ?_)
  · skip
    have hkl : k < b.nh := by omega
    obtain ⟨hq, hoff, rfl, hcells⟩ := hp1 (by omega)
    obtain ⟨rad, rcp, hre, rl, rc, rp⟩ := (hr k hkl).shape
    have hrow : CellsH h hq (hoff + k * 9) (handL (b.hand k) (rv k)) := hcells.row hkl
    rw [hre] at hrow
    skip
    by_cases hx : 10 < (b.hand k).rests.length
    · have e : bigD b = true := by
        have : (allI b.nh fun i => decide ((b.hand i).rests.length ≤ 10)) = false := allI_no hkl (by simpa using hx)
        simp [bigD, this]
      refine en_skip <| en_then <| en_seq <| en_block <| en_seq <| en_region <| ?_
      first | refine en_det (opT_idx1 rfl rfl (by omega) (by omega)) rfl ?_ | refine en_det (opT_idx (ks := 0) rfl rfl (by omega) (by omega)) rfl ?_
      refine en_det (opT_loadA_h rfl hrow (row_length _ _)) rfl <| en_alloc rfl fun b4 => ?_
      refine en_det0 (opT_storeW rfl rfl rfl rfl (one_handL _ _ _ _)) <| en_nil <| en_then <| en_seq <| en_region <| en_det (opT_fieldAddr rfl) rfl <| en_det (opT_load_own rfl rfl) rfl <| en_det (opT_len rfl) rfl <| en_det (opT_gtr_t rfl rfl (by omega)) rfl <| en_nil <| en_then <| en_cond_t rfl <| en_seq <| en_region <| en_det (opT_assign rfl) rfl <| en_nil <| en_then <| en_ret <| en_blk_ret <| en_then_ret <| en_then_ret <| en_blk_ret <| en_then_ret <| ?_
      refine en_return (rs := [.tmp 2]) rfl (.cons (.tmp rfl) .nil) (.refl _) (Γ1 := []) ⟨by rw [e]; rfl, rfl⟩
    · skip
      refine en_skip <| en_then <| en_seq <| en_block <| en_seq <| en_region <| ?_
      first | refine en_det (opT_idx1 rfl rfl (by omega) (by omega)) rfl ?_ | refine en_det (opT_idx (ks := 0) rfl rfl (by omega) (by omega)) rfl ?_
      refine en_det (opT_loadA_h rfl hrow (row_length _ _)) rfl <| en_alloc rfl fun b4 => ?_
      refine en_det0 (opT_storeW rfl rfl rfl rfl (one_handL _ _ _ _)) <| en_nil <| en_then <| en_seq <| en_region <| en_det (opT_fieldAddr rfl) rfl <| en_det (opT_load_own rfl rfl) rfl <| en_det (opT_len rfl) rfl <| en_det (opT_gtr_f rfl rfl (by omega)) rfl <| en_nil <| en_then <| en_cond_f rfl <| en_skip <| en_blk <| en_then <| en_region <| en_det (opT_add rfl rfl (by constructor <;> omega)) rfl <| en_det (opT_move rfl) rfl <| en_nil <| en_then <| ?_
      refine en_again (k + 1) ⟨by omega, fun i hi => ?_⟩ (by omega) ⟨rfl, rfl, rfl, gi rfl (by simp), trivial⟩ (.refl _) inferInstance
      rcases Nat.lt_succ_iff_lt_or_eq.1 hi with h3 | rfl
      · exact hb i h3
      · omega
  · skip
    obtain rfl : k = b.nh := by omega
    have e : bigD b = false := by
      have : (allI b.nh fun i => decide ((b.hand i).rests.length ≤ 10)) = true := allI_yes fun i hi => by simpa using hb i hi
      simp [bigD, this]; omega
    refine en_exit <| en_then_exit <| en_then_exit <| en_blk_hit <| en_then <| en_seq <| en_region <| en_det (opT_assign rfl) rfl <| en_nil <| en_then <| en_ret <| ?_
    refine en_return (rs := [.tmp 2]) rfl (.cons (.tmp rfl) .nil) (.refl _) (Γ1 := []) ⟨by rw [e]; rfl, rfl⟩
theorem trays34_ct (h : Heap) (v : Value) (n : Nat) (t : Nat → Nat → Int) (hv : IsTrays h v n t) (hn : n ≤ 1000) : CT Try.prog 34 [v] h [] (fun v' h' Γ' => IsTrays h' v' n t ∧ Γ' = []) := by
  obtain ⟨_, tad, tcp, rfl, tm1, tc1, tp1⟩ := hv
  refine ct_intro Try.func34 rfl rfl rfl rfl fun Φ => ?_
  refine en_seq <| en_region <| en_det (opT_assign rfl) rfl <| en_nil <| en_then <| en_seq <| en_region <| en_det (opT_assign rfl) rfl <| en_nil <| en_then <| en_seq <| en_seq <| en_region <| en_det (opT_move rfl) rfl <| en_det (opT_len rfl) rfl <| en_det (opT_move rfl) rfl <| en_nil <| en_then <| en_block <| ?_
  refine en_own_nil 70 5 ?_
  refine en_loop (fun x : Nat × Value => x.1 ≤ n) (fun x => [(3, x.2), (6, .slice tad n tcp), (7, .int .i64 n), (8, .int .i64 x.1)]) (fun _ => h) (fun x => [own 70 5 x.2 x.1 (rows x.1 5 (icell t))]) (fun x => n - x.1) (0, .slice none 0 0) (by simp) ⟨rfl, rfl, rfl, rfl, trivial⟩ (.refl _) (tkAll _) fun x hk => ?_
  obtain ⟨k, v⟩ := x
  change En _ _ _ [(3, v), (6, .slice tad n tcp), (7, .int .i64 n), (8, .int .i64 k)] h [own 70 5 v k (rows k 5 (icell t))]
  simp only at hk
  refine en_seq <| en_region <| ?_
  first | refine en_det (opT_lss_t rfl rfl (by omega)) rfl ?_ | refine en_det (opT_lss_f rfl rfl (by omega)) rfl ?_ | refine en_det (opT_lss rfl rfl) rfl ?_
  refine en_nil <| en_then <| en_seq <| ?_
  refine en_if rfl (fun hlt => ?_) (fun hlt => ?_)
  · skip
    have hkl : k < n := by omega
    obtain ⟨tq, toff, rfl, tcells⟩ := tp1 (by omega)
    have hrow : CellsH h tq (toff + k * 5) (trayL (t k)) := tcells.row hkl
    have e : rows k 5 (icell t) ++ trayL (t k) = rows (k + 1) 5 (icell t) := by rw [rows_succ]; rfl
    refine en_skip <| en_then <| en_seq <| en_block <| en_seq <| en_region <| ?_
    first | refine en_det (opT_idx1 rfl rfl (by omega) (by omega)) rfl ?_ | refine en_det (opT_idx (ks := 0) rfl rfl (by omega) (by omega)) rfl ?_
    refine en_det (opT_loadA_h rfl hrow (row_length _ _)) rfl <| en_alloc rfl fun b5 => ?_
    refine en_det0 (opT_storeW rfl rfl rfl rfl (one_trayL (t k))) <| en_nil <| en_then <| en_region <| en_det (opT_move rfl) rfl <| en_det (opT_loadW_own rfl (row_length _ _)) rfl <| ?_
    refine en_op (opT_buildSlice (cs := trayL (t k)) rfl rfl (by kernel_rfl)) rfl fun _ _ _ _ ⟨b14, e1, e2, e3⟩ => ?_
    subst e1 e3; replace e2 := e2.symm; subst e2
    refine en_app1 rfl rfl rfl rfl rfl rfl rfl (by omega) fun ad15 cp15 hm15 hc15 => ?_
    refine en_det (opT_assign rfl) rfl <| en_nil <| en_blk <| en_then <| en_region <| en_det (opT_add rfl rfl (by constructor <;> omega)) rfl <| en_det (opT_move rfl) rfl <| en_nil <| en_then <| ?_
    rw [e]
    exact en_again (k + 1, .slice ad15 (k + 1) cp15) (by simp only; omega) (by simp only; omega) ⟨rfl, rfl, rfl, gi rfl (by simp), trivial⟩ (.refl _) inferInstance
  · skip
    obtain rfl : k = n := by omega
    refine en_exit <| en_then_exit <| en_then_exit <| en_blk_hit <| en_then <| en_seq <| en_region <| en_det (opT_move rfl) rfl <| en_det (opT_assign rfl) rfl <| en_nil <| en_then <| en_ret <| ?_
    refine en_freeze_own fun h1 hs1 hsl _ => ?_
    refine en_return (rs := [.tmp 2]) rfl (.cons (.tmp rfl) .nil) hs1 (Γ1 := []) ⟨hsl, rfl⟩
theorem its_ct (h : Heap) (v : Value) (b : BeltD) (hb : IsBelt h v b) (hs : Small b) : CT Try.prog 25 [v] h [] (fun v' h' Γ' => IsBelt h' v' b ∧ Γ' = []) := by
  obtain ⟨tv, hv, rfl, hT, rv, ⟨_, had, hcp, rfl, hm1, hc1, hp1⟩, hr⟩ := hb
  have hT0 := hT
  obtain ⟨_, tad, tcp, rfl, tm1, tc1, tp1⟩ := hT
  have hnt := hs.nt
  have hnh := hs.nh
  refine ct_intro Try.func25 rfl rfl rfl rfl fun Φ => ?_
  refine en_seq <| en_region <| en_box rfl rfl rfl fun b1 => en_alloc rfl fun b2 => ?_
  refine en_nil <| en_then <| en_seq <| en_region <| en_det (opT_fieldAddr rfl) rfl <| en_det (opT_load_own rfl rfl) rfl <| ?_
  refine en_callq (trays34_ct h _ b.nt _ hT0 hnt) rfl rfl rfl rfl fun v8 h1 s1 hv8 => ?_
  have hv80 := hv8
  obtain ⟨_, ad8, cp8, rfl, _⟩ := hv8
  have o1 : ∀ q ∈ [.slice ad8 b.nt cp8, nilS], q.oneCell' = true := by simp [nilS, Value.oneCell']
  refine en_det (opT_build (cs := [(.slice ad8 b.nt cp8), nilS]) rfl (by kernel_rfl)) rfl <| en_alloc rfl fun b3 => ?_
  refine en_det0 (opT_storeW rfl rfl rfl rfl o1) <| en_nil <| en_then <| en_seq <| en_seq <| en_region <| en_det (opT_fieldAddr rfl) rfl <| en_det (opT_load_own rfl rfl) rfl <| en_det (opT_len rfl) rfl <| en_det (opT_move rfl) rfl <| en_nil <| en_then <| en_block <| ?_
  refine en_own_nil 127 9 ?_
  refine en_keep [own 127 9 (.slice none 0 0) 0 [], box b3 59 [(.slice ad8 b.nt cp8), nilS], box b2 59 [.slice none 0 0, .slice none 0 0]] ?_
  refine en_loop (fun x : Nat × Option Addr × Nat => x.1 ≤ b.nh ∧ x.1 ≤ x.2.2 ∧ x.2.2 ≤ 9223372036854775807) (fun x => [(2, pt b2), (3, pt b3), (11, .slice had b.nh hcp), (12, .int .i64 b.nh), (13, .int .i64 x.1)]) (fun _ => h1) (fun x => [own 127 9 (.slice x.2.1 x.1 x.2.2) x.1 (rows x.1 9 (fun i => hcell (b.hand i) (rv i))), box b3 59 [(.slice ad8 b.nt cp8), .slice x.2.1 x.1 x.2.2], box b2 59 [nilS, nilS]]) (fun x => b.nh - x.1) (0, none, 0) ⟨by simp, by simp, by simp⟩ ⟨rfl, rfl, rfl, rfl, rfl, trivial⟩ (.refl _) (tkAll _) fun x hx => ?_
  obtain ⟨k, ad, cp⟩ := x
  obtain ⟨hk, hc1', hc2'⟩ := hx
  simp only at hk hc1' hc2'
  change En _ _ _ [(2, pt b2), (3, pt b3), (11, .slice had b.nh hcp), (12, .int .i64 b.nh), (13, .int .i64 k)] h1 [own 127 9 (.slice ad k cp) k (rows k 9 (fun i => hcell (b.hand i) (rv i))), box b3 59 [(.slice ad8 b.nt cp8), .slice ad k cp], box b2 59 [nilS, nilS]]
  refine en_seq <| en_region <| ?_
  first | refine en_det (opT_lss_t rfl rfl (by omega)) rfl ?_ | refine en_det (opT_lss_f rfl rfl (by omega)) rfl ?_ | refine en_det (opT_lss rfl rfl) rfl ?_
  refine en_nil <| en_then <| en_seq <| ?_
  refine en_if rfl (fun hlt => ?_) (fun hlt => ?_)
  · skip
    have hkn : k < b.nh := by omega
    obtain ⟨hbb, hoff, rfl, hcells⟩ := hp1 (by omega)
    have hrow : CellsH h1 hbb (hoff + k * 9) (handL (b.hand k) (rv k)) := (hcells.row hkn).mono s1
    obtain ⟨rad, rcp, hre, _, _, _⟩ := (hr k hkn).shape
    have e : rows k 9 (fun i => hcell (b.hand i) (rv i)) ++ handL (b.hand k) (.slice rad (b.hand k).rests.length rcp) = rows (k + 1) 9 (fun i => hcell (b.hand i) (rv i)) := by rw [rows_succ, ← hre]
    rw [hre] at hrow
    refine en_skip <| en_then <| en_seq <| en_block <| en_seq <| en_region <| ?_
    first | refine en_det (opT_idx1 rfl rfl (by omega) (by omega)) rfl ?_ | refine en_det (opT_idx (ks := 0) rfl rfl (by omega) (by omega)) rfl ?_
    refine en_det (opT_loadA_h rfl hrow (row_length _ _)) rfl <| en_alloc rfl fun b5 => ?_
    refine en_det0 (opT_storeW rfl rfl rfl rfl (one_handL _ _ _ _)) <| en_nil <| en_then <| en_region <| en_det (opT_fieldAddr rfl) rfl <| en_det (opT_load_own (v := .slice ad k cp) rfl rfl) rfl <| en_det (opT_loadW_own rfl (row_length _ _)) rfl <| ?_
    refine en_op (opT_buildSlice (cs := handL (b.hand k) (.slice rad (b.hand k).rests.length rcp)) rfl rfl (by kernel_rfl)) rfl fun _ _ _ _ ⟨b20, e1, e2, e3⟩ => ?_
    subst e1 e3; replace e2 := e2.symm; subst e2
    refine en_app1 rfl rfl rfl rfl rfl rfl rfl (by omega) fun ad21 cp21 hm21 hc21 => ?_
    refine en_det (opT_fieldAddr rfl) rfl <| en_det0 (opT_store1 rfl rfl rfl) <| en_nil <| en_blk <| en_then <| en_region <| en_det (opT_add rfl rfl (by constructor <;> omega)) rfl <| en_det (opT_move rfl) rfl <| en_nil <| en_then <| ?_
    rw [e]
    exact en_again (k + 1, ad21, cp21) ⟨by simp only; omega, by simp only; omega, by simp only; omega⟩ (by simp only; omega) ⟨rfl, rfl, rfl, rfl, gi rfl (by simp), trivial⟩ (.refl _) inferInstance
  · skip
    obtain rfl : k = b.nh := by omega
    refine en_freeze_own fun h2 s2 hsl _ => ?_
    have o2 : ∀ q ∈ [(Value.slice ad8 b.nt cp8), .slice ad b.nh cp], q.oneCell' = true := by simp [Value.oneCell']
    refine en_exit <| en_then_exit <| en_then_exit <| en_blk_hit <| en_then <| en_seq <| en_region <| en_det (opT_loadW_own rfl rfl) rfl <| en_det0 (opT_storeW rfl rfl rfl rfl o2) <| en_nil <| en_then <| en_ret <| ?_
    refine en_return (rs := [.cell 2 59]) rfl (.cons (res_cellA rfl rfl) .nil) (s1.trans s2) (Γ1 := []) ⟨⟨_, _, rfl, hv80.mono s2, rv, hsl, fun i hi => (hr i hi).mono (s1.trans s2)⟩, rfl⟩
theorem alike33_ct (h : Heap) (v u : Value) (n1 n2 : Nat) (t1 t2 : Nat → Nat → Int) (hv : IsTrays h v n1 t1) (hu : IsTrays h u n2 t2) : CT Try.prog 33 [v, u] h [] (DetW (.bool (alikeT n1 t1 n2 t2)) []) := by
  obtain ⟨_, ad, cp, rfl, hl, hc, hp⟩ := hv
  obtain ⟨_, ad', cp', rfl, hl', hc', hp'⟩ := hu
  unfold alikeT
  refine ct_intro Try.func33 rfl rfl rfl rfl fun Φ => ?_
  skip
  by_cases hlen : n1 = n2
  · subst hlen
    rw [decide_eq_true rfl, Bool.true_and]
    refine en_seq <| en_region <| en_det (opT_assign rfl) rfl <| en_nil <| en_then <| en_seq <| en_seq <| en_region <| en_det (opT_move rfl) rfl <| en_det (opT_len rfl) rfl <| en_det (opT_move rfl) rfl <| en_det (opT_len rfl) rfl <| en_det (opT_neq_f rfl rfl (by omega)) rfl <| en_nil <| en_then <| en_cond_f rfl <| en_skip <| en_then <| en_seq <| en_seq <| en_region <| en_det (opT_move rfl) rfl <| en_det (opT_len rfl) rfl <| en_det (opT_move rfl) rfl <| en_nil <| en_then <| en_block <| ?_
    refine en_loop (fun k => k ≤ n1 ∧ ∀ i, i < k → decide (row5 (t1 i) = row5 (t2 i)) = true) (fun k : Nat => [(0, .slice ad n1 cp), (1, .slice ad' n1 cp'), (12, .slice ad n1 cp), (13, .int .i64 n1), (14, .int .i64 k)]) (fun _ => h) (fun _ => []) (fun k => n1 - k) 0 ⟨by omega, fun i hi => by omega⟩ ⟨rfl, rfl, rfl, rfl, rfl, trivial⟩ (.refl _) inferInstance fun k ⟨hk, heq⟩ => ?_
    refine en_seq <| en_region <| ?_
    first | refine en_det (opT_lss_t rfl rfl (by omega)) rfl ?_ | refine en_det (opT_lss_f rfl rfl (by omega)) rfl ?_ | refine en_det (opT_lss rfl rfl) rfl ?_
    refine en_nil <| en_then <| en_seq <| ?_
    refine en_if rfl (fun hlt => ?_) (fun hlt => ?_)
    · skip
      have hkl : k < n1 := by omega
      obtain ⟨b, off, rfl, hcc⟩ := hp (by omega)
      have hck := hcc.row hkl
      obtain ⟨b', off', rfl, hcc'⟩ := hp' (by omega)
      have hck' := hcc'.row hkl
      cases hx : decide (row5 (t1 k) ≠ row5 (t2 k)) with
      | false =>
        skip
        refine en_skip <| en_then <| en_seq <| en_block <| en_seq <| en_region <| en_det (opT_move rfl) rfl <| ?_
        first | refine en_det (opT_idx1 rfl rfl (by omega) (by omega)) rfl ?_ | refine en_det (opT_idx (ks := 0) rfl rfl (by omega) (by omega)) rfl ?_
        refine en_det (opT_loadA_h rfl hck rfl) rfl <| en_alloc rfl fun b6 => ?_
        refine en_det (opT_assign rfl) rfl <| en_det0 (opT_storeW rfl rfl rfl rfl (one_trayL (t1 k))) <| en_nil <| en_then <| en_seq <| en_draw0 [0, 1, 2, 3, 4, 5] (by kernel_rfl) (by decide +kernel) (by decide +kernel) (by decide) <| ?_
        first | refine dp_q rfl (opT_loadW_own rfl rfl) rfl rfl rfl ?_ | refine dp_q rfl (opT_loadA_own rfl) rfl rfl rfl ?_
        refine dp_p rfl (fun _ _ => opT_move rfl) rfl rfl rfl <| dp_p rfl (fun _ _ => opT_move rfl) rfl rfl rfl <| ?_
        first | refine dp_p rfl (fun _ _ => opT_idx1 rfl rfl (by omega) (by omega)) rfl rfl rfl ?_ | refine dp_p rfl (fun _ _ => opT_idx (ks := 0) rfl rfl (by omega) (by omega)) rfl rfl rfl ?_
        refine dp_q rfl (opT_loadA_h rfl hck' rfl) rfl rfl rfl <| dp_p rfl (fun _ _ => (hx ▸ opT_neArr (xs := row5 (t1 k)) (ys := row5 (t2 k)) (mk := Value.int .i64) (fun w dep a b => eq_ints (P := Try.prog) (e := 3) inferInstance w dep a b) eg70 rfl rfl rfl rfl)) rfl rfl rfl <| dp_done0 <| en_then <| en_cond_f rfl <| en_skip <| en_blk <| en_then <| en_region <| en_det (opT_add rfl rfl (by constructor <;> omega)) rfl <| en_det (opT_move rfl) rfl <| en_nil <| en_then <| ?_
        refine en_again (k + 1) ⟨by omega, fun i hi => ?_⟩ (by omega) ⟨rfl, rfl, rfl, rfl, gi rfl (by simp), trivial⟩ (.refl _) inferInstance
        rcases Nat.lt_succ_iff_lt_or_eq.1 hi with h3 | rfl
        · exact heq i h3
        · simpa using hx
      | true =>
        refine en_skip <| en_then <| en_seq <| en_block <| en_seq <| en_region <| en_det (opT_move rfl) rfl <| ?_
        first | refine en_det (opT_idx1 rfl rfl (by omega) (by omega)) rfl ?_ | refine en_det (opT_idx (ks := 0) rfl rfl (by omega) (by omega)) rfl ?_
        refine en_det (opT_loadA_h rfl hck rfl) rfl <| en_alloc rfl fun b6 => ?_
        refine en_det (opT_assign rfl) rfl <| en_det0 (opT_storeW rfl rfl rfl rfl (one_trayL (t1 k))) <| en_nil <| en_then <| en_seq <| en_draw0 [0, 1, 2, 3, 4, 5] (by kernel_rfl) (by decide +kernel) (by decide +kernel) (by decide) <| ?_
        first | refine dp_q rfl (opT_loadW_own rfl rfl) rfl rfl rfl ?_ | refine dp_q rfl (opT_loadA_own rfl) rfl rfl rfl ?_
        refine dp_p rfl (fun _ _ => opT_move rfl) rfl rfl rfl <| dp_p rfl (fun _ _ => opT_move rfl) rfl rfl rfl <| ?_
        first | refine dp_p rfl (fun _ _ => opT_idx1 rfl rfl (by omega) (by omega)) rfl rfl rfl ?_ | refine dp_p rfl (fun _ _ => opT_idx (ks := 0) rfl rfl (by omega) (by omega)) rfl rfl rfl ?_
        refine dp_q rfl (opT_loadA_h rfl hck' rfl) rfl rfl rfl <| dp_p rfl (fun _ _ => (hx ▸ opT_neArr (xs := row5 (t1 k)) (ys := row5 (t2 k)) (mk := Value.int .i64) (fun w dep a b => eq_ints (P := Try.prog) (e := 3) inferInstance w dep a b) eg70 rfl rfl rfl rfl)) rfl rfl rfl <| dp_done0 <| en_then <| en_cond_t rfl <| en_seq <| en_region <| en_det (opT_assign rfl) rfl <| en_nil <| en_then <| en_ret <| en_blk_ret <| en_then_ret <| en_then_ret <| en_blk_ret <| en_then_ret <| ?_
        have hne : (allI n1 fun i => decide (row5 (t1 i) = row5 (t2 i))) = false := by
          rw [← Bool.not_eq_true, allI_iff]
          intro hy; have := hy k hkl; simp at this hx; exact hx this
        refine en_return (rs := [.tmp 4]) rfl (.cons (.tmp rfl) .nil) (.refl _) ⟨by rw [hne]; rfl, rfl⟩
    · skip
      obtain rfl : k = n1 := by omega
      have he := allI_iff.2 heq
      refine en_exit <| en_then_exit <| en_then_exit <| en_blk_hit <| en_then <| en_seq <| en_region <| en_det (opT_assign rfl) rfl <| en_nil <| en_then <| en_ret <| ?_
      refine en_return (rs := [.tmp 4]) rfl (.cons (.tmp rfl) .nil) (.refl _) ⟨by rw [he]; rfl, rfl⟩
  · rw [decide_eq_false hlen, Bool.false_and]
    refine en_seq <| en_region <| en_det (opT_assign rfl) rfl <| en_nil <| en_then <| en_seq <| en_seq <| en_region <| en_det (opT_move rfl) rfl <| en_det (opT_len rfl) rfl <| en_det (opT_move rfl) rfl <| en_det (opT_len rfl) rfl <| en_det (opT_neq_t rfl rfl (by omega)) rfl <| en_nil <| en_then <| en_cond_t rfl <| en_seq <| en_region <| en_det (opT_assign rfl) rfl <| en_nil <| en_then <| en_ret <| en_then_ret <| ?_
    refine en_return (rs := [.tmp 4]) rfl (.cons (.tmp rfl) .nil) (.refl _) ⟨rfl, rfl⟩
theorem alikeT_self (n : Nat) (t : Nat → Nat → Int) : alikeT n t n t = true := by
  simp [alikeT, allI_iff]
theorem same_ct (h : Heap) (v u : Value) (b : BeltD) (hv : IsBelt h v b) (hu : IsBelt h u b) : CT Try.prog 38 [v, u] h [] (DetW (.bool true) []) := by
  obtain ⟨tv, hv, rfl, hT, rv, ⟨_, had, hcp, rfl, hm1, hc1, hp1⟩, hr⟩ := hv
  obtain ⟨tv2, hv2, rfl, hT2, rv2, ⟨_, had2, hcp2, rfl, hm2, hc2, hp2⟩, hr2⟩ := hu
  have cT := alike65_ct h tv tv2 b.nt b.nt b.tray b.tray hT hT2
  rw [alikeT_self] at cT
  refine ct_intro Try.func38 rfl rfl rfl rfl fun Φ => ?_
  refine en_seq <| en_region <| en_box rfl rfl rfl fun b2 => en_box rfl rfl rfl fun b3 => en_det (opT_assign rfl) rfl <| en_nil <| en_then <| en_seq <| en_seq <| en_region <| en_det (opT_fieldAddr rfl) rfl <| en_det (opT_load_own rfl rfl) rfl <| en_det (opT_fieldAddr rfl) rfl <| en_det (opT_load_own rfl rfl) rfl <| en_calld (cT) rfl rfl rfl rfl <| ?_
  first | refine en_det (opT_not_t rfl) rfl ?_ | refine en_det (opT_not_f rfl) rfl ?_ | refine en_det (opT_not rfl) rfl ?_
  refine en_det (opT_move rfl) rfl <| en_g_yes rfl rfl <| en_det (opT_fieldAddr rfl) rfl <| en_g_yes rfl rfl <| en_det (opT_load_own rfl rfl) rfl <| en_g_yes rfl rfl <| en_det (opT_len rfl) rfl <| en_g_yes rfl rfl <| en_det (opT_fieldAddr rfl) rfl <| en_g_yes rfl rfl <| en_det (opT_load_own rfl rfl) rfl <| en_g_yes rfl rfl <| en_det (opT_len rfl) rfl <| en_g_yes rfl rfl <| en_det (opT_neq_f rfl rfl (by omega)) rfl <| ?_
  first | refine en_det (opT_pick_t rfl rfl) rfl ?_ | refine en_det (opT_pick_f rfl rfl) rfl ?_
  refine en_nil <| en_then <| en_cond_f rfl <| en_skip <| en_then <| en_seq <| en_seq <| en_region <| en_det (opT_fieldAddr rfl) rfl <| en_det (opT_load_own rfl rfl) rfl <| en_det (opT_len rfl) rfl <| en_det (opT_move rfl) rfl <| en_nil <| en_then <| en_block <| ?_
  refine en_loop (fun k : Nat => k ≤ b.nh) (fun k => [(3, pt b3), (24, .slice had b.nh hcp), (25, .int .i64 b.nh), (26, .int .i64 k)]) (fun _ => h) (fun _ => [box b3 26 [tv2, .slice had2 b.nh hcp2], box b2 26 [tv, .slice had b.nh hcp]]) (fun k => b.nh - k) 0 (by omega) ⟨rfl, rfl, rfl, rfl, trivial⟩ (.refl _) (tkAll _) fun k hk => ?_
  refine en_seq <| en_region <| ?_
  first | refine en_det (opT_lss_t rfl rfl (by omega)) rfl ?_ | refine en_det (opT_lss_f rfl rfl (by omega)) rfl ?_ | refine en_det (opT_lss rfl rfl) rfl ?_
  refine en_nil <| en_then <| en_seq <| ?_
  refine en_if rfl (fun hlt => ?_) (fun hlt => ?_)
  · skip
    have hkl : k < b.nh := by omega
    obtain ⟨hq, hoff, rfl, hcells⟩ := hp1 (by omega)
    have hrow : CellsH h hq (hoff + k * 9) (handL (b.hand k) (rv k)) := hcells.row hkl
    obtain ⟨hq2, hoff2, rfl, hcells2⟩ := hp2 (by omega)
    have hrow2 : CellsH h hq2 (hoff2 + k * 9) (handL (b.hand k) (rv2 k)) := hcells2.row hkl
    have hone := List.all_eq_true.1 (one_handV (H := b.hand k) (hr k hkl).one)
    have hone2 := List.all_eq_true.1 (one_handV (H := b.hand k) (hr2 k hkl).one)
    have cA := alike48_ct h (rv k) (rv2 k) (b.hand k).rests (b.hand k).rests (hr k hkl) (hr2 k hkl)
    rw [decide_eq_true rfl] at cA
    have hx : decide (tk5 (b.hand k) ≠ tk5 (b.hand k)) = false := by simp
    have tk1 := tk5_take (b.hand k) (rv k)
    have tk2 := tk5_take (b.hand k) (rv2 k)
    refine en_skip <| en_then <| en_seq <| en_block <| en_seq <| en_region <| en_det (opT_move rfl) rfl <| ?_
    first | refine en_det (opT_idx1 rfl rfl (by omega) (by omega)) rfl ?_ | refine en_det (opT_idx (ks := 0) rfl rfl (by omega) (by omega)) rfl ?_
    refine en_det (opT_loadA_h rfl hrow (row_length _ _)) rfl <| en_alloc rfl fun b6 => ?_
    refine en_det (opT_assign rfl) rfl <| en_det0 (opT_storeW rfl rfl (row_length _ _) rfl hone) <| en_nil <| en_then <| en_seq <| en_region <| en_det (opT_fieldAddr rfl) rfl <| en_det (opT_load_own rfl rfl) rfl <| en_det (opT_move rfl) rfl <| ?_
    first | refine en_det (opT_idx1 rfl rfl (by omega) (by omega)) rfl ?_ | refine en_det (opT_idx (ks := 0) rfl rfl (by omega) (by omega)) rfl ?_
    refine en_det (opT_loadA_h rfl hrow2 (row_length _ _)) rfl <| en_alloc rfl fun b7 => ?_
    refine en_det0 (opT_storeW rfl rfl (row_length _ _) rfl hone2) <| en_nil <| en_then <| en_seq <| en_region <| en_det (opT_fieldAddr rfl) rfl <| en_det (opT_loadA_own (t := tk1) rfl) rfl <| en_det (opT_fieldAddr rfl) rfl <| en_det (opT_loadA_own (t := tk2) rfl) rfl <| en_det ((hx ▸ opT_neArr (xs := tk5 (b.hand k)) (ys := tk5 (b.hand k)) (mk := Value.bool) (fun w dep a b => eq_bools (P := Try.prog) (e := 4) inferInstance w dep a b) eg39 rfl rfl rfl rfl)) rfl <| en_det (opT_move rfl) rfl <| en_g_yes rfl rfl <| en_det (opT_fieldAddr rfl) rfl <| en_g_yes rfl rfl <| en_det (opT_load_own rfl rfl) rfl <| en_g_yes rfl rfl <| en_det (opT_fieldAddr rfl) rfl <| en_g_yes rfl rfl <| en_det (opT_load_own rfl rfl) rfl <| en_g_yes rfl rfl <| en_det (opT_neq_f rfl rfl (by omega)) rfl <| ?_
    first | refine en_det (opT_pick_t rfl rfl) rfl ?_ | refine en_det (opT_pick_f rfl rfl) rfl ?_
    refine en_det (opT_move rfl) rfl <| en_g_yes rfl rfl <| en_det (opT_fieldAddr rfl) rfl <| en_g_yes rfl rfl <| en_det (opT_load_own rfl rfl) rfl <| en_g_yes rfl rfl <| en_det (opT_fieldAddr rfl) rfl <| en_g_yes rfl rfl <| en_det (opT_load_own rfl rfl) rfl <| en_g_yes rfl rfl <| en_det (opT_neq_f rfl rfl (by omega)) rfl <| ?_
    first | refine en_det (opT_pick_t rfl rfl) rfl ?_ | refine en_det (opT_pick_f rfl rfl) rfl ?_
    refine en_det (opT_move rfl) rfl <| en_g_yes rfl rfl <| en_det (opT_fieldAddr rfl) rfl <| en_g_yes rfl rfl <| en_det (opT_load_own rfl rfl) rfl <| en_g_yes rfl rfl <| en_det (opT_fieldAddr rfl) rfl <| en_g_yes rfl rfl <| en_det (opT_load_own rfl rfl) rfl <| en_g_yes rfl rfl <| en_det (opT_neq_f rfl rfl (by omega)) rfl <| ?_
    first | refine en_det (opT_pick_t rfl rfl) rfl ?_ | refine en_det (opT_pick_f rfl rfl) rfl ?_
    refine en_det (opT_move rfl) rfl <| en_g_yes rfl rfl <| en_det (opT_fieldAddr rfl) rfl <| en_g_yes rfl rfl <| en_det (opT_load_own rfl rfl) rfl <| en_g_yes rfl rfl <| en_det (opT_fieldAddr rfl) rfl <| en_g_yes rfl rfl <| en_det (opT_load_own rfl rfl) rfl <| en_g_yes rfl rfl <| en_calld (cA) rfl rfl rfl rfl <| en_g_yes rfl rfl <| ?_
    first | refine en_det (opT_not_t rfl) rfl ?_ | refine en_det (opT_not_f rfl) rfl ?_ | refine en_det (opT_not rfl) rfl ?_
    first | refine en_det (opT_pick_t rfl rfl) rfl ?_ | refine en_det (opT_pick_f rfl rfl) rfl ?_
    refine en_nil <| en_then <| en_cond_f rfl <| en_skip <| en_blk <| en_then <| en_region <| en_det (opT_add rfl rfl (by constructor <;> omega)) rfl <| en_det (opT_move rfl) rfl <| en_nil <| en_then <| ?_
    exact en_again (k + 1) (by omega) (by omega) ⟨rfl, rfl, rfl, gi rfl (by simp), trivial⟩ (.refl _) inferInstance
  · skip
    refine en_exit <| en_then_exit <| en_then_exit <| en_blk_hit <| en_then <| en_seq <| en_region <| en_det (opT_assign rfl) rfl <| en_nil <| en_then <| en_ret <| ?_
    refine en_return (rs := [.tmp 4]) rfl (.cons (.tmp rfl) .nil) (.refl _) (Γ1 := []) ⟨rfl, rfl⟩
end Go.Sx

/- Effects of a drawn region that are not ordered: each that is ready may be the next. -/
namespace Go.Sx
section
variable {l : List Oper} {P : Program} {n : Nat} {rd : Option Nat} {Q : Exit → Act → World → Prop} {Φ : Fr}
def Alt (l : List Oper) (P : Program) (n : Nat) (rd : Option Nat) (Q : Exit → Act → World → Prop) (Φ : Fr) (td np : List Nat) (σ : Env) (h0 hc : Heap) (Γx : List HP) (e : Nat) : Prop :=
  ∃ (d : Option Nat) (op : Op) (ty : TypeId) (pos : String) (af : Array Edge) (C : Value → Heap → List HP → Prop), l[e]? = some ⟨d, op, ty, pos, af, none⟩ ∧ tame op = true ∧ OpT P n ⟨d, op, ty, pos, af, none⟩ σ hc Γx C ∧
    ∀ v h' Γ', hc.sub h' → C v h' Γ' → DP l P n rd Q Φ (td.erase e) np (consO d v σ) h0 [] h' Γ'
theorem alt_op {td np r : List Nat} {σ : Env} {h0 hc : Heap} {Γx : List HP} {e : Nat} {d : Option Nat} {op : Op} {ty : TypeId} {pos : String} {af : Array Edge} {C : Value → Heap → List HP → Prop}
    (ho : l[e]? = some ⟨d, op, ty, pos, af, none⟩) (t : OpT P n ⟨d, op, ty, pos, af, none⟩ σ hc Γx C) (hs : tame op = true) (hr : td.erase e = r)
    (H : ∀ v h' Γ', hc.sub h' → C v h' Γ' → DP l P n rd Q Φ r np (consO d v σ) h0 [] h' Γ') : Alt l P n rd Q Φ td np σ h0 hc Γx e :=
  ⟨d, op, ty, pos, af, C, ho, hs, t, by rw [hr]; exact H⟩
def AltAll (p : Nat → Prop) : List Nat → Prop
  | [] => True
  | e :: r => p e ∧ AltAll p r
theorem AltAll.mem {p : Nat → Prop} : ∀ {es : List Nat}, AltAll p es → ∀ e ∈ es, p e
  | _ :: _, ⟨a, b⟩, e, he => by
    rcases List.mem_cons.1 he with rfl | he
    · exact a
    · exact b.mem e he
theorem dp_alts {td np : List Nat} {σ : Env} {h0 hc : Heap} {Γx : List HP} (es : List Nat) (hσ : (σ.all fun p => Nat.blt p.1 n) = true) (htd : td ≠ []) (hc1 : (td.all fun k => es.contains k || td.any fun m => dirB l k m) = true) (hc2 : (es.all fun e => td.all fun k => !dirB l e k) = true)
    (H : AltAll (Alt l P n rd Q Φ td np σ h0 hc Γx) es) : DP l P n rd Q Φ td np σ h0 [] hc Γx := by
  have key : ∀ e, ∃ C : Value → Heap → List HP → Prop, e ∈ es → EffAt l P n rd Q e σ hc ([] ++ Γx) C ∧ ∀ v h' Γ', hc.sub h' → C v h' Γ' → DP l P n rd Q Φ (td.erase e) np (consO (dstOf l e) v σ) h0 [] h' Γ' := fun e => by
    by_cases he : e ∈ es
    · obtain ⟨d, op, ty, pos, af, C, ho, hs, t, hk⟩ := H.mem e he
      have hd : dstOf l e = d := by simp [dstOf, ho]
      exact ⟨C, fun _ => ⟨eff_of ho hs hσ t, by rw [hd]; exact hk⟩⟩
    · exact ⟨fun _ _ _ => True, fun h => absurd h he⟩
  refine .eff es htd hc1 hc2 (fun e => (key e).choose) (fun _ _ _ Γ' => Γ') (fun e he => ((key e).choose_spec he).1) (fun _ _ _ _ _ _ _ => .refl _) (fun e v h' Γ' he hs hC => ((key e).choose_spec he).2 v h' Γ' hs hC)
end
end Go.Sx

/- The law BeltRule: the walk. -/
namespace Go.Sx
open Go.Proofs
set_option maxRecDepth 100000
theorem belt_one {h : Heap} {tv hv : Value} {b : BeltD} (hb : IsBelt h (.agg #[tv, hv]) b) : ∀ q ∈ [tv, hv], q.oneCell' = true := by
  obtain ⟨⟨_, ad, cp, rfl, _⟩, ⟨rv, ⟨_, ad2, cp2, rfl, _⟩, _⟩⟩ := belt_parts hb
  simp [Value.oneCell']
theorem RunR.un {b : BeltD} {n : Nat} {T : Nat → Nat → Int} {v : Value} {h' : Heap} {Γ' : List HP} (r : RunR b n T v h' Γ') : Γ' = [] ∧ ∃ lv, v = .tuple #[lv, .int .i64 (checkD b)] ∧ (checkD b = 0 → IsTrays h' lv n T) ∧ (checkD b ≠ 0 → lv = nilS) := by
  obtain ⟨e, ⟨hz, lv, rfl, hl⟩ | ⟨hz, rfl⟩⟩ := r
  · exact ⟨e, lv, by rw [hz], fun _ => hl, fun h => absurd hz h⟩
  · exact ⟨e, _, rfl, fun h => absurd h hz, fun _ => rfl⟩
theorem WrongR.un {b : BeltD} {v : Value} {h' : Heap} {Γ' : List HP} (r : WrongR b v h' Γ') : Γ' = [] ∧ ∃ lv, v = .tuple #[lv, .int .i64 (checkD b)] ∧ (checkD b = 0 → IsInts h' lv (wrongL b)) ∧ (checkD b ≠ 0 → lv = nilS) := by
  obtain ⟨e, ⟨hz, lv, rfl, hl⟩ | ⟨hz, rfl⟩⟩ := r
  · exact ⟨e, lv, by rw [hz], fun _ => hl, fun h => absurd hz h⟩
  · exact ⟨e, _, rfl, fun h => absurd h hz, fun _ => rfl⟩
attribute [local irreducible] Code.wpIn wpListIn Exit.then Exit.inBlock BQ Again Hd St En OpT box blk RQ BQ0 fmap own Desk Chute
theorem rulelaw_ct (h0 : Heap) (v : Value) (b : BeltD) (hand tray : Int) (hb0 : IsBelt h0 v b) : CT Try.prog 5 [v, .int .i64 hand, .int .i64 tray] h0 [] (DetW (.bool true) []) := by
  obtain ⟨tv, hv, rfl, hT, hH⟩ := id hb0
  refine ct_intro Try.func5 rfl rfl rfl rfl fun Φ => ?_
  refine en_seq <| en_region <| en_box rfl rfl rfl fun b3 => en_det (opT_assign rfl) rfl <| en_nil <| en_then <| ?_
  refine en_fzb fun h s0 hbx => ?_
  have kb := cellsH_box hbx
  have k0 : cellH h b3 0 = some tv := cellH_box hbx rfl
  have k1 : cellH h b3 1 = some hv := cellH_box hbx rfl
  have hb := hb0.mono s0
  clear hT hH hb0
  have cB := big_ct h _ b hb
  refine en_seq <| en_seq <| en_region <| en_det (opT_loadA_h rfl kb rfl) rfl <| en_calld (cB) rfl rfl rfl rfl <| en_nil <| en_then <| ?_
  skip
  cases hbig : bigD b with
  | true =>
    refine en_cond_t rfl <| en_seq <| en_region <| en_calld (awake_ct h) rfl rfl rfl rfl <| en_det (opT_assign rfl) rfl <| en_nil <| en_then <| en_ret <| en_then_ret <| ?_
    refine en_return (rs := [.tmp 6]) rfl (.cons (.tmp rfl) .nil) s0 (Γ1 := []) ⟨rfl, rfl⟩
  | false =>
    have htm := bigD_no hbig
    have hsm := htm.small
    have hnt := htm.nt
    have hnh := htm.nh
    refine en_cond_f rfl <| en_skip <| en_then <| ?_
    refine en_meet (ι := Nat × Nat × Value × Value × Value × Value × Heap) (fun x => h.sub x.2.2.2.2.2.2 ∧ IsBelt x.2.2.2.2.2.2 (.agg #[x.2.2.1, x.2.2.2.1]) b ∧ IsBelt x.2.2.2.2.2.2 (.agg #[x.2.2.2.2.1, x.2.2.2.2.2.1]) b) (fun x => [(1, .int .i64 hand), (2, .int .i64 tray), (3, pt b3), (7, pt x.1), (8, pt x.2.1)]) (fun x => x.2.2.2.2.2.2) (fun x => [box x.1 26 [x.2.2.1, x.2.2.2.1], box x.2.1 59 [x.2.2.2.2.1, x.2.2.2.2.2.1]]) ?_ (fun x hx => ?_)
    · skip
      skip
      refine en_draw1 [0, 2, 1, 3, 4, 5, 6, 7] (by kernel_rfl) (by decide +kernel) (by decide +kernel) (by decide) ?_
      refine dp_q rfl (opT_loadA_h rfl kb rfl) rfl rfl rfl <| dp_q rfl (opT_loadA_h rfl kb rfl) rfl rfl rfl <| ?_
      refine dp_alts [1, 4, 5] rfl (by simp) rfl rfl ⟨alt_op rfl (opT_call rfl rfl rfl (cloneF_ct h _ b (hb.mono (.refl _)) hsm)) rfl rfl fun vo hw1 _ sw1 hC => ?_, alt_op rfl opT_alloc rfl rfl fun _ _ _ _ hC => ?_, alt_op rfl opT_alloc rfl rfl fun _ _ _ _ hC => ?_, trivial⟩
      · skip
        obtain ⟨_, ⟨hO, rfl⟩, rfl⟩ := hC
        refine dp_norm1 ?_
        refine dp_alts [3, 4, 5] rfl (by simp) rfl rfl ⟨alt_op rfl (opT_call rfl rfl rfl (its_ct hw1 _ b (hb.mono sw1) hsm)) rfl rfl fun vx hw2 _ sw2 hC => ?_, alt_op rfl opT_alloc rfl rfl fun _ _ _ _ hC => ?_, alt_op rfl opT_alloc rfl rfl fun _ _ _ _ hC => ?_, trivial⟩
        · skip
          obtain ⟨_, ⟨hX, rfl⟩, rfl⟩ := hC
          refine dp_norm1 ?_
          refine dp_alts [4, 5] rfl (by simp) rfl rfl ⟨alt_op rfl opT_alloc rfl rfl fun _ _ _ _ hC => ?_, alt_op rfl opT_alloc rfl rfl fun _ _ _ _ hC => ?_, trivial⟩
          · skip
            obtain ⟨b7, rfl, e2, rfl⟩ := hC
            replace e2 := e2.symm; subst e2
            refine dp_e1 rfl opT_alloc rfl rfl rfl rfl fun _ _ _ _ hC => ?_
            obtain ⟨b8, rfl, e2, rfl⟩ := hC
            replace e2 := e2.symm; subst e2
            have hO := hO.mono sw2
            obtain ⟨o1, o2, rfl, _, _⟩ := id hO
            obtain ⟨x1, x2, rfl, _, _⟩ := id hX
            refine dp_ed1 rfl (opT_storeW rfl rfl rfl rfl (belt_one hO)) rfl rfl rfl rfl <| dp_ed1 rfl (opT_storeW rfl rfl rfl rfl (belt_one hX)) rfl rfl rfl rfl <| dp_done1 ?_
            refine en_then <| ?_
            exact en_met (b7, b8, o1, o2, x1, x2, hw2) ⟨(sw1.trans sw2), hO, hX⟩ ⟨rfl, rfl, rfl, rfl, rfl, trivial⟩ (.refl _) inferInstance
          · skip
            obtain ⟨b8, rfl, e2, rfl⟩ := hC
            replace e2 := e2.symm; subst e2
            refine dp_e1 rfl opT_alloc rfl rfl rfl rfl fun _ _ _ _ hC => ?_
            obtain ⟨b7, rfl, e2, rfl⟩ := hC
            replace e2 := e2.symm; subst e2
            have hO := hO.mono sw2
            obtain ⟨o1, o2, rfl, _, _⟩ := id hO
            obtain ⟨x1, x2, rfl, _, _⟩ := id hX
            refine dp_ed1 rfl (opT_storeW rfl rfl rfl rfl (belt_one hO)) rfl rfl rfl rfl <| dp_ed1 rfl (opT_storeW rfl rfl rfl rfl (belt_one hX)) rfl rfl rfl rfl <| dp_done1 ?_
            refine en_then <| ?_
            exact en_met (b7, b8, o1, o2, x1, x2, hw2) ⟨(sw1.trans sw2), hO, hX⟩ ⟨rfl, rfl, rfl, rfl, rfl, trivial⟩ (.refl _) inferInstance
        · skip
          obtain ⟨b7, rfl, e2, rfl⟩ := hC
          replace e2 := e2.symm; subst e2
          refine dp_alts [3, 5] rfl (by simp) rfl rfl ⟨alt_op rfl (opT_call rfl rfl rfl (its_ct hw1 _ b (hb.mono sw1) hsm)) rfl rfl fun vx hw6 _ sw6 hC => ?_, alt_op rfl opT_alloc rfl rfl fun _ _ _ _ hC => ?_, trivial⟩
          · skip
            obtain ⟨_, ⟨hX, rfl⟩, rfl⟩ := hC
            refine dp_norm1 ?_
            refine dp_e1 rfl opT_alloc rfl rfl rfl rfl fun _ _ _ _ hC => ?_
            obtain ⟨b8, rfl, e2, rfl⟩ := hC
            replace e2 := e2.symm; subst e2
            have hO := hO.mono sw6
            obtain ⟨o1, o2, rfl, _, _⟩ := id hO
            obtain ⟨x1, x2, rfl, _, _⟩ := id hX
            refine dp_ed1 rfl (opT_storeW rfl rfl rfl rfl (belt_one hO)) rfl rfl rfl rfl <| dp_ed1 rfl (opT_storeW rfl rfl rfl rfl (belt_one hX)) rfl rfl rfl rfl <| dp_done1 ?_
            refine en_then <| ?_
            exact en_met (b7, b8, o1, o2, x1, x2, hw6) ⟨(sw1.trans sw6), hO, hX⟩ ⟨rfl, rfl, rfl, rfl, rfl, trivial⟩ (.refl _) inferInstance
          · skip
            obtain ⟨b8, rfl, e2, rfl⟩ := hC
            replace e2 := e2.symm; subst e2
            refine dp_e1 rfl (opT_call rfl rfl rfl (its_ct hw1 _ b (hb.mono sw1) hsm)) rfl rfl rfl rfl fun vx hw8 _ sw8 hC => ?_
            obtain ⟨_, ⟨hX, rfl⟩, rfl⟩ := hC
            refine dp_norm1 ?_
            have hO := hO.mono sw8
            obtain ⟨o1, o2, rfl, _, _⟩ := id hO
            obtain ⟨x1, x2, rfl, _, _⟩ := id hX
            refine dp_ed1 rfl (opT_storeW rfl rfl rfl rfl (belt_one hO)) rfl rfl rfl rfl <| dp_ed1 rfl (opT_storeW rfl rfl rfl rfl (belt_one hX)) rfl rfl rfl rfl <| dp_done1 ?_
            refine en_then <| ?_
            exact en_met (b7, b8, o1, o2, x1, x2, hw8) ⟨(sw1.trans sw8), hO, hX⟩ ⟨rfl, rfl, rfl, rfl, rfl, trivial⟩ (.refl _) inferInstance
        · skip
          obtain ⟨b8, rfl, e2, rfl⟩ := hC
          replace e2 := e2.symm; subst e2
          refine dp_alts [3, 4] rfl (by simp) rfl rfl ⟨alt_op rfl (opT_call rfl rfl rfl (its_ct hw1 _ b (hb.mono sw1) hsm)) rfl rfl fun vx hw9 _ sw9 hC => ?_, alt_op rfl opT_alloc rfl rfl fun _ _ _ _ hC => ?_, trivial⟩
          · skip
            obtain ⟨_, ⟨hX, rfl⟩, rfl⟩ := hC
            refine dp_norm1 ?_
            refine dp_e1 rfl opT_alloc rfl rfl rfl rfl fun _ _ _ _ hC => ?_
            obtain ⟨b7, rfl, e2, rfl⟩ := hC
            replace e2 := e2.symm; subst e2
            have hO := hO.mono sw9
            obtain ⟨o1, o2, rfl, _, _⟩ := id hO
            obtain ⟨x1, x2, rfl, _, _⟩ := id hX
            refine dp_ed1 rfl (opT_storeW rfl rfl rfl rfl (belt_one hO)) rfl rfl rfl rfl <| dp_ed1 rfl (opT_storeW rfl rfl rfl rfl (belt_one hX)) rfl rfl rfl rfl <| dp_done1 ?_
            refine en_then <| ?_
            exact en_met (b7, b8, o1, o2, x1, x2, hw9) ⟨(sw1.trans sw9), hO, hX⟩ ⟨rfl, rfl, rfl, rfl, rfl, trivial⟩ (.refl _) inferInstance
          · skip
            obtain ⟨b7, rfl, e2, rfl⟩ := hC
            replace e2 := e2.symm; subst e2
            refine dp_e1 rfl (opT_call rfl rfl rfl (its_ct hw1 _ b (hb.mono sw1) hsm)) rfl rfl rfl rfl fun vx hw11 _ sw11 hC => ?_
            obtain ⟨_, ⟨hX, rfl⟩, rfl⟩ := hC
            refine dp_norm1 ?_
            have hO := hO.mono sw11
            obtain ⟨o1, o2, rfl, _, _⟩ := id hO
            obtain ⟨x1, x2, rfl, _, _⟩ := id hX
            refine dp_ed1 rfl (opT_storeW rfl rfl rfl rfl (belt_one hO)) rfl rfl rfl rfl <| dp_ed1 rfl (opT_storeW rfl rfl rfl rfl (belt_one hX)) rfl rfl rfl rfl <| dp_done1 ?_
            refine en_then <| ?_
            exact en_met (b7, b8, o1, o2, x1, x2, hw11) ⟨(sw1.trans sw11), hO, hX⟩ ⟨rfl, rfl, rfl, rfl, rfl, trivial⟩ (.refl _) inferInstance
      · skip
        obtain ⟨b7, rfl, e2, rfl⟩ := hC
        replace e2 := e2.symm; subst e2
        refine dp_alts [1, 5] rfl (by simp) rfl rfl ⟨alt_op rfl (opT_call rfl rfl rfl (cloneF_ct h _ b (hb.mono (.refl _)) hsm)) rfl rfl fun vo hw12 _ sw12 hC => ?_, alt_op rfl opT_alloc rfl rfl fun _ _ _ _ hC => ?_, trivial⟩
        · skip
          obtain ⟨_, ⟨hO, rfl⟩, rfl⟩ := hC
          refine dp_norm1 ?_
          refine dp_alts [3, 5] rfl (by simp) rfl rfl ⟨alt_op rfl (opT_call rfl rfl rfl (its_ct hw12 _ b (hb.mono sw12) hsm)) rfl rfl fun vx hw13 _ sw13 hC => ?_, alt_op rfl opT_alloc rfl rfl fun _ _ _ _ hC => ?_, trivial⟩
          · skip
            obtain ⟨_, ⟨hX, rfl⟩, rfl⟩ := hC
            refine dp_norm1 ?_
            refine dp_e1 rfl opT_alloc rfl rfl rfl rfl fun _ _ _ _ hC => ?_
            obtain ⟨b8, rfl, e2, rfl⟩ := hC
            replace e2 := e2.symm; subst e2
            have hO := hO.mono sw13
            obtain ⟨o1, o2, rfl, _, _⟩ := id hO
            obtain ⟨x1, x2, rfl, _, _⟩ := id hX
            refine dp_ed1 rfl (opT_storeW rfl rfl rfl rfl (belt_one hO)) rfl rfl rfl rfl <| dp_ed1 rfl (opT_storeW rfl rfl rfl rfl (belt_one hX)) rfl rfl rfl rfl <| dp_done1 ?_
            refine en_then <| ?_
            exact en_met (b7, b8, o1, o2, x1, x2, hw13) ⟨(sw12.trans sw13), hO, hX⟩ ⟨rfl, rfl, rfl, rfl, rfl, trivial⟩ (.refl _) inferInstance
          · skip
            obtain ⟨b8, rfl, e2, rfl⟩ := hC
            replace e2 := e2.symm; subst e2
            refine dp_e1 rfl (opT_call rfl rfl rfl (its_ct hw12 _ b (hb.mono sw12) hsm)) rfl rfl rfl rfl fun vx hw15 _ sw15 hC => ?_
            obtain ⟨_, ⟨hX, rfl⟩, rfl⟩ := hC
            refine dp_norm1 ?_
            have hO := hO.mono sw15
            obtain ⟨o1, o2, rfl, _, _⟩ := id hO
            obtain ⟨x1, x2, rfl, _, _⟩ := id hX
            refine dp_ed1 rfl (opT_storeW rfl rfl rfl rfl (belt_one hO)) rfl rfl rfl rfl <| dp_ed1 rfl (opT_storeW rfl rfl rfl rfl (belt_one hX)) rfl rfl rfl rfl <| dp_done1 ?_
            refine en_then <| ?_
            exact en_met (b7, b8, o1, o2, x1, x2, hw15) ⟨(sw12.trans sw15), hO, hX⟩ ⟨rfl, rfl, rfl, rfl, rfl, trivial⟩ (.refl _) inferInstance
        · skip
          obtain ⟨b8, rfl, e2, rfl⟩ := hC
          replace e2 := e2.symm; subst e2
          refine dp_e1 rfl (opT_call rfl rfl rfl (cloneF_ct h _ b (hb.mono (.refl _)) hsm)) rfl rfl rfl rfl fun vo hw16 _ sw16 hC => ?_
          obtain ⟨_, ⟨hO, rfl⟩, rfl⟩ := hC
          refine dp_norm1 ?_
          refine dp_e1 rfl (opT_call rfl rfl rfl (its_ct hw16 _ b (hb.mono sw16) hsm)) rfl rfl rfl rfl fun vx hw17 _ sw17 hC => ?_
          obtain ⟨_, ⟨hX, rfl⟩, rfl⟩ := hC
          refine dp_norm1 ?_
          have hO := hO.mono sw17
          obtain ⟨o1, o2, rfl, _, _⟩ := id hO
          obtain ⟨x1, x2, rfl, _, _⟩ := id hX
          refine dp_ed1 rfl (opT_storeW rfl rfl rfl rfl (belt_one hO)) rfl rfl rfl rfl <| dp_ed1 rfl (opT_storeW rfl rfl rfl rfl (belt_one hX)) rfl rfl rfl rfl <| dp_done1 ?_
          refine en_then <| ?_
          exact en_met (b7, b8, o1, o2, x1, x2, hw17) ⟨(sw16.trans sw17), hO, hX⟩ ⟨rfl, rfl, rfl, rfl, rfl, trivial⟩ (.refl _) inferInstance
      · skip
        obtain ⟨b8, rfl, e2, rfl⟩ := hC
        replace e2 := e2.symm; subst e2
        refine dp_alts [1, 4] rfl (by simp) rfl rfl ⟨alt_op rfl (opT_call rfl rfl rfl (cloneF_ct h _ b (hb.mono (.refl _)) hsm)) rfl rfl fun vo hw18 _ sw18 hC => ?_, alt_op rfl opT_alloc rfl rfl fun _ _ _ _ hC => ?_, trivial⟩
        · skip
          obtain ⟨_, ⟨hO, rfl⟩, rfl⟩ := hC
          refine dp_norm1 ?_
          refine dp_alts [3, 4] rfl (by simp) rfl rfl ⟨alt_op rfl (opT_call rfl rfl rfl (its_ct hw18 _ b (hb.mono sw18) hsm)) rfl rfl fun vx hw19 _ sw19 hC => ?_, alt_op rfl opT_alloc rfl rfl fun _ _ _ _ hC => ?_, trivial⟩
          · skip
            obtain ⟨_, ⟨hX, rfl⟩, rfl⟩ := hC
            refine dp_norm1 ?_
            refine dp_e1 rfl opT_alloc rfl rfl rfl rfl fun _ _ _ _ hC => ?_
            obtain ⟨b7, rfl, e2, rfl⟩ := hC
            replace e2 := e2.symm; subst e2
            have hO := hO.mono sw19
            obtain ⟨o1, o2, rfl, _, _⟩ := id hO
            obtain ⟨x1, x2, rfl, _, _⟩ := id hX
            refine dp_ed1 rfl (opT_storeW rfl rfl rfl rfl (belt_one hO)) rfl rfl rfl rfl <| dp_ed1 rfl (opT_storeW rfl rfl rfl rfl (belt_one hX)) rfl rfl rfl rfl <| dp_done1 ?_
            refine en_then <| ?_
            exact en_met (b7, b8, o1, o2, x1, x2, hw19) ⟨(sw18.trans sw19), hO, hX⟩ ⟨rfl, rfl, rfl, rfl, rfl, trivial⟩ (.refl _) inferInstance
          · skip
            obtain ⟨b7, rfl, e2, rfl⟩ := hC
            replace e2 := e2.symm; subst e2
            refine dp_e1 rfl (opT_call rfl rfl rfl (its_ct hw18 _ b (hb.mono sw18) hsm)) rfl rfl rfl rfl fun vx hw21 _ sw21 hC => ?_
            obtain ⟨_, ⟨hX, rfl⟩, rfl⟩ := hC
            refine dp_norm1 ?_
            have hO := hO.mono sw21
            obtain ⟨o1, o2, rfl, _, _⟩ := id hO
            obtain ⟨x1, x2, rfl, _, _⟩ := id hX
            refine dp_ed1 rfl (opT_storeW rfl rfl rfl rfl (belt_one hO)) rfl rfl rfl rfl <| dp_ed1 rfl (opT_storeW rfl rfl rfl rfl (belt_one hX)) rfl rfl rfl rfl <| dp_done1 ?_
            refine en_then <| ?_
            exact en_met (b7, b8, o1, o2, x1, x2, hw21) ⟨(sw18.trans sw21), hO, hX⟩ ⟨rfl, rfl, rfl, rfl, rfl, trivial⟩ (.refl _) inferInstance
        · skip
          obtain ⟨b7, rfl, e2, rfl⟩ := hC
          replace e2 := e2.symm; subst e2
          refine dp_e1 rfl (opT_call rfl rfl rfl (cloneF_ct h _ b (hb.mono (.refl _)) hsm)) rfl rfl rfl rfl fun vo hw22 _ sw22 hC => ?_
          obtain ⟨_, ⟨hO, rfl⟩, rfl⟩ := hC
          refine dp_norm1 ?_
          refine dp_e1 rfl (opT_call rfl rfl rfl (its_ct hw22 _ b (hb.mono sw22) hsm)) rfl rfl rfl rfl fun vx hw23 _ sw23 hC => ?_
          obtain ⟨_, ⟨hX, rfl⟩, rfl⟩ := hC
          refine dp_norm1 ?_
          have hO := hO.mono sw23
          obtain ⟨o1, o2, rfl, _, _⟩ := id hO
          obtain ⟨x1, x2, rfl, _, _⟩ := id hX
          refine dp_ed1 rfl (opT_storeW rfl rfl rfl rfl (belt_one hO)) rfl rfl rfl rfl <| dp_ed1 rfl (opT_storeW rfl rfl rfl rfl (belt_one hX)) rfl rfl rfl rfl <| dp_done1 ?_
          refine en_then <| ?_
          exact en_met (b7, b8, o1, o2, x1, x2, hw23) ⟨(sw22.trans sw23), hO, hX⟩ ⟨rfl, rfl, rfl, rfl, rfl, trivial⟩ (.refl _) inferInstance
    · skip
      obtain ⟨b7, b8, o1, o2, x1, x2, h1⟩ := x
      obtain ⟨s1, hO, hX⟩ := hx
      simp only at s1 hO hX
      change En _ _ _ [(1, .int .i64 hand), (2, .int .i64 tray), (3, pt b3), (7, pt b7), (8, pt b8)] h1 [box b7 26 [o1, o2], box b8 59 [x1, x2]]
      have cC := checkR_ct h1 _ b hX
      have cD := check_ct h1 _ b hO
      have eF : forceE b hand tray = if checkD b = 0 then (if inD hand 0 (b.nh - 1) = true ∧ inD tray 0 (b.nt - 1) = true then 0 else 2) else checkD b := rfl
      have hok : checkD b = 0 → BOK b := fun hz => check_ok.1 hz
      refine en_seq <| en_region <| en_det (opT_loadW_own rfl rfl) rfl <| en_calld (cC) rfl rfl rfl rfl <| en_det (opT_assign rfl) rfl <| en_nil <| en_then <| en_seq <| en_seq <| en_region <| en_det (opT_loadW_own rfl rfl) rfl <| en_calld (cD) rfl rfl rfl rfl <| en_det (opT_move rfl) rfl <| en_det (opT_neq_f rfl rfl (by omega)) rfl <| en_nil <| en_then <| en_cond_f rfl <| en_skip <| en_then <| en_seq <| en_region <| en_det (opT_loadW_own rfl rfl) rfl <| ?_
      refine en_call (run28_ct h1 o1 o2 b hO) rfl rfl rfl rfl fun v h2 Γ' s2 hv => ?_
      obtain ⟨rfl, lv1, rfl, hl1, hn1⟩ := hv.un
      refine en_norm ?_
      refine en_det (opT_move rfl) rfl <| en_det (opT_extract rfl rfl) rfl <| en_det (opT_extract rfl rfl) rfl <| en_det (opT_assign rfl) rfl <| en_det (opT_assign rfl) rfl <| en_nil <| en_then <| en_seq <| en_region <| en_det (opT_loadW_own rfl rfl) rfl <| ?_
      refine en_call (run29_ct h2 o1 o2 b (hO.mono s2)) rfl rfl rfl rfl fun v h3 Γ' s3 hv => ?_
      obtain ⟨rfl, lv2, rfl, hl2, hn2⟩ := hv.un
      refine en_norm ?_
      refine en_det (opT_move rfl) rfl <| en_det (opT_extract rfl rfl) rfl <| en_det (opT_extract rfl rfl) rfl <| en_det (opT_assign rfl) rfl <| en_det (opT_assign rfl) rfl <| en_nil <| en_then <| en_seq <| en_region <| en_det (opT_loadW_own rfl rfl) rfl <| ?_
      refine en_call (wrong_ct h3 o1 o2 b (hO.mono (s2.trans s3))) rfl rfl rfl rfl fun v h4 Γ' s4 hv => ?_
      obtain ⟨rfl, lv3, rfl, hl3, hn3⟩ := hv.un
      refine en_norm ?_
      refine en_det (opT_move rfl) rfl <| en_det (opT_extract rfl rfl) rfl <| en_det (opT_extract rfl rfl) rfl <| en_det (opT_assign rfl) rfl <| en_det (opT_assign rfl) rfl <| en_nil <| en_then <| en_seq <| en_seq <| en_region <| en_det (opT_move rfl) rfl <| en_det (opT_move rfl) rfl <| en_det (opT_neq_f rfl rfl (by omega)) rfl <| en_det (opT_move rfl) rfl <| en_g_yes rfl rfl <| en_det (opT_move rfl) rfl <| en_g_yes rfl rfl <| en_det (opT_move rfl) rfl <| en_g_yes rfl rfl <| en_det (opT_neq_f rfl rfl (by omega)) rfl <| ?_
      first | refine en_det (opT_pick_t rfl rfl) rfl ?_ | refine en_det (opT_pick_f rfl rfl) rfl ?_
      refine en_det (opT_move rfl) rfl <| en_g_yes rfl rfl <| en_det (opT_move rfl) rfl <| en_g_yes rfl rfl <| en_det (opT_move rfl) rfl <| en_g_yes rfl rfl <| en_det (opT_neq_f rfl rfl (by omega)) rfl <| ?_
      first | refine en_det (opT_pick_t rfl rfl) rfl ?_ | refine en_det (opT_pick_f rfl rfl) rfl ?_
      refine en_nil <| en_then <| en_cond_f rfl <| en_skip <| en_then <| en_seq <| en_region <| en_det (opT_assign rfl) rfl <| en_nil <| en_then <| ?_
      refine en_meet (ι := Heap) (fun x => h4.sub x) (fun _ => [(1, .int .i64 hand), (2, .int .i64 tray), (3, pt b3), (7, pt b7), (9, .int .i64 (forceE b hand tray)), (16, .int .i64 (if forceE b hand tray = 0 then forceD (b.hand hand.toNat) tray.toNat else 0))]) (fun x => x) (fun _ => [box b7 26 [o1, o2], box b8 59 [x1, x2]]) ?_ (fun h5 s5 => ?_)
      · skip
        by_cases hz : checkD b = 0
        · have hk := hok hz
          have hh5 := hk.h5
          have hn8 := hk.n8
          have hn1' := hk.n1
          replace hl1 := hl1 hz
          replace hl2 := hl2 hz
          replace hl3 := hl3 hz
          clear hn1 hn2 hn3
          rw [if_pos hz] at eF
          rw [hz]
          obtain ⟨hXT, hXH⟩ := belt_parts (hX.mono (s2.trans (s3.trans s4)))
          refine en_seq <| en_region <| en_det (opT_move rfl) rfl <| en_det (opT_neq_f rfl rfl (by omega)) rfl <| en_nil <| en_then <| en_cond_f rfl <| en_seq <| en_draw0 [0, 1, 2, 3, 4, 5, 6, 7, 8] (by kernel_rfl) (by decide +kernel) (by decide +kernel) (by decide) <| dp_q rfl (opT_loadW_own rfl rfl) rfl rfl rfl <| dp_q rfl (opT_loadW_own rfl rfl) rfl rfl rfl <| ?_
          refine dp_callq (handsR_ct h4 x1 x2 b.hand b.nh hXH (by omega)) rfl rfl rfl rfl rfl rfl rfl fun vh h5 s5 hho => ?_
          refine dp_callq (runR_ct h5 b.nh b.nt x1 x2 vh b.tray b.hand (allH b) (by omega) (fun x hx => by simpa [allH] using hx) (by simp [allH]; omega) hk.ok (by omega) (by omega) (hXT.mono s5) (hXH.mono s5) hho hk.tr) rfl rfl rfl rfl rfl rfl rfl fun vr h6 s6 hrr => ?_; obtain ⟨lv4, lv5, rfl, hl4, hl5⟩ := hrr
          refine dp_p rfl (fun _ _ => opT_move rfl) rfl rfl rfl <| dp_p rfl (fun _ _ => opT_extract rfl rfl) rfl rfl rfl <| dp_p rfl (fun _ _ => opT_extract rfl rfl) rfl rfl rfl <| dp_p rfl (fun _ _ => opT_assign rfl) rfl rfl rfl <| dp_p rfl (fun _ _ => opT_assign rfl) rfl rfl rfl <| dp_done0 <| en_then <| en_seq <| en_seq <| en_region <| en_det (opT_move rfl) rfl <| ?_
          have hlw : (wrongL b).length = b.nh := by simp [wrongL]
          have hl1' := hl1.mono (s3.trans (s4.trans (s5.trans s6)))
          refine en_callq (trays34_ct h6 lv1 b.nt _ hl1' (by omega)) rfl rfl rfl rfl fun v82 h7 s7 hv82 => ?_
          have cA1 := alike33_ct h7 v82 lv4 b.nt b.nt _ _ hv82 (hl4.mono s7)
          rw [alikeT_self] at cA1
          have hl2' := hl2.mono (s4.trans (s5.trans (s6.trans s7)))
          refine en_det (opT_move rfl) rfl <| en_calld (cA1) rfl rfl rfl rfl <| ?_
          first | refine en_det (opT_not_t rfl) rfl ?_ | refine en_det (opT_not_f rfl) rfl ?_ | refine en_det (opT_not rfl) rfl ?_
          refine en_det (opT_move rfl) rfl <| en_g_yes rfl rfl <| en_det (opT_move rfl) rfl <| en_g_yes rfl rfl <| ?_
          refine en_callq (trays34_ct h7 lv2 b.nh _ hl2' (by omega)) rfl rfl rfl rfl fun v88 h8 s8 hv88 => ?_
          have cA2 := alike33_ct h8 v88 lv5 b.nh b.nh _ _ hv88 (hl5.mono (s7.trans s8))
          rw [alikeT_self] at cA2
          obtain ⟨wad, wcp, rfl, hwl, hwc, hwp⟩ := (hl3.mono (s5.trans (s6.trans (s7.trans s8)))).shape
          obtain ⟨_, pad, pcp, rfl, hpl, hpc, hpp⟩ := hl5.mono (s7.trans s8)
          clear hl5
          have s18 := s2.trans (s3.trans (s4.trans (s5.trans (s6.trans (s7.trans s8)))))
          have s48 := s5.trans (s6.trans (s7.trans s8))
          obtain ⟨_, hH⟩ := belt_parts (hb.mono (s1.trans s18))
          obtain ⟨rv, ⟨_, had, hcp, rfl, hm1, hc1, hp1⟩, hr⟩ := hH
          replace k1 := cellH_sub (s1.trans s18) k1
          replace k0 := cellH_sub (s1.trans s18) k0
          obtain ⟨⟨_, tad, tcp, rfl, _, _, _⟩, _⟩ := belt_parts hb
          replace hXH := hXH.mono s48
          refine en_g_yes rfl rfl <| en_det (opT_move rfl) rfl <| en_g_yes rfl rfl <| en_calld (cA2) rfl rfl rfl rfl <| en_g_yes rfl rfl <| ?_
          first | refine en_det (opT_not_t rfl) rfl ?_ | refine en_det (opT_not_f rfl) rfl ?_ | refine en_det (opT_not rfl) rfl ?_
          first | refine en_det (opT_pick_t rfl rfl) rfl ?_ | refine en_det (opT_pick_f rfl rfl) rfl ?_
          refine en_det (opT_move rfl) rfl <| en_g_yes rfl rfl <| en_det (opT_move rfl) rfl <| en_g_yes rfl rfl <| en_det (opT_len rfl) rfl <| en_g_yes rfl rfl <| en_det (opT_move rfl) rfl <| en_g_yes rfl rfl <| en_det (opT_len rfl) rfl <| en_g_yes rfl rfl <| en_det (opT_neq_f rfl rfl (by omega)) rfl <| ?_
          first | refine en_det (opT_pick_t rfl rfl) rfl ?_ | refine en_det (opT_pick_f rfl rfl) rfl ?_
          refine en_nil <| en_then <| en_cond_f rfl <| en_skip <| en_then <| en_seq <| en_seq <| en_region <| en_det (opT_move rfl) rfl <| en_det (opT_len rfl) rfl <| en_det (opT_move rfl) rfl <| en_nil <| en_then <| en_block <| ?_
          refine en_loop (fun k : Nat => k ≤ b.nh) (fun k => [(1, .int .i64 hand), (2, .int .i64 tray), (3, pt b3), (7, pt b7), (8, pt b8), (9, .int .i64 0), (14, .slice wad (wrongL b).length wcp), (16, .int .i64 0), (100, .slice pad b.nh pcp), (101, .int .i64 b.nh), (102, .int .i64 k)]) (fun _ => h8) (fun _ => [box b7 26 [o1, o2], box b8 59 [x1, x2]]) (fun k => b.nh - k) 0 (by omega) ⟨rfl, rfl, rfl, rfl, rfl, rfl, rfl, rfl, rfl, rfl, rfl, trivial⟩ (.refl _) (tkAll _) fun k hkn => ?_
          refine en_seq <| en_region <| ?_
          first | refine en_det (opT_lss_t rfl rfl (by omega)) rfl ?_ | refine en_det (opT_lss_f rfl rfl (by omega)) rfl ?_ | refine en_det (opT_lss rfl rfl) rfl ?_
          refine en_nil <| en_then <| en_seq <| ?_
          refine en_if rfl (fun hlt => ?_) (fun hlt => ?_)
          · skip
            have hkl : k < b.nh := by omega
            obtain ⟨pq, poff, rfl, pcells⟩ := hpp (by omega)
            obtain ⟨wq, woff, rfl, wcells⟩ := hwp (by omega)
            obtain ⟨hq, hoff, rfl, hcells⟩ := hp1 (by omega)
            have hrow : CellsH h8 pq (poff + k * 5) (row 5 (icell (heapsB b) k)) := pcells.row hkl
            have hwk := wcells k (by omega)
            have ew : (wrongL b)[k]'(by omega) = wrongD b k := by simp [wrongL]
            rw [ew] at hwk
            have hslip : cellH h8 hq (hoff + k * 9 + 7) = some (.int .i64 (b.hand k).slip) := hcells.cell hkl (by omega)
            have hsl := hk.sl k hkl
            have hhb := fun m (hm : m < 5) => heaps_bound hk hkl hm
            have hsb := sumN_bound (n := 5) (f := heapsB b k) (B := 2400) hhb
            have hsum : sum5 (heapsB b k) = sumN 5 (heapsB b k) := rfl
            have cS := sumR_ct h8 (heapsB b k) fun m hm => by have := hhb m hm; omega
            have hw : wrongD b k = (sum5 (heapsB b k) * (b.hand k).slip + 99) / 100 := rfl
            rw [hw] at hwk
            generalize sum5 (heapsB b k) = S at hsum cS hwk
            have hm0 : 0 ≤ S * (b.hand k).slip := Int.mul_nonneg (by omega) hsl.1
            have hm1' : S * (b.hand k).slip ≤ 12000 * 100 := Int.mul_le_mul (by omega) hsl.2 hsl.1 (by omega)
            refine en_skip <| en_then <| en_seq <| en_block <| en_seq <| en_region <| en_det (opT_move rfl) rfl <| ?_
            first | refine en_det (opT_idx1 rfl rfl (by omega) (by omega)) rfl ?_ | refine en_det (opT_idx (ks := 0) rfl rfl (by omega) (by omega)) rfl ?_
            refine en_det (opT_loadA_h rfl hrow (row_length _ _)) rfl <| en_alloc rfl fun b20 => ?_
            refine en_det (opT_assign rfl) rfl <| en_det0 (opT_storeW rfl rfl rfl rfl (one_trayL (heapsB b k))) <| en_nil <| en_then <| en_seq <| en_draw0 [0, 1, 2, 3, 4, 6, 7, 8, 9, 10, 11, 5, 12, 13, 14, 15] (by kernel_rfl) (by decide +kernel) (by decide +kernel) (by decide) <| dp_p rfl (fun _ _ => opT_move rfl) rfl rfl rfl <| dp_p rfl (fun _ _ => opT_move rfl) rfl rfl rfl <| ?_
            first | refine dp_p rfl (fun _ _ => opT_idx1 rfl rfl (by omega) (by omega)) rfl rfl rfl ?_ | refine dp_p rfl (fun _ _ => opT_idx (ks := 0) rfl rfl (by omega) (by omega)) rfl rfl rfl ?_
            first | refine dp_q rfl (opT_load_h rfl (by assumption)) rfl rfl rfl ?_ | refine dp_q rfl (opT_load_own rfl rfl) rfl rfl rfl ?_
            refine dp_q rfl (opT_loadW_own rfl (row_length _ _)) rfl rfl rfl <| dp_p rfl (fun _ _ => opT_fieldAddr rfl) rfl rfl rfl <| ?_
            first | refine dp_q rfl (opT_load_h rfl (by assumption)) rfl rfl rfl ?_ | refine dp_q rfl (opT_load_own rfl rfl) rfl rfl rfl ?_
            refine dp_p rfl (fun _ _ => opT_move rfl) rfl rfl rfl <| ?_
            first | refine dp_p rfl (fun _ _ => opT_idx1 rfl rfl (by omega) (by omega)) rfl rfl rfl ?_ | refine dp_p rfl (fun _ _ => opT_idx (ks := 0) rfl rfl (by omega) (by omega)) rfl rfl rfl ?_
            refine dp_p rfl (fun _ _ => opT_fieldAddr rfl) rfl rfl rfl <| ?_
            first | refine dp_q rfl (opT_load_h rfl (by assumption)) rfl rfl rfl ?_ | refine dp_q rfl (opT_load_own rfl rfl) rfl rfl rfl ?_
            refine dp_ed0 rfl (opT_callw (cS) rfl rfl rfl) rfl rfl rfl rfl <| dp_p rfl (fun _ _ => opT_mul rfl rfl (by constructor <;> omega)) rfl rfl rfl <| dp_p rfl (fun _ _ => opT_add rfl rfl (by constructor <;> omega)) rfl rfl rfl <| dp_p rfl (fun _ _ => opT_quo rfl rfl (by omega) (by omega) (by omega)) rfl rfl rfl <| dp_p rfl (fun _ _ => opT_neq_f rfl rfl (by omega)) rfl rfl rfl <| dp_done0 <| en_then <| en_cond_f rfl <| en_skip <| en_blk <| en_then <| en_region <| en_det (opT_add rfl rfl (by constructor <;> omega)) rfl <| en_det (opT_move rfl) rfl <| en_nil <| en_then <| ?_
            exact en_again (k + 1) (by omega) (by omega) ⟨rfl, rfl, rfl, rfl, rfl, rfl, rfl, rfl, rfl, rfl, gi rfl (by simp), trivial⟩ (.refl _) inferInstance
          · skip
            refine en_exit <| en_then_exit <| en_then_exit <| en_blk_hit <| en_then <| ?_
            skip
            by_cases i1 : hand < 0
            · have e2 : forceE b hand tray = 2 := by rw [eF, if_neg]; simp [inD]; omega
              refine en_seq <| en_region <| en_det (opT_move rfl) rfl <| en_det (opT_lss_t rfl rfl (by omega)) rfl <| en_det (opT_move rfl) rfl <| en_g_no rfl rfl rfl <| en_g_no rfl rfl rfl <| en_g_no rfl rfl rfl <| en_g_no rfl rfl rfl <| en_g_no rfl rfl rfl <| ?_
              first | refine en_det (opT_pick_t rfl rfl) rfl ?_ | refine en_det (opT_pick_f rfl rfl) rfl ?_
              refine en_det (opT_move rfl) rfl <| en_g_no rfl rfl rfl <| en_g_no rfl rfl rfl <| ?_
              first | refine en_det (opT_pick_t rfl rfl) rfl ?_ | refine en_det (opT_pick_f rfl rfl) rfl ?_
              refine en_det (opT_move rfl) rfl <| en_g_no rfl rfl rfl <| en_g_no rfl rfl rfl <| en_g_no rfl rfl rfl <| en_g_no rfl rfl rfl <| en_g_no rfl rfl rfl <| ?_
              first | refine en_det (opT_pick_t rfl rfl) rfl ?_ | refine en_det (opT_pick_f rfl rfl) rfl ?_
              refine en_nil <| en_then <| en_cond_t rfl <| en_region <| en_det (opT_assign rfl) rfl <| en_nil <| en_then <| ?_
              exact en_met h8 s48 ⟨rfl, rfl, rfl, rfl, gi rfl e2.symm, gi rfl (by rw [e2]; simp), trivial⟩ (.refl _) inferInstance
            by_cases i2 : (b.nh : Int) ≤ hand
            · have e2 : forceE b hand tray = 2 := by rw [eF, if_neg]; simp [inD]; omega
              refine en_seq <| en_region <| en_det (opT_move rfl) rfl <| en_det (opT_lss_f rfl rfl (by omega)) rfl <| en_det (opT_move rfl) rfl <| en_g_yes rfl rfl <| en_det (opT_move rfl) rfl <| en_g_yes rfl rfl <| en_det (opT_fieldAddr rfl) rfl <| en_g_yes rfl rfl <| ?_
              first | refine en_det (opT_load_h rfl (by assumption)) rfl ?_ | refine en_det (opT_load_own rfl rfl) rfl ?_
              refine en_g_yes rfl rfl <| en_det (opT_len rfl) rfl <| en_g_yes rfl rfl <| en_det (opT_geq_t rfl rfl (by omega)) rfl <| ?_
              first | refine en_det (opT_pick_t rfl rfl) rfl ?_ | refine en_det (opT_pick_f rfl rfl) rfl ?_
              refine en_det (opT_move rfl) rfl <| en_g_no rfl rfl rfl <| en_g_no rfl rfl rfl <| ?_
              first | refine en_det (opT_pick_t rfl rfl) rfl ?_ | refine en_det (opT_pick_f rfl rfl) rfl ?_
              refine en_det (opT_move rfl) rfl <| en_g_no rfl rfl rfl <| en_g_no rfl rfl rfl <| en_g_no rfl rfl rfl <| en_g_no rfl rfl rfl <| en_g_no rfl rfl rfl <| ?_
              first | refine en_det (opT_pick_t rfl rfl) rfl ?_ | refine en_det (opT_pick_f rfl rfl) rfl ?_
              refine en_nil <| en_then <| en_cond_t rfl <| en_region <| en_det (opT_assign rfl) rfl <| en_nil <| en_then <| ?_
              exact en_met h8 s48 ⟨rfl, rfl, rfl, rfl, gi rfl e2.symm, gi rfl (by rw [e2]; simp), trivial⟩ (.refl _) inferInstance
            by_cases i3 : tray < 0
            · have e2 : forceE b hand tray = 2 := by rw [eF, if_neg]; simp [inD]; omega
              refine en_seq <| en_region <| en_det (opT_move rfl) rfl <| en_det (opT_lss_f rfl rfl (by omega)) rfl <| en_det (opT_move rfl) rfl <| en_g_yes rfl rfl <| en_det (opT_move rfl) rfl <| en_g_yes rfl rfl <| en_det (opT_fieldAddr rfl) rfl <| en_g_yes rfl rfl <| ?_
              first | refine en_det (opT_load_h rfl (by assumption)) rfl ?_ | refine en_det (opT_load_own rfl rfl) rfl ?_
              refine en_g_yes rfl rfl <| en_det (opT_len rfl) rfl <| en_g_yes rfl rfl <| en_det (opT_geq_f rfl rfl (by omega)) rfl <| ?_
              first | refine en_det (opT_pick_t rfl rfl) rfl ?_ | refine en_det (opT_pick_f rfl rfl) rfl ?_
              refine en_det (opT_move rfl) rfl <| en_g_yes rfl rfl <| en_det (opT_move rfl) rfl <| en_g_yes rfl rfl <| en_det (opT_lss_t rfl rfl (by omega)) rfl <| ?_
              first | refine en_det (opT_pick_t rfl rfl) rfl ?_ | refine en_det (opT_pick_f rfl rfl) rfl ?_
              refine en_det (opT_move rfl) rfl <| en_g_no rfl rfl rfl <| en_g_no rfl rfl rfl <| en_g_no rfl rfl rfl <| en_g_no rfl rfl rfl <| en_g_no rfl rfl rfl <| ?_
              first | refine en_det (opT_pick_t rfl rfl) rfl ?_ | refine en_det (opT_pick_f rfl rfl) rfl ?_
              refine en_nil <| en_then <| en_cond_t rfl <| en_region <| en_det (opT_assign rfl) rfl <| en_nil <| en_then <| ?_
              exact en_met h8 s48 ⟨rfl, rfl, rfl, rfl, gi rfl e2.symm, gi rfl (by rw [e2]; simp), trivial⟩ (.refl _) inferInstance
            by_cases i4 : (b.nt : Int) ≤ tray
            · have e2 : forceE b hand tray = 2 := by rw [eF, if_neg]; simp [inD]; omega
              refine en_seq <| en_region <| en_det (opT_move rfl) rfl <| en_det (opT_lss_f rfl rfl (by omega)) rfl <| en_det (opT_move rfl) rfl <| en_g_yes rfl rfl <| en_det (opT_move rfl) rfl <| en_g_yes rfl rfl <| en_det (opT_fieldAddr rfl) rfl <| en_g_yes rfl rfl <| ?_
              first | refine en_det (opT_load_h rfl (by assumption)) rfl ?_ | refine en_det (opT_load_own rfl rfl) rfl ?_
              refine en_g_yes rfl rfl <| en_det (opT_len rfl) rfl <| en_g_yes rfl rfl <| en_det (opT_geq_f rfl rfl (by omega)) rfl <| ?_
              first | refine en_det (opT_pick_t rfl rfl) rfl ?_ | refine en_det (opT_pick_f rfl rfl) rfl ?_
              refine en_det (opT_move rfl) rfl <| en_g_yes rfl rfl <| en_det (opT_move rfl) rfl <| en_g_yes rfl rfl <| en_det (opT_lss_f rfl rfl (by omega)) rfl <| ?_
              first | refine en_det (opT_pick_t rfl rfl) rfl ?_ | refine en_det (opT_pick_f rfl rfl) rfl ?_
              refine en_det (opT_move rfl) rfl <| en_g_yes rfl rfl <| en_det (opT_move rfl) rfl <| en_g_yes rfl rfl <| en_det (opT_fieldAddr rfl) rfl <| en_g_yes rfl rfl <| ?_
              first | refine en_det (opT_load_h rfl (by assumption)) rfl ?_ | refine en_det (opT_load_own rfl rfl) rfl ?_
              refine en_g_yes rfl rfl <| en_det (opT_len rfl) rfl <| en_g_yes rfl rfl <| en_det (opT_geq_t rfl rfl (by omega)) rfl <| ?_
              first | refine en_det (opT_pick_t rfl rfl) rfl ?_ | refine en_det (opT_pick_f rfl rfl) rfl ?_
              refine en_nil <| en_then <| en_cond_t rfl <| en_region <| en_det (opT_assign rfl) rfl <| en_nil <| en_then <| ?_
              exact en_met h8 s48 ⟨rfl, rfl, rfl, rfl, gi rfl e2.symm, gi rfl (by rw [e2]; simp), trivial⟩ (.refl _) inferInstance
            have e0 : forceE b hand tray = 0 := by rw [eF, if_pos]; simp [inD]; omega
            obtain ⟨hd, rfl⟩ := Int.eq_ofNat_of_zero_le (show 0 ≤ hand by omega)
            obtain ⟨t, rfl⟩ := Int.eq_ofNat_of_zero_le (show 0 ≤ tray by omega)
            have cF := forceR_ct h8 x1 x2 b.hand b.nh hd t hXH (by omega) (hk.ok hd (by omega)) (by omega)
            refine en_seq <| en_region <| en_det (opT_move rfl) rfl <| en_det (opT_lss_f rfl rfl (by omega)) rfl <| en_det (opT_move rfl) rfl <| en_g_yes rfl rfl <| en_det (opT_move rfl) rfl <| en_g_yes rfl rfl <| en_det (opT_fieldAddr rfl) rfl <| en_g_yes rfl rfl <| ?_
            first | refine en_det (opT_load_h rfl (by assumption)) rfl ?_ | refine en_det (opT_load_own rfl rfl) rfl ?_
            refine en_g_yes rfl rfl <| en_det (opT_len rfl) rfl <| en_g_yes rfl rfl <| en_det (opT_geq_f rfl rfl (by omega)) rfl <| ?_
            first | refine en_det (opT_pick_t rfl rfl) rfl ?_ | refine en_det (opT_pick_f rfl rfl) rfl ?_
            refine en_det (opT_move rfl) rfl <| en_g_yes rfl rfl <| en_det (opT_move rfl) rfl <| en_g_yes rfl rfl <| en_det (opT_lss_f rfl rfl (by omega)) rfl <| ?_
            first | refine en_det (opT_pick_t rfl rfl) rfl ?_ | refine en_det (opT_pick_f rfl rfl) rfl ?_
            refine en_det (opT_move rfl) rfl <| en_g_yes rfl rfl <| en_det (opT_move rfl) rfl <| en_g_yes rfl rfl <| en_det (opT_fieldAddr rfl) rfl <| en_g_yes rfl rfl <| ?_
            first | refine en_det (opT_load_h rfl (by assumption)) rfl ?_ | refine en_det (opT_load_own rfl rfl) rfl ?_
            refine en_g_yes rfl rfl <| en_det (opT_len rfl) rfl <| en_g_yes rfl rfl <| en_det (opT_geq_f rfl rfl (by omega)) rfl <| ?_
            first | refine en_det (opT_pick_t rfl rfl) rfl ?_ | refine en_det (opT_pick_f rfl rfl) rfl ?_
            refine en_nil <| en_then <| en_cond_f rfl <| en_region <| en_det (opT_loadW_own rfl rfl) rfl <| en_det (opT_move rfl) rfl <| en_det (opT_move rfl) rfl <| en_calld (cF) rfl rfl rfl rfl <| en_det (opT_assign rfl) rfl <| en_nil <| en_then <| ?_
            exact en_met h8 s48 ⟨rfl, rfl, rfl, rfl, gi rfl e0.symm, gi rfl (by rw [e0]; simp), trivial⟩ (.refl _) inferInstance
        · have e1 := hn1 hz
          subst e1
          have e2 := hn2 hz
          subst e2
          have e3 := hn3 hz
          subst e3
          rw [if_neg hz] at eF
          refine en_seq <| en_region <| en_det (opT_move rfl) rfl <| en_det (opT_neq_t rfl rfl (by omega)) rfl <| en_nil <| en_then <| en_cond_t rfl <| en_seq <| en_region <| en_det (opT_move rfl) rfl <| en_det (opT_len rfl) rfl <| en_det (opT_move rfl) rfl <| en_det (opT_len rfl) rfl <| en_det (opT_add rfl rfl (by constructor <;> omega)) rfl <| en_det (opT_move rfl) rfl <| en_det (opT_len rfl) rfl <| en_det (opT_add rfl rfl (by constructor <;> omega)) rfl <| en_det (opT_gtr_f rfl rfl (by omega)) rfl <| en_nil <| en_then <| en_cond_f rfl <| en_skip <| en_then <| ?_
          exact en_met h4 (.refl _) ⟨rfl, rfl, rfl, rfl, gi rfl eF.symm, gi rfl (by rw [eF, if_neg hz]), trivial⟩ (.refl _) inferInstance
      · skip
        have s15 := s2.trans (s3.trans (s4.trans s5))
        have cF := force37_ct h5 o1 o2 b hand tray (hO.mono s15)
        generalize (if forceE b hand tray = 0 then forceD (b.hand hand.toNat) tray.toNat else 0) = K at cF ⊢
        generalize forceE b hand tray = E at cF ⊢
        refine en_seq <| en_region <| en_det (opT_loadW_own rfl rfl) rfl <| en_det (opT_move rfl) rfl <| en_det (opT_move rfl) rfl <| ?_
        refine en_call cF rfl rfl rfl rfl fun v h6 Γ' s6 hv => ?_
        obtain ⟨rfl, rfl⟩ := hv
        refine en_norm ?_
        have kb' := kb.mono (s1.trans (s15.trans s6))
        have cE := same_ct h6 _ _ b (hO.mono (s15.trans s6)) (hb.mono (s1.trans (s15.trans s6)))
        refine en_det (opT_move rfl) rfl <| en_det (opT_extract rfl rfl) rfl <| en_det (opT_extract rfl rfl) rfl <| en_det (opT_assign rfl) rfl <| en_det (opT_assign rfl) rfl <| en_nil <| en_then <| en_seq <| en_region <| en_det (opT_move rfl) rfl <| en_det (opT_move rfl) rfl <| en_det (opT_eql_t rfl rfl (by omega)) rfl <| en_det (opT_move rfl) rfl <| en_g_yes rfl rfl <| en_det (opT_move rfl) rfl <| en_g_yes rfl rfl <| en_det (opT_move rfl) rfl <| en_g_yes rfl rfl <| en_det (opT_eql_t rfl rfl (by omega)) rfl <| ?_
        first | refine en_det (opT_pick_t rfl rfl) rfl ?_ | refine en_det (opT_pick_f rfl rfl) rfl ?_
        refine en_det (opT_move rfl) rfl <| en_g_yes rfl rfl <| en_det (opT_loadW_own rfl rfl) rfl <| en_g_yes rfl rfl <| en_det (opT_loadA_h rfl kb' rfl) rfl <| en_g_yes rfl rfl <| en_calld (cE) rfl rfl rfl rfl <| ?_
        first | refine en_det (opT_pick_t rfl rfl) rfl ?_ | refine en_det (opT_pick_f rfl rfl) rfl ?_
        refine en_det (opT_move rfl) rfl <| en_g_yes rfl rfl <| en_calld (awake_ct h6) rfl rfl rfl rfl <| ?_
        first | refine en_det (opT_pick_t rfl rfl) rfl ?_ | refine en_det (opT_pick_f rfl rfl) rfl ?_
        refine en_det (opT_assign rfl) rfl <| en_nil <| en_then <| en_ret <| ?_
        refine en_return (rs := [.tmp 6]) rfl (.cons (.tmp rfl) .nil) (s0.trans (s1.trans (s15.trans s6))) (Γ1 := []) ⟨rfl, rfl⟩
end Go.Sx

/- BeltRule: whatever the input, the law answers true; no condition. -/
namespace Go.Proofs.Ytennphpnklkogaa
open Go.Sx Go.ChangeShapes Go.WideShapes Go.ChangeAt Go.RowKit
set_option maxRecDepth 100000
theorem own_none : ownKnob Try.prog.godebug = none := by kernel_rfl
theorem laid_out : laidOutB Try.prog = true := by kernel_rfl
theorem cells_u8 : Try.prog.cellsOf 5 = 1 := by kernel_rfl
theorem bytes_u8 : Try.prog.bytesOf 5 = 1 := by kernel_rfl
theorem law_lifted (os : Os) (started : os.Started) (H : Type) (enc : TypeId × Value → H) :
    ReturnsInHanded {} Try.checked os 5 .any (Rows.beltRuleSpec.pre6 enc Try.prog Try.f5 Rows.beltRuleRow.domain false) (Rows.beltRuleSpec.post enc Try.prog Try.f5 false true false false) := by
  refine returnsInHanded_of_change_sized (C := Try.checked) own_none started (by kernel_rfl) Try.func5
    (ChangeSpec.witness6 (enc := enc) (C := Try.checked) false ⟨#[], #[.agg #[.slice none 0 0, .slice none 0 0], .int .i64 0, .int .i64 0], []⟩ 8 (by kernel_rfl) (by kernel_rfl) (by kernel_rfl) (by kernel_rfl)) ?_
  intro W base args ds gs before hval0 hW _ hsz0 _
  have hsz : (DataW.weightsEach Try.prog (Try.f5.params.toList ++ Rows.beltRuleSpec.plain.varTypes Try.prog) (ds ++ gs)).all (· ≤ reachBytes) = true := hsz0
  have hval : ∀ (j : Nat) t v, Try.f5.params[j]? = some t → args[j]? = some v → Value.okWide Try.prog W .any base t v := hval0
  clear hsz0 hval0
  have hW' := hW
  obtain ⟨p, q, hA0, hV, rfl, _, _⟩ := hW
  have hA : DataW.TrodAll enc Try.prog W 0 (fun _ => true) true Try.f5.params.toList args.toList ds p := hA0
  rw [Try.params5] at hA hval hsz
  obtain ⟨v1, vs1, d1, ds1, p1, q1, e1, rfl, rfl, h1, r1⟩ := trodAll_cons hA
  obtain ⟨v2, vs2, d2, ds2, p2, q2, rfl, rfl, rfl, h2, r2⟩ := trodAll_cons r1
  obtain ⟨v3, vs3, d3, ds3, p3, q3, rfl, rfl, rfl, h3, r3⟩ := trodAll_cons r2
  obtain ⟨rfl, rfl, rfl⟩ := trodAll_nil r3
  obtain rfl : args = #[v1, v2, v3] := by cases args; simp_all
  obtain ⟨b1, hy1⟩ := open_belt (hval 0 26 v1 rfl rfl) h1
  obtain ⟨z2, rfl, rfl, rfl, _⟩ := open_int Try.underlying3 (hval 1 3 v2 rfl rfl) h2
  obtain ⟨z3, rfl, rfl, rfl, _⟩ := open_int Try.underlying3 (hval 2 3 v3 rfl rfl) h3
  exact law_calls laid_out (by kernel_rfl) rfl ⟨4, rfl, Try.underlying4⟩ rfl hW' (Go.Sx.rulelaw_ct _ v1 b1 z2 z3 hy1)
theorem beltRule_holds : Rows.BeltRuleSaid :=
  OpenClaim.holds_of_wide 5 Try.f5 rfl rfl rfl rfl rfl rfl rfl ⟨rfl, rfl, rfl, rfl, rfl⟩ rfl rfl rfl rfl rfl (by kernel_rfl) Try.func5 (by kernel_rfl)
    (of_decide_eq_true (by kernel_rfl)) (by unfold Func.isWrapper; first | (rw [if_pos (by decide +kernel)]; kernel_rfl) | (rw [if_neg (by decide +kernel)]; exact ⟨rfl, rfl⟩))
    (fun os started H enc _ => law_lifted os started H enc)
end Go.Proofs.Ytennphpnklkogaa
